
import PyProof.Rows.All
import Wide.All
import OpenK.AllK
import Wide.FinOn
import HandS.ForMost
import HandS.Walk
import HandS.Exc
import HandS.ExcOwn
import HandS.ExcField
import HandS.TryOnly
import HandS.TryMany
import HandS.WordsExc
import HandS.IsInst
import KE.KDictKeyed
import HandS.Lambda
import HandS.Flow
import HandS.TupAny
import HandS.TupLe
import HandS.Deep
import HandS.Wide
import KE.LtData
import HandS.Defaults
import HandS.Style
import HandS.Zip
import HandS.Conv
import KE.GoesNew
import HandS.Comp
import HandS.TupLen
import HandS.WordsDict
import KE.DataAny
import HandS.TupSets
import HandS.More
import HandS.ExcInit
import HandS.ExcSuper
import KE.KExcSuper
import KE.KSuper
import HandS.Ends
import HandS.SetFor
import HandS.Strs
import KE.KDictPairs
import KE.KDictCopyH
import PyProof.ReprRoads
import PyProof.CallFns
import PyProof.ReprLen
import HandS.Head0
import HandS.Head1
import HandS.Head2
import HandS.HeadEnd
import HandS.HeadHook1
import HandS.HeadHook2
import HandS.EndBits
import HandS.Dict
import HandS.Small
import HandS.Remove
import KE.DataMinMax
import HandS.SortInts
import PyProof.Rows.RowBridgeK
import KE.SortData
import HandS.NoneIn
import KE.KDictDisplayH
import KE.KDictSum
import HandS.Iter
import HandS.TupMul
import HandS.HeadHook4
import HandS.NestedK
import HandS.Star
import HandS.Rev
import HandS.Sort
import HandS.Text
import HandS.ExcIs
import PySem.Challenge.RW_lateno_k00_whole_errors_and_what_they_ke
set_option Elab.async false
set_option linter.all false
set_option maxRecDepth 100000
/-! DenA: values by value semantics: what stands for a datum (Rp), the heap in pieces (Pc), slots and mutables (RepW), what a piece of Python does to them (M, tM, tS). -/
namespace Den
open PySem PySem.Spec
open PyProof.Rows L2
abbrev St := L2.St

abbrev PD := PyData

/-- class names to addresses -/
structure Kc where
  K : PySem.W.Frag
  kl : Str → Option Addr
  /-- where a table of code objects may stand -/
  tb : Addr → Prop := fun _ => False

def kD : Key → PD
  | .inl i => .int i
  | .inr x => .str x
/-- an instance, as a datum -/
def insD (n : Str) (fs : List (Str × PD)) : PD := .dict ((.none, .str n) :: fs.map fun p => (.str p.1, p.2))

/-- a tuple that may be a dict's key: it is followed as such; of any other tuple the object itself is known -/
def keyish : List V → Bool
  | [] => false
  | xs => xs.all fun x => match x with
    | .int _ => true
    | .str _ => true
    | _ => false
def tupO (o : Obj) (xs : List V) : HO := if keyish xs = true then .tup xs else .frz o (.tup xs)
def TupR (G : Hp) (a : Addr) (xs : List V) : Prop := ∃ o : Obj, o.dict = none ∧ G a = some (tupO o xs)
mutual
inductive Rp (k : Kc) (G : Hp) : V → PD → Prop
  | non : Rp k G .non .none
  | bl (b : Bool) : Rp k G (.bl b) (.bool b)
  | int (i : Int) : Rp k G (.int i) (.int i)
  | str (x : Str) : Rp k G (.str x) (.str x)
  | lst {a : Addr} {xs : List V} {ds : List PD} : G a = some (.lst xs) → RpAll k G xs ds → Rp k G (.ref a) (.list ds)
  /-- a list that may stand in the written part (the law's script): a datum of its own kind -/
  | scr {a : Addr} {xs : List V} {ds : List PD} : SqL k.K G a xs → RpAll k G xs ds → Rp k G (.ref a) (.dict [(.none, .list ds)])
  | tup {a : Addr} {xs : List V} {ds : List PD} : TupR G a xs → RpAll k G xs ds → Rp k G (.ref a) (.tuple ds)
  | ins {a C dx : Addr} {fs : List (Str × V)} {n : Str} {ds : List (PD × PD)} : G a = some (.ins C dx fs) → k.kl n = some C → RpFs k G fs ds → Rp k G (.ref a) (.dict ((.none, .str n) :: ds))
  | dK {a : Addr} {kvs : List (Key × V)} {ds : List (PD × PD)} : G a = some (.dK kvs) → RpKs k G kvs ds → Rp k G (.ref a) (.dict ds)
  | dT {a : Addr} {kvs : List (List Key × V)} {ds : List (PD × PD)} : G a = some (.dT kvs) → RpTs k G kvs ds → Rp k G (.ref a) (.dict ds)
inductive RpAll (k : Kc) (G : Hp) : List V → List PD → Prop
  | nil : RpAll k G [] []
  | cons {v : V} {vs : List V} {d : PD} {ds : List PD} : Rp k G v d → RpAll k G vs ds → RpAll k G (v :: vs) (d :: ds)
inductive RpFs (k : Kc) (G : Hp) : List (Str × V) → List (PD × PD) → Prop
  | nil : RpFs k G [] []
  | cons {f : Str} {v : V} {vs : List (Str × V)} {d : PD} {ds : List (PD × PD)} : Rp k G v d → RpFs k G vs ds → RpFs k G ((f, v) :: vs) ((.str f, d) :: ds)
inductive RpKs (k : Kc) (G : Hp) : List (Key × V) → List (PD × PD) → Prop
  | nil : RpKs k G [] []
  | cons {f : Key} {v : V} {vs : List (Key × V)} {d : PD} {ds : List (PD × PD)} : Rp k G v d → RpKs k G vs ds → RpKs k G ((f, v) :: vs) ((kD f, d) :: ds)
inductive RpTs (k : Kc) (G : Hp) : List (List Key × V) → List (PD × PD) → Prop
  /-- the mark at its end: a dict of tuples as keys -/
  | nil : RpTs k G [] [(.bool true, .none)]
  | cons {f : List Key} {v : V} {vs : List (List Key × V)} {d : PD} {ds : List (PD × PD)} : Rp k G v d → RpTs k G vs ds → RpTs k G ((f, v) :: vs) ((.tuple (f.map kD), d) :: ds)
end

theorem Same.rd {G G' : Hp} {a : Addr} {u : HO} (s : Same G G') (r : Rd G a u) : Rd G' a u := by
  rcases r with r | ⟨o, r⟩
  · exact .inl (s _ _ r)
  · exact .inr ⟨o, s _ _ r⟩
theorem Same.seqL {K : PySem.W.Frag} {G G' : Hp} {a : Addr} {xs : List V} (s : Same G G') (h : SqL K G a xs) : SqL K G' a xs := h.imp (fun r => Same.rd s r) id
theorem TupR.seqT {K : PySem.W.Frag} {G H : Hp} {a : Addr} {xs : List V} (s : Same G H) (h : TupR G a xs) : SqT K H a xs := by
  obtain ⟨o, _, e⟩ := h
  unfold tupO at e
  split at e
  · exact .inl (.inl (s _ _ e))
  · exact .inl (.inr ⟨o, s _ _ e⟩)
theorem Same.seqT {K : PySem.W.Frag} {G G' : Hp} {a : Addr} {xs : List V} (s : Same G G') (h : SqT K G a xs) : SqT K G' a xs := by
  rcases h with h | h
  · exact .inl (Same.rd s h)
  · exact .inr h

section
variable {k : Kc} {G G' : Hp}
mutual
theorem Rp.mono (s : Same G G') : ∀ {v : V} {d : PD}, Rp k G v d → Rp k G' v d
  | _, _, .non => .non
  | _, _, .bl b => .bl b
  | _, _, .int i => .int i
  | _, _, .str x => .str x
  | _, _, .lst h r => .lst (s _ _ h) (RpAll.mono s r)
  | _, _, .scr h r => .scr (Same.seqL s h) (RpAll.mono s r)
  | _, _, .tup h r => .tup (h.imp fun _ z => ⟨z.1, s _ _ z.2⟩) (RpAll.mono s r)
  | _, _, .ins h e r => .ins (s _ _ h) e (RpFs.mono s r)
  | _, _, .dK h r => .dK (s _ _ h) (RpKs.mono s r)
  | _, _, .dT h r => .dT (s _ _ h) (RpTs.mono s r)
theorem RpAll.mono (s : Same G G') : ∀ {vs : List V} {ds : List PD}, RpAll k G vs ds → RpAll k G' vs ds
  | _, _, .nil => .nil
  | _, _, .cons h r => .cons (Rp.mono s h) (RpAll.mono s r)
theorem RpFs.mono (s : Same G G') : ∀ {vs : List (Str × V)} {ds : List (PD × PD)}, RpFs k G vs ds → RpFs k G' vs ds
  | _, _, .nil => .nil
  | _, _, .cons h r => .cons (Rp.mono s h) (RpFs.mono s r)
theorem RpKs.mono (s : Same G G') : ∀ {vs : List (Key × V)} {ds : List (PD × PD)}, RpKs k G vs ds → RpKs k G' vs ds
  | _, _, .nil => .nil
  | _, _, .cons h r => .cons (Rp.mono s h) (RpKs.mono s r)
theorem RpTs.mono (s : Same G G') : ∀ {vs : List (List Key × V)} {ds : List (PD × PD)}, RpTs k G vs ds → RpTs k G' vs ds
  | _, _, .nil => .nil
  | _, _, .cons h r => .cons (Rp.mono s h) (RpTs.mono s r)
end
theorem RpAll.length : ∀ {vs : List V} {ds : List PD}, RpAll k G vs ds → vs.length = ds.length
  | _, _, .nil => rfl
  | _, _, .cons _ r => by simp [RpAll.length r]
theorem RpAll.get : ∀ {vs : List V} {ds : List PD} {i : Nat} {d : PD}, RpAll k G vs ds → ds[i]? = some d → ∃ v, vs[i]? = some v ∧ Rp k G v d
  | _, _, _, _, .nil, e => nomatch (List.getElem?_nil.symm.trans e)
  | _, _, 0, _, .cons h _, e => by simp at e; subst e; exact ⟨_, rfl, h⟩
  | _, _, i + 1, _, .cons _ r, e => by
    obtain ⟨v, h1, h2⟩ := RpAll.get (i := i) r (by simpa using e)
    exact ⟨v, by simpa using h1, h2⟩
theorem RpAll.getV : ∀ {vs : List V} {ds : List PD} {i : Nat} {v : V}, RpAll k G vs ds → vs[i]? = some v → ∃ d, ds[i]? = some d ∧ Rp k G v d
  | _, _, _, _, .nil, e => nomatch (List.getElem?_nil.symm.trans e)
  | _, _, 0, _, .cons h _, e => by simp at e; subst e; exact ⟨_, rfl, h⟩
  | _, _, i + 1, _, .cons _ r, e => by
    obtain ⟨v, h1, h2⟩ := RpAll.getV (i := i) r (by simpa using e)
    exact ⟨v, by simpa using h1, h2⟩
theorem RpAll.append : ∀ {vs ws : List V} {ds es : List PD}, RpAll k G vs ds → RpAll k G ws es → RpAll k G (vs ++ ws) (ds ++ es)
  | _, _, _, _, .nil, s => s
  | _, _, _, _, .cons h r, s => .cons h (RpAll.append r s)
theorem RpAll.set : ∀ {vs : List V} {ds : List PD} {v : V} {d : PD} (i : Nat), RpAll k G vs ds → Rp k G v d → RpAll k G (vs.set i v) (ds.set i d)
  | _, _, _, _, _, .nil, _ => .nil
  | _, _, _, _, 0, .cons _ r, q => .cons q r
  | _, _, _, _, i + 1, .cons h r, q => .cons h (RpAll.set i r q)
theorem RpAll.take : ∀ {vs : List V} {ds : List PD} (n : Nat), RpAll k G vs ds → RpAll k G (vs.take n) (ds.take n)
  | _, _, 0, _ => .nil
  | _, _, _ + 1, .nil => .nil
  | _, _, n + 1, .cons h r => .cons h (RpAll.take n r)
theorem RpAll.drop : ∀ {vs : List V} {ds : List PD} (n : Nat), RpAll k G vs ds → RpAll k G (vs.drop n) (ds.drop n)
  | _, _, 0, r => r
  | _, _, _ + 1, .nil => .nil
  | _, _, n + 1, .cons _ r => RpAll.drop n r
theorem RpAll.eraseIdx : ∀ {vs : List V} {ds : List PD} (n : Nat), RpAll k G vs ds → RpAll k G (vs.eraseIdx n) (ds.eraseIdx n)
  | _, _, _, .nil => .nil
  | _, _, 0, .cons _ r => r
  | _, _, n + 1, .cons h r => .cons h (RpAll.eraseIdx n r)
theorem RpAll.reverse {vs : List V} {ds : List PD} (h : RpAll k G vs ds) : RpAll k G vs.reverse ds.reverse := by
  induction vs generalizing ds with
  | nil => cases h; exact .nil
  | cons v vs ih =>
    cases h with
    | cons h r => simpa using (ih r).append (.cons h .nil)
end

/-! ### the heap in pieces -/
abbrev Disj (p q : Hp) : Prop := ∀ a, p a = none ∨ q a = none
def emp : Hp := fun _ => none
def one (a : Addr) (o : HO) : Hp := upd emp a o
def uni (p q : Hp) : Hp := fun a => match p a with
  | some o => some o
  | none => q a
theorem one_same {a : Addr} {o : HO} : one a o a = some o := upd_same
theorem one_ne {a b : Addr} {o : HO} (h : b ≠ a) : one a o b = none := upd_ne h
theorem one_some {a b : Addr} {o u : HO} (h : one a o b = some u) : b = a ∧ u = o := by
  by_cases e : b = a
  · subst e; rw [one_same] at h; exact ⟨rfl, (Option.some.inj h).symm⟩
  · rw [one_ne e] at h; cases h
theorem Disj.symm {p q : Hp} (h : Disj p q) : Disj q p := fun a => (h a).elim .inr .inl
theorem Disj.emp {p : Hp} : Disj p Den.emp := fun _ => .inr rfl
theorem Disj.of {p q : Hp} (h : ∀ a o, p a = some o → q a = none) : Disj p q := fun a => by
  cases e : p a with
  | none => exact .inl rfl
  | some o => exact .inr (h a o e)
theorem Disj.r {p q : Hp} (h : Disj p q) {a : Addr} {o : HO} (e : p a = some o) : q a = none := by
  rcases h a with z | z
  · rw [z] at e; cases e
  · exact z
theorem Disj.l {p q : Hp} (h : Disj p q) {a : Addr} {o : HO} (e : q a = some o) : p a = none := h.symm.r e
theorem uni_l {p q : Hp} {a : Addr} {o : HO} (h : p a = some o) : uni p q a = some o := by unfold uni; rw [h]
theorem uni_r {p q : Hp} {a : Addr} (h : p a = none) : uni p q a = q a := by unfold uni; rw [h]
theorem uni_some {p q : Hp} {a : Addr} {o : HO} (h : uni p q a = some o) : p a = some o ∨ (p a = none ∧ q a = some o) := by
  cases e : p a with
  | some u => rw [uni_l e] at h; exact .inl h
  | none => rw [uni_r e] at h; exact .inr ⟨rfl, h⟩
theorem uni_none {p q : Hp} {a : Addr} (h1 : p a = none) (h2 : q a = none) : uni p q a = none := by rw [uni_r h1, h2]
theorem uni_none_l {p q : Hp} {a : Addr} (h : uni p q a = none) : p a = none := by
  cases e : p a with
  | none => rfl
  | some o => rw [uni_l e] at h; cases h
theorem uni_none_r {p q : Hp} {a : Addr} (h : uni p q a = none) : q a = none := by rw [uni_r (uni_none_l h)] at h; exact h
theorem same_uni_l {p q : Hp} : Same p (uni p q) := fun _ _ e => uni_l e
theorem same_uni_r {p q : Hp} (d : Disj p q) : Same q (uni p q) := fun a o e => by rw [uni_r (d.l e)]; exact e
theorem same_emp {H : Hp} : Same emp H := fun _ _ e => by cases e
theorem same_one {H : Hp} {a : Addr} {o : HO} (h : H a = some o) : Same (one a o) H := fun b u e => by
  obtain ⟨rfl, rfl⟩ := one_some e
  exact h
/-- the pieces: frozen data, the frame, one put aside, the slots' own, the handed-in ones -/
inductive Ix where
  | g | f | t | sl (i : Nat) | io (j : Nat)
  deriving DecidableEq
abbrev Pcs := Ix → Hp
structure Pc (H : Hp) (P : Pcs) : Prop where
  sub : ∀ x, Same (P x) H
  dis : ∀ x y, x ≠ y → Disj (P x) (P y)
def put (P : Pcs) (x : Ix) (M : Hp) : Pcs := fun y => if y = x then M else P y
theorem put_same {P : Pcs} {x : Ix} {M : Hp} : put P x M x = M := if_pos rfl
theorem put_ne {P : Pcs} {x y : Ix} {M : Hp} (h : y ≠ x) : put P x M y = P y := if_neg h
theorem Pc.put {H H' : Hp} {P : Pcs} {x : Ix} {M : Hp} (h : Pc H P) (k : ∀ a o, H a = some o → P x a = none → H' a = some o ∧ M a = none) (s : Same M H') : Pc H' (Den.put P x M) where
  sub := fun y => by
    by_cases e : y = x
    · subst e; rw [put_same]; exact s
    · rw [put_ne e]
      exact fun a o q => (k a o (h.sub y a o q) ((h.dis y x e).r q)).1
  dis := fun y z n => by
    by_cases e : y = x
    · subst e
      rw [put_same, put_ne (Ne.symm n)]
      exact Disj.symm (Disj.of fun a o q => (k a o (h.sub z a o q) ((h.dis z y (Ne.symm n)).r q)).2)
    · rw [put_ne e]
      by_cases e2 : z = x
      · subst e2
        rw [put_same]
        exact Disj.of fun a o q => (k a o (h.sub y a o q) ((h.dis y z e).r q)).2
      · rw [put_ne e2]; exact h.dis y z n
/-- a piece is let go -/
theorem Pc.drop {H : Hp} {P : Pcs} {x : Ix} (h : Pc H P) : Pc H (Den.put P x emp) := h.put (fun _ _ q _ => ⟨q, rfl⟩) same_emp
/-- a piece goes to another one -/
theorem Pc.move {H : Hp} {P : Pcs} {x y : Ix} (h : Pc H P) (n : x ≠ y) : Pc H (Den.put (Den.put P x emp) y (uni (P y) (P x))) where
  sub := fun z => by
    by_cases e : z = y
    · subst e; rw [put_same]
      intro a o q
      rcases uni_some q with q | ⟨_, q⟩
      · exact h.sub _ _ _ q
      · exact h.sub _ _ _ q
    · rw [put_ne e]
      by_cases e2 : z = x
      · subst e2; rw [put_same]; exact same_emp
      · rw [put_ne e2]; exact h.sub z
  dis := fun z w m => by
    have key : ∀ z, z ≠ y → Disj (Den.put (Den.put P x emp) y (uni (P y) (P x)) z) (uni (P y) (P x)) := fun z e => by
      rw [put_ne e]
      by_cases e2 : z = x
      · subst e2; rw [put_same]; exact fun _ => .inl rfl
      · rw [put_ne e2]
        exact Disj.of fun a o q => uni_none ((h.dis z y e).r q) ((h.dis z x e2).r q)
    by_cases e : z = y
    · subst e
      have k2 := key w (Ne.symm m)
      rw [show Den.put (Den.put P x emp) z (uni (P z) (P x)) z = uni (P z) (P x) from put_same]
      exact k2.symm
    · by_cases e2 : w = y
      · subst e2
        rw [show Den.put (Den.put P x emp) w (uni (P w) (P x)) w = uni (P w) (P x) from put_same]
        exact key z e
      · rw [put_ne e, put_ne e2]
        by_cases e3 : z = x
        · subst e3; rw [put_same]; exact fun _ => .inl rfl
        · rw [put_ne e3]
          by_cases e4 : w = x
          · subst e4; rw [put_same]; exact fun _ => .inr rfl
          · rw [put_ne e4]; exact h.dis z w m
/-- a piece is cut in two, the one part goes to a piece that is empty -/
theorem Pc.split {H : Hp} {P : Pcs} {x y : Ix} {A M : Hp} (h : Pc H P) (n : x ≠ y) (e : P y = uni A M) (d : Disj A M) : Pc H (Den.put (Den.put P y A) x M) where
  sub := fun z => by
    have hy := h.sub y
    rw [e] at hy
    by_cases e1 : z = x
    · subst e1; rw [put_same]; exact fun a o q => hy a o (same_uni_r d a o q)
    · rw [put_ne e1]
      by_cases e2 : z = y
      · subst e2; rw [put_same]; exact fun a o q => hy a o (same_uni_l a o q)
      · rw [put_ne e2]; exact h.sub z
  dis := fun z w m => by
    have kA : ∀ w, w ≠ y → Disj (P w) A := fun w nw => Disj.of fun a o q => by
      have z := (h.dis w y nw).r q
      rw [e] at z
      exact uni_none_l z
    have kM : ∀ w, w ≠ y → Disj (P w) M := fun w nw => Disj.of fun a o q => by
      have z := (h.dis w y nw).r q
      rw [e] at z
      exact uni_none_r z
    by_cases e1 : z = x
    · subst e1
      rw [put_same, put_ne (Ne.symm m)]
      by_cases e2 : w = y
      · subst e2; rw [put_same]; exact d.symm
      · rw [put_ne e2]; exact (kM w e2).symm
    · rw [put_ne e1]
      by_cases e2 : w = x
      · subst e2
        rw [put_same]
        by_cases e3 : z = y
        · subst e3; rw [put_same]; exact d
        · rw [put_ne e3]; exact kM z e3
      · rw [put_ne e2]
        by_cases e3 : z = y
        · subst e3
          rw [put_same, put_ne (Ne.symm m)]
          exact (kA w (Ne.symm m)).symm
        · rw [put_ne e3]
          by_cases e4 : w = y
          · subst e4; rw [put_same]; exact kA z e3
          · rw [put_ne e4]; exact h.dis z w m

/-! ### dicts with nested tuples of numbers as keys -/
mutual
def nkOf : PD → Option NestedKey
  | .int i => some (.num i)
  | .none => some .none
  | .tuple ds => (nksOf ds).map .tup
  | _ => none
def nksOf : List PD → Option (List NestedKey)
  | [] => some []
  | d :: r => (nkOf d).bind fun k => (nksOf r).map (k :: ·)
end
/-- at a stands a dict with these keys, at their addresses, and these values, in their order -/
def DnO (a : Addr) (xs : List (NestedKey × Addr × V)) : HO := .ext fun h => (a == sysModules) = false ∧ xs.length ≤ sizeLine ∧ ∃ (o : Obj) (es : Array DictEntry) (ep : Nat) (ys : List (NestedKey × Addr × Value)), h.get? a = some o ∧ o.ExactDict ∧ o.data = .dict es ep ∧
  (∀ w : World, es.toList = ys.map fun y => { hash := y.1.hash w, key := .ref y.2.1, val := y.2.2 }) ∧ (ys.map (·.1)).Nodup ∧ Paired (fun (x : NestedKey × Addr × V) (y : NestedKey × Addr × Value) => x.1 = y.1 ∧ x.2.1 = y.2.1 ∧ RelV x.2.2 y.2.2) xs ys
/-! ### mutables, slots -/
structure Xc where
  cls : Str
  arg : PD
inductive MC where
  | lst (xs : List PD)
  | ll (xss : List (List PD))
  | dic (kvs : List (PD × PD))
  | ins (n : Str) (fs : List (Str × PD))
  | dn (kvs : List (PD × PD))
  /-- a table of code objects of one name -/
  | tab (q : Str)
def MC.pd : MC → PD
  | .lst xs => .list xs
  | .ll xss => .list (xss.map .list)
  | .dic kvs => .dict kvs
  | .ins n fs => insD n fs
  | .dn kvs => .dict kvs
  | .tab _ => .dict []
/-- may become a datum -/
def MC.frz : MC → Bool
  | .dn _ => false
  | .tab _ => false
  | _ => true
inductive Slot where
  | no | val (d : PD) | own (m : MC) | io (j : Nat) | xc (x : Xc)
structure Rho where
  sl : List Slot
  io : List MC
/-- the name under which an error keeps what it was made of -/
def xfn (cls : Str) : Str := if cls = ("InvalidSize" : Str) then "word" else if cls = ("InvalidCommand" : Str) then "" else "at"
def cellsOf : List Addr → List (List V) → Hp
  | b :: bs, vs :: vss => upd (cellsOf bs vss) b (.lst vs)
  | _, _ => emp
inductive RpLL (k : Kc) (G : Hp) : List (List V) → List (List PD) → Prop
  | nil : RpLL k G [] []
  | cons {v : List V} {vs : List (List V)} {d : List PD} {ds : List (List PD)} : RpAll k G v d → RpLL k G vs ds → RpLL k G (v :: vs) (d :: ds)
theorem RpLL.mono {k : Kc} {G G' : Hp} (s : Same G G') : ∀ {v : List (List V)} {d : List (List PD)}, RpLL k G v d → RpLL k G' v d
  | _, _, .nil => .nil
  | _, _, .cons h r => .cons (h.mono s) (RpLL.mono s r)
/-- nested tuples of numbers as keys -/
inductive KvN (k : Kc) (G : Hp) : List (NestedKey × Addr × V) → List (PD × PD) → Prop
  | nil : KvN k G [] []
  | cons {n : NestedKey} {b : Addr} {v : V} {kd vd : PD} {xs : List (NestedKey × Addr × V)} {kvs : List (PD × PD)} : nkOf kd = some n → n.depth ≤ 8 → Rp k G (.ref b) kd → Rp k G v vd → KvN k G xs kvs → KvN k G ((n, b, v) :: xs) ((kd, vd) :: kvs)
theorem KvN.mono {k : Kc} {G G' : Hp} (s : Same G G') : ∀ {xs : List (NestedKey × Addr × V)} {kvs : List (PD × PD)}, KvN k G xs kvs → KvN k G' xs kvs
  | _, _, .nil => .nil
  | _, _, .cons h1 h0 h2 h3 r => .cons h1 h0 (h2.mono s) (h3.mono s) (KvN.mono s r)
def MR (k : Kc) (G : Hp) : MC → Addr → Hp → Prop
  | .tab q, a, M => k.tb a ∧ ∃ ps : Array Value, M = one a (.tbl ps) ∧ TriplesOk ps.toList ∧ ∀ (pos : Pos) (cv : Value), codeAmong pos ps.toList = some cv → ∃ b, cv = .ref b ∧ G b = some (LamX.CodeO b q)
  | .lst xs, a, M => ∃ vs, RpAll k G vs xs ∧ M = one a (.lst vs)
  | .ll xss, a, M => ∃ (bs : List Addr) (vss : List (List V)), bs.length = vss.length ∧ RpLL k G vss xss ∧ bs.Nodup ∧ a ∉ bs ∧ M = upd (cellsOf bs vss) a (.lst (bs.map V.ref))
  | .dic kvs, a, M => (∃ es, RpTs k G es kvs ∧ M = one a (.dT es)) ∨ ∃ es, RpKs k G es kvs ∧ M = one a (.dK es)
  | .dn kvs, a, M => ∃ xs, KvN k G xs kvs ∧ M = one a (DnO a xs)
  | .ins n fs, a, M => ∃ (C dx : Addr) (vs : List (Str × V)), k.kl n = some C ∧ RpFs k G vs (fs.map fun p => (.str p.1, p.2)) ∧ dx ≠ a ∧ M = upd (one dx (.own a)) a (.ins C dx vs)
theorem MR.mono {k : Kc} {G G' : Hp} (s : Same G G') {m : MC} {a : Addr} {M : Hp} (h : MR k G m a M) : MR k G' m a M := by
  cases m with
  | lst xs => obtain ⟨vs, r, e⟩ := h; exact ⟨vs, r.mono s, e⟩
  | ll xss => obtain ⟨bs, vss, l, r, e⟩ := h; exact ⟨bs, vss, l, r.mono s, e⟩
  | dic kvs =>
    rcases h with ⟨es, r, e⟩ | ⟨es, r, e⟩
    · exact .inl ⟨es, r.mono s, e⟩
    · exact .inr ⟨es, r.mono s, e⟩
  | ins n fs => obtain ⟨C, dx, vs, e, r, q⟩ := h; exact ⟨C, dx, vs, e, r.mono s, q⟩
  | dn kvs => obtain ⟨xs, r, q⟩ := h; exact ⟨xs, r.mono s, q⟩
  | tab q =>
    obtain ⟨e, ps, e1, e2, e3⟩ := h
    refine ⟨e, ps, e1, e2, fun pos cv hc => ?_⟩
    obtain ⟨b, q1, q2⟩ := e3 pos cv hc
    exact ⟨b, q1, s _ _ q2⟩

structure Cc where
  kc : Kc
  xa : Addr → Value → Option Addr → Prop
/-- what an exception of an own class keeps: one field in a dict of its own, or nothing -/
def XcO (k : Kc) (G : Hp) (x : Xc) (dx : Option Addr) (M : Hp) : Prop := match dx with
  | some d => ∃ v, M = one d (.xd [(xfn x.cls, v)]) ∧ Rp k G v x.arg
  | none => xfn x.cls = "" ∧ x.arg = .none ∧ M = emp
theorem XcO.mono {k : Kc} {G G' : Hp} (s : Same G G') {x : Xc} {dx : Option Addr} {M : Hp} (h : XcO k G x dx M) : XcO k G' x dx M := by
  cases dx with
  | some d => obtain ⟨v, e, r⟩ := h; exact ⟨v, e, r.mono s⟩
  | none => exact h
def SlOk (c : Cc) (ioA : List Addr) (G : Hp) (s : Slot) (ov : Option (Option V)) (M : Hp) : Prop := match s with
  | .no => True
  | .val d => ∃ v, ov = some (some v) ∧ Rp c.kc G v d
  | .own m => ∃ a, ov = some (some (.ref a)) ∧ MR c.kc G m a M
  | .io j => ∃ a, ioA[j]? = some a ∧ ov = some (some (.ref a))
  | .xc x => ∃ (a : Addr) (C : Addr) (dx : Option Addr), ov = some (some (.ref a)) ∧ c.kc.kl x.cls = some C ∧ c.xa a (.ref C) dx ∧ XcO c.kc G x dx M
theorem SlOk.mono {c : Cc} {ioA : List Addr} {G G' : Hp} (s : Same G G') {sl : Slot} {ov : Option (Option V)} {M : Hp} (h : SlOk c ioA G sl ov M) : SlOk c ioA G' sl ov M := by
  cases sl with
  | no => exact h
  | val d => obtain ⟨v, e, r⟩ := h; exact ⟨v, e, r.mono s⟩
  | own m => obtain ⟨a, e, r⟩ := h; exact ⟨a, e, r.mono s⟩
  | io j => exact h
  | xc x => obtain ⟨a, C, d, e, h1, h2, r⟩ := h; exact ⟨a, C, d, e, h1, h2, r.mono s⟩

structure RepW (c : Cc) (ioA : List Addr) (ρ : Rho) (σ : St) (H : Hp) (P : Pcs) : Prop where
  pc : Pc H P
  len : σ.length = ρ.sl.length
  so : ∀ i s, ρ.sl[i]? = some s → SlOk c ioA (P .g) s σ[i]? (P (.sl i))
  io : ∀ j m, ρ.io[j]? = some m → ∃ a, ioA[j]? = some a ∧ MR c.kc (P .g) m a (P (.io j))
/-- from a piece of code to what is behind it -/
structure Stp (P P' : Pcs) : Prop where
  g : Same (P .g) (P' .g)
  f : P' .f = P .f
theorem Stp.refl (P : Pcs) : Stp P P := ⟨Same.refl _, rfl⟩
theorem Stp.trans {P P1 P2 : Pcs} (a : Stp P P1) (b : Stp P1 P2) : Stp P P2 := ⟨a.g.trans b.g, b.f.trans a.f⟩

section
variable {c : Cc} {ioA : List Addr} {ρ : Rho} {σ : St} {H H' : Hp} {P : Pcs}
/-- the frozen part grows, new objects alone -/
theorem RepW.grow {G' : Hp} (r : RepW c ioA ρ σ H P) (s : Same (P .g) G') (k : ∀ a o, H a = some o → H' a = some o ∧ (P .g a = none → G' a = none)) (s2 : Same G' H') : RepW c ioA ρ σ H' (put P .g G') where
  pc := r.pc.put (fun a o q n => ⟨(k a o q).1, (k a o q).2 n⟩) s2
  len := r.len
  so := fun i sl e => by
    have h := r.so i sl e
    rw [put_same, put_ne (by simp)]
    exact h.mono s
  io := fun j m e => by
    obtain ⟨a, e1, h⟩ := r.io j m e
    rw [put_same, put_ne (by simp)]
    exact ⟨a, e1, h.mono s⟩
theorem RepW.new {p : Addr} {o : HO} (r : RepW c ioA ρ σ H P) (n : H p = none) : RepW c ioA ρ σ (upd H p o) (put P .g (upd (P .g) p o)) := by
  have ng : P .g p = none := by
    cases e : P .g p with
    | none => rfl
    | some u => have := r.pc.sub .g p u e; rw [n] at this; cases this
  refine r.grow (fun b u e => by rw [upd_ne (ne_of_none e ng)]; exact e) (fun a u q => ⟨by rw [upd_ne (ne_of_none q n)]; exact q, fun z => by rw [upd_ne (ne_of_none q n)]; exact z⟩) fun b u e => ?_
  by_cases h : b = p
  · subst h; rw [upd_same] at e ⊢; exact e
  · rw [upd_ne h] at e ⊢; exact r.pc.sub .g b u e
theorem stp_new {p : Addr} {o : HO} (n : P .g p = none) : Stp P (put P .g (upd (P .g) p o)) := ⟨by rw [put_same]; exact fun b u e => by rw [upd_ne (ne_of_none e n)]; exact e, put_ne (by decide)⟩
theorem RepW.gnone (r : RepW c ioA ρ σ H P) {x : Ix} {p : Addr} (n : H p = none) : P x p = none := by
  cases e : P x p with
  | none => rfl
  | some u => have := r.pc.sub x p u e; rw [n] at this; cases this
/-- a slot holds a datum -/
theorem RepW.setVal {i : Nat} {v : V} {d : PD} (r : RepW c ioA ρ σ H P) (h : Rp c.kc (P .g) v d) : RepW c ioA { ρ with sl := ρ.sl.set i (.val d) } (σ.set i (some v)) H (put P (.sl i) emp) where
  pc := r.pc.drop
  len := by simpa using r.len
  so := fun j s e => by
    rw [show put P (.sl i) emp .g = P .g from put_ne (by simp)]
    rw [List.getElem?_set] at e
    by_cases hj : i = j
    · subst hj
      simp only [if_true] at e
      split at e
      · rename_i hl
        cases e
        exact ⟨v, by rw [List.getElem?_set_self (by rw [r.len]; exact hl)], h⟩
      · cases e
    · rw [if_neg hj] at e
      rw [List.getElem?_set_ne hj, put_ne (by simp; exact fun z => hj z.symm)]
      exact r.so j s e
  io := fun j m e => by
    rw [show put P (.sl i) emp .g = P .g from put_ne (by simp), put_ne (by simp)]
    exact r.io j m e
/-- slots forgotten -/
theorem RepW.kill {i : Nat} (r : RepW c ioA ρ σ H P) : RepW c ioA { ρ with sl := ρ.sl.set i .no } σ H P where
  pc := r.pc
  len := by simpa using r.len
  so := fun j s e => by
    rw [List.getElem?_set] at e
    by_cases hj : i = j
    · subst hj
      simp only [if_true] at e
      split at e
      · cases e; trivial
      · cases e
    · rw [if_neg hj] at e
      exact r.so j s e
  io := r.io
end
end Den

set_option Elab.async false
set_option linter.all false
set_option maxRecDepth 100000
/-! DenB: what an expression does (M), its reading (tM), expressions' rules. -/
namespace Den
open PySem PySem.Spec
open PyProof.Rows L2

inductive R (α : Type) where
  | ok (a : α) (ρ : Rho) | exc (x : Xc) (ρ : Rho) | bad
abbrev M (α : Type) := Rho → R α
def mbind {α β : Type} (m : M α) (f : α → M β) : M β := fun ρ => match m ρ with
  | .ok a ρ1 => f a ρ1
  | .exc x ρ1 => .exc x ρ1
  | .bad => .bad
def mpure {α : Type} (a : α) : M α := fun ρ => .ok a ρ
def mopt {α : Type} (o : Option α) : M α := fun ρ => match o with
  | some a => .ok a ρ
  | none => .bad

/-- an exception as it lies -/
def XR (k : Kc) (x : Xc) (cls : Value) (dx : Option Addr) (H : Hp) (P : Pcs) : Prop := ∃ (C : Addr) (M : Hp), k.kl x.cls = some C ∧ cls = .ref C ∧ XcO k (P .g) x dx M ∧ Same M H ∧ ∀ y, Disj (P y) M

section
variable {α β γ δ : Type}
def tMat (c : Cc) (ioA : List Addr) (W : WX) (VR : α → β → St → Hp → Pcs → Prop) (f : M α) (ρ : Rho) (P : Pcs) (σ : St) (Q : β → Hp → Prop) : Prop := match f ρ with
  | .ok a ρ' => ∀ b H' P', Stp P P' → RepW c ioA ρ' σ H' P' → VR a b σ H' P' → Q b H'
  | .exc x ρ' => ∀ cls dx H' P', Stp P P' → RepW c ioA ρ' σ H' P' → XR c.kc x cls dx H' P' → W cls dx σ H'
  | .bad => False
def tM (c : Cc) (ioA : List Addr) (W : WX) (VR : α → β → St → Hp → Pcs → Prop) (f : M α) : St → Hp → (β → Hp → Prop) → Prop := fun σ H Q => ∃ ρ P, RepW c ioA ρ σ H P ∧ tMat c ioA W VR f ρ P σ Q

variable {c : Cc} {ioA : List Addr} {W : WX} {VR : α → β → St → Hp → Pcs → Prop} {VR2 : γ → δ → St → Hp → Pcs → Prop} {ρ : Rho} {P P0 : Pcs} {σ : St} {H : Hp}
theorem tMat.mono {f : M α} {Q Q' : β → Hp → Prop} (h : tMat c ioA W VR f ρ P σ Q) (k : ∀ b H', Q b H' → Q' b H') : tMat c ioA W VR f ρ P σ Q' := by
  unfold tMat at h ⊢
  cases e : f ρ with
  | ok a ρ' => rw [e] at h; exact fun b H' P' s r v => k b H' (h b H' P' s r v)
  | exc x ρ' => rw [e] at h; exact h
  | bad => rw [e] at h; exact h.elim
theorem tMat.back {f : M α} {Q : β → Hp → Prop} (h : tMat c ioA W VR f ρ P0 σ Q) (s0 : Stp P0 P) : tMat c ioA W VR f ρ P σ Q := by
  unfold tMat at h ⊢
  cases e : f ρ with
  | ok a ρ' => rw [e] at h; exact fun b H' P' s r v => h b H' P' (s0.trans s) r v
  | exc x ρ' => rw [e] at h; exact fun cls dx H' P' s r v => h cls dx H' P' (s0.trans s) r v
  | bad => rw [e] at h; exact h.elim
/-- behind a first part -/
theorem tMat.bind {f : M α} {k : α → M γ} {Q : δ → Hp → Prop} (h : tMat c ioA W VR2 (mbind f k) ρ P σ Q) :
    tMat c ioA W VR f ρ P σ (fun b H1 => ∃ a ρ1 P1, Stp P P1 ∧ RepW c ioA ρ1 σ H1 P1 ∧ VR a b σ H1 P1 ∧ tMat c ioA W VR2 (k a) ρ1 P1 σ Q) := by
  unfold tMat at h ⊢
  unfold mbind at h
  cases e : f ρ with
  | ok a ρ' =>
    rw [e] at h
    refine fun b H' P' s r v => ⟨a, ρ', P', s, r, v, ?_⟩
    have h' : tMat c ioA W VR2 (k a) ρ' P σ Q := h
    exact h'.back s
  | exc x ρ' => rw [e] at h; exact h
  | bad => rw [e] at h; exact h.elim
theorem tMat.pure {a : α} {Q : β → Hp → Prop} (h : tMat c ioA W VR (mpure a) ρ P σ Q) (r : RepW c ioA ρ σ H P) {b : β} (v : VR a b σ H P) : Q b H := h b H P (Stp.refl _) r v
theorem tMat.ok {f : M α} {a : α} {ρ' : Rho} {Q : β → Hp → Prop} (h : tMat c ioA W VR f ρ P σ Q) (e : f ρ = .ok a ρ') : ∀ b H' P', Stp P P' → RepW c ioA ρ' σ H' P' → VR a b σ H' P' → Q b H' := by
  unfold tMat at h; rw [e] at h; exact h
end

/-! ### operands -/
/-- what an operand is: a datum, or what a slot holds -/
inductive Pk where
  | d (x : PD) | sl (i : Nat)
def MC.look : MC → Option PD
  | .ll _ => none
  | .dn _ => none
  | .tab _ => none
  | m => some m.pd
def look : Pk → Rho → Option PD
  | .d x, _ => some x
  | .sl i, ρ => match ρ.sl[i]? with
    | some (.val d) => some d
    | some (.own m) => m.look
    | some (.io j) => (match ρ.io[j]? with
      | some m => m.look
      | none => none)
    | _ => none
def VRe (c : Cc) : PD → V → St → Hp → Pcs → Prop := fun d v _ _ P => Rp c.kc (P .g) v d
def VRk (c : Cc) : Pk → V → St → Hp → Pcs → Prop := fun p v σ _ P => match p with
  | .d x => Rp c.kc (P .g) v x
  | .sl i => σ[i]? = some (some v)
def VRb : Bool → Bool → St → Hp → Pcs → Prop := fun b b' _ _ _ => b = b'
def VRas (c : Cc) : List PD → List V → St → Hp → Pcs → Prop := fun ds vs _ _ P => RpAll c.kc (P .g) vs ds
inductive VRks (c : Cc) (σ : St) (P : Pcs) : List Pk → List V → Prop
  | nil : VRks c σ P [] []
  | cons {p : Pk} {v : V} {ps : List Pk} {vs : List V} : VRk c p v σ emp P → VRks c σ P ps vs → VRks c σ P (p :: ps) (v :: vs)
/-- a fresh list, put aside -/
def VRf (c : Cc) : List PD → V → St → Hp → Pcs → Prop := fun xs v _ _ P => ∃ p, v = .ref p ∧ MR c.kc (P .g) (.lst xs) p (P .t)
theorem VRk.step {c : Cc} {p : Pk} {v : V} {σ : St} {H H' : Hp} {P P' : Pcs} (h : VRk c p v σ H P) (s : Stp P P') : VRk c p v σ H' P' := by
  cases p with
  | d x => exact Rp.mono s.g h
  | sl i => exact h
theorem VRks.step {c : Cc} {σ : St} {P P' : Pcs} (s : Stp P P') : ∀ {ps : List Pk} {vs : List V}, VRks c σ P ps vs → VRks c σ P' ps vs
  | _, _, .nil => .nil
  | _, _, .cons h r => .cons (h.step s) (VRks.step s r)

/-- to be read as a datum, here and now -/
def PkR (k : Kc) (G H : Hp) (v : V) (d : PD) : Prop := Rp k G v d ∨ ∃ m a M, v = .ref a ∧ MR k G m a M ∧ Same M H ∧ m.look = some d
theorem look_ok {c : Cc} {ioA : List Addr} {ρ : Rho} {σ : St} {H : Hp} {P : Pcs} {p : Pk} {v : V} {d : PD} (r : RepW c ioA ρ σ H P) (h : VRk c p v σ H P) (e : look p ρ = some d) : PkR c.kc (P .g) H v d := by
  cases p with
  | d x => cases e; exact .inl h
  | sl i =>
    unfold look at e
    have h' : σ[i]? = some (some v) := h
    cases q : ρ.sl[i]? with
    | none => simp only [q] at e; cases e
    | some s =>
      have so := r.so i s q
      cases s with
      | no => simp only [q] at e; cases e
      | val x =>
        simp only [q] at e; cases e
        obtain ⟨w, e1, e2⟩ := so
        rw [h'] at e1; cases e1
        exact .inl e2
      | own m =>
        simp only [q] at e
        obtain ⟨a, e1, e2⟩ := so
        rw [h'] at e1; cases e1
        exact .inr ⟨m, a, _, rfl, e2, r.pc.sub _, e⟩
      | io j =>
        simp only [q] at e
        obtain ⟨a, e1, e2⟩ := so
        rw [h'] at e2; cases e2
        cases q2 : ρ.io[j]? with
        | none => simp only [q2] at e; cases e
        | some m =>
          simp only [q2] at e
          obtain ⟨b, e3, e4⟩ := r.io j m q2
          rw [e1] at e3; cases e3
          exact .inr ⟨m, a, _, rfl, e4, r.pc.sub _, e⟩
      | xc x => simp only [q] at e; cases e

section
variable {k : Kc} {G H : Hp} {v : V}
theorem PkR.list {ds : List PD} (s : Same G H) (h : PkR k G H v (.list ds)) : ∃ a xs, v = .ref a ∧ H a = some (.lst xs) ∧ RpAll k G xs ds := by
  rcases h with h | ⟨m, a, M, rfl, h, sm, e⟩
  · cases h with
    | lst h r => exact ⟨_, _, rfl, s _ _ h, r⟩
  · cases m with
    | lst xs =>
      obtain ⟨vs, r, rfl⟩ := h
      cases e
      exact ⟨a, vs, rfl, sm _ _ one_same, r⟩
    | ll xss => cases e
    | dn kvs => cases e
    | tab q => cases e
    | dic kvs => cases e
    | ins n fs => cases e
theorem PkR.tuple {ds : List PD} (s : Same G H) (h : PkR k G H v (.tuple ds)) : ∃ a xs, v = .ref a ∧ SqT k.K H a xs ∧ RpAll k G xs ds := by
  rcases h with h | ⟨m, a, M, rfl, h, sm, e⟩
  · cases h with
    | tup h r => exact ⟨_, _, rfl, h.seqT s, r⟩
  · cases m <;> cases e
theorem PkR.int {i : Int} (h : PkR k G H v (.int i)) : v = .int i := by
  rcases h with h | ⟨m, a, M, rfl, h, sm, e⟩
  · cases h; rfl
  · cases m <;> cases e
theorem PkR.bl {i : Bool} (h : PkR k G H v (.bool i)) : v = .bl i := by
  rcases h with h | ⟨m, a, M, rfl, h, sm, e⟩
  · cases h; rfl
  · cases m <;> cases e
theorem PkR.str {i : Str} (h : PkR k G H v (.str i)) : v = .str i := by
  rcases h with h | ⟨m, a, M, rfl, h, sm, e⟩
  · cases h; rfl
  · cases m <;> cases e
theorem PkR.non (h : PkR k G H v .none) : v = .non := by
  rcases h with h | ⟨m, a, M, rfl, h, sm, e⟩
  · cases h; rfl
  · cases m <;> cases e
end

/-! ### data without dicts, as HandS reads them -/
mutual
def plainD : PD → Bool
  | .list xs => plainDs xs
  | .tuple xs => plainDs xs
  | .dict _ => false
  | _ => true
def plainDs : List PD → Bool
  | [] => true
  | x :: xs => plainD x && plainDs xs
end
section
variable {k : Kc} {G H : Hp}
mutual
theorem Rp.dp (s : Same G H) : ∀ {v : V} {d : PD}, Rp k G v d → plainD d = true → Dp k.K H v d
  | _, _, .non, _ => .non
  | _, _, .bl b, _ => .bl b
  | _, _, .int i, _ => .int i
  | _, _, .str x, _ => .str x
  | _, _, .lst h r, p => .lst (.inl (.inl (s _ _ h))) (RpAll.dp s r (by simpa [plainD] using p))
  | _, _, .scr h r, p => by simp [plainD] at p
  | _, _, .tup h r, p => .tup (h.seqT s) (RpAll.dp s r (by simpa [plainD] using p))
  | _, _, .ins h e r, p => by simp [plainD] at p
  | _, _, .dK h r, p => by simp [plainD] at p
  | _, _, .dT h r, p => by simp [plainD] at p
theorem RpAll.dp (s : Same G H) : ∀ {vs : List V} {ds : List PD}, RpAll k G vs ds → plainDs ds = true → DpAll k.K H vs ds
  | _, _, .nil, _ => .nil
  | _, _, .cons (d := d) (ds := ds) h r, p => by
    have p' : (plainD d && plainDs ds) = true := by simpa [plainDs] using p
    obtain ⟨p1, p2⟩ := Bool.and_eq_true_iff.mp p'
    exact .cons (Rp.dp s h p1) (RpAll.dp s r p2)
end
theorem PkR.dp {v : V} {d : PD} (s : Same G H) (h : PkR k G H v d) (p : plainD d = true) : Dp k.K H v d := by
  rcases h with h | ⟨m, a, M, rfl, h, sm, e⟩
  · exact h.dp s p
  · cases m with
    | lst xs =>
      obtain ⟨vs, r, rfl⟩ := h
      cases e
      exact .lst (.inl (.inl (sm _ _ one_same))) (r.dp s (by simpa [plainD, MC.pd] using p))
    | ll xss => cases e
    | dn kvs => cases e
    | tab q => cases e
    | dic kvs => cases e; simp [plainD, MC.pd] at p
    | ins n fs => cases e; simp [plainD, MC.pd, insD] at p
end

/-! ### what stays true around a piece of code -/
structure Gd (X : Cx) (c : Cc) : Prop where
  hK : c.kc.K = X.K
  un : X.A.units + 190 < cLine

def DE (X : Cx) (c : Cc) (W : WX) (e : Expr) (f : M PD) : Prop := Gd X c → ∀ ioA, PE X e (tM c ioA W (VRe c) f)
def DK (X : Cx) (c : Cc) (W : WX) (e : Expr) (f : M Pk) : Prop := Gd X c → ∀ ioA, PE X e (tM c ioA W (VRk c) f)
def DF (X : Cx) (c : Cc) (W : WX) (e : Expr) (f : M (List PD)) : Prop := Gd X c → ∀ ioA, PE X e (tM c ioA W (VRf c) f)
def DT (X : Cx) (c : Cc) (W : WX) (e : Expr) (f : M Bool) : Prop := Gd X c → ∀ ioA, PT X e (tM c ioA W VRb f)
def DW (X : Cx) (c : Cc) (W : WX) (e : Expr) (f : M Bool) : Prop := Gd X c → ∀ ioA, PW X e (tM c ioA W VRb f)
def DKs (X : Cx) (c : Cc) (W : WX) (es : List Expr) (f : M (List Pk)) : Prop := Gd X c → ∀ ioA, PA X es (tM c ioA W (fun ps vs σ _ P => VRks c σ P ps vs) f)
def DEs (X : Cx) (c : Cc) (W : WX) (es : List Expr) (f : M (List PD)) : Prop := Gd X c → ∀ ioA, PA X es (tM c ioA W (VRas c) f)

theorem PE.imp {X : Cx} {e : Expr} {t t' : TE} (h : PE X e t) (i : ∀ σ H Q, t' σ H Q → t σ H Q) : PE X e t' := ⟨fun pins s σ H Q I q => h.run pins s σ H Q I (i σ H Q q)⟩
theorem PT.imp {X : Cx} {e : Expr} {t t' : TT} (h : PT X e t) (i : ∀ σ H Q, t' σ H Q → t σ H Q) : PT X e t' := ⟨fun pins s σ H Q I q => h.run pins s σ H Q I (i σ H Q q)⟩
theorem PW.imp {X : Cx} {e : Expr} {t t' : TT} (h : PW X e t) (i : ∀ σ H Q, t' σ H Q → t σ H Q) : PW X e t' := ⟨fun w pins s σ H Q I q => h.run w pins s σ H Q I (i σ H Q q)⟩
theorem PA.imp {X : Cx} {e : List Expr} {t t' : TA} (h : PA X e t) (i : ∀ σ H Q, t' σ H Q → t σ H Q) : PA X e t' := ⟨fun w pins s σ H Q I q => h.run w pins s σ H Q I (i σ H Q q)⟩
theorem PS.imp {X : Cx} {e : Stmt} {t t' : TS} (h : PS X e t) (i : ∀ D σ H, t' D σ H → t D σ H) : PS X e t' := ⟨fun pins s σ H D I q => h.run pins s σ H D I (i D σ H q)⟩
theorem PSs.imp {X : Cx} {e : List Stmt} {t t' : TS} (h : PSs X e t) (i : ∀ D σ H, t' D σ H → t D σ H) : PSs X e t' := ⟨fun pins s σ H D I q => h.run pins s σ H D I (i D σ H q)⟩

/-- from MR to a datum, where the mutable is frozen -/
theorem MR.rp {k : Kc} {G G' : Hp} {m : MC} {a : Addr} {M : Hp} (h : MR k G m a M) (s : Same G G') (sm : Same M G') (hf : m.frz = true := by rfl) : Rp k G' (.ref a) m.pd := by
  cases m with
  | dn kvs => cases hf
  | tab q => cases hf
  | lst xs =>
    obtain ⟨vs, r, rfl⟩ := h
    exact .lst (sm _ _ one_same) (r.mono s)
  | ll xss =>
    obtain ⟨bs, vss, l, r, nd, na, rfl⟩ := h
    refine .lst (sm _ _ upd_same) ?_
    have key : ∀ (bs : List Addr) (vss : List (List V)) (xss : List (List PD)), bs.length = vss.length → RpLL k G vss xss → bs.Nodup → (∀ b vs, cellsOf bs vss b = some vs → G' b = some vs) → RpAll k G' (bs.map V.ref) (xss.map PyData.list) := by
      intro bs
      induction bs with
      | nil =>
        intro vss xss hl hr _ _
        cases hr with
        | nil => exact .nil
        | cons _ _ => simp at hl
      | cons b bs ih =>
        intro vss xss hl hr hn hs
        cases hr with
        | nil => simp at hl
        | cons h1 h2 =>
          refine .cons (.lst (hs _ _ upd_same) (h1.mono s)) (ih _ _ (by simpa using hl) h2 (List.nodup_cons.mp hn).2 fun b' vs e => hs b' vs ?_)
          have nb : b' ≠ b := by
            rintro rfl
            have : ∀ (bs : List Addr) (vss : List (List V)) (u : HO), cellsOf bs vss b' = some u → b' ∈ bs := by
              intro bs
              induction bs with
              | nil => intro vss u e; cases vss <;> cases e
              | cons x bs ih2 =>
                intro vss u e
                cases vss with
                | nil => cases e
                | cons y vss =>
                  by_cases hb : b' = x
                  · rw [hb]; exact List.mem_cons_self
                  · unfold cellsOf at e
                    rw [upd_ne hb] at e
                    exact List.mem_cons_of_mem _ (ih2 vss u e)
            exact (List.nodup_cons.mp hn).1 (this _ _ _ e)
          show upd (cellsOf _ _) b _ b' = _
          rw [upd_ne nb]; exact e
    exact key bs vss xss l r nd fun b vs e => sm _ _ (by
      by_cases hb : b = a
      · subst hb
        have : ∀ (bs : List Addr) (vss : List (List V)) (u : HO), cellsOf bs vss b = some u → b ∈ bs := by
          intro bs
          induction bs with
          | nil => intro vss u e; cases vss <;> cases e
          | cons x bs ih2 =>
            intro vss u e
            cases vss with
            | nil => cases e
            | cons y vss =>
              by_cases hb : b = x
              · rw [hb]; exact List.mem_cons_self
              · unfold cellsOf at e
                rw [upd_ne hb] at e
                exact List.mem_cons_of_mem _ (ih2 vss u e)
        exact absurd (this _ _ _ e) na
      · rw [upd_ne hb]; exact e)
  | dic kvs =>
    rcases h with ⟨es, r, rfl⟩ | ⟨es, r, rfl⟩
    · exact .dT (sm _ _ one_same) (r.mono s)
    · exact .dK (sm _ _ one_same) (r.mono s)
  | ins n fs =>
    obtain ⟨C, dx, vs, e, r, ne, rfl⟩ := h
    exact .ins (sm _ _ upd_same) e (r.mono s)

section
variable {X : Cx} {c : Cc} {W : WX} {pos : Pos}
theorem de_int {i j} : DE X c W (.Constant (.int i) j pos) (mpure (.int i)) := fun _ _ => PE.imp pe_int fun _ _ _ ⟨_, _, r, h⟩ => h.pure r (.int i)
theorem de_bl {b j} : DE X c W (.Constant (.bool b) j pos) (mpure (.bool b)) := fun _ _ => PE.imp pe_bl fun _ _ _ ⟨_, _, r, h⟩ => h.pure r (.bl b)
theorem de_non {j} : DE X c W (.Constant .none j pos) (mpure .none) := fun _ _ => PE.imp pe_non fun _ _ _ ⟨_, _, r, h⟩ => h.pure r .non
theorem de_str {x j} : DE X c W (.Constant (.str x) j pos) (mpure (.str x)) := fun _ _ => PE.imp pe_str fun _ _ _ ⟨_, _, r, h⟩ => h.pure r (.str x)
/-- a name's value is used: a mutable is frozen -/
def dVar (i : Nat) : M PD := fun ρ => match ρ.sl[i]? with
  | some (.val d) => .ok d ρ
  | some (.own m) => if m.frz = true then .ok m.pd { ρ with sl := ρ.sl.set i (.val m.pd) } else .bad
  | _ => .bad
theorem RepW.freeze {ioA : List Addr} {ρ : Rho} {σ : St} {H : Hp} {P : Pcs} {i : Nat} {m : MC} (r : RepW c ioA ρ σ H P) (e : ρ.sl[i]? = some (.own m)) (hf : m.frz = true) :
    RepW c ioA { ρ with sl := ρ.sl.set i (.val m.pd) } σ H (put (put P (.sl i) emp) .g (uni (P .g) (P (.sl i)))) := by
  have hG : Same (P .g) (uni (P .g) (P (.sl i))) := same_uni_l
  refine ⟨r.pc.move (by simp), by simpa using r.len, fun j s q => ?_, fun j m' q => ?_⟩
  · rw [put_same, put_ne (by simp)]
    rw [List.getElem?_set] at q
    by_cases hj : i = j
    · subst hj
      simp only [if_true] at q
      split at q
      · cases q
        obtain ⟨a, e1, e2⟩ := r.so i _ e
        exact ⟨.ref a, e1, e2.rp hG (same_uni_r (r.pc.dis _ _ (by simp))) hf⟩
      · cases q
    · rw [if_neg hj] at q
      rw [put_ne (by simp; exact fun z => hj z.symm)]
      exact (r.so j s q).mono hG
  · rw [put_same, put_ne (by simp), put_ne (by simp)]
    obtain ⟨a, e1, e2⟩ := r.io j m' q
    exact ⟨a, e1, e2.mono hG⟩
theorem stp_freeze {P : Pcs} {i : Nat} : Stp P (put (put P (.sl i) emp) .g (uni (P .g) (P (.sl i)))) := ⟨by rw [put_same]; exact same_uni_l, by rw [put_ne (by simp), put_ne (by simp)]⟩
theorem de_var (i : Nat) {x : Str} (hN : X.N[i]? = some x := by rfl) (hv : Vis X.env.scope x := by first | exact Or.inl rfl | exact Or.inr (Or.inl rfl) | exact Or.inr (Or.inr rfl)) (hd : (x == ("__debug__" : Str)) = false := by decide)
    (hcd : (x == ("__classdict__" : Str)) = false := by decide) : DE X c W (.Name x pos) (dVar i) := by
  intro _ ioA
  refine PE.imp (pe_var hN hv hd hcd) fun σ H Q ⟨ρ, P, r, h⟩ => ?_
  unfold tMat dVar at h
  cases e : ρ.sl[i]? with
  | none => simp only [e] at h
  | some s =>
    have so := r.so i s e
    cases s with
    | val d =>
      simp only [e] at h
      obtain ⟨v, e1, e2⟩ := so
      exact ⟨v, e1, h v H P (Stp.refl _) r e2⟩
    | own m =>
      simp only [e] at h
      by_cases hf : m.frz = true
      case neg => rw [if_neg hf] at h; exact h.elim
      rw [if_pos hf] at h
      obtain ⟨a, e1, e2⟩ := so
      exact ⟨.ref a, e1, h (.ref a) H _ stp_freeze (r.freeze e hf) (by
        show Rp c.kc _ _ _
        rw [put_same]
        exact e2.rp same_uni_l (same_uni_r (r.pc.dis _ _ (by simp))) hf)⟩
    | no => simp only [e] at h
    | io j => simp only [e] at h
    | xc x => simp only [e] at h
/-- a name as an operand: what is bound at the slot -/
def dkVar (i : Nat) : M Pk := fun ρ => match ρ.sl[i]? with
  | some .no => .bad
  | some _ => .ok (.sl i) ρ
  | none => .bad
def dkE (f : M PD) : M Pk := mbind f fun d => mpure (.d d)
theorem dk_var (i : Nat) {x : Str} (hN : X.N[i]? = some x := by rfl) (hv : Vis X.env.scope x := by first | exact Or.inl rfl | exact Or.inr (Or.inl rfl) | exact Or.inr (Or.inr rfl)) (hd : (x == ("__debug__" : Str)) = false := by decide)
    (hcd : (x == ("__classdict__" : Str)) = false := by decide) : DK X c W (.Name x pos) (dkVar i) := by
  intro _ ioA
  refine PE.imp (pe_var hN hv hd hcd) fun σ H Q ⟨ρ, P, r, h⟩ => ?_
  unfold tMat dkVar at h
  cases e : ρ.sl[i]? with
  | none => simp only [e] at h
  | some s =>
    have so := r.so i s e
    have key : ∀ v, σ[i]? = some (some v) → (∀ b H' P', Stp P P' → RepW c ioA ρ σ H' P' → VRk c (.sl i) b σ H' P' → Q b H') → ∃ v, σ[i]? = some (some v) ∧ Q v H := fun v e1 h => ⟨v, e1, h v H P (Stp.refl _) r e1⟩
    cases s with
    | val d => simp only [e] at h; obtain ⟨v, e1, _⟩ := so; exact key _ e1 h
    | own m => simp only [e] at h; obtain ⟨a, e1, _⟩ := so; exact key _ e1 h
    | no => simp only [e] at h
    | io j => simp only [e] at h; obtain ⟨a, _, e1⟩ := so; exact key _ e1 h
    | xc x => simp only [e] at h; obtain ⟨a, _, _, e1, _⟩ := so; exact key _ e1 h
end
end Den

set_option Elab.async false
set_option linter.all false
set_option maxRecDepth 100000
/-! DenC: operators, comparisons, tests. -/
namespace Den
open PySem PySem.Spec
open PyProof.Rows L2

/-- the frozen part and the heap behind an operation: new objects alone -/
structure Ext (G H G' H' : Hp) : Prop where
  g : Same G G'
  h : Same G' H'
  k : ∀ a o, H a = some o → H' a = some o ∧ (G a = none → G' a = none)
def OutOk (k : Kc) (G H : Hp) (d : PD) (Q : VK) : Prop := ∀ v G' H', Ext G H G' H' → Rp k G' v d → Q v H'
theorem Ext.refl {G H : Hp} (s : Same G H) : Ext G H G H := ⟨Same.refl _, s, fun _ _ e => ⟨e, fun z => z⟩⟩
theorem gone_of {G H : Hp} (s : Same G H) {p : Addr} (n : H p = none) : G p = none := by
  cases e : G p with
  | none => rfl
  | some o => rw [s p o e] at n; cases n
theorem Ext.new {G H : Hp} {p : Addr} {o : HO} (s : Same G H) (n : H p = none) : Ext G H (upd G p o) (upd H p o) where
  g := fun b u e => by rw [upd_ne (ne_of_none e (gone_of s n))]; exact e
  h := fun b u e => by
    by_cases h : b = p
    · subst h; rw [upd_same] at e ⊢; exact e
    · rw [upd_ne h] at e ⊢; exact s b u e
  k := fun a u e => ⟨by rw [upd_ne (ne_of_none e n)]; exact e, fun z => by rw [upd_ne (ne_of_none e n)]; exact z⟩
theorem OutOk.here {k : Kc} {G H : Hp} {d : PD} {Q : VK} {v : V} (h : OutOk k G H d Q) (s : Same G H) (r : Rp k G v d) : Q v H := h v G H (Ext.refl s) r
theorem OutOk.tup {k : Kc} {G H : Hp} {ds : List PD} {Q : VK} {xs : List V} (h : OutOk k G H (.tuple ds) Q) (s : Same G H) (r : RpAll k G xs ds) : ∀ (o : Obj) p, o.dict = none → H p = none → Q (.ref p) (upd H p (tupO o xs)) := fun o p d n =>
  h _ _ _ (Ext.new s n) (.tup ⟨o, d, upd_same⟩ (r.mono (Ext.new s n).g))
theorem OutOk.lst {k : Kc} {G H : Hp} {ds : List PD} {Q : VK} {xs : List V} (h : OutOk k G H (.list ds) Q) (s : Same G H) (r : RpAll k G xs ds) : ∀ p, H p = none → Q (.ref p) (upd H p (.lst xs)) := fun p n =>
  h _ _ _ (Ext.new s n) (.lst upd_same (r.mono (Ext.new s n).g))
/-- an operation's end, in a reading -/
theorem tMat.out {c : Cc} {ioA : List Addr} {W : WX} {ρ : Rho} {P : Pcs} {σ : St} {H : Hp} {d : PD} {Q : VK} (h : tMat c ioA W (VRe c) (mpure d) ρ P σ Q) (r : RepW c ioA ρ σ H P) : OutOk c.kc (P .g) H d Q := fun v G' H' e q =>
  h v H' (put P .g G') ⟨by rw [put_same]; exact e.g, put_ne (by simp)⟩ (r.grow e.g e.k e.h) (by show Rp c.kc _ v d; rw [put_same]; exact q)

/-- an operation on values: g told by data -/
def OpD (X : Cx) (k : Kc) (f : Value → Value → Sem Value) (g : PD → PD → Option PD) : Prop := X.A.units + 190 < cLine → k.K = X.K → ∃ r, OpR X f r ∧
  ∀ G H x y dx dy dz Q, Same G H → PkR k G H x dx → PkR k G H y dy → g dx dy = some dz → OutOk k G H dz Q → r x y H Q

def dOp2 (g : PD → PD → Option PD) (a b : M Pk) : M PD := mbind a fun p => mbind b fun q => fun ρ => match look p ρ, look q ρ with
  | some x, some y => mopt (g x y) ρ
  | _, _ => .bad
theorem op2_core {c : Cc} {ioA : List Addr} {W : WX} {g : PD → PD → Option PD} {r : R2} {fa fb : M Pk} {σ : St} {H : Hp} {Q : VK}
    (hr : ∀ G H x y dx dy dz Q, Same G H → PkR c.kc G H x dx → PkR c.kc G H y dy → g dx dy = some dz → OutOk c.kc G H dz Q → r x y H Q)
    (h : tM c ioA W (VRe c) (dOp2 g fa fb) σ H Q) : tOp r (tM c ioA W (VRk c) fa) (tM c ioA W (VRk c) fb) σ H Q := by
  obtain ⟨ρ, P, rp, h⟩ := h
  refine ⟨ρ, P, rp, h.bind.mono fun x H1 ⟨p, ρ1, P1, s1, r1, v1, h1⟩ => ⟨ρ1, P1, r1, h1.bind.mono fun y H2 ⟨q, ρ2, P2, s2, r2, v2, h2⟩ => ?_⟩⟩
  have v1' : VRk c p x σ H2 P2 := VRk.step v1 s2
  cases e1 : look p ρ2 with
  | none => unfold tMat at h2; simp only [e1] at h2
  | some dx =>
    cases e2 : look q ρ2 with
    | none => unfold tMat at h2; simp only [e1, e2] at h2
    | some dy =>
      cases e3 : g dx dy with
      | none => unfold tMat mopt at h2; simp only [e1, e2, e3] at h2
      | some dz =>
        have h3 : tMat c ioA W (VRe c) (mpure dz) ρ2 P2 σ Q := by
          unfold tMat mpure
          unfold tMat mopt at h2
          simp only [e1, e2, e3] at h2
          exact h2
        exact hr _ _ x y dx dy dz Q (r2.pc.sub .g) (look_ok r2 v1' e1) (look_ok r2 v2 e2) e3 (h3.out r2)
section
variable {X : Cx} {c : Cc} {W : WX} {a b d : Expr} {pos : Pos} {fa fb fd : M Pk} {g g' : PD → PD → Option PD}
theorem de_op {op : Operator} (ho : OpD X c.kc (binaryOp op) g) (ha : DK X c W a fa) (hb : DK X c W b fb) : DE X c W (.BinOp a op b pos) (dOp2 g fa fb) := fun gd ioA => by
  obtain ⟨r, h1, h2⟩ := ho gd.un gd.hK
  exact PE.imp (pe_op h1 (ha gd ioA) (hb gd ioA)) fun σ H Q h => op2_core h2 h
theorem de_cmp {op : CmpOp} (ho : OpD X c.kc (compareOp op) g) (ha : DK X c W a fa) (hb : DK X c W b fb) (hm : behindInMarks op b = false) : DE X c W (.Compare a [op] [b] pos) (dOp2 g fa fb) := fun gd ioA => by
  obtain ⟨r, h1, h2⟩ := ho gd.un gd.hK
  exact PE.imp (pe_cmpR h1 (ha gd ioA) (hb gd ioA) hm) fun σ H Q h => op2_core h2 h
/-- a bool for a test -/
def asB (f : M PD) : M Bool := mbind f fun d => match d with
  | .bool b => mpure b
  | _ => fun _ => .bad
theorem asB_core {c : Cc} {ioA : List Addr} {f : M PD} {σ : St} {H : Hp} {Q : Bool → Hp → Prop} (h : tM c ioA W VRb (asB f) σ H Q) : tM c ioA W (VRe c) f σ H (fun x H' => ∃ k, x = .bl k ∧ Q k H') := by
  obtain ⟨ρ, P, rp, h⟩ := h
  refine ⟨ρ, P, rp, h.bind.mono fun x H1 ⟨d, ρ1, P1, s1, r1, v1, h1⟩ => ?_⟩
  cases d with
  | bool k =>
    have v1' : Rp c.kc (P1 .g) x (.bool k) := v1
    cases v1'
    exact ⟨k, rfl, h1.pure r1 rfl⟩
  | _ => exact h1.elim
theorem dt_cmp {op : CmpOp} (ho : OpD X c.kc (compareOp op) g) (ha : DK X c W a fa) (hb : DK X c W b fb) (hm : behindInMarks op b = false) : DT X c W (.Compare a [op] [b] pos) (asB (dOp2 g fa fb)) := fun gd ioA => by
  obtain ⟨r, h1, h2⟩ := ho gd.un gd.hK
  exact PT.imp (pt_cmpR h1 (ha gd ioA) (hb gd ioA) hm) fun σ H Q h => op2_core h2 (asB_core h)

end

/-! ### and, or, not, if else; truth -/
/-- a datum's truth -/
def tru : PD → Option Bool
  | .none => some false
  | .bool b => some b
  | .int i => some (i != 0)
  | .str x => if x.length ≤ sizeLine then some ((x.length : Int) != 0) else none
  | .list xs => some (!xs.isEmpty)
  | .tuple xs => some (!xs.isEmpty)
  | .dict _ => none
theorem isEmpty_all {k : Kc} {G : Hp} {xs : List V} {ds : List PD} (r : RpAll k G xs ds) : (!xs.isEmpty) = !ds.isEmpty := by cases r <;> rfl
theorem tru_of {k : Kc} {G H : Hp} {v : V} {d : PD} {b : Bool} (s : Same G H) (h : PkR k G H v d) (e : tru d = some b) : TruV k.K v H b := by
  cases d with
  | none => rw [h.non]; cases e; rfl
  | bool i => rw [h.bl]; cases e; rfl
  | int i => rw [h.int]; cases e; rfl
  | str x =>
    rw [h.str]
    have e' : (if x.length ≤ sizeLine then some ((x.length : Int) != 0) else none) = some b := e
    by_cases hz : x.length ≤ sizeLine
    · rw [if_pos hz] at e'; cases e'; exact ⟨hz, rfl⟩
    · rw [if_neg hz] at e'; cases e'
  | list xs =>
    obtain ⟨a, vs, rfl, h1, r⟩ := h.list s
    cases e
    exact .inl ⟨vs, .inl (.inl h1), (isEmpty_all r).symm⟩
  | tuple xs =>
    obtain ⟨a, vs, rfl, h1, r⟩ := h.tuple s
    cases e
    exact .inr (.inl ⟨vs, h1, (isEmpty_all r).symm⟩)
  | dict kvs => cases e
def dTru (f : M Pk) : M Bool := mbind f fun p ρ => match look p ρ with
  | some d => mopt (tru d) ρ
  | none => .bad
def tOrB (f g : M Bool) : M Bool := mbind f fun b => if b = true then mpure true else g
def tNotB (f : M Bool) : M Bool := mbind f fun b => mpure (!b)
section
variable {X : Cx} {c : Cc} {W : WX} {a b d : Expr} {rest : List Expr} {pos : Pos} {f g : M PD} {t u : M Bool} {fk : M Pk}
theorem dt_tru (ha : DK X c W a fk) (he : ∀ whole, isTrue a X.env whole = (do let v ← whole; standAt a.pos; holding [v] (truthy v)) := by intro _; rfl) : DT X c W a (dTru fk) := fun gd ioA => by
  refine PT.imp (pt_truth (ha gd ioA) he) fun σ H Q ⟨ρ, P, rp, h⟩ => ⟨ρ, P, rp, h.bind.mono fun x H1 ⟨p, ρ1, P1, s1, r1, v1, h1⟩ => ?_⟩
  cases e1 : look p ρ1 with
  | none => unfold tMat at h1; simp only [e1] at h1
  | some dx =>
    cases e2 : tru dx with
    | none => unfold tMat mopt at h1; simp only [e1, e2] at h1
    | some k =>
      unfold tMat mopt at h1
      simp only [e1, e2] at h1
      exact ⟨k, by rw [← gd.hK]; exact tru_of (r1.pc.sub .g) (look_ok r1 v1 e1) e2, h1 k H1 P1 (Stp.refl _) r1 rfl⟩
theorem dt_w (h : DW X c W a t) : DT X c W a t := fun gd ioA => (h gd ioA).pt
theorem dw_or1 (ha : DT X c W a t) : DW X c W (.BoolOp .Or [a] pos) t := fun gd ioA => pw_or1 (ha gd ioA)
theorem dw_or (ha : DT X c W a t) (hb : DW X c W (.BoolOp .Or (b :: rest) pos) u) : DW X c W (.BoolOp .Or (a :: b :: rest) pos) (tOrB t u) := fun gd ioA => by
  refine PW.imp (pw_or (ha gd ioA) (hb gd ioA)) fun σ H Q ⟨ρ, P, rp, h⟩ => ⟨ρ, P, rp, h.bind.mono fun k H1 ⟨k', ρ1, P1, s1, r1, v1, h1⟩ => ?_⟩
  have v1' : k' = k := v1
  subst v1'
  cases k' with
  | false => exact ⟨ρ1, P1, r1, h1⟩
  | true => exact h1.pure r1 rfl
theorem dt_not (ha : DT X c W a t) : DT X c W (.UnaryOp .Not a pos) (tNotB t) := fun gd ioA => by
  refine PT.imp (pt_not (ha gd ioA)) fun σ H Q ⟨ρ, P, rp, h⟩ => ⟨ρ, P, rp, h.bind.mono fun k H1 ⟨k', ρ1, P1, s1, r1, v1, h1⟩ => ?_⟩
  have v1' : k' = k := v1
  subst v1'
  exact h1.pure r1 rfl
/-- a value that is known to be used as an operand -/
theorem dk_e (ha : DE X c W a f) : DK X c W a (dkE f) := fun gd ioA =>
  PE.imp (ha gd ioA) fun σ H Q ⟨ρ, P, rp, h⟩ => ⟨ρ, P, rp, h.bind.mono fun x H1 ⟨dx, ρ1, P1, s1, r1, v1, h1⟩ => h1.pure r1 v1⟩
end
end Den

set_option Elab.async false
set_option linter.all false
set_option maxRecDepth 100000
/-! DenD: what operators give, by data. -/
namespace Den
open PySem PySem.Spec
open PyProof.Rows L2

/-! ### lists that are read, glued -/
/-- a text so many times -/
def repS (x : Str) (n : Nat) : Str := ⟨(List.replicate n x.cps).foldl (· ++ ·) #[]⟩
theorem repS_zero (x : Str) : repS x 0 = Str.empty := rfl
theorem repS_one (x : Str) : repS x 1 = x := by
  obtain ⟨a⟩ := x
  show (⟨#[] ++ a⟩ : Str) = ⟨a⟩
  simp
def rRepS : R2 := fun x y H Q => ∃ z n, x = .str z ∧ y = .int n ∧ n ≤ 1000 ∧ -1000 ≤ n ∧ z.length ≤ 1000 ∧ Q (.str (repS z n.toNat)) H
theorem op_repS {X : Cx} : OpR X (binaryOp .Mult) rRepS := by
  intro pins s σ H x y v u Q I rx ry h
  obtain ⟨z, n, rfl, rfl, h1, h0, hz, q⟩ := h
  obtain ⟨t, rfl⟩ := rx
  obtain ⟨t', rfl⟩ := ry
  have hl : sizeLine = 16777216 := sizeLine_eq
  have fin : ∀ (w : Str) (tk : Tok) (t2 : Nat), w = repS z n.toNat → EP X pins σ Q (.str w tk) { s with toks := t2 } := fun w tk t2 e => ⟨.str w, H, I.tok _, ⟨_, rfl⟩, by rw [e]; exact q⟩
  by_cases hn : n < 1
  · refine PySem.P.mul_str_none hn (by omega) (fin _ _ _ ?_)
    rw [show n.toNat = 0 by omega, repS_zero]
  · have big : ∀ m : Nat, m ≤ 1000000 → Builtin.Str.tooLong m = false := fun m hm => by
      unfold Builtin.Str.tooLong
      exact decide_eq_false (by rw [hl]; omega)
    have hmul : z.length * n.toNat ≤ 1000 * 1000 := Nat.mul_le_mul hz (by omega)
    refine PySem.P.mul_str ?_ (fun _ _ => ?_) (fun _ _ => big _ (by omega)) ?_
    · rw [decide_eq_false (by omega), decide_eq_false (by omega)]; rfl
    · have h2 : (0 : Int) < n := by omega
      have h3 : (1000 : Int) ≤ (2 ^ 63 - 1) / n := (Int.le_ediv_iff_mul_le h2).mpr (by omega)
      omega
    · rw [if_neg hn]
      by_cases h2 : (n == 1 || z.length == 0) = true
      · rw [if_pos h2]
        refine fin z t s.toks ?_
        rcases Bool.or_eq_true_iff.mp h2 with e | e
        · have e' : n = 1 := by simpa using e
          rw [e']; exact (repS_one z).symm
        · have e' : z.cps = #[] := by
            have : z.cps.size = 0 := by
              have e2 : (z.length == 0) = true := e
              exact eq_of_beq e2
            exact Array.eq_empty_of_size_eq_zero this
          obtain ⟨a⟩ := z
          have e2 : a = #[] := e'
          subst e2
          unfold repS
          have : ∀ k : Nat, (List.replicate k (#[] : Array Nat)).foldl (· ++ ·) #[] = #[] := fun k => by
            induction k with
            | zero => rfl
            | succ k ih => rw [List.replicate_succ, List.foldl_cons]; exact ih
          rw [this]
      · rw [if_neg h2]
        refine ⟨?_, fin _ _ _ rfl⟩
        rw [hl]
        have key : ∀ (k : Nat) (acc : Array Nat), ((List.replicate k z.cps).foldl (· ++ ·) acc).size = acc.size + k * z.cps.size := fun k => by
          induction k with
          | zero => intro acc; simp
          | succ k ih => intro acc; rw [List.replicate_succ, List.foldl_cons, ih, Array.size_append, Nat.succ_mul]; omega
        show ((List.replicate n.toNat z.cps).foldl (· ++ ·) #[]).size ≤ 16777216
        rw [key]
        have hz' : z.cps.size ≤ 1000 := hz
        have := Nat.mul_le_mul (show n.toNat ≤ 1000 by omega) hz'
        simp
        omega

/-! ### arithmetic -/
def pAdd : PD → PD → Option PD
  | .int i, .int j => some (.int (i + j))
  | .str x, .str y => if x.length + y.length ≤ sizeLine then some (.str (x ++ y)) else none
  | .tuple xs, .tuple ys => if xs.length + ys.length ≤ sizeLine then some (.tuple (xs ++ ys)) else none
  | .list xs, .list ys => if xs.length + ys.length ≤ sizeLine then some (.list (xs ++ ys)) else none
  | .int i, .bool b => some (.int (i + if b then 1 else 0))
  | _, _ => none
instance (i j : Int) : Decidable (CMul i j) := by unfold CMul; infer_instance
instance (i j : Int) : Decidable (CMulW i j) := by unfold CMulW; infer_instance
instance (i j : Int) : Decidable (CDivW i j) := by unfold CDivW; infer_instance
instance (i j : Int) : Decidable (CPow i j) := by unfold CPow; infer_instance
def pMul : PD → PD → Option PD
  | .int i, .int j => if CMul i j then some (.int (i * j)) else none
  | .str x, .int n => if -1000 ≤ n ∧ n ≤ 1000 ∧ x.length ≤ 1000 then some (.str (repS x n.toNat)) else none
  | _, _ => none
def pFdiv : PD → PD → Option PD
  | .int i, .int j => if CDivW i j then some (.int (i / j)) else none
  | _, _ => none
def pMod : PD → PD → Option PD
  | .int i, .int j => if 0 < j then some (.int (i % j)) else none
  | _, _ => none
def pPow : PD → PD → Option PD
  | .int i, .int j => if CPow i j then some (.int (i ^ j.toNat)) else none
  | _, _ => none
section
variable {X : Cx} {pins : List (Addr × Obj)} {σ : St} {H : Hp} {s : Shared}
/-- a tuple, made -/
theorem born_tup {its : List Value} {xs : List V} (I : Inv X pins σ H s) (rel : Vals xs its) (few : xs.length ≤ sizeLine) :
    Inv X pins σ (upd H s.heap.objs.size (tupO { cls := .type "tuple", data := .seq its.toArray } xs)) { s with heap := s.heap.push { cls := .type "tuple", data := .seq its.toArray } } := by
  have at_ : (s.heap.push { cls := .type "tuple", data := .seq its.toArray }).get? s.heap.objs.size = some { cls := .type "tuple", data := .seq its.toArray } := Heap.get?_push_size _ rfl
  refine I.laid (t' := s.toks) (fun b o g => Heap.get?_push_of_some _ g) (Nat.le_refl _) ?_
  unfold tupO
  split
  · exact ⟨few, its, rel, _, at_, rfl, 0, rfl⟩
  · exact ⟨at_, few, its, rel, _, at_, rfl, 0, rfl⟩
end
/-- tuple + tuple; nothing on one side gives the other one itself -/
def rCatF (K : PySem.W.Frag) : R2 := fun x y H Q => ∃ a b xs ys, (x = .ref a ∧ y = .ref b) ∧ (SqT K H a xs ∧ SqT K H b ys) ∧ xs.length + ys.length ≤ sizeLine ∧ (xs = [] → Q (.ref b) H) ∧ (ys = [] → Q (.ref a) H) ∧
  ∀ (o : Obj) p, o.dict = none → H p = none → Q (.ref p) (upd H p (tupO o (xs ++ ys)))
theorem op_catF {X : Cx} : OpR X (binaryOp .Add) (rCatF X.K) := by
  rintro pins s σ H _ _ v u Q I rx ry ⟨a, b, xs, ys, ⟨rfl, rfl⟩, ⟨ta, tb⟩, few, left, right, new⟩
  obtain rfl : v = Value.ref a := rx
  obtain rfl : u = Value.ref b := ry
  obtain ⟨as, ra, ha, _⟩ := I.tuple ta
  obtain ⟨bs, rb, hb, _⟩ := I.tuple tb
  cases xs with
  | nil =>
    cases ra
    exact cat_tup0 ha hb ⟨.ref b, H, I, rfl, left rfl⟩
  | cons x xs =>
    have some_ : as ≠ [] := fun z => by subst z; cases ra
    refine HT.cat_tup ha hb some_ (fun z => ⟨.ref a, H, I, rfl, right (by subst z; cases rb; rfl)⟩) (fun _ => ?_) (by rw [← ra.length, ← rb.length]; exact few)
    exact ⟨.ref _, _, born_tup I (ra.append rb) (by rw [List.length_append]; exact few), rfl, new _ _ rfl (I.hok.fresh (Nat.le_refl _))⟩
section
variable {X : Cx} {k : Kc}
theorem o_add : OpD X k (binaryOp .Add) pAdd := fun hu hK => by
  refine ⟨_, op_add.or (op_add_str.or (op_catF.or (op_cat.or op_add_ib))), fun G H x y dx dy dz Q s hx hy e o => ?_⟩
  cases dx with
  | int i =>
    cases dy with
    | int j => cases e; rw [hx.int, hy.int]; exact .inl ⟨i, j, rfl, rfl, o.here s (.int _)⟩
    | bool b => cases e; rw [hx.int, hy.bl]; exact .inr (.inr (.inr (.inr ⟨i, b, rfl, rfl, o.here s (by cases b <;> exact .int _)⟩)))
    | _ => cases e
  | str i =>
    cases dy with
    | str j =>
      have e' : (if i.length + j.length ≤ sizeLine then some (PyData.str (i ++ j)) else none) = some dz := e
      by_cases hz : i.length + j.length ≤ sizeLine
      · rw [if_pos hz] at e'; cases e'
        rw [hx.str, hy.str]
        exact .inr (.inl ⟨i, j, rfl, rfl, hz, o.here s (.str _)⟩)
      · rw [if_neg hz] at e'; cases e'
    | _ => cases e
  | tuple xs =>
    cases dy with
    | tuple ys =>
      have e' : (if xs.length + ys.length ≤ sizeLine then some (PyData.tuple (xs ++ ys)) else none) = some dz := e
      by_cases hz : xs.length + ys.length ≤ sizeLine
      · rw [if_pos hz] at e'; cases e'
        obtain ⟨a, vs, rfl, h1, r1⟩ := hx.tuple s
        obtain ⟨b, ws, rfl, h2, r2⟩ := hy.tuple s
        rw [hK] at h1 h2
        refine .inr (.inr (.inl ⟨a, b, vs, ws, ⟨rfl, rfl⟩, ⟨h1, h2⟩, by rw [r1.length, r2.length]; exact hz, fun z => ?_, fun z => ?_, o.tup s (r1.append r2)⟩))
        · subst z
          cases r1
          rcases hy with hy | ⟨m, b', M, e1, hy, sm, e2⟩
          · exact o.here s hy
          · cases m <;> cases e2
        · subst z
          cases r2
          rw [List.append_nil] at o
          rcases hx with hx | ⟨m, b', M, e1, hx, sm, e2⟩
          · exact o.here s hx
          · cases m <;> cases e2
      · rw [if_neg hz] at e'; cases e'
    | _ => cases e
  | list xs =>
    cases dy with
    | list ys =>
      have e' : (if xs.length + ys.length ≤ sizeLine then some (PyData.list (xs ++ ys)) else none) = some dz := e
      by_cases hz : xs.length + ys.length ≤ sizeLine
      · rw [if_pos hz] at e'; cases e'
        obtain ⟨a, vs, rfl, h1, r1⟩ := hx.list s
        obtain ⟨b, ws, rfl, h2, r2⟩ := hy.list s
        exact .inr (.inr (.inr (.inl ⟨a, b, vs, ws, rfl, rfl, h1, h2, by rw [r1.length, r2.length]; exact hz, o.lst s (r1.append r2)⟩)))
      · rw [if_neg hz] at e'; cases e'
    | _ => cases e
  | _ => cases e
theorem o_mul : OpD X k (binaryOp .Mult) pMul := fun hu hK => by
  refine ⟨_, op_mul.or op_repS, fun G H x y dx dy dz Q s hx hy e o => ?_⟩
  cases dx with
  | int i =>
    cases dy with
    | int j =>
      have e' : (if CMul i j then some (PyData.int (i * j)) else none) = some dz := e
      by_cases hz : CMul i j
      · rw [if_pos hz] at e'; cases e'
        rw [hx.int, hy.int]; exact .inl ⟨i, j, rfl, rfl, hz, o.here s (.int _)⟩
      · rw [if_neg hz] at e'; cases e'
    | _ => cases e
  | str z =>
    cases dy with
    | int n =>
      have e' : (if -1000 ≤ n ∧ n ≤ 1000 ∧ z.length ≤ 1000 then some (PyData.str (repS z n.toNat)) else none) = some dz := e
      by_cases hz : -1000 ≤ n ∧ n ≤ 1000 ∧ z.length ≤ 1000
      · rw [if_pos hz] at e'; cases e'
        rw [hx.str, hy.int]; exact .inr ⟨z, n, rfl, rfl, hz.2.1, hz.1, hz.2.2, o.here s (.str _)⟩
      · rw [if_neg hz] at e'; cases e'
    | _ => cases e
  | _ => cases e
theorem o_fdiv : OpD X k (binaryOp .FloorDiv) pFdiv := fun hu hK => by
  refine ⟨_, op_fdivW, fun G H x y dx dy dz Q s hx hy e o => ?_⟩
  cases dx with
  | int i =>
    cases dy with
    | int j =>
      have e' : (if CDivW i j then some (PyData.int (i / j)) else none) = some dz := e
      by_cases hz : CDivW i j
      · rw [if_pos hz] at e'; cases e'
        rw [hx.int, hy.int]; exact ⟨i, j, rfl, rfl, hz, o.here s (.int _)⟩
      · rw [if_neg hz] at e'; cases e'
    | _ => cases e
  | _ => cases e
theorem o_mod : OpD X k (binaryOp .Mod) pMod := fun hu hK => by
  refine ⟨_, op_mod, fun G H x y dx dy dz Q s hx hy e o => ?_⟩
  cases dx with
  | int i =>
    cases dy with
    | int j =>
      have e' : (if 0 < j then some (PyData.int (i % j)) else none) = some dz := e
      by_cases hz : 0 < j
      · rw [if_pos hz] at e'; cases e'
        rw [hx.int, hy.int]; exact ⟨i, j, rfl, rfl, hz, o.here s (.int _)⟩
      · rw [if_neg hz] at e'; cases e'
    | _ => cases e
  | _ => cases e
theorem o_pow : OpD X k (binaryOp .Pow) pPow := fun hu hK => by
  refine ⟨_, op_pow, fun G H x y dx dy dz Q s hx hy e o => ?_⟩
  cases dx with
  | int i =>
    cases dy with
    | int j =>
      have e' : (if CPow i j then some (PyData.int (i ^ j.toNat)) else none) = some dz := e
      by_cases hz : CPow i j
      · rw [if_pos hz] at e'; cases e'
        rw [hx.int, hy.int]; exact ⟨i, j, rfl, rfl, hz, o.here s (.int _)⟩
      · rw [if_neg hz] at e'; cases e'
    | _ => cases e
  | _ => cases e

/-! ### comparisons -/
def okD (d : PD) : Bool := plainD d && SeqAt.shaped d
def pEq (x y : PD) : Option PD := if okD x = true ∧ okD y = true then some (.bool (PyData.eqv x y)) else none
def pNe (x y : PD) : Option PD := if okD x = true ∧ okD y = true then some (.bool (!PyData.eqv x y)) else none
theorem okD_of {d : PD} (h : okD d = true) : plainD d = true ∧ SeqAt.shaped d = true := Bool.and_eq_true_iff.mp h
theorem o_eq : OpD X k (compareOp .Eq) pEq := fun hu hK => by
  refine ⟨_, op_eqD (by omega), fun G H x y dx dy dz Q s hx hy e o => ?_⟩
  unfold pEq at e
  by_cases hz : okD dx = true ∧ okD dy = true
  · rw [if_pos hz] at e; cases e
    obtain ⟨p1, s1⟩ := okD_of hz.1
    obtain ⟨p2, s2⟩ := okD_of hz.2
    exact ⟨dx, dy, hK ▸ hx.dp s p1, hK ▸ hy.dp s p2, s1, s2, o.here s (.bl _)⟩
  · rw [if_neg hz] at e; cases e
theorem o_ne : OpD X k (compareOp .NotEq) pNe := fun hu hK => by
  refine ⟨_, op_neD (by omega), fun G H x y dx dy dz Q s hx hy e o => ?_⟩
  unfold pNe at e
  by_cases hz : okD dx = true ∧ okD dy = true
  · rw [if_pos hz] at e; cases e
    obtain ⟨p1, s1⟩ := okD_of hz.1
    obtain ⟨p2, s2⟩ := okD_of hz.2
    exact ⟨dx, dy, hK ▸ hx.dp s p1, hK ▸ hy.dp s p2, s1, s2, o.here s (.bl _)⟩
  · rw [if_neg hz] at e; cases e

def pGt : PD → PD → Option PD
  | .int i, .int j => some (.bool (decide (j < i)))
  | _, _ => none
def pGe : PD → PD → Option PD
  | .int i, .int j => some (.bool (decide (j ≤ i)))
  | _, _ => none
/-- a tuple's ints -/
def intsOf : List PD → Option (List Int)
  | [] => some []
  | .int i :: r => (intsOf r).map (i :: ·)
  | _ :: _ => none
theorem intsOf_some : ∀ {ds : List PD} {ns : List Int}, intsOf ds = some ns → ds = ns.map PyData.int
  | [], ns, h => by cases h; rfl
  | .int i :: r, ns, h => by
    cases q : intsOf r with
    | none => rw [intsOf, q] at h; cases h
    | some ms =>
      rw [intsOf, q] at h
      cases h
      rw [intsOf_some q]; rfl
  | .none :: _, _, h => by cases h
  | .bool _ :: _, _, h => by cases h
  | .str _ :: _, _, h => by cases h
  | .list _ :: _, _, h => by cases h
  | .tuple _ :: _, _, h => by cases h
  | .dict _ :: _, _, h => by cases h
theorem all_ints {G : Hp} {vs : List V} {ns : List Int} (r : RpAll k G vs (ns.map PyData.int)) : vs = ns.map V.int := by
  induction ns generalizing vs with
  | nil => cases r; rfl
  | cons n ns ih =>
    cases r with
    | cons h r => cases h; rw [ih r]; rfl
def pLt : PD → PD → Option PD
  | .int i, .int j => some (.bool (decide (i < j)))
  | .tuple xs, .tuple ys => match intsOf xs, intsOf ys with
    | some ns, some ms => some (.bool (HT.lexLt ns ms))
    | _, _ => none
  | _, _ => none
theorem o_lt : OpD X k (compareOp .Lt) pLt := fun hu hK => by
  refine ⟨_, op_lt.or (op_ltT (by omega)), fun G H x y dx dy dz Q s hx hy e o => ?_⟩
  unfold pLt at e
  split at e
  · cases e
    rw [hx.int, hy.int]
    exact .inl ⟨_, _, rfl, rfl, o.here s (.bl _)⟩
  · rename_i xs ys
    cases e1 : intsOf xs with
    | none => simp only [e1] at e; cases e
    | some ns =>
      cases e2 : intsOf ys with
      | none => simp only [e1, e2] at e; cases e
      | some ms =>
        simp only [e1, e2] at e
        cases e
        have f1 := intsOf_some e1
        have f2 := intsOf_some e2
        subst f1 f2
        obtain ⟨a, us, rfl, h1, r1⟩ := hx.tuple s
        obtain ⟨b, ws, rfl, h2, r2⟩ := hy.tuple s
        have g1 := all_ints r1
        have g2 := all_ints r2
        subst g1 g2
        exact .inr ⟨a, b, ns, ms, rfl, rfl, hK ▸ h1, hK ▸ h2, o.here s (.bl _)⟩
  · cases e
theorem o_gt : OpD X k (compareOp .Gt) pGt := fun hu hK => by
  refine ⟨_, op_gt, fun G H x y dx dy dz Q s hx hy e o => ?_⟩
  cases dx with
  | int i =>
    cases dy with
    | int j => cases e; rw [hx.int, hy.int]; exact ⟨i, j, rfl, rfl, o.here s (.bl _)⟩
    | _ => cases e
  | _ => cases e
theorem o_ge : OpD X k (compareOp .GtE) pGe := fun hu hK => by
  refine ⟨_, op_ge, fun G H x y dx dy dz Q s hx hy e o => ?_⟩
  cases dx with
  | int i =>
    cases dy with
    | int j => cases e; rw [hx.int, hy.int]; exact ⟨i, j, rfl, rfl, o.here s (.bl _)⟩
    | _ => cases e
  | _ => cases e
/-! ### in, not in: the library's rules; a tuple: flat data alone -/
end
end Den

set_option Elab.async false
set_option linter.all false
set_option maxRecDepth 100000
/-! DenE: defs and their calls: what a def does, by data. -/
namespace Den
open PySem PySem.Spec
open PyProof.Rows L2

/-- an argument: a datum, or the j-th mutable that is handed in -/
inductive Ar where
  | val (d : PD) | io (j : Nat)
inductive Rt where
  | ret (d : PD) | fre (xs : List PD) | exc (x : Xc) | bad
abbrev FD := List Ar → List MC → Rt × List MC
def ArOk (k : Kc) (ioA : List Addr) (G : Hp) : Ar → V → Prop
  | .val d, v => Rp k G v d
  | .io j, v => ∃ a, ioA[j]? = some a ∧ v = .ref a
inductive ArAll (k : Kc) (ioA : List Addr) (G : Hp) : List Ar → List V → Prop
  | nil : ArAll k ioA G [] []
  | cons {a : Ar} {v : V} {as : List Ar} {vs : List V} : ArOk k ioA G a v → ArAll k ioA G as vs → ArAll k ioA G (a :: as) (v :: vs)
theorem ArAll.length {k : Kc} {ioA : List Addr} {G : Hp} : ∀ {as : List Ar} {vs : List V}, ArAll k ioA G as vs → as.length = vs.length
  | _, _, .nil => rfl
  | _, _, .cons _ r => by simp [ArAll.length r]
theorem ArAll.get {k : Kc} {ioA : List Addr} {G : Hp} : ∀ {as : List Ar} {vs : List V} {i : Nat} {a : Ar}, ArAll k ioA G as vs → as[i]? = some a → ∃ v, vs[i]? = some v ∧ ArOk k ioA G a v
  | _, _, _, _, .nil, e => nomatch (List.getElem?_nil.symm.trans e)
  | _, _, 0, _, .cons h _, e => by simp at e; subst e; exact ⟨_, rfl, h⟩
  | _, _, i + 1, _, .cons _ r, e => by
    obtain ⟨v, h1, h2⟩ := ArAll.get (i := i) r (by simpa using e)
    exact ⟨v, by simpa using h1, h2⟩
/-- the handed-in mutables as they stand -/
structure RepIo (k : Kc) (ioA : List Addr) (ms : List MC) (H : Hp) (P : Pcs) : Prop where
  pc : Pc H P
  io : ∀ j m, ms[j]? = some m → ∃ a, ioA[j]? = some a ∧ MR k (P .g) m a (P (.io j))
def RtOk (k : Kc) (ioA : List Addr) (P : Pcs) (Q : VK) (E : XK) : Rt × List MC → Prop
  | (.ret d, ms) => ∀ v H' P', Stp P P' → RepIo k ioA ms H' P' → Rp k (P' .g) v d → Q v H'
  | (.fre xs, ms) => ∀ v H' P', Stp P P' → RepIo k ioA ms H' P' → (∃ p, v = .ref p ∧ MR k (P' .g) (.lst xs) p (P' .t)) → Q v H'
  | (.exc x, ms) => ∀ cls dx H' P', Stp P P' → RepIo k ioA ms H' P' → XR k x cls dx H' P' → E cls dx H'
  | (.bad, _) => False
/-- a def's promise, by data -/
def spOf (k : Kc) (F : FD) : Sp := fun vs H Q E => ∃ (as : List Ar) (ms : List MC) (ioA : List Addr) (P : Pcs), RepIo k ioA ms H P ∧ ArAll k ioA (P .g) as vs ∧ RtOk k ioA P Q E (F as ms)

theorem spOf_len {k : Kc} {F : FD} {n : Nat} (hF : ∀ as ms, as.length ≠ n → (F as ms).1 = .bad) {vs : List V} {H : Hp} {Q : VK} {E : XK} (h : spOf k F vs H Q E) : vs.length = n := by
  obtain ⟨as, ms, ioA, P, _, ha, hr⟩ := h
  rw [← ha.length]
  by_cases e : as.length = n
  · exact e
  · have q := hF as ms e
    cases z : F as ms with
    | mk a b =>
      rw [z] at q hr
      have q' : a = .bad := q
      subst q'
      exact hr.elim
/-- a def that keeps its promise, called where no repr runs -/
structure FnG (P : Program) (w : World) (K : PySem.W.Frag) (mg : Str → Option Value) (base : PySem.Heap) (k : Nat) (f : Addr) (fd : FuncData) (ps : List Str) (sp : Sp) : Prop where
  len : ∀ vs H Q E, sp vs H Q E → vs.length = ps.length
  run : ∀ (A : Around) (outer : List Env) (s : Shared) (H : Hp) (args : Args) (us : List Value) (vs : List V) (Q : VK) (E : XK), Room k A → A.guards = some [] → Env0 P w K mg base A outer s H → BindsTo s fd args (ps.zip us) → Vals vs us → sp vs H Q E →
    codeAny (model P w) A (.call (.ref f) args) (CR (L2.CX P w) outer P w H s Q E) s
theorem FnG.mono {P : Program} {w : World} {K : PySem.W.Frag} {mg : Str → Option Value} {base : PySem.Heap} {j k : Nat} {f : Addr} {fd : FuncData} {ps : List Str} {sp : Sp} (F : FnG P w K mg base j f fd ps sp) (h : j ≤ k) : FnG P w K mg base k f fd ps sp :=
  ⟨F.len, fun A outer s H args us vs Q E hr hg => F.run A outer s H args us vs Q E (hr.mono h) hg⟩
/-- how a body may end, seen by the caller -/
def ends (Q : VK) : Ends := { nx := fun _ G => Q .non G, rt := Q }
/-- what is asked of a body, in each state of its entry where no repr runs -/
def BodyG (P : Program) (w : World) (K : PySem.W.Frag) (mg : Str → Option Value) (base : PySem.Heap) (k : Nat) (N : List Str) (qual : Str) (scope : Scope) (body : List Stmt) (f : Addr) (sp : Sp) : Prop :=
  ∀ (cdv : Value) (A : Around) (outer : List Env) (s : Shared) (H : Hp) (vs : List V) (Q : VK) (E : XK),
    Room k (A.deeper (envOfC qual scope s.heap.objs.size f cdv)) → A.guards = some [] → sp vs H Q E →
    ∃ t, PSs (cxOf (L2.CX P w) P w K mg base N qual scope f cdv A outer s H E) body t ∧ t (ends Q) (L2.start N vs) H
/-- the end of a body is the end of the call -/
theorem body_end {X : Cx} {Q : VK} {fl : Flow} {s' : Shared} (h : SP X [] (ends Q) fl s') : ∃ v σ G, Inv X [] σ G s' ∧ RelV v (match fl with | .ret u => u | _ => .none) ∧ Q v G := by
  match fl, h with
  | .ret _, ⟨v, σ, G, J, r, q⟩ => exact ⟨v, σ, G, J, r, q⟩
  | .next, ⟨σ, G, J, q⟩ => exact ⟨.non, σ, G, J, rfl, q⟩
  | .brk, ⟨_, _, _, q⟩ => exact q.elim
  | .cont, ⟨_, _, _, q⟩ => exact q.elim
section
variable {P : Program} {w : World} {K : PySem.W.Frag} {mg : Str → Option Value} {base : PySem.Heap} {k : Nat} {x qual : Str} {params : Arguments} {body : List Stmt} {scope : Scope} {f : Addr} {fd : FuncData} {N ps : List Str} {sp : Sp}
theorem fnG_of (F : FunD K x qual params body scope [] [] f fd) (S : FnScope N ps scope) (len : ∀ vs H Q E, sp vs H Q E → vs.length = ps.length) (hB : BodyG P w K mg base k N qual scope body f sp) : FnG P w K mg base (k + 1) f fd ps sp where
  len := len
  run := by
    intro A outer s H args us vs Q E room gu e0 bnd rel prom
    obtain ⟨_, _, _, _, _, _, _, cdv, _, _, efd, look, code, _, _⟩ := F.ex
    subst efd
    have old : ∀ b o, base.get? b = some o → s.heap.get? b = some o := fun b o z => (e0.bs b o z).1
    have inK : K.In s.heap := e0.mod.kin.keeps old
    have slots : ∀ y ∈ ps.zip us, scope.names.lookup y.1 = some .local ∨ (scope.names.lookup y.1 = some .cell ∧ ((cellsFrom (s.heap.objs.size + 1) scope.names []).lookup y.1).isSome = true) := fun y hy =>
      (S.par y.1 (List.of_mem_zip hy).1).imp id fun c => ⟨c, PySem.W.cellsFrom_some _ _ _ (.inl c)⟩
    apply codeAny_call_function (room.depth) (inK _ _ look) rfl S.co S.gen rfl (PySem.W.codeRec_of inK code)
    apply bnd
    apply wpAny_newFunctionEnv_cells S.kind slots
    intro env eenv s1 entry
    subst eenv
    refine ⟨(e0.mod.nolimit.keeps old).keeps entry.toInCall.keep, codeAny_func ?_⟩
    obtain ⟨t, hb, ht⟩ := hB cdv A outer s H vs Q E (room.deeper _) gu prom
    have I := inv_start (CX := L2.CX P w) (E := E) (f := f) (cd := cdv) (qual := qual) S room.hd e0 (len _ _ _ _ prom) rel entry
    refine wpAny_mono (hb.run [] s1 _ H _ I ht) (fun fl s' h => ?_) fun _ _ h => h
    obtain ⟨v, σ, G, J, r, q⟩ := body_end h
    have back : CE outer P w H s Q _ s' := ⟨v, G, J.os, J.bare, J.base, J.hok, r, q⟩
    cases fl <;> exact back
end

/-- where a call stands: room, no repr around, what a callee may let out is wished for -/
structure Cl (X : Cx) (W : WX) (k : Nat) : Prop where
  room : Room k X.A
  gu : X.A.guards = some []
  tk : Takes X W
  po : PassesOwn (model X.prog X.w) X.A X.env X.xe
theorem run_fnG {X : Cx} {W : WX} {k : Nat} {f : Addr} {fd : FuncData} {ps : List Str} {sp : Sp} {pins : List (Addr × Obj)} {σ : St} {H : Hp} {s : Shared} {Q : VK} {us : List Value} {vs : List V} (F : FnG X.prog X.w X.K X.mg X.base k f fd ps sp) (cl : Cl X W k) (hb : Binds X.K fd ps [])
    (I : L2.Inv X pins σ H s) (r : Vals vs us) (h : sp vs H Q (WE W σ)) : wpAny (model X.prog X.w) X.A (call (.ref f) us) (EP X pins σ Q) X.xe s := by
  have hl : us.length = ps.length := by rw [← r.length]; exact F.len _ _ _ _ h
  have b := hb s us I.kIn (by simpa using hl)
  rw [List.append_nil] at b
  refine wpAny_call (codeAny_mono (F.run X.A X.stack s H ⟨us, []⟩ us vs Q (WE W σ) cl.room cl.gu I.env0 b r h) fun res s' hq => ?_)
  cases res with
  | error e => exact passAt cl.tk σ pins H s e s' I hq
  | ok fl =>
    cases fl with
    | ret u => exact I.after hq
    | _ => exact False.elim hq

/-! ### calls of defs, by data -/
/-- a name that stands for a def that does F -/
structure Cal (P : Program) (w : World) (K : PySem.W.Frag) (mg : Str → Option Value) (base : PySem.Heap) (kc : Kc) (k : Nat) (x : Str) (F : FD) : Prop where
  ex : ∃ (f : Addr) (fd : FuncData) (ps : List Str), mg x = some (.ref f) ∧ PySem.W.keepIn K (.ref f) = true ∧ Binds K fd ps [] ∧ FnG P w K mg base k f fd ps (spOf kc F)
/-- an argument as it is handed in: its datum, or a mutable by its slot -/
inductive Sa where
  | val (f : M PD) | io (i : Nat)
/-- an evaluated argument -/
inductive Ea where
  | val (d : PD) | io (i : Nat)
/-- where the mutable of a slot stands -/
def ixOf (ρ : Rho) (i : Nat) : Option Ix := match ρ.sl[i]? with
  | some (.own _) => some (.sl i)
  | some (.io j) => some (.io j)
  | _ => none
def mHas (i : Nat) : M Unit := fun ρ => match ixOf ρ i with
  | some _ => .ok () ρ
  | none => .bad
def dArgs : List Sa → M (List Ea)
  | [] => mpure []
  | .val f :: r => mbind f fun d => mbind (dArgs r) fun es => mpure (.val d :: es)
  | .io i :: r => mbind (mHas i) fun _ => mbind (dArgs r) fun es => mpure (.io i :: es)
def getC (ρ : Rho) : Ix → Option MC
  | .sl i => (match ρ.sl[i]? with
    | some (.own m) => some m
    | _ => none)
  | .io j => ρ.io[j]?
  | _ => none
def setC (ρ : Rho) (x : Ix) (m : MC) : Rho := match x with
  | .sl i => { ρ with sl := ρ.sl.set i (.own m) }
  | .io j => { ρ with io := ρ.io.set j m }
  | _ => ρ
/-- at most one mutable is handed in: its place among the arguments, the arguments as the def has them -/
def arsOf : List Ea → List Ar
  | [] => []
  | .val d :: r => .val d :: arsOf r
  | .io _ :: r => .io 0 :: arsOf r
def iosOf : List Ea → List Nat
  | [] => []
  | .val _ :: r => iosOf r
  | .io i :: r => i :: iosOf r
def rtM (rt : Rt) (ρ : Rho) : R (Sum PD (List PD)) := match rt with
  | .ret d => .ok (.inl d) ρ
  | .fre xs => .ok (.inr xs) ρ
  | .exc x => .exc x ρ
  | .bad => .bad
/-- the call itself: what it hands back (or a fresh list) -/
def callTail (F : FD) (es : List Ea) : M (Sum PD (List PD)) := fun ρ => match iosOf es with
  | [] => rtM (F (arsOf es) []).1 ρ
  | [i] => (match ixOf ρ i with
    | some x => (match getC ρ x with
      | some m => (match F (arsOf es) [m] with
        | (rt, [m']) => rtM rt (setC ρ x m')
        | _ => .bad)
      | none => .bad)
    | none => .bad)
  | _ => .bad
def dCallX (F : FD) (args : List Sa) : M (Sum PD (List PD)) := mbind (dArgs args) (callTail F)
def dCall (F : FD) (args : List Sa) : M PD := mbind (dCallX F args) fun r => match r with
  | .inl d => mpure d
  | .inr _ => fun _ => .bad
def dCallF (F : FD) (args : List Sa) : M (List PD) := mbind (dCallX F args) fun r => match r with
  | .inl _ => fun _ => .bad
  | .inr xs => mpure xs
def VRea (c : Cc) (σ : St) (P : Pcs) : Ea → V → Prop
  | .val d, v => Rp c.kc (P .g) v d
  | .io i, v => σ[i]? = some (some v)
inductive VReas (c : Cc) (σ : St) (P : Pcs) : List Ea → List V → Prop
  | nil : VReas c σ P [] []
  | cons {p : Ea} {v : V} {ps : List Ea} {vs : List V} : VRea c σ P p v → VReas c σ P ps vs → VReas c σ P (p :: ps) (v :: vs)
theorem VRea.step {c : Cc} {σ : St} {P P' : Pcs} (s : Stp P P') {p : Ea} {v : V} (h : VRea c σ P p v) : VRea c σ P' p v := by
  cases p with
  | val d => exact Rp.mono s.g h
  | io i => exact h
theorem VReas.step {c : Cc} {σ : St} {P P' : Pcs} (s : Stp P P') : ∀ {ps : List Ea} {vs : List V}, VReas c σ P ps vs → VReas c σ P' ps vs
  | _, _, .nil => .nil
  | _, _, .cons h r => .cons (h.step s) (VReas.step s r)
def DAs (X : Cx) (c : Cc) (W : WX) (es : List Expr) (args : List Sa) : Prop := Gd X c → ∀ ioA, PA X es (tM c ioA W (fun ps vs σ _ P => VReas c σ P ps vs) (dArgs args))
section
variable {X : Cx} {c : Cc} {W : WX} {e : Expr} {es : List Expr} {f : M PD} {args : List Sa} {pos : Pos}
theorem das_nil : DAs X c W [] [] := fun gd ioA => PA.imp pa_nil fun σ H Q ⟨ρ, P, rp, h⟩ => h.pure rp .nil
theorem das_val (ha : DE X c W e f) (hr : DAs X c W es args) (hs : starEach (e :: es) X.env = (false, eval e X.env) :: starEach es X.env := by rfl) : DAs X c W (e :: es) (.val f :: args) := fun gd ioA => by
  refine PA.imp (pa_cons (ha gd ioA) (hr gd ioA) hs) fun σ H Q ⟨ρ, P, rp, h⟩ => ⟨ρ, P, rp, h.bind.mono fun x H1 ⟨d, ρ1, P1, s1, r1, v1, h1⟩ => ⟨ρ1, P1, r1, h1.bind.mono fun xs H2 ⟨ds, ρ2, P2, s2, r2, v2, h2⟩ => ?_⟩⟩
  exact h2.pure r2 (.cons (VRea.step (p := .val d) s2 v1) v2)
theorem das_io (i : Nat) {x : Str} {p : Pos} (hr : DAs X c W es args) (hN : X.N[i]? = some x := by rfl) (hv : Vis X.env.scope x := by first | exact Or.inl rfl | exact Or.inr (Or.inl rfl) | exact Or.inr (Or.inr rfl)) (hd : (x == ("__debug__" : Str)) = false := by decide)
    (hcd : (x == ("__classdict__" : Str)) = false := by decide) (hs : starEach (Expr.Name x p :: es) X.env = (false, eval (Expr.Name x p) X.env) :: starEach es X.env := by rfl) : DAs X c W (.Name x p :: es) (.io i :: args) := fun gd ioA => by
  refine PA.imp (pa_cons (pe_var hN hv hd hcd) (hr gd ioA) hs) fun σ H Q ⟨ρ, P, rp, h⟩ => ?_
  have h1 := h.bind (VR := fun _ (_ : Unit) _ _ _ => True)
  unfold tMat mHas at h1
  cases e : ixOf ρ i with
  | none => simp only [e] at h1
  | some y =>
    simp only [e] at h1
    obtain ⟨_, ρ1, P1, s1, r1, _, h2⟩ := h1 () H P (Stp.refl _) rp trivial
    have hv2 : ∃ v, σ[i]? = some (some v) := by
      unfold ixOf at e
      cases q : ρ.sl[i]? with
      | none => simp only [q] at e; cases e
      | some s =>
        have so := rp.so i s q
        cases s with
        | own m => obtain ⟨a, e1, _⟩ := so; exact ⟨_, e1⟩
        | io j => obtain ⟨a, _, e1⟩ := so; exact ⟨_, e1⟩
        | _ => simp only [q] at e; cases e
    obtain ⟨v, ev⟩ := hv2
    have h2 : tMat c ioA W (fun ps vs σ _ P => VReas c σ P ps vs) (mbind (dArgs args) fun es => mpure (Ea.io i :: es)) ρ1 P1 σ Q := h2
    refine ⟨v, ev, ρ1, P1, r1, h2.bind.mono fun xs H2 ⟨ds, ρ2, P2, s2, r2, v2, h3⟩ => ?_⟩
    exact h3.pure r2 (.cons (show VRea c σ P2 (.io i) v from ev) v2)
end

/-! ### the heap around a call -/
open Classical in
noncomputable def restH (P : Pcs) (H : Hp) (no : Ix → Prop) : Hp := fun a => if ∃ y, ¬ no y ∧ P y a ≠ none then H a else none
theorem restH_of {P : Pcs} {H : Hp} {no : Ix → Prop} (h : Pc H P) {y : Ix} (n : ¬ no y) : Same (P y) (restH P H no) := fun a o e => by
  unfold restH
  rw [if_pos ⟨y, n, by rw [e]; simp⟩]
  exact h.sub y a o e
theorem restH_sub {P : Pcs} {H : Hp} {no : Ix → Prop} : Same (restH P H no) H := fun a o e => by
  unfold restH at e
  split at e
  · exact e
  · cases e
theorem restH_dis {P : Pcs} {H : Hp} {no : Ix → Prop} (h : Pc H P) {z : Ix} (n : no z) : Disj (P z) (restH P H no) := fun a => by
  unfold restH
  split
  · rename_i q
    obtain ⟨y, h1, h2⟩ := q
    have ne : z ≠ y := fun e => h1 (e ▸ n)
    rcases h.dis z y ne a with e | e
    · exact .inl e
    · exact absurd e h2
  · exact .inr rfl
noncomputable def befP (P : Pcs) (H : Hp) (x : Option Ix) : Pcs := fun y => match y with
  | .g => P .g
  | .f => restH P H (fun y => y = .g ∨ y = .t ∨ some y = x)
  | .io 0 => (match x with
    | some x => P x
    | none => emp)
  | _ => emp
def aftP (P P' : Pcs) (x : Option Ix) : Pcs := fun y => if y = .g then P' .g else if y = .t then P' .t else if some y = x then P' (.io 0) else P y
theorem befP_pc {P : Pcs} {H : Hp} {x : Option Ix} (h : Pc H P) (hg : x ≠ some .g) : Pc H (befP P H x) := by
  have d1 : Disj (P .g) (befP P H x .f) := restH_dis h (.inl rfl)
  have d2 : Disj (befP P H x (.io 0)) (befP P H x .f) := by
    cases x with
    | none => exact fun _ => .inl rfl
    | some x => exact restH_dis h (.inr (.inr rfl))
  have d3 : Disj (P .g) (befP P H x (.io 0)) := by
    cases x with
    | none => exact fun _ => .inr rfl
    | some x => exact h.dis _ _ fun e => hg (by rw [← e])
  refine ⟨fun y => ?_, fun y z n => ?_⟩
  · match y with
    | .g => exact h.sub .g
    | .f => exact restH_sub
    | .io 0 =>
      cases x with
      | none => exact same_emp
      | some x => exact h.sub x
    | .io (j + 1) => exact same_emp
    | .t => exact same_emp
    | .sl i => exact same_emp
  · match y, z, n with
    | .g, .f, _ => exact d1
    | .f, .g, _ => exact d1.symm
    | .g, .io 0, _ => exact d3
    | .io 0, .g, _ => exact d3.symm
    | .f, .io 0, _ => exact d2.symm
    | .io 0, .f, _ => exact d2
    | .io 0, .io 0, n => exact absurd rfl n
    | .g, .g, n => exact absurd rfl n
    | .f, .f, n => exact absurd rfl n
    | .t, _, _ => exact fun _ => .inl rfl
    | .sl _, _, _ => exact fun _ => .inl rfl
    | .io (_ + 1), _, _ => exact fun _ => .inl rfl
    | _, .t, _ => exact fun _ => .inr rfl
    | _, .sl _, _ => exact fun _ => .inr rfl
    | _, .io (_ + 1), _ => exact fun _ => .inr rfl
theorem aftP_pc {P P' : Pcs} {H H' : Hp} {x : Option Ix} (h : Pc H P) (h' : Pc H' P') (hf : P' .f = befP P H x .f) : Pc H' (aftP P P' x) := by
  have key : ∀ y, aftP P P' x y = P' .g ∧ y = .g ∨ aftP P P' x y = P' .t ∧ y = .t ∨ aftP P P' x y = P' (.io 0) ∧ some y = x ∧ y ≠ .g ∧ y ≠ .t ∨ aftP P P' x y = P y ∧ Same (P y) (P' .f) := fun y => by
    unfold aftP
    by_cases e1 : y = .g
    · exact .inl ⟨if_pos e1, e1⟩
    · rw [if_neg e1]
      by_cases e2 : y = .t
      · exact .inr (.inl ⟨if_pos e2, e2⟩)
      · rw [if_neg e2]
        by_cases e3 : some y = x
        · exact .inr (.inr (.inl ⟨if_pos e3, e3, e1, e2⟩))
        · refine .inr (.inr (.inr ⟨if_neg e3, ?_⟩))
          rw [hf]
          exact restH_of h (by simp only [not_or]; exact ⟨e1, e2, e3⟩)
  refine ⟨fun y => ?_, fun y z n => ?_⟩
  · rcases key y with ⟨e, _⟩ | ⟨e, _⟩ | ⟨e, _⟩ | ⟨e, q⟩
    · rw [e]; exact h'.sub _
    · rw [e]; exact h'.sub _
    · rw [e]; exact h'.sub _
    · rw [e]; exact fun a o r => h'.sub .f a o (q a o r)
  · have off : ∀ {A : Hp} {w : Ix}, w ≠ .f → Same A (P' .f) → Disj (P' w) A := fun {A w} nw q => (Disj.of fun a o r => (h'.dis .f w (Ne.symm nw)).r (q a o r)).symm
    rcases key y with ⟨e, ey⟩ | ⟨e, ey⟩ | ⟨e, ey, g1, g2⟩ | ⟨e, q⟩ <;> rcases key z with ⟨e', ez⟩ | ⟨e', ez⟩ | ⟨e', ez, k1, k2⟩ | ⟨e', q'⟩ <;> rw [e, e']
    · exact absurd (ey.trans ez.symm) n
    · exact h'.dis _ _ (by simp)
    · exact h'.dis _ _ (by simp)
    · exact off (by simp) q'
    · exact h'.dis _ _ (by simp)
    · exact absurd (ey.trans ez.symm) n
    · exact h'.dis _ _ (by simp)
    · exact off (by simp) q'
    · exact h'.dis _ _ (by simp)
    · exact h'.dis _ _ (by simp)
    · exact absurd (Option.some.inj (ey.trans ez.symm)) n
    · exact off (by simp) q'
    · exact (off (by simp) q).symm
    · exact (off (by simp) q).symm
    · exact (off (by simp) q).symm
    · exact h.dis y z n
theorem aft_g {P P' : Pcs} {x : Option Ix} : aftP P P' x .g = P' .g := if_pos rfl
theorem aft_t {P P' : Pcs} {x : Option Ix} : aftP P P' x .t = P' .t := by unfold aftP; rw [if_neg (by simp), if_pos rfl]
theorem aft_x {P P' : Pcs} {x : Ix} (h1 : x ≠ .g) (h2 : x ≠ .t) : aftP P P' (some x) x = P' (.io 0) := by unfold aftP; rw [if_neg h1, if_neg h2, if_pos rfl]
theorem aft_o {P P' : Pcs} {x : Option Ix} {y : Ix} (h1 : y ≠ .g) (h2 : y ≠ .t) (h3 : some y ≠ x) : aftP P P' x y = P y := by unfold aftP; rw [if_neg h1, if_neg h2, if_neg h3]
/-- behind a call that was handed nothing that changes -/
theorem RepW.aft0 {c : Cc} {ioA : List Addr} {ρ : Rho} {σ : St} {H H' : Hp} {P P' : Pcs} (r : RepW c ioA ρ σ H P) (h' : Pc H' P') (s : Stp (befP P H none) P') : RepW c ioA ρ σ H' (aftP P P' none) ∧ Stp P (aftP P P' none) := by
  have hg : Same (P .g) (aftP P P' none .g) := by rw [aft_g]; exact s.g
  refine ⟨⟨aftP_pc r.pc h' s.f, r.len, fun i sl e => ?_, fun j m e => ?_⟩, ⟨hg, aft_o (by simp) (by simp) (by simp)⟩⟩
  · rw [aft_o (y := .sl i) (by simp) (by simp) (by simp)]
    exact (r.so i sl e).mono hg
  · obtain ⟨a, e1, q⟩ := r.io j m e
    rw [aft_o (y := .io j) (by simp) (by simp) (by simp)]
    exact ⟨a, e1, q.mono hg⟩
/-- behind a call that was handed one mutable -/
theorem RepW.aft1 {c : Cc} {ioA : List Addr} {ρ : Rho} {σ : St} {H H' : Hp} {P P' : Pcs} {x : Ix} {m m' : MC} {a : Addr} (r : RepW c ioA ρ σ H P) (hm : getC ρ x = some m) (ha : MR c.kc (P .g) m a (P x)) (hx : (∃ i, x = .sl i ∧ σ[i]? = some (some (.ref a))) ∨ ∃ j, x = .io j ∧ ioA[j]? = some a)
    (h' : Pc H' P') (s : Stp (befP P H (some x)) P') (hm' : MR c.kc (P' .g) m' a (P' (.io 0))) : RepW c ioA (setC ρ x m') σ H' (aftP P P' (some x)) ∧ Stp P (aftP P P' (some x)) := by
  have hg : Same (P .g) (aftP P P' (some x) .g) := by rw [aft_g]; exact s.g
  rcases hx with ⟨i, rfl, hs⟩ | ⟨j, rfl, hs⟩
  · refine ⟨⟨aftP_pc r.pc h' s.f, by show σ.length = (ρ.sl.set i _).length; rw [List.length_set]; exact r.len, fun i2 sl e => ?_, fun j m2 e => ?_⟩, ⟨hg, aft_o (by simp) (by simp) (by simp)⟩⟩
    · have e' : (ρ.sl.set i (.own m'))[i2]? = some sl := e
      rw [List.getElem?_set] at e'
      by_cases hi : i = i2
      · subst hi
        simp only [if_true] at e'
        split at e'
        · cases e'
          rw [aft_x (by simp) (by simp), aft_g]
          exact ⟨a, hs, hm'⟩
        · cases e'
      · rw [if_neg hi] at e'
        rw [aft_o (y := .sl i2) (by simp) (by simp) (by simp; exact fun z => hi z.symm)]
        exact (r.so i2 sl e').mono hg
    · obtain ⟨b, e1, q⟩ := r.io j m2 e
      rw [aft_o (y := .io j) (by simp) (by simp) (by simp)]
      exact ⟨b, e1, q.mono hg⟩
  · refine ⟨⟨aftP_pc r.pc h' s.f, r.len, fun i2 sl e => ?_, fun j2 m2 e => ?_⟩, ⟨hg, aft_o (by simp) (by simp) (by simp)⟩⟩
    · rw [aft_o (y := .sl i2) (by simp) (by simp) (by simp)]
      exact (r.so i2 sl e).mono hg
    · have e' : (ρ.io.set j m')[j2]? = some m2 := e
      rw [List.getElem?_set] at e'
      by_cases hj : j = j2
      · subst hj
        simp only [if_true] at e'
        split at e'
        · cases e'
          rw [aft_x (by simp) (by simp), aft_g]
          exact ⟨a, hs, hm'⟩
        · cases e'
      · rw [if_neg hj] at e'
        obtain ⟨b, e1, q⟩ := r.io j2 m2 e'
        rw [aft_o (y := .io j2) (by simp) (by simp) (by simp; exact fun z => hj z.symm)]
        exact ⟨b, e1, q.mono hg⟩
end Den

set_option Elab.async false
set_option linter.all false
set_option maxRecDepth 100000
/-! DenF: calls of defs. -/
namespace Den
open PySem PySem.Spec
open PyProof.Rows L2

def VRx (c : Cc) : Sum PD (List PD) → V → St → Hp → Pcs → Prop := fun r v σ H P => match r with
  | .inl d => VRe c d v σ H P
  | .inr xs => VRf c xs v σ H P
def DX (X : Cx) (c : Cc) (W : WX) (e : Expr) (f : M (Sum PD (List PD))) : Prop := Gd X c → ∀ ioA, PE X e (tM c ioA W (VRx c) f)
theorem ars_none {k : Kc} {c : Cc} {σ : St} {P : Pcs} : ∀ {es : List Ea} {vs : List V}, VReas c σ P es vs → iosOf es = [] → ArAll c.kc [] (P .g) (arsOf es) vs
  | _, _, .nil, _ => .nil
  | _, _, .cons (p := .val d) h r, e => .cons h (ars_none (k := k) r e)
  | _, _, .cons (p := .io i) h r, e => by cases e
theorem ars_one {c : Cc} {σ : St} {P : Pcs} {i : Nat} {a : Addr} (ha : σ[i]? = some (some (.ref a))) : ∀ {es : List Ea} {vs : List V}, VReas c σ P es vs → (∀ j ∈ iosOf es, j = i) → ArAll c.kc [a] (P .g) (arsOf es) vs
  | _, _, .nil, _ => .nil
  | _, _, .cons (p := .val d) h r, e => .cons h (ars_one ha r e)
  | _, _, .cons (p := .io j) h r, e => .cons (by
      have ej : j = i := e j List.mem_cons_self
      subst ej
      have h' : σ[j]? = some (some _) := h
      rw [ha] at h'
      cases h'
      exact ⟨a, rfl, rfl⟩) (ars_one ha r fun j hj => e j (List.mem_cons_of_mem _ hj))
theorem XR.out {k : Kc} {x : Xc} {cls : Value} {dx : Option Addr} {H' : Hp} {P P' : Pcs} {o : Option Ix} {H : Hp} (h : XR k x cls dx H' P') (hp : Pc H P) (hf : P' .f = befP P H o .f) : XR k x cls dx H' (aftP P P' o) := by
  obtain ⟨C, M, h1, h2, h3, h4, h6⟩ := h
  refine ⟨C, M, h1, h2, by rw [aft_g]; exact h3, h4, fun y => ?_⟩
  unfold aftP
  by_cases e1 : y = .g
  · rw [if_pos e1]; exact h6 _
  · rw [if_neg e1]
    by_cases e2 : y = .t
    · rw [if_pos e2]; exact h6 _
    · rw [if_neg e2]
      by_cases e3 : some y = o
      · rw [if_pos e3]; exact h6 _
      · rw [if_neg e3]
        have q := h6 .f
        rw [hf] at q
        refine Disj.of fun d u e => ?_
        have z := restH_of hp (no := fun y => y = .g ∨ y = .t ∨ some y = o) (y := y) (by simp only [not_or]; exact ⟨e1, e2, e3⟩) d u e
        exact q.r z
theorem call_core {c : Cc} {ioA : List Addr} {W : WX} {ρ : Rho} {P : Pcs} {σ : St} {H : Hp} {Q : VK} {F : FD} {es : List Ea} {vs : List V} (r : RepW c ioA ρ σ H P) (hv : VReas c σ P es vs)
    (h : tMat c ioA W (VRx c) (callTail F es) ρ P σ Q) : spOf c.kc F vs H Q (WE W σ) := by
  unfold tMat callTail at h
  cases ei : iosOf es with
  | nil =>
    simp only [ei] at h
    have r0 : RepIo c.kc [] [] H (befP P H none) := ⟨befP_pc r.pc (by simp), fun j m e => by simp at e⟩
    refine ⟨arsOf es, [], [], befP P H none, r0, show ArAll c.kc [] (P .g) (arsOf es) vs from ars_none (k := c.kc) hv ei, ?_⟩
    cases eF : F (arsOf es) [] with
    | mk rt ms' =>
      rw [eF] at h
      cases rt with
      | ret d =>
        intro v H' P' s ri hd
        obtain ⟨r1, s1⟩ := r.aft0 ri.pc s
        exact h v H' _ s1 r1 (by show Rp c.kc _ v d; rw [aft_g]; exact hd)
      | fre xs =>
        intro v H' P' s ri hd
        obtain ⟨r1, s1⟩ := r.aft0 ri.pc s
        exact h v H' _ s1 r1 (by obtain ⟨p, e1, e2⟩ := hd; exact ⟨p, e1, by rw [aft_g, aft_t]; exact e2⟩)
      | exc x =>
        intro cls dx H' P' s ri hd
        obtain ⟨r1, s1⟩ := r.aft0 ri.pc s
        exact h cls dx H' _ s1 r1 (hd.out r.pc s.f)
      | bad => exact h.elim
  | cons i rest =>
    cases rest with
    | cons _ _ => simp only [ei] at h
    | nil =>
      simp only [ei] at h
      cases ex : ixOf ρ i with
      | none => simp only [ex] at h
      | some x =>
        simp only [ex] at h
        cases em : getC ρ x with
        | none => simp only [em] at h
        | some m =>
          simp only [em] at h
          -- where it stands
          have key : ∃ a, σ[i]? = some (some (.ref a)) ∧ MR c.kc (P .g) m a (P x) ∧ ((∃ i, x = .sl i ∧ σ[i]? = some (some (.ref a))) ∨ ∃ j, x = .io j ∧ ioA[j]? = some a) := by
            unfold ixOf at ex
            cases q : ρ.sl[i]? with
            | none => simp only [q] at ex; cases ex
            | some s =>
              have so := r.so i s q
              cases s with
              | own m0 =>
                simp only [q] at ex
                cases ex
                have em' : (match ρ.sl[i]? with | some (.own m) => some m | _ => none) = some m := em
                simp only [q] at em'
                cases em'
                obtain ⟨a, e1, e2⟩ := so
                exact ⟨a, e1, e2, .inl ⟨i, rfl, e1⟩⟩
              | io j =>
                simp only [q] at ex
                cases ex
                obtain ⟨a, e1, e2⟩ := so
                obtain ⟨b, e3, e4⟩ := r.io j m em
                rw [e1] at e3
                cases e3
                exact ⟨a, e2, e4, .inr ⟨j, rfl, e1⟩⟩
              | _ => simp only [q] at ex; cases ex
          obtain ⟨a, ha, hm, hx⟩ := key
          have xg : x ≠ .g := by rcases hx with ⟨_, rfl, _⟩ | ⟨_, rfl, _⟩ <;> simp
          have r0 : RepIo c.kc [a] [m] H (befP P H (some x)) := ⟨befP_pc r.pc (by simpa using xg), fun j m' e => by
            cases j with
            | zero => simp at e; subst e; exact ⟨a, rfl, hm⟩
            | succ j => simp at e⟩
          refine ⟨arsOf es, [m], [a], befP P H (some x), r0, show ArAll c.kc [a] (P .g) (arsOf es) vs from ars_one ha hv (by rw [ei]; intro j hj; simpa using hj), ?_⟩
          cases eF : F (arsOf es) [m] with
          | mk rt ms' =>
            rw [eF] at h
            cases ms' with
            | nil => exact h.elim
            | cons m' rest =>
              cases rest with
              | cons _ _ => exact h.elim
              | nil =>
                have back : ∀ {H' : Hp} {P' : Pcs}, Stp (befP P H (some x)) P' → RepIo c.kc [a] [m'] H' P' → RepW c ioA (setC ρ x m') σ H' (aftP P P' (some x)) ∧ Stp P (aftP P P' (some x)) := fun {H' P'} s ri => by
                  obtain ⟨b, e1, e2⟩ := ri.io 0 m' rfl
                  have e1' : a = b := Option.some.inj e1
                  subst e1'
                  exact r.aft1 em hm hx ri.pc s e2
                cases rt with
                | ret d =>
                  intro v H' P' s ri hd
                  obtain ⟨r1, s1⟩ := back s ri
                  exact h v H' _ s1 r1 (by show Rp c.kc _ v d; rw [aft_g]; exact hd)
                | fre xs =>
                  intro v H' P' s ri hd
                  obtain ⟨r1, s1⟩ := back s ri
                  exact h v H' _ s1 r1 (by obtain ⟨p, e1, e2⟩ := hd; exact ⟨p, e1, by rw [aft_g, aft_t]; exact e2⟩)
                | exc y =>
                  intro cls dx H' P' s ri hd
                  obtain ⟨r1, s1⟩ := back s ri
                  exact h cls dx H' _ s1 r1 (hd.out r.pc s.f)
                | bad => exact h.elim
section
variable {X : Cx} {c : Cc} {W : WX} {x : Str} {F : FD} {k j : Nat} {e o : Expr} {es : List Expr} {args : List Sa} {p pos apos : Pos}
/-- plain arguments, no star among them -/
structure Flat (X : Cx) (pos : Pos) (e : Expr) (es : List Expr) : Prop where
  head : starEach (e :: es) X.env = (false, eval e X.env) :: starEach es X.env
  tail : (backTo pos (starEach es X.env)).any (·.1) = false
/-- the called name gives the def's object, its frame has what the call needs -/
theorem fun_name {pins : List (Addr × Obj)} {s : Shared} {σ : St} {H : Hp} {f : Addr} {Q : VK} {kw : List Keyword} {as : List Expr} (I : L2.Inv X pins σ H s) (hg : Gl X x) (hm : X.mg x = some (.ref f)) (nd : (x == ("__debug__" : Str)) = false)
    (h : wpAny (model X.prog X.w) X.A (callWith pos (.ref f) [] (backTo pos (starEach as X.env)) (backToKw pos (keywordEach kw X.env))) (EP X pins σ Q) X.xe s) : wpAny (model X.prog X.w) X.A (eval (.Call (.Name x p) as kw pos) X.env) (EP X pins σ Q) X.xe s := by
  apply wpAny_Call_Name_kw
  apply ld_glob I hg hm _ nd
  exact h
theorem dx_call (C : Cal X.prog X.w X.K X.mg X.base c.kc k x F) (cl : Cl X W j) (hk : k ≤ j) (hg : Gl X x) (ha : DAs X c W (e :: es) args) (nd : (x == ("__debug__" : Str)) = false := by decide) (fl : Flat X pos e es := by exact ⟨rfl, rfl⟩) :
    DX X c W (.Call (.Name x p) (e :: es) [] pos) (dCallX F args) := fun gd ioA => by
  obtain ⟨f, fd, ps, hm, kept, bnd, G⟩ := C.ex
  have low : Cl X W k := ⟨cl.room.mono hk, cl.gu, cl.tk, cl.po⟩
  constructor
  rintro pins s σ H Q I ⟨ρ, P, rp, h⟩
  apply fun_name I hg hm nd
  have run := (ha gd ioA).run pos pins s σ H _ I ⟨ρ, P, rp, h.bind⟩
  refine PySem.W.callWith_K (h₀ := X.base) I.ok.mod.kin kept (thn run ?_) fl.head fl.tail
  rintro us s1 ⟨vs, H1, I1, rel, as', ρ1, P1, _, r1, v1, h1⟩
  exact ⟨I1.kIn, run_fnG G low bnd I1 rel (call_core r1 v1 h1)⟩
theorem de_x {f : M (Sum PD (List PD))} (h : DX X c W e f) : DE X c W e (mbind f fun r => match r with
  | .inl d => mpure d
  | .inr _ => fun _ => .bad) := fun gd ioA => by
  refine PE.imp (h gd ioA) fun σ H Q ⟨ρ, P, rp, h⟩ => ⟨ρ, P, rp, h.bind.mono fun x H1 ⟨r, ρ1, P1, s1, r1, v1, h1⟩ => ?_⟩
  cases r with
  | inl d => exact h1.pure r1 v1
  | inr xs => exact h1.elim
theorem df_x {f : M (Sum PD (List PD))} (h : DX X c W e f) : DF X c W e (mbind f fun r => match r with
  | .inl _ => fun _ => .bad
  | .inr xs => mpure xs) := fun gd ioA => by
  refine PE.imp (h gd ioA) fun σ H Q ⟨ρ, P, rp, h⟩ => ⟨ρ, P, rp, h.bind.mono fun x H1 ⟨r, ρ1, P1, s1, r1, v1, h1⟩ => ?_⟩
  cases r with
  | inl d => exact h1.elim
  | inr xs => exact h1.pure r1 v1
theorem de_call (C : Cal X.prog X.w X.K X.mg X.base c.kc k x F) (cl : Cl X W j) (hk : k ≤ j) (hg : Gl X x) (ha : DAs X c W (e :: es) args) (nd : (x == ("__debug__" : Str)) = false := by decide) (fl : Flat X pos e es := by exact ⟨rfl, rfl⟩) :
    DE X c W (.Call (.Name x p) (e :: es) [] pos) (dCall F args) := de_x (dx_call C cl hk hg ha nd fl)
theorem df_call (C : Cal X.prog X.w X.K X.mg X.base c.kc k x F) (cl : Cl X W j) (hk : k ≤ j) (hg : Gl X x) (ha : DAs X c W (e :: es) args) (nd : (x == ("__debug__" : Str)) = false := by decide) (fl : Flat X pos e es := by exact ⟨rfl, rfl⟩) :
    DF X c W (.Call (.Name x p) (e :: es) [] pos) (dCallF F args) := df_x (dx_call C cl hk hg ha nd fl)
/-- a fresh list is frozen -/
theorem de_f {f : M (List PD)} (h : DF X c W e f) : DE X c W e (mbind f fun xs => mpure (.list xs)) := fun gd ioA => by
  refine PE.imp (h gd ioA) fun σ H Q ⟨ρ, P, rp, h⟩ => ⟨ρ, P, rp, h.bind.mono fun v H1 ⟨xs, ρ1, P1, s1, r1, v1, h1⟩ => ?_⟩
  obtain ⟨p, rfl, hm⟩ := v1
  have hG : Same (P1 .g) (uni (P1 .g) (P1 .t)) := same_uni_l
  have r2 : RepW c ioA ρ1 σ H1 (put (put P1 .t emp) .g (uni (P1 .g) (P1 .t))) := by
    refine ⟨r1.pc.move (by simp), r1.len, fun i s q => ?_, fun j m q => ?_⟩
    · rw [put_same, put_ne (by simp), put_ne (by simp)]
      exact (r1.so i s q).mono hG
    · obtain ⟨a, e1, e2⟩ := r1.io j m q
      rw [put_same, put_ne (by simp), put_ne (by simp)]
      exact ⟨a, e1, e2.mono hG⟩
  exact (h1.back (P := put (put P1 .t emp) .g (uni (P1 .g) (P1 .t))) ⟨by rw [put_same]; exact hG, by rw [put_ne (by simp), put_ne (by simp)]⟩).pure r2 (by
    show Rp c.kc _ _ _
    rw [put_same]
    exact hm.rp hG (same_uni_r (r1.pc.dis _ _ (by simp))))
end
end Den

set_option Elab.async false
set_option linter.all false
set_option maxRecDepth 100000
/-! DenG: statements, targets, loops. -/
namespace Den
open PySem PySem.Spec
open PyProof.Rows L2

inductive Fl where
  | nx | bk | ct | ret (d : PD) | fre (xs : List PD)
def tSat (c : Cc) (ioA : List Addr) (W : WX) (g : M Fl) (ρ : Rho) (P : Pcs) (D : Ends) : Prop := match g ρ with
  | .ok .nx ρ' => ∀ σ' H' P', Stp P P' → RepW c ioA ρ' σ' H' P' → D.nx σ' H'
  | .ok .bk ρ' => ∀ σ' H' P', Stp P P' → RepW c ioA ρ' σ' H' P' → D.bk σ' H'
  | .ok .ct ρ' => ∀ σ' H' P', Stp P P' → RepW c ioA ρ' σ' H' P' → D.ct σ' H'
  | .ok (.ret d) ρ' => ∀ v σ' H' P', Stp P P' → RepW c ioA ρ' σ' H' P' → Rp c.kc (P' .g) v d → D.rt v H'
  | .ok (.fre xs) ρ' => ∀ v σ' H' P', Stp P P' → RepW c ioA ρ' σ' H' P' → VRf c xs v σ' H' P' → D.rt v H'
  | .exc x ρ' => ∀ cls dx σ' H' P', Stp P P' → RepW c ioA ρ' σ' H' P' → XR c.kc x cls dx H' P' → W cls dx σ' H'
  | .bad => False
def tS (c : Cc) (ioA : List Addr) (W : WX) (g : M Fl) : TS := fun D σ H => ∃ ρ P, RepW c ioA ρ σ H P ∧ tSat c ioA W g ρ P D
def DS (X : Cx) (c : Cc) (W : WX) (st : Stmt) (g : M Fl) : Prop := Gd X c → ∀ ioA, PS X st (tS c ioA W g)
def DSs (X : Cx) (c : Cc) (W : WX) (st : List Stmt) (g : M Fl) : Prop := Gd X c → ∀ ioA, PSs X st (tS c ioA W g)
section
variable {c : Cc} {ioA : List Addr} {W : WX} {ρ : Rho} {P P0 : Pcs} {σ : St} {H : Hp} {D : Ends}
theorem tSat.back {g : M Fl} (h : tSat c ioA W g ρ P0 D) (s0 : Stp P0 P) : tSat c ioA W g ρ P D := by
  unfold tSat at h ⊢
  cases e : g ρ with
  | ok fl ρ' =>
    rw [e] at h
    cases fl with
    | nx => exact fun σ' H' P' s => h σ' H' P' (s0.trans s)
    | bk => exact fun σ' H' P' s => h σ' H' P' (s0.trans s)
    | ct => exact fun σ' H' P' s => h σ' H' P' (s0.trans s)
    | ret d => exact fun v σ' H' P' s => h v σ' H' P' (s0.trans s)
    | fre d => exact fun v σ' H' P' s => h v σ' H' P' (s0.trans s)
  | exc x ρ' => rw [e] at h; exact fun cls dx σ' H' P' s => h cls dx σ' H' P' (s0.trans s)
  | bad => rw [e] at h; exact h
/-- an expression, then the rest -/
theorem tSat.bind {α β : Type} {VR : α → β → St → Hp → Pcs → Prop} {f : M α} {k : α → M Fl} (h : tSat c ioA W (mbind f k) ρ P D) :
    tMat c ioA W VR f ρ P σ (fun b H1 => ∃ a ρ1 P1, Stp P P1 ∧ RepW c ioA ρ1 σ H1 P1 ∧ VR a b σ H1 P1 ∧ tSat c ioA W (k a) ρ1 P1 D) := by
  unfold tMat
  unfold tSat mbind at h
  cases e : f ρ with
  | ok a ρ' =>
    rw [e] at h
    refine fun b H' P' s r v => ⟨a, ρ', P', s, r, v, ?_⟩
    have h' : tSat c ioA W (k a) ρ' P D := h
    exact h'.back s
  | exc x ρ' => rw [e] at h; exact fun cls dx H' P' => h cls dx σ H' P'
  | bad => rw [e] at h; exact h.elim
theorem tSat.nx {g : M Fl} {ρ' : Rho} (h : tSat c ioA W g ρ P D) (e : g ρ = .ok .nx ρ') {σ' : St} {H' : Hp} {P' : Pcs} (s : Stp P P') (r : RepW c ioA ρ' σ' H' P') : D.nx σ' H' := by
  unfold tSat at h; rw [e] at h; exact h σ' H' P' s r
end
def dNext : M Fl := mpure .nx
def dSeq (g h : M Fl) : M Fl := mbind g fun fl => match fl with
  | .nx => h
  | fl => mpure fl
def dDrop (f : M PD) : M Fl := mbind f fun _ => mpure .nx
def dRet (f : M PD) : M Fl := mbind f fun d => mpure (.ret d)
def dRetF (f : M (List PD)) : M Fl := mbind f fun xs => mpure (.fre xs)
def dIf (t : M Bool) (g h : M Fl) : M Fl := mbind t fun b => if b = true then g else h
def dSet (i : Nat) (f : M PD) : M Fl := mbind f fun d ρ => .ok .nx { ρ with sl := ρ.sl.set i (.val d) }
def dSetF (i : Nat) (f : M (List PD)) : M Fl := mbind f fun xs ρ => .ok .nx { ρ with sl := ρ.sl.set i (.own (.lst xs)) }
section
variable {X : Cx} {c : Cc} {W : WX} {st : Stmt} {rest a b : List Stmt} {g h : M Fl} {e : Expr} {f : M PD} {ff : M (List PD)} {t : M Bool} {pos pos' : Pos}
theorem dss_nil : DSs X c W [] dNext := fun gd ioA => PSs.imp pss_nil fun D σ H ⟨ρ, P, rp, h⟩ => h σ H P (Stp.refl _) rp
theorem dss_cons (h1 : DS X c W st g) (h2 : DSs X c W rest h) : DSs X c W (st :: rest) (dSeq g h) := fun gd ioA => by
  refine PSs.imp (pss_cons (h1 gd ioA) (h2 gd ioA)) fun D σ H ⟨ρ, P, rp, hh⟩ => ⟨ρ, P, rp, ?_⟩
  unfold tSat dSeq mbind at hh
  unfold tSat
  cases e : g ρ with
  | ok fl ρ' =>
    rw [e] at hh
    cases fl with
    | nx =>
      intro σ' H' P' s r
      have hh' : tSat c ioA W h ρ' P D := hh
      exact ⟨ρ', P', r, hh'.back s⟩
    | bk => exact hh
    | ct => exact hh
    | ret d => exact hh
    | fre d => exact hh
  | exc x ρ' => rw [e] at hh; exact hh
  | bad => rw [e] at hh; exact hh
theorem dss_one (h1 : DS X c W st g) : DSs X c W [st] g := fun gd ioA => pss_one (h1 gd ioA)
theorem ds_expr (he : DE X c W e f) (hs : swapsWith e none pos.line X.env = pure false := by rfl) : DS X c W (.Expr e pos) (dDrop f) := fun gd ioA =>
  PS.imp (ps_expr (he gd ioA) hs) fun D σ H ⟨ρ, P, rp, h⟩ => ⟨ρ, P, rp, h.bind.mono fun v H1 ⟨d, ρ1, P1, s1, r1, v1, h1⟩ => h1 σ H1 P1 (Stp.refl _) r1⟩
theorem ds_ret (he : DE X c W e f) : DS X c W (.Return (some e) pos) (dRet f) := fun gd ioA =>
  PS.imp (ps_ret (he gd ioA)) fun D σ H ⟨ρ, P, rp, h⟩ => ⟨ρ, P, rp, h.bind.mono fun v H1 ⟨d, ρ1, P1, s1, r1, v1, h1⟩ => h1 v σ H1 P1 (Stp.refl _) r1 v1⟩
theorem ds_retF (he : DF X c W e ff) : DS X c W (.Return (some e) pos) (dRetF ff) := fun gd ioA =>
  PS.imp (ps_ret (he gd ioA)) fun D σ H ⟨ρ, P, rp, h⟩ => ⟨ρ, P, rp, h.bind.mono fun v H1 ⟨d, ρ1, P1, s1, r1, v1, h1⟩ => h1 v σ H1 P1 (Stp.refl _) r1 v1⟩
theorem ds_if (ht : DT X c W e t) (ha : DSs X c W a g) (hb : DSs X c W b h) : DS X c W (.If e a b pos) (dIf t g h) := fun gd ioA =>
  PS.imp (ps_if (ht gd ioA) (ha gd ioA) (hb gd ioA)) fun D σ H ⟨ρ, P, rp, h⟩ => ⟨ρ, P, rp, h.bind.mono fun k H1 ⟨k', ρ1, P1, s1, r1, v1, h1⟩ => by
    have v1' : k' = k := v1
    subst v1'
    cases k' with
    | true => exact ⟨ρ1, P1, r1, h1⟩
    | false => exact ⟨ρ1, P1, r1, h1⟩⟩
theorem stp_drop {P : Pcs} {i : Nat} {M : Hp} : Stp P (put P (.sl i) M) := ⟨by rw [put_ne (by simp)]; exact Same.refl _, put_ne (by simp)⟩
theorem ds_set (i : Nat) {x : Str} (he : DE X c W e f) (hN : X.N.Nodup) (hi : X.N[i]? = some x := by rfl) (hx : Loc X.env.scope x := by first | exact Or.inl rfl | exact Or.inr rfl) (hs : swapsWith e (some (.Name x pos')) pos.line X.env = pure false := by rfl)
    (hf : X.fn x = true ∨ X.env.scope.names.lookup x = some .local := by first | exact .inl rfl | exact .inr rfl | assumption) : DS X c W (.Assign [.Name x pos'] e pos) (dSet i f) := fun gd ioA =>
  PS.imp (ps_set hN hi hx (he gd ioA) hs hf) fun D σ H ⟨ρ, P, rp, h⟩ => ⟨ρ, P, rp, h.bind.mono fun v H1 ⟨d, ρ1, P1, s1, r1, v1, h1⟩ => h1 _ H1 _ stp_drop (r1.setVal v1)⟩
theorem RepW.setOwn {ioA : List Addr} {ρ : Rho} {σ : St} {H : Hp} {P : Pcs} {i : Nat} {m : MC} {p : Addr} (r : RepW c ioA ρ σ H P) (h : MR c.kc (P .g) m p (P .t)) :
    RepW c ioA { ρ with sl := ρ.sl.set i (.own m) } (σ.set i (some (.ref p))) H (put (put P .t emp) (.sl i) (P .t)) := by
  have pc : Pc H (put (put P .t emp) (.sl i) (P .t)) := by
    have h1 := (r.pc.drop (x := .sl i)).move (x := .t) (y := .sl i) (by simp)
    have e : put (put (put P (.sl i) emp) .t emp) (.sl i) (uni (put P (.sl i) emp (.sl i)) (put P (.sl i) emp .t)) = put (put P .t emp) (.sl i) (P .t) := by
      funext y
      by_cases h1 : y = .sl i
      · subst h1
        rw [put_same, put_same, put_same, put_ne (by simp)]
        funext a; rfl
      · rw [put_ne h1, put_ne h1]
        by_cases h2 : y = .t
        · subst h2; rw [put_same, put_same]
        · rw [put_ne h2, put_ne h2, put_ne h1]
    rw [e] at h1
    exact h1
  refine ⟨pc, by simpa using r.len, fun j s e => ?_, fun j m' e => ?_⟩
  · have eg : put (put P .t emp) (.sl i) (P .t) .g = P .g := by rw [put_ne (by simp), put_ne (by simp)]
    rw [eg]
    rw [List.getElem?_set] at e
    by_cases hj : i = j
    · subst hj
      simp only [if_true] at e
      split at e
      · rename_i hl
        cases e
        rw [put_same]
        exact ⟨p, by rw [List.getElem?_set_self (by rw [r.len]; exact hl)], h⟩
      · cases e
    · rw [if_neg hj] at e
      rw [List.getElem?_set_ne hj, put_ne (by simp; exact fun z => hj z.symm), put_ne (by simp)]
      exact r.so j s e
  · obtain ⟨a, e1, q⟩ := r.io j m' e
    rw [put_ne (by simp), put_ne (by simp), put_ne (by simp), put_ne (by simp)]
    exact ⟨a, e1, q⟩
theorem ds_setF (i : Nat) {x : Str} (he : DF X c W e ff) (hN : X.N.Nodup) (hi : X.N[i]? = some x := by rfl) (hx : Loc X.env.scope x := by first | exact Or.inl rfl | exact Or.inr rfl) (hs : swapsWith e (some (.Name x pos')) pos.line X.env = pure false := by rfl)
    (hf : X.fn x = true ∨ X.env.scope.names.lookup x = some .local := by first | exact .inl rfl | exact .inr rfl | assumption) : DS X c W (.Assign [.Name x pos'] e pos) (dSetF i ff) := fun gd ioA =>
  PS.imp (ps_set hN hi hx (he gd ioA) hs hf) fun D σ H ⟨ρ, P, rp, h⟩ => ⟨ρ, P, rp, h.bind.mono fun v H1 ⟨xs, ρ1, P1, s1, r1, v1, h1⟩ => by
    obtain ⟨p, rfl, hm⟩ := v1
    exact h1 _ H1 _ ⟨by rw [put_ne (by simp), put_ne (by simp)]; exact Same.refl _, by rw [put_ne (by simp), put_ne (by simp)]⟩ (r1.setOwn hm)⟩
end

/-! ### targets -/
inductive Tg where
  | nm (i : Nat) | tup (ts : List Tg)
mutual
def bindT : Tg → PD → List Slot → Option (List Slot)
  | .nm i, d, sl => some (sl.set i (.val d))
  | .tup ts, .tuple ds, sl => bindTs ts ds sl
  | _, _, _ => none
def bindTs : List Tg → List PD → List Slot → Option (List Slot)
  | [], [], sl => some sl
  | t :: ts, d :: ds, sl => (match bindT t d sl with
    | some sl' => bindTs ts ds sl'
    | none => none)
  | _, _, _ => none
end
mutual
/-- the slots that a target sets -/
def ixT : Tg → List Nat
  | .nm i => [i]
  | .tup ts => ixTs ts
def ixTs : List Tg → List Nat
  | [] => []
  | t :: ts => ixT t ++ ixTs ts
end
def Off (is : List Nat) (σ σ' : St) : Prop := ∀ i, i ∉ is → σ'[i]? = σ[i]?
/-- a value that a target takes: a datum, or a tuple of data -/
def PkT (k : Kc) (G H : Hp) (v : V) (d : PD) : Prop := PkR k G H v d ∨ ∃ a xs ds, v = .ref a ∧ d = .tuple ds ∧ SqT k.K H a xs ∧ RpAll k G xs ds
theorem PkT.tuple {k : Kc} {G H : Hp} {v : V} {ds : List PD} (s : Same G H) (h : PkT k G H v (.tuple ds)) : ∃ a xs, v = .ref a ∧ SqT k.K H a xs ∧ RpAll k G xs ds := by
  rcases h with h | ⟨a, xs, _, e, e2, h⟩
  · exact h.tuple s
  · cases e2
    exact ⟨a, xs, e, h⟩
def isTupT : Tg → Bool
  | .tup _ => true
  | .nm _ => false
def tG (c : Cc) (ioA : List Addr) (t : Tg) : TG := fun v σ H Q => ∃ ρ P d, RepW c ioA ρ σ H P ∧ PkT c.kc (P .g) H v d ∧ (∀ i, t = .nm i → Rp c.kc (P .g) v d) ∧ ∃ sl, bindT t d ρ.sl = some sl ∧ ∀ σ' P', Stp P P' → Off (ixT t) σ σ' → RepW c ioA { ρ with sl := sl } σ' H P' → Q σ' H
def DG (X : Cx) (c : Cc) (e : Expr) (t : Tg) : Prop := Gd X c → ∀ ioA, PG X e (tG c ioA t)
theorem PG.imp {X : Cx} {e : Expr} {t t' : TG} (h : PG X e t) (i : ∀ v σ H Q, t' v σ H Q → t v σ H Q) : PG X e t' := ⟨fun pins s σ H v u Q I r q => h.run pins s σ H v u Q I r (i v σ H Q q)⟩
theorem PGs.imp {X : Cx} {e : List Expr} {t t' : TGs} (h : PGs X e t) (i : ∀ v σ H Q, t' v σ H Q → t v σ H Q) : PGs X e t' := ⟨fun pins s σ H v u Q I r q => h.run pins s σ H v u Q I r (i v σ H Q q)⟩
section
variable {X : Cx} {c : Cc} {W : WX} {e : Expr} {es : List Expr} {t : Tg} {ts : List Tg} {pos : Pos}
theorem dg_nm (i : Nat) {x : Str} (hN : X.N.Nodup) (hi : X.N[i]? = some x := by rfl) (hx : Loc X.env.scope x := by first | exact Or.inl rfl | exact Or.inr rfl) (hf : X.fn x = true ∨ X.env.scope.names.lookup x = some .local := by first | exact .inl rfl | exact .inr rfl | assumption) :
    DG X c (.Name x pos) (.nm i) := fun gd ioA => PG.imp (pg_name hN hi hx hf) fun v σ H Q ⟨ρ, P, d, rp, _, hd, sl, e, q⟩ => by
  rw [bindT] at e
  cases e
  exact q _ _ stp_drop (fun j hj => List.getElem?_set_ne (by simpa [ixT] using fun z => hj (by simp [ixT, z]))) (rp.setVal (hd i rfl))
end
end Den

set_option Elab.async false
set_option linter.all false
set_option maxRecDepth 100000
/-! DenH: what is walked: lists, tuples, texts, ranges, enumerate, zip. -/
namespace Den
open PySem PySem.Spec
open PyProof.Rows L2

/-! ### from the library's walks over the bare heap (GoesN) to a walk of the layer (Turn) -/
section
variable {P : Program} {w : World} {K : PySem.W.Frag} {elts : List Expr} {kk : Nat} {tpos : Pos}
end
/-! ### enumerate(t) begins -/
section
variable {prog : Program} {w : World} {A : Around} {E : Value → Shared → Prop} {s : Shared}
end
/-! ### enumerate of a list or a tuple; a list, a tuple or a text -/
section
variable {X : Cx} {pins : List (Addr × Obj)} {σ : St} {H : Hp} {s : Shared}
end
/-! ### sources, by data -/
/-- what is walked, and the handed-in mutable that must stay as it is meanwhile -/
structure Src where
  ds : List PD
  lk : Option Nat
def Src.ok (s : Src) (ρ : Rho) : Prop := match s.lk with
  | none => True
  | some j => ρ.io[j]? = some (.lst s.ds)
inductive YV (wk : Bool) (k : Kc) (G : Hp) (H : Hp) : V → PD → Hp → Prop
  | same {x : V} {d : PD} : Rp k G x d → YV wk k G H x d H
  | pair {T : Addr} {a b : V} {da db : PD} : wk = true → H T = none → Rp k G a da → Rp k G b db → YV wk k G H (.ref T) (.tuple [da, db]) (upd H T (.tup [a, b]))
/-- ds, item by item, while the frozen part grows and the lock holds -/
def ItOk (wk : Bool) (c : Cc) (ioA : List Addr) (J : It) (ds : List PD) (ok : Rho → Prop) (P0 : Pcs) : Prop := ∃ (G : Hp → Prop) (Y : Nat → Hp → V → Hp → Prop), Walk J ds.length G Y ∧
  (∀ ρ σ H P, Same (P0 .g) (P .g) → RepW c ioA ρ σ H P → ok ρ → G H) ∧
  ∀ i ρ σ H P x H', i < ds.length → Same (P0 .g) (P .g) → RepW c ioA ρ σ H P → ok ρ → Y i H x H' → ∃ d, ds[i]? = some d ∧ YV wk c.kc (P .g) H x d H'
def isTupE : Expr → Bool
  | .Tuple _ _ _ => true
  | _ => false
def VRi (wk : Bool) (c : Cc) (ioA : List Addr) : (List PD × (Rho → Prop)) → It → St → Hp → Pcs → Prop := fun a J _ _ P => ItOk wk c ioA J a.1 a.2 P
def DI (X : Cx) (c : Cc) (W : WX) (tg e : Expr) (f : M (List PD × (Rho → Prop))) : Prop := Gd X c → ∀ ioA, PI X tg e (tM c ioA W (VRi (isTupE tg) c ioA) f)
theorem PI.imp {X : Cx} {tg e : Expr} {t t' : TI} (h : PI X tg e t) (i : ∀ σ H Q, t' σ H Q → t σ H Q) : PI X tg e t' := ⟨fun pins s σ H Q I q => h.run pins s σ H Q I (i σ H Q q)⟩
/-- an operand that is a list or a tuple: its items, and what must stay -/
def seqOf : PD → Option (List PD)
  | .list ds => some ds
  | .tuple ds => some ds
  | _ => none
def lkOf : Pk → Rho → Option (Rho → Prop)
  | .d _, _ => some fun _ => True
  | .sl i, ρ => match ρ.sl[i]? with
    | some (.val _) => some fun _ => True
    | some (.io j) => (match ρ.io[j]? with
      | some (.lst xs) => some fun ρ' => ρ'.io[j]? = some (.lst xs)
      | _ => none)
    | _ => none
def dSeqs (p : Pk) : M (List PD × (Rho → Prop)) := fun ρ => match look p ρ, lkOf p ρ with
  | some d, some ok => (match seqOf d with
    | some ds => .ok (ds, ok) ρ
    | none => .bad)
  | _, _ => .bad
/-- a list or a tuple at a, of the items ds, as long as ok holds -/
def SqOk (c : Cc) (ioA : List Addr) (a : Addr) (ds : List PD) (ok : Rho → Prop) (P0 : Pcs) : Prop :=
  (∀ ρ σ H P, Same (P0 .g) (P .g) → RepW c ioA ρ σ H P → ok ρ → ∃ xs, SqL c.kc.K H a xs ∧ RpAll c.kc (P .g) xs ds) ∨ (∀ ρ σ H P, Same (P0 .g) (P .g) → RepW c ioA ρ σ H P → ok ρ → ∃ xs, SqT c.kc.K H a xs ∧ RpAll c.kc (P .g) xs ds)
section
variable {X : Cx} {c : Cc} {W : WX} {tg e : Expr} {pos p : Pos} {wk : Bool}
theorem walk_listE {K : PySem.W.Frag} {a : Addr} {n : Nat} : Walk (Itl K a) n (fun H => ∃ xs, SqL K H a xs ∧ xs.length = n) (fun i H x H' => H' = H ∧ ∀ xs, SqL K H a xs → xs[i]? = some x) :=
  ⟨fun i _ hi ⟨xs, q, l⟩ => ⟨xs, xs[i], q, by simp [l, hi]⟩, fun _ ⟨xs, q, l⟩ => ⟨xs, q, by omega⟩, fun _ _ _ _ _ _ y => y⟩
theorem walk_tupE {K : PySem.W.Frag} {a : Addr} {n : Nat} : Walk (Itt K a) n (fun H => ∃ xs, SqT K H a xs ∧ xs.length = n) (fun i H x H' => H' = H ∧ ∀ xs, SqT K H a xs → xs[i]? = some x) :=
  ⟨fun i _ hi ⟨xs, q, l⟩ => ⟨xs, xs[i], q, by simp [l, hi]⟩, fun _ ⟨xs, q, l⟩ => ⟨xs, q, by omega⟩, fun _ _ _ _ _ _ y => y⟩
theorem SqOk.it {ioA : List Addr} {a : Addr} {ds : List PD} {ok : Rho → Prop} {P : Pcs} (h : SqOk c ioA a ds ok P) {R : It → Prop} (hl : (∀ ρ σ H, RepW c ioA ρ σ H P → ok ρ → ∃ xs, SqL c.kc.K H a xs) → ItOk wk c ioA (Itl c.kc.K a) ds ok P → R (Itl c.kc.K a)) (ht : (∀ ρ σ H, RepW c ioA ρ σ H P → ok ρ → ∃ xs, SqT c.kc.K H a xs) → ItOk wk c ioA (Itt c.kc.K a) ds ok P → R (Itt c.kc.K a)) : R (Itl c.kc.K a) ∨ R (Itt c.kc.K a) := by
  rcases h with h | h
  · refine .inl (hl (fun ρ σ H r o => by obtain ⟨xs, q, _⟩ := h ρ σ H P (Same.refl _) r o; exact ⟨xs, q⟩) ⟨_, _, walk_listE, fun ρ σ H P2 s r o => ?_, fun i ρ σ H P2 x H' hi s r o y => ?_⟩)
    · obtain ⟨xs, q, rr⟩ := h ρ σ H P2 s r o
      exact ⟨xs, q, rr.length⟩
    · obtain ⟨xs, q, rr⟩ := h ρ σ H P2 s r o
      obtain ⟨rfl, y⟩ := y
      obtain ⟨d, e1, e2⟩ := rr.getV (y xs q)
      exact ⟨d, e1, .same e2⟩
  · refine .inr (ht (fun ρ σ H r o => by obtain ⟨xs, q, _⟩ := h ρ σ H P (Same.refl _) r o; exact ⟨xs, q⟩) ⟨_, _, walk_tupE, fun ρ σ H P2 s r o => ?_, fun i ρ σ H P2 x H' hi s r o y => ?_⟩)
    · obtain ⟨xs, q, rr⟩ := h ρ σ H P2 s r o
      exact ⟨xs, q, rr.length⟩
    · obtain ⟨xs, q, rr⟩ := h ρ σ H P2 s r o
      obtain ⟨rfl, y⟩ := y
      obtain ⟨d, e1, e2⟩ := rr.getV (y xs q)
      exact ⟨d, e1, .same e2⟩
/-- over a text -/
def chrs (z : Str) : List PD := z.cps.toList.map fun c => .str ⟨#[c]⟩
/-- a list, a tuple or a text -/
def dIterV (f : M Pk) : M (List PD × (Rho → Prop)) := mbind f fun p ρ => match look p ρ with
  | some (.str z) => .ok (chrs z, fun _ => True) ρ
  | _ => dSeqs p ρ
/-- range -/
def smallI (i : Int) : Bool := decide (-(2 ^ 62) ≤ i ∧ i < 2 ^ 62)
def rngI (lo : Int) (n : Nat) : List PD := (List.range n).map fun i => .int (lo + (i : Nat))
def dRange1 (f : M (List PD)) : M (List PD × (Rho → Prop)) := mbind f fun ds => match ds with
  | [.int j] => if smallI j = true then mpure (rngI 0 j.toNat, fun _ => True) else fun _ => .bad
  | _ => fun _ => .bad
theorem it_range {ioA : List Addr} {lo : Int} {n : Nat} {P : Pcs} : ItOk wk c ioA (Itr lo n) (rngI lo n) (fun _ => True) P := by
  refine ⟨_, _, (by rw [rngI, List.length_map, List.length_range]; exact walk_range), fun _ _ _ _ _ _ _ => trivial, fun i ρ σ H P2 x H' hi s r o y => ?_⟩
  obtain ⟨rfl, rfl⟩ := y
  have hi' : i < n := by simpa [rngI] using hi
  exact ⟨.int (lo + (i : Nat)), by simp [rngI, hi'], .same (.int _)⟩
theorem di_range1 {a : Expr} {f : M (List PD)} (hg : Gl X "range") (hm : X.mg "range" = none) (ha : DEs X c W [a] f) (hs : starEach [a] X.env = [(false, eval a X.env)] := by rfl) : DI X c W tg (.Call (.Name "range" p) [a] [] pos) (dRange1 f) := fun gd ioA => by
  refine PI.imp (pi_range1 hg hm (ha gd ioA) hs) fun σ H Q ⟨ρ, P, rp, h⟩ => ⟨ρ, P, rp, h.bind.mono fun vs H1 ⟨ds, ρ1, P1, s1, r1, v1, h1⟩ => ?_⟩
  split at h1
  · rename_i j
    split at h1
    · rename_i hj
      have v1' : RpAll c.kc (P1 .g) vs [.int j] := v1
      cases v1' with
      | cons a b =>
        cases b; cases a
        have this : -(2 ^ 62) ≤ j ∧ j < 2 ^ 62 := of_decide_eq_true hj
        exact ⟨j, rfl, this.1, this.2, h1.pure r1 it_range⟩
    · exact h1.elim
  · exact h1.elim
/-- enumerate -/
def enumD (ds : List PD) : List PD := (List.range ds.length).zipWith (fun i d => .tuple [.int (i : Nat), d]) ds
end
end Den

set_option Elab.async false
set_option linter.all false
set_option maxRecDepth 100000
/-! DenI: for, while, lending a list of one's own. -/
namespace Den
open PySem PySem.Spec
open PyProof.Rows L2

def killS (ks : List Nat) (ρ : Rho) : Rho := { ρ with sl := ks.foldl (fun l i => l.set i .no) ρ.sl }
theorem RepW.kills {c : Cc} {ioA : List Addr} {σ : St} {H : Hp} {P : Pcs} : ∀ (ks : List Nat) {ρ : Rho}, RepW c ioA ρ σ H P → RepW c ioA (killS ks ρ) σ H P
  | [], _, r => r
  | i :: ks, ρ, r => RepW.kills ks (ρ := { ρ with sl := ρ.sl.set i .no }) r.kill
open Classical in
noncomputable def forGo (t : Tg) (ks : List Nat) (ok : Rho → Prop) (body : M Fl) : List PD → Rho → R Fl
  | [], ρ => if ok ρ then .ok .nx ρ else .bad
  | d :: ds, ρ => if ok ρ then (match bindT t d ρ.sl with
    | none => .bad
    | some sl => (match body { ρ with sl := sl } with
      | .ok .nx ρ' => forGo t ks ok body ds (killS ks ρ')
      | .ok .ct ρ' => forGo t ks ok body ds (killS ks ρ')
      | .ok .bk ρ' => .ok .nx (killS ks ρ')
      | .ok (.ret d) ρ' => .ok (.ret d) ρ'
      | .ok (.fre d) ρ' => .ok (.fre d) ρ'
      | .exc x ρ' => .exc x ρ'
      | .bad => .bad)) else .bad
noncomputable def dFor (t : Tg) (ks : List Nat) (fi : M (List PD × (Rho → Prop))) (body : M Fl) : M Fl := mbind fi fun s ρ => forGo t ks s.2 body s.1 (killS ks ρ)
theorem YV.rp {wk : Bool} {c : Cc} {ioA : List Addr} {ρ : Rho} {σ : St} {H H' : Hp} {P : Pcs} {x : V} {d : PD} (r : RepW c ioA ρ σ H P) (y : YV wk c.kc (P .g) H x d H') : ∃ P', Stp P P' ∧ RepW c ioA ρ σ H' P' ∧ PkT c.kc (P' .g) H' x d ∧ (wk = false → Rp c.kc (P' .g) x d) := by
  cases y with
  | same h => exact ⟨P, Stp.refl _, r, .inl (.inl h), fun _ => h⟩
  | pair hw hT ha hb =>
    refine ⟨_, stp_new (r.gnone hT), r.new hT, .inr ⟨_, [_, _], _, rfl, rfl, .inl (.inl upd_same), ?_⟩, fun z => by rw [hw] at z; cases z⟩
    rw [put_same]
    have sm : ∀ o, Same (P .g) (upd (P .g) _ o) := fun o b u e => by rw [upd_ne (ne_of_none e (r.gnone hT))]; exact e
    exact .cons (ha.mono (sm _)) (.cons (hb.mono (sm _)) .nil)
section
variable {X : Cx} {c : Cc} {W : WX} {tg e : Expr} {body : List Stmt} {pos : Pos} {t : Tg} {ks : List Nat} {fi : M (List PD × (Rho → Prop))} {g : M Fl}
theorem forGo_ok {ioA : List Addr} {ok : Rho → Prop} {ds : List PD} {ρ : Rho} {P : Pcs} {D : Ends} (h : tSat c ioA W (forGo t ks ok g ds) ρ P D) : ok ρ := by
  by_cases e : ok ρ
  · exact e
  · unfold tSat at h
    have : forGo t ks ok g ds ρ = .bad := by cases ds <;> · unfold forGo; exact if_neg e
    rw [this] at h
    exact h.elim
theorem ds_for (hi : DI X c W tg e fi) (hg : DG X c tg t) (hb : DSs X c W body g) (ks : List Nat) (hp : PassesOwn (model X.prog X.w) X.A X.env X.xe) (hc : X.calm = true) (ht : isTupE tg = isTupT t := by rfl) (hs : ∀ x, foldedSetIterable e X.env x = pure x := by intro _; rfl) :
    DS X c W (.For tg e body [] pos) (dFor t ks fi g) := fun gd ioA => by
  refine PS.imp (ps_for hp hc (hi gd ioA) (hg gd ioA) (hb gd ioA) hs) fun D σ H ⟨ρ, P, rp, h⟩ => ⟨ρ, P, rp, h.bind.mono fun J H1 ⟨a, ρ1, P1, s1, r1, v1, h1⟩ => ?_⟩
  obtain ⟨ds, ok⟩ := a
  obtain ⟨G, Y, w, hG, hY⟩ := v1
  have h1 : tSat c ioA W (forGo t ks ok g ds) (killS ks ρ1) P1 D := h1
  refine for_it w (D := D) (fun i σ H => ∃ ρ P, Stp P1 P ∧ RepW c ioA ρ σ H P ∧ tSat c ioA W (forGo t ks ok g (ds.drop i)) ρ P D) ⟨_, P1, Stp.refl _, r1.kills ks, h1⟩ (fun i σ H hi ⟨ρ, P, s, r, h⟩ => hG ρ σ H P s.g r (forGo_ok h)) (fun i x σ H H' hi ⟨ρ, P, s, r, h⟩ y => ?_) fun σ H ⟨ρ, P, s, r, h⟩ => ?_
  · obtain ⟨d, e1, yv⟩ := hY i ρ σ H P x H' hi s.g r (forGo_ok h) y
    have ed : ds.drop i = d :: ds.drop (i + 1) := by
      have hi' : i < ds.length := hi
      rw [List.drop_eq_getElem_cons hi', List.getElem?_eq_getElem hi'] at *
      simp at e1; rw [e1]
    obtain ⟨P2, s2, r2, rd, rd1⟩ := yv.rp r
    have o := forGo_ok h
    rw [ed] at h
    have h := h.back s2
    unfold tSat at h
    rw [forGo, if_pos o] at h
    cases eb : bindT t d ρ.sl with
    | none => simp only [eb] at h
    | some sl =>
      simp only [eb] at h
      refine ⟨ρ, P2, d, r2, rd, fun i z => rd1 (by rw [ht, z]; rfl), sl, eb, fun σ' P' s' _ r' => ⟨_, P', r', ?_⟩⟩
      unfold tSat
      cases eg : g { ρ with sl := sl } with
      | ok fl ρ' =>
        simp only [eg] at h
        cases fl with
        | nx => exact fun σ3 H3 P3 s3 r3 => ⟨_, P3, ((s.trans s2).trans s').trans s3, r3.kills ks, tSat.back (P0 := P2) h (s'.trans s3)⟩
        | ct => exact fun σ3 H3 P3 s3 r3 => ⟨_, P3, ((s.trans s2).trans s').trans s3, r3.kills ks, tSat.back (P0 := P2) h (s'.trans s3)⟩
        | bk => exact fun σ3 H3 P3 s3 r3 => h σ3 H3 P3 (s'.trans s3) (r3.kills ks)
        | ret d => exact fun v σ3 H3 P3 s3 r3 => h v σ3 H3 P3 (s'.trans s3) r3
        | fre d => exact fun v σ3 H3 P3 s3 r3 => h v σ3 H3 P3 (s'.trans s3) r3
      | exc x ρ' => simp only [eg] at h; exact fun cls dx σ3 H3 P3 s3 r3 => h cls dx σ3 H3 P3 (s'.trans s3) r3
      | bad => simp only [eg] at h
  · have o := forGo_ok h
    have e0 : ds.drop ds.length = [] := List.drop_length
    rw [e0] at h
    exact h.nx (by rw [forGo, if_pos o]) (Stp.refl _) r
/-! ### while -/
end
/-! ### lending: a slot's own mutable stands among the handed-in ones meanwhile -/
theorem Pc.mv {H : Hp} {P : Pcs} {x y : Ix} (h : Pc H P) (n : x ≠ y) : Pc H (Den.put (Den.put P x emp) y (P x)) := by
  have h1 := (h.drop (x := y)).move (x := x) (y := y) n
  have e : Den.put (Den.put (Den.put P y emp) x emp) y (uni (Den.put P y emp y) (Den.put P y emp x)) = Den.put (Den.put P x emp) y (P x) := by
    funext z
    by_cases h1 : z = y
    · subst h1
      rw [put_same, put_same, put_same, put_ne n]
      funext a; rfl
    · rw [put_ne h1, put_ne h1]
      by_cases h2 : z = x
      · subst h2; rw [put_same, put_same]
      · rw [put_ne h2, put_ne h2, put_ne h1]
  rw [e] at h1
  exact h1
def lendR (i : Nat) (m : MC) (ρ : Rho) : Rho := { sl := ρ.sl.set i (.io ρ.io.length), io := ρ.io ++ [m] }
/-- back: the slot gets it again where it still stands there -/
def unS (i n : Nat) (m : Option MC) (k : Nat) : Slot → Slot
  | .io j => if j = n then (if k = i then (match m with
    | some m => .own m
    | none => .no) else .no) else .io j
  | s => s
def lendB (i n : Nat) (ρ : Rho) : Rho := { sl := ρ.sl.mapIdx (unS i n ρ.io[n]?), io := ρ.io.take n }
def slOkN (ρ : Rho) : Bool := ρ.sl.all fun s => match s with
  | .io j => decide (j < ρ.io.length)
  | _ => true
section
variable {c : Cc} {ioA : List Addr} {ρ : Rho} {σ : St} {H : Hp} {P : Pcs} {i : Nat} {m : MC}
open Classical in
noncomputable def backP (P : Pcs) (ρ : Rho) (i n : Nat) : Pcs := if ρ.sl[i]? = some (.io n) then put (put P (.io n) emp) (.sl i) (P (.io n)) else P
theorem backP_of {P : Pcs} {ρ : Rho} {i n : Nat} {y : Ix} (h1 : y ≠ .io n) (h2 : y ≠ .sl i) : backP P ρ i n y = P y := by
  unfold backP
  split
  · rw [put_ne h2, put_ne h1]
  · rfl
theorem backP_disj {P : Pcs} {ρ : Rho} {i n : Nat} {M : Hp} (h : ∀ y, Disj (P y) M) (y : Ix) : Disj (backP P ρ i n y) M := by
  unfold backP
  split
  · by_cases e : y = .sl i
    · subst e; rw [put_same]; exact h _
    · rw [put_ne e]
      by_cases e2 : y = .io n
      · subst e2; rw [put_same]; exact fun _ => .inl rfl
      · rw [put_ne e2]; exact h _
  · exact h y
theorem RepW.back {n : Nat} {a : Addr} (hl : n ≤ ioA.length) (r : RepW c (ioA.take n ++ [a]) ρ σ H P) : RepW c ioA (lendB i n ρ) σ H (backP P ρ i n) := by
  have hn : (ioA.take n).length = n := by rw [List.length_take]; omega
  have lo : ∀ j, j < n → (ioA.take n ++ [a])[j]? = ioA[j]? := fun j hj => by
    rw [List.getElem?_append_left (by omega), List.getElem?_take, if_pos hj]
  have hi : (ioA.take n ++ [a])[n]? = some a := by
    rw [List.getElem?_append_right (by omega), hn]; simp
  have g : backP P ρ i n .g = P .g := backP_of (by simp) (by simp)
  refine ⟨?_, by show σ.length = (ρ.sl.mapIdx _).length; rw [List.length_mapIdx]; exact r.len, fun k s q => ?_, fun j m' q => ?_⟩
  · unfold backP
    split
    · exact r.pc.mv (x := .io n) (y := .sl i) (by simp)
    · exact r.pc
  · rw [g]
    have q' : (ρ.sl.mapIdx (unS i n ρ.io[n]?))[k]? = some s := q
    rw [List.getElem?_mapIdx] at q'
    cases e : ρ.sl[k]? with
    | none => rw [e] at q'; cases q'
    | some s0 =>
      rw [e] at q'
      have q' : unS i n ρ.io[n]? k s0 = s := by simpa using q'
      have so := r.so k s0 e
      have pe : (s0 ≠ .io n) → backP P ρ i n (.sl k) = P (.sl k) := fun z => by
        unfold backP
        split
        · rename_i y
          have hk : k ≠ i := by
            rintro rfl
            rw [e] at y
            exact z (Option.some.inj y)
          rw [put_ne (by simpa using hk), put_ne (by simp)]
        · rfl
      cases s0 with
      | io j =>
        have q2 : (if j = n then (if k = i then (match ρ.io[n]? with
          | some m => Slot.own m
          | none => .no) else .no) else .io j) = s := q'
        obtain ⟨b, f1, f2⟩ := so
        by_cases hj : j = n
        · subst hj
          rw [if_pos rfl] at q2
          by_cases hk : k = i
          · subst hk
            rw [if_pos rfl] at q2
            cases em : ρ.io[j]? with
            | none => rw [em] at q2; subst q2; trivial
            | some m2 =>
              rw [em] at q2
              have q2 : Slot.own m2 = s := q2
              subst q2
              obtain ⟨b2, f3, f4⟩ := r.io j m2 em
              rw [f1] at f3; cases f3
              refine ⟨b, f2, ?_⟩
              unfold backP
              rw [if_pos e, put_same]
              exact f4
          · rw [if_neg hk] at q2
            subst q2; trivial
        · rw [if_neg hj] at q2
          subst q2
          have hj2 : j < n := by
            have := List.getElem?_eq_some_iff.mp f1
            obtain ⟨z, _⟩ := this
            simp at z
            omega
          exact ⟨b, by rw [← lo j hj2]; exact f1, f2⟩
      | no => subst q'; trivial
      | val d => subst q'; exact so
      | own m => subst q'; show SlOk c ioA (P .g) (.own m) _ _; rw [pe (by simp)]; exact so
      | xc x => subst q'; show SlOk c ioA (P .g) (.xc x) _ _; rw [pe (by simp)]; exact so
  · rw [g]
    have q' : (ρ.io.take n)[j]? = some m' := q
    rw [List.getElem?_take] at q'
    split at q'
    · rename_i hj
      obtain ⟨b, f1, f2⟩ := r.io j m' q'
      refine ⟨b, by rw [← lo j hj]; exact f1, ?_⟩
      rw [backP_of (by simp; omega) (by simp)]
      exact f2
    · cases q'
theorem XR.back {k : Kc} {x : Xc} {cls : Value} {dx : Option Addr} {n : Nat} (h : XR k x cls dx H P) : XR k x cls dx H (backP P ρ i n) := by
  obtain ⟨C, M, h1, h2, h3, h4, h6⟩ := h
  exact ⟨C, M, h1, h2, by rw [backP_of (by simp) (by simp)]; exact h3, h4, backP_disj h6⟩
/-- what tells only of the frozen part and of what is put aside -/
class Gt {α β : Type} (VR : α → β → St → Hp → Pcs → Prop) : Prop where
  gt : ∀ a b σ H P P', P' .g = P .g → P' .t = P .t → VR a b σ H P → VR a b σ H P'
instance : Gt (VRe c) := ⟨fun _ _ _ _ _ _ h _ q => by unfold VRe at *; rw [h]; exact q⟩
instance : Gt (VRf c) := ⟨fun _ _ _ _ _ _ h h2 q => by unfold VRf at *; rw [h, h2]; exact q⟩
instance : Gt VRb := ⟨fun _ _ _ _ _ _ _ _ q => q⟩
instance : Gt (VRas c) := ⟨fun _ _ _ _ _ _ h _ q => by unfold VRas at *; rw [h]; exact q⟩
instance : Gt (VRk c) := ⟨fun a b σ H P P' h _ q => by
  cases a with
  | d x => have q' : Rp c.kc (P .g) b x := q; show Rp c.kc (P' .g) b x; rw [h]; exact q'
  | sl i => exact q⟩
end
section
variable {X : Cx} {c : Cc} {W : WX} {e : Expr} {st : Stmt}
end
end Den

set_option Elab.async false
set_option linter.all false
set_option maxRecDepth 100000
/-! DenJ: list comprehensions, by data. -/
namespace Den
open PySem PySem.Spec
open PyProof.Rows L2

def noW : WX := fun _ _ _ _ => False
open Classical in
noncomputable def compGo (t : Tg) (vs : List Nat) (ok : Rho → Prop) (tt : M Bool) (f : M PD) : List PD → Rho → R (List PD)
  | [], ρ => if ok ρ then .ok [] ρ else .bad
  | d :: ds, ρ => if ok ρ then (match bindT t d ρ.sl with
    | none => .bad
    | some sl => (match tt { ρ with sl := sl } with
      | .ok true ρ1 => (match f ρ1 with
        | .ok y ρ2 => (match compGo t vs ok tt f ds (killS vs ρ2) with
          | .ok ys ρ3 => .ok (y :: ys) ρ3
          | _ => .bad)
        | _ => .bad)
      | .ok false ρ1 => compGo t vs ok tt f ds (killS vs ρ1)
      | _ => .bad)) else .bad
def compEnd (vs : List Nat) (ρ0 ρ' : Rho) : Rho := { ρ' with sl := ρ'.sl.mapIdx fun k s => if k ∈ vs then (match ρ0.sl[k]? with
  | some (.val d) => .val d
  | some (.io j) => .io j
  | _ => .no) else s }
noncomputable def dComp (t : Tg) (vs : List Nat) (fi : M (List PD × (Rho → Prop))) (tt : M Bool) (f : M PD) : M (List PD) := mbind fi fun s ρ =>
  if s.1.length ≤ sizeLine then (match compGo t vs s.2 tt f s.1 (killS vs ρ) with
    | .ok ys ρ' => .ok ys (compEnd vs ρ ρ')
    | _ => .bad) else .bad
section
variable {c : Cc} {ioA : List Addr} {ρ : Rho} {σ : St} {H : Hp} {P : Pcs}
theorem kill_some : ∀ {vs : List Nat} {l : List Slot} {k : Nat} {s : Slot}, (vs.foldl (fun l i => l.set i .no) l)[k]? = some s → s = .no ∨ (k ∉ vs ∧ l[k]? = some s)
  | [], l, k, s, h => .inr ⟨by simp, h⟩
  | v :: vs, l, k, s, h => by
    rcases kill_some (vs := vs) (l := l.set v .no) h with e | ⟨h1, h2⟩
    · exact .inl e
    · rw [List.getElem?_set] at h2
      by_cases hk : v = k
      · subst hk
        simp only [if_true] at h2
        split at h2
        · exact .inl (Option.some.inj h2).symm
        · cases h2
      · rw [if_neg hk] at h2
        exact .inr ⟨by simp only [List.mem_cons, not_or]; exact ⟨fun e => hk e.symm, h1⟩, h2⟩
theorem kill_len : ∀ (vs : List Nat) (l : List Slot), (vs.foldl (fun l i => l.set i Slot.no) l).length = l.length
  | [], l => rfl
  | v :: vs, l => by rw [List.foldl_cons, kill_len vs, List.length_set]
theorem RepW.wipe (vs : List Nat) (r : RepW c ioA ρ σ H P) : RepW c ioA (killS vs ρ) (L2.wipe σ vs) H P where
  pc := r.pc
  len := by show (L2.wipe σ vs).length = (vs.foldl (fun l i => l.set i Slot.no) ρ.sl).length; rw [wipe_length, kill_len]; exact r.len
  so := fun i s e => by
    rcases kill_some e with rfl | ⟨h1, h2⟩
    · trivial
    · rw [wipe_out h1]; exact r.so i s h2
  io := r.io
theorem wipe_off {σ σ' : St} {is vs : List Nat} (h : Off is σ σ') (l : σ'.length = σ.length) (hs : ∀ i ∈ is, i ∈ vs) : L2.wipe σ' vs = L2.wipe σ vs := by
  apply List.ext_getElem?
  intro i
  by_cases hi : i ∈ vs
  · have key : ∀ (σ : St), (L2.wipe σ vs)[i]? = if i < σ.length then some none else none := by
      intro σ
      clear h l hs
      induction vs with
      | nil => simp at hi
      | cons v vs ih =>
        show ((L2.wipe σ vs).set v none)[i]? = _
        rw [List.getElem?_set]
        by_cases hv : v = i
        · subst hv
          simp only [if_true, wipe_length]
        · rw [if_neg hv]
          exact ih (by rcases List.mem_cons.mp hi with e | e; exact absurd e.symm hv; exact e)
    rw [key σ', key σ, l]
  · rw [wipe_out hi, wipe_out hi]
    exact h i fun z => hi (hs i z)
theorem wipe_wipe {σ : St} {vs : List Nat} : L2.wipe (L2.wipe σ vs) vs = L2.wipe σ vs := by
  refine wipe_off (is := vs) (σ := σ) (fun i hi => wipe_out hi) (wipe_length _ _) fun _ h => h
mutual
theorem bindT_len : ∀ {t : Tg} {d : PD} {sl sl' : List Slot}, bindT t d sl = some sl' → sl'.length = sl.length
  | .nm i, d, sl, sl', h => by rw [bindT] at h; cases h; simp
  | .tup ts, .tuple ds, sl, sl', h => by rw [bindT] at h; exact bindTs_len2 h
  | .tup ts, .none, _, _, h => by simp [bindT] at h
  | .tup ts, .bool _, _, _, h => by simp [bindT] at h
  | .tup ts, .int _, _, _, h => by simp [bindT] at h
  | .tup ts, .str _, _, _, h => by simp [bindT] at h
  | .tup ts, .list _, _, _, h => by simp [bindT] at h
  | .tup ts, .dict _, _, _, h => by simp [bindT] at h
theorem bindTs_len2 : ∀ {ts : List Tg} {ds : List PD} {sl sl' : List Slot}, bindTs ts ds sl = some sl' → sl'.length = sl.length
  | [], [], _, _, h => by rw [bindTs] at h; cases h; rfl
  | [], _ :: _, _, _, h => by simp [bindTs] at h
  | _ :: _, [], _, _, h => by simp [bindTs] at h
  | t :: ts, d :: ds, sl, sl', h => by
    rw [bindTs] at h
    cases e : bindT t d sl with
    | none => simp only [e] at h; cases h
    | some s2 => simp only [e] at h; rw [bindTs_len2 h, bindT_len e]
end
/-- behind the block -/
theorem RepW.blkEnd {vs : List Nat} {ρ' : Rho} {H' : Hp} {P0 P' : Pcs} (r : RepW c ioA ρ σ H P0) (r' : RepW c ioA ρ' (L2.wipe σ vs) H' P') (s : Same (P0 .g) (P' .g)) : RepW c ioA (compEnd vs ρ ρ') σ H' P' where
  pc := r'.pc
  len := by show σ.length = (List.mapIdx _ _).length; rw [List.length_mapIdx, ← r'.len, wipe_length]
  so := fun k sl e => by
    have e' : (ρ'.sl.mapIdx fun k s => if k ∈ vs then (match ρ.sl[k]? with
      | some (.val d) => Slot.val d
      | some (.io j) => .io j
      | _ => .no) else s)[k]? = some sl := e
    rw [List.getElem?_mapIdx] at e'
    cases e2 : ρ'.sl[k]? with
    | none => rw [e2] at e'; cases e'
    | some s2 =>
      rw [e2] at e'
      have e' := Option.some.inj e'
      by_cases hk : k ∈ vs
      · simp only [if_pos hk] at e'
        cases e3 : ρ.sl[k]? with
        | none => simp only [e3] at e'; subst e'; trivial
        | some s3 =>
          have so := r.so k s3 e3
          cases s3 with
          | val d => simp only [e3] at e'; subst e'; exact SlOk.mono (sl := .val d) (M := P' (.sl k)) s (by obtain ⟨v, a, b⟩ := so; exact ⟨v, a, b⟩)
          | io j => simp only [e3] at e'; subst e'; exact so
          | no => simp only [e3] at e'; subst e'; trivial
          | own m => simp only [e3] at e'; subst e'; trivial
          | xc x => simp only [e3] at e'; subst e'; trivial
      · simp only [if_neg hk] at e'
        subst e'
        have so := r'.so k s2 e2
        rw [wipe_out hk] at so
        exact so
  io := r'.io
end
theorem Gd.blk {X : Cx} {c : Cc} (g : Gd X c) {s : Shared} {H : Hp} {scope : Scope} {cenv : Env} {fp : List Addr} : Gd (X.blk s H scope cenv fp) c := ⟨g.hK, g.un⟩
/-- the tests -/
def DTs (X : Cx) (c : Cc) (W : WX) (es : List Expr) (f : M Bool) : Prop := Gd X c → ∀ ioA, PTs X es (tM c ioA W VRb f)
theorem dts_nil {X : Cx} {c : Cc} {W : WX} : DTs X c W [] (mpure true) := fun gd ioA => ⟨fun pins s σ H Q I ⟨ρ, P, r, h⟩ => pts_nil.run pins s σ H Q I (h.pure r (rfl : VRb true true σ H P))⟩
section
variable {X : Cx} {c : Cc} {W : WX} {tg iter elt : Expr} {ifs : List Expr} {scope : Scope} {own : List (Str × Nat)} {pos pos' spos py : Pos} {t : Tg} {fi : M (List PD × (Rho → Prop))} {tt : M Bool} {f : M PD}
/-- what the block is to keep, in any such context -/
def Bk (X : Cx) (scope : Scope) (T : Cx → Prop) : Prop := ∀ (s : Shared) (H : Hp) (C : Addr) (cl : List (Str × Addr)) (fp : List Addr), T (X.blk s H scope (compEnvC scope cl C X.env) fp)
theorem compGo_ok {t : Tg} {vs : List Nat} {ok : Rho → Prop} {ds : List PD} {ρ ρe : Rho} {ys : List PD} (h : compGo t vs ok tt f ds ρ = .ok ys ρe) : ok ρ := by
  by_cases e : ok ρ
  · exact e
  · have : compGo t vs ok tt f ds ρ = .bad := by cases ds <;> · unfold compGo; exact if_neg e
    rw [this] at h; cases h
theorem comp_core {ioA : List Addr} {σ : St} {H : Hp} {Q : VK} {vs : List Nat} {wk : Bool} (ht : wk = isTupT t) (hv : ∀ i ∈ ixT t, i ∈ vs) (h : tM c ioA W (VRf c) (dComp t vs fi tt f) σ H Q) :
    tLc (tM c ioA W (VRi wk c ioA) fi) (tG c ioA t) (tM c ioA noW VRb tt) (tM c ioA noW (VRe c) f) vs σ H Q := by
  obtain ⟨ρ, P, rp, h⟩ := h
  refine ⟨ρ, P, rp, h.bind.mono fun J H1 ⟨a, ρ1, P1, s1, r1, v1, h1⟩ => ?_⟩
  intro D hD
  obtain ⟨ds, ok⟩ := a
  obtain ⟨G, Y, w, hG, hY⟩ := v1
  unfold tMat at h1
  by_cases hz : ds.length ≤ sizeLine
  case neg => simp only [if_neg hz] at h1
  simp only [if_pos hz] at h1
  cases ec : compGo t vs ok tt f ds (killS vs ρ1) with
  | exc x ρe => simp only [ec] at h1
  | bad => simp only [ec] at h1
  | ok ys ρe =>
    simp only [ec] at h1
    have fn : ∀ x, P1 x D = none := fun x => r1.gnone hD
    refine lc_it w (D := D) (fun i H => ∃ ρ P vacc dacc, Same (P1 .g) (P .g) ∧ P .f = uni (P1 .f) (one D (.lst vacc)) ∧ RpAll c.kc (P .g) vacc dacc ∧ vacc.length ≤ i ∧ RepW c ioA ρ (L2.wipe σ vs) H P ∧ ∃ zs, compGo t vs ok tt f (ds.drop i) ρ = .ok zs ρe ∧ dacc ++ zs = ys) ?_ (fun i H hi ⟨ρ, P, va, da, h2, h3, h4, h5, h6, zs, h7, h8⟩ => hG ρ _ H P h2 h6 (compGo_ok h7)) (fun i x H H' hi ⟨ρ, P, va, da, h2, h3, h4, h5, h6, zs, h7, h8⟩ y => ?_) fun H ⟨ρ, P, va, da, h2, h3, h4, h5, h6, zs, h7, h8⟩ => ?_
    · have rw1 := r1.wipe vs
      refine ⟨killS vs ρ1, put P1 .f (uni (P1 .f) (one D (.lst []))), [], [], by rw [put_ne (by simp)]; exact Same.refl _, put_same, .nil, Nat.le_refl _, ⟨?_, rw1.len, fun i s e => ?_, fun j m e => ?_⟩, ys, ec, rfl⟩
      · refine r1.pc.put (fun a o e n => ⟨by rw [upd_ne (ne_of_none e hD)]; exact e, ?_⟩) fun a o e => ?_
        · have : a ≠ D := ne_of_none e hD
          exact uni_none n (one_ne this)
        · rcases uni_some e with e | ⟨_, e⟩
          · have := r1.pc.sub .f a o e
            rw [upd_ne (ne_of_none this hD)]; exact this
          · obtain ⟨rfl, rfl⟩ := one_some e
            exact upd_same
      · rw [put_ne (by simp), put_ne (by simp)]; exact rw1.so i s e
      · obtain ⟨b, e1, e2⟩ := rw1.io j m e
        exact ⟨b, e1, by rw [put_ne (by simp), put_ne (by simp)]; exact e2⟩
    · have o := compGo_ok h7
      obtain ⟨d, e1, yv⟩ := hY i ρ _ H P x H' hi h2 h6 o y
      have ed : ds.drop i = d :: ds.drop (i + 1) := by
        have hi' : i < ds.length := hi
        rw [List.drop_eq_getElem_cons hi', List.getElem?_eq_getElem hi'] at *
        simp at e1; rw [e1]
      rw [ed] at h7
      unfold compGo at h7
      rw [if_pos o] at h7
      obtain ⟨P2, s2, r2, rd, rd1⟩ := yv.rp h6
      cases eb : bindT t d ρ.sl with
      | none => simp only [eb] at h7; cases h7
      | some sl =>
        simp only [eb] at h7
        refine ⟨ρ, P2, d, r2, rd, fun i z => rd1 (by rw [ht, z]; rfl), sl, eb, fun σ3 P3 s3 o3 r3 => ?_⟩
        have hw3 : L2.wipe σ3 vs = L2.wipe σ vs := by
          have := wipe_off o3 (by rw [r3.len, r2.len]; exact bindT_len eb) hv
          rw [wipe_wipe] at this
          exact this
        refine ⟨hw3, _, P3, r3, ?_⟩
        -- the slots of a turn forgotten again
        have back : ∀ {ρ5 : Rho} {H5 : Hp} {P5 : Pcs}, RepW c ioA ρ5 σ3 H5 P5 → RepW c ioA (killS vs ρ5) (L2.wipe σ vs) H5 P5 := fun r => by
          have := r.wipe vs
          rw [hw3] at this
          exact this
        unfold tMat
        cases et : tt { ρ with sl := sl } with
        | exc x ρ' => simp only [et] at h7; cases h7
        | bad => simp only [et] at h7; cases h7
        | ok b ρ4 =>
          intro b' H4 P4 s4 r4 v4
          have v4' : b = b' := v4
          subst v4'
          cases b with
          | false =>
            simp only [et] at h7
            exact ⟨killS vs ρ4, P4, va, da, ((h2.trans s2.g).trans s3.g).trans s4.g, by rw [s4.f, s3.f, s2.f]; exact h3, ((h4.mono s2.g).mono s3.g).mono s4.g, by omega, back r4, zs, h7, h8⟩
          | true =>
            simp only [et] at h7
            simp only [if_true]
            refine ⟨_, P4, r4, ?_⟩
            unfold tMat
            cases ef : f ρ4 with
            | exc x ρ' => simp only [ef] at h7; cases h7
            | bad => simp only [ef] at h7; cases h7
            | ok yd ρ5 =>
              simp only [ef] at h7
              intro yv2 H5 P5 s5 r5 v5
              cases e6 : compGo t vs ok tt f (ds.drop (i + 1)) (killS vs ρ5) with
              | exc x ρ' => simp only [e6] at h7; cases h7
              | bad => simp only [e6] at h7; cases h7
              | ok ws ρ6 =>
                simp only [e6] at h7
                cases h7
                have f5 : P5 .f = uni (P1 .f) (one D (.lst va)) := by rw [s5.f, s4.f, s3.f, s2.f]; exact h3
                have sg : Same (P .g) (P5 .g) := ((s2.g.trans s3.g).trans s4.g).trans s5.g
                have hD5 : H5 D = some (.lst va) := r5.pc.sub .f D _ (by rw [f5, uni_r (fn .f)]; exact one_same)
                have v5' : Rp c.kc (P5 .g) yv2 yd := v5
                have rb := back r5
                have nf : ∀ x, x ≠ .f → P5 x D = none := fun x hx => (r5.pc.dis .f x (Ne.symm hx)).r (o := .lst va) (by rw [f5, uni_r (fn .f)]; exact one_same)
                refine ⟨va, hD5, by have hi' : i < ds.length := hi; omega, killS vs ρ5, put P5 .f (uni (P1 .f) (one D (.lst (va ++ [yv2])))), va ++ [yv2], da ++ [yd], by rw [put_ne (by simp)]; exact h2.trans sg, put_same, ?_, by simp; exact h5, ⟨?_, rb.len, fun k s e => ?_, fun j m e => ?_⟩, ws, e6, by rw [List.append_assoc]; exact h8⟩
                · rw [put_ne (by simp)]; exact (h4.mono sg).append (.cons v5' .nil)
                · refine ⟨fun x => ?_, fun x y n => ?_⟩
                  · by_cases hx : x = .f
                    · subst hx
                      rw [put_same]
                      intro a o e
                      rcases uni_some e with e | ⟨_, e⟩
                      · have hn : a ≠ D := ne_of_none e (fn .f)
                        rw [upd_ne hn]
                        exact r5.pc.sub .f a o (by rw [f5]; exact uni_l e)
                      · obtain ⟨rfl, rfl⟩ := one_some e
                        exact upd_same
                    · rw [put_ne hx]
                      intro a o e
                      have hn : a ≠ D := ne_of_none e (nf x hx)
                      rw [upd_ne hn]
                      exact r5.pc.sub x a o e
                  · have key : ∀ z, z ≠ .f → Disj (P5 z) (uni (P1 .f) (one D (.lst (va ++ [yv2])))) := fun z hz => Disj.of fun a o e => by
                      have q := (r5.pc.dis z .f hz).r e
                      rw [f5] at q
                      exact uni_none (uni_none_l q) (one_ne (ne_of_none e (nf z hz)))
                    by_cases hx : x = .f
                    · subst hx
                      rw [put_same, put_ne (Ne.symm n)]
                      exact (key y (Ne.symm n)).symm
                    · rw [put_ne hx]
                      by_cases hy : y = .f
                      · subst hy; rw [put_same]; exact key x hx
                      · rw [put_ne hy]; exact r5.pc.dis x y n
                · rw [put_ne (by simp), put_ne (by simp)]; exact rb.so k s e
                · obtain ⟨b, e1, e2⟩ := rb.io j m e
                  exact ⟨b, e1, by rw [put_ne (by simp), put_ne (by simp)]; exact e2⟩
    · have o := compGo_ok h7
      have e0 : ds.drop ds.length = [] := List.drop_length
      have h7' : compGo t vs ok tt f (ds.drop ds.length) ρ = .ok zs ρe := h7
      rw [e0] at h7'
      unfold compGo at h7'
      rw [if_pos o] at h7'
      cases h7'
      rw [List.append_nil] at h8
      subst h8
      have hP : Pc H (put (put P .f (P1 .f)) .t (one D (.lst va))) := h6.pc.split (x := .t) (y := .f) (by simp) h3 (Disj.of fun a o e => one_ne (ne_of_none e (fn .f)))
      have eg : put (put P .f (P1 .f)) .t (one D (.lst va)) .g = P .g := by rw [put_ne (by simp), put_ne (by simp)]
      refine h1 (.ref D) H (put (put P .f (P1 .f)) .t (one D (.lst va))) ⟨by rw [eg]; exact h2, by rw [put_ne (by simp), put_same]⟩ ?_ ⟨D, rfl, va, by rw [eg]; exact h4, put_same⟩
      refine RepW.blkEnd (vs := vs) r1 ⟨hP, h6.len, fun k s e => ?_, fun j m e => ?_⟩ (by rw [eg]; exact h2)
      · rw [eg, put_ne (by simp), put_ne (by simp)]; exact h6.so k s e
      · obtain ⟨b, e1, e2⟩ := h6.io j m e
        exact ⟨b, e1, by rw [eg, put_ne (by simp), put_ne (by simp)]; exact e2⟩
theorem df_lc (hc : X.calm = true) (hN : X.N.Nodup) (hi : DI X c W tg iter fi) (ok : BlkOk X.N X.env.scope scope own) (hv : ∀ i ∈ ixT t, i ∈ own.map (·.2))
    (hg : Bk X scope fun Y => DG Y c tg t) (ht : Bk X scope fun Y => DTs Y c noW ifs tt) (he : Bk X scope fun Y => DE Y c noW elt f) (tt' : isTupE tg = isTupT t := by rfl) (hs : ∀ x, foldedSetIterable iter X.env x = pure x := by intro _; rfl) :
    DF X c W (.ListComp elt [⟨tg, iter, ifs, 0⟩] scope pos) (dComp t (own.map (·.2)) fi tt f) := fun gd ioA => by
  exact PE.imp (pe_lc hc hN (hi gd ioA) ok (fun s H C cl fp => hg s H C cl fp gd.blk ioA) (fun s H C cl fp => ht s H C cl fp gd.blk ioA) (fun s H C cl fp => he s H C cl fp gd.blk ioA) hs) fun σ H Q h => comp_core tt' hv h
end
end Den

set_option Elab.async false
set_option linter.all false
set_option maxRecDepth 100000
/-! DenK: calls of built-ins, displays, subscripts, by data. -/
namespace Den
open PySem PySem.Spec
open PyProof.Rows L2

def looks : List Pk → Rho → Option (List PD)
  | [], _ => some []
  | p :: ps, ρ => (match look p ρ, looks ps ρ with
    | some d, some ds => some (d :: ds)
    | _, _ => none)
inductive PkAll (k : Kc) (G H : Hp) : List V → List PD → Prop
  | nil : PkAll k G H [] []
  | cons {v : V} {vs : List V} {d : PD} {ds : List PD} : PkR k G H v d → PkAll k G H vs ds → PkAll k G H (v :: vs) (d :: ds)
theorem looks_ok {c : Cc} {ioA : List Addr} {ρ : Rho} {σ : St} {H : Hp} {P : Pcs} (r : RepW c ioA ρ σ H P) : ∀ {ps : List Pk} {vs : List V} {ds : List PD}, VRks c σ P ps vs → looks ps ρ = some ds → PkAll c.kc (P .g) H vs ds
  | _, _, _, .nil, e => by cases e; exact .nil
  | _, _, _, .cons (p := p) (ps := ps) h t, e => by
    unfold looks at e
    cases e1 : look p ρ with
    | none => simp only [e1] at e; cases e
    | some d =>
      cases e2 : looks ps ρ with
      | none => simp only [e1, e2] at e; cases e
      | some ds =>
        simp only [e1, e2] at e
        cases e
        exact .cons (look_ok r (by cases p <;> exact h) e1) (looks_ok r t e2)
def dKs (f : M Pk) (r : M (List Pk)) : M (List Pk) := mbind f fun p => mbind r fun ps => mpure (p :: ps)
section
variable {X : Cx} {c : Cc} {W : WX} {e a b : Expr} {es : List Expr} {pos p : Pos} {f : M Pk} {fs : M (List Pk)} {fd : M PD} {fds : M (List PD)}
theorem dks_nil : DKs X c W [] (mpure []) := fun gd ioA => PA.imp pa_nil fun σ H Q ⟨ρ, P, rp, h⟩ => h.pure rp .nil
theorem dks_cons (ha : DK X c W e f) (hr : DKs X c W es fs) (hs : starEach (e :: es) X.env = (false, eval e X.env) :: starEach es X.env := by rfl) : DKs X c W (e :: es) (dKs f fs) := fun gd ioA => by
  refine PA.imp (pa_cons (ha gd ioA) (hr gd ioA) hs) fun σ H Q ⟨ρ, P, rp, h⟩ => ⟨ρ, P, rp, h.bind.mono fun x H1 ⟨d, ρ1, P1, s1, r1, v1, h1⟩ => ⟨ρ1, P1, r1, h1.bind.mono fun xs H2 ⟨ds, ρ2, P2, s2, r2, v2, h2⟩ => ?_⟩⟩
  refine h2.pure r2 (.cons ?_ v2)
  exact VRk.step (H := H1) (H' := emp) v1 s2
def dEs (f : M PD) (r : M (List PD)) : M (List PD) := mbind f fun p => mbind r fun ps => mpure (p :: ps)
theorem des_nil : DEs X c W [] (mpure []) := fun gd ioA => PA.imp pa_nil fun σ H Q ⟨ρ, P, rp, h⟩ => h.pure rp .nil
theorem des_cons (ha : DE X c W e fd) (hr : DEs X c W es fds) (hs : starEach (e :: es) X.env = (false, eval e X.env) :: starEach es X.env := by rfl) : DEs X c W (e :: es) (dEs fd fds) := fun gd ioA => by
  refine PA.imp (pa_cons (ha gd ioA) (hr gd ioA) hs) fun σ H Q ⟨ρ, P, rp, h⟩ => ⟨ρ, P, rp, h.bind.mono fun x H1 ⟨d, ρ1, P1, s1, r1, v1, h1⟩ => ⟨ρ1, P1, r1, h1.bind.mono fun xs H2 ⟨ds, ρ2, P2, s2, r2, v2, h2⟩ => ?_⟩⟩
  exact h2.pure r2 (RpAll.cons (Rp.mono s2.g v1) v2)
end
/-! ### what a built-in gives -/
def CalD (X : Cx) (k : Kc) (f : Value) (g : List PD → Option PD) : Prop := X.calm = true → k.K = X.K → ∃ r, CallR X f r ∧
  ∀ G H xs dxs dz Q, Same G H → PkAll k G H xs dxs → g dxs = some dz → OutOk k G H dz Q → r xs H Q
/-- a new list -/
def OutF (k : Kc) (G H : Hp) (ys : List PD) (Q : VK) : Prop := ∀ p vs, H p = none → RpAll k G vs ys → Q (.ref p) (upd H p (.lst vs))
def dCB (g : List PD → Option PD) (as : M (List Pk)) : M PD := mbind as fun ps ρ => match looks ps ρ with
  | some ds => mopt (g ds) ρ
  | none => .bad
theorem tMat.outF {c : Cc} {ioA : List Addr} {W : WX} {ρ : Rho} {P : Pcs} {σ : St} {H : Hp} {d : List PD} {Q : VK} (h : tMat c ioA W (VRf c) (mpure d) ρ P σ Q) (r : RepW c ioA ρ σ H P) : OutF c.kc (P .g) H d Q := fun p vs n q => by
  have eg : put P .t (one p (.lst vs)) .g = P .g := put_ne (by simp)
  refine h (.ref p) (upd H p (.lst vs)) (put P .t (one p (.lst vs))) ⟨by rw [eg]; exact Same.refl _, put_ne (by simp)⟩ ⟨?_, r.len, fun i s e => ?_, fun j m e => ?_⟩ ⟨p, rfl, vs, by rw [eg]; exact q, put_same⟩
  · exact r.pc.put (fun a o e _ => ⟨by rw [upd_ne (ne_of_none e n)]; exact e, one_ne (ne_of_none e n)⟩) (same_one upd_same)
  · rw [eg, put_ne (by simp)]; exact r.so i s e
  · obtain ⟨a, e1, e2⟩ := r.io j m e
    exact ⟨a, e1, by rw [eg, put_ne (by simp)]; exact e2⟩
section
variable {X : Cx} {c : Cc} {W : WX} {e : Expr} {es : List Expr} {x : Str} {pos p : Pos} {as : M (List Pk)} {id T : String} {g : List PD → Option PD} {gf : List PD → Option (List PD)}
theorem cb_core {ioA : List Addr} {r : List V → Hp → VK → Prop} {σ : St} {H : Hp} {Q : VK} (hr : ∀ G H xs dxs dz Q, Same G H → PkAll c.kc G H xs dxs → g dxs = some dz → OutOk c.kc G H dz Q → r xs H Q)
    (h : tM c ioA W (VRe c) (dCB g as) σ H Q) : tCB r (tM c ioA W (fun ps vs σ _ P => VRks c σ P ps vs) as) σ H Q := by
  obtain ⟨ρ, P, rp, h⟩ := h
  refine ⟨ρ, P, rp, h.bind.mono fun vs H1 ⟨ps, ρ1, P1, s1, r1, v1, h1⟩ => ?_⟩
  cases e1 : looks ps ρ1 with
  | none => unfold tMat at h1; simp only [e1] at h1
  | some ds =>
    cases e2 : g ds with
    | none => unfold tMat mopt at h1; simp only [e1, e2] at h1
    | some dz =>
      have h3 : tMat c ioA W (VRe c) (mpure dz) ρ1 P1 σ Q := by
        unfold tMat mpure
        unfold tMat mopt at h1
        simp only [e1, e2] at h1
        exact h1
      exact hr _ _ vs ds dz Q (r1.pc.sub .g) (looks_ok r1 v1 e1) e2 (h3.out r1)
theorem de_cb (hc : CalD X c.kc (.builtin id) g) (cm : X.calm = true) (hv : bootBuiltins x = some (.builtin id)) (hg : Gl X x) (hm : X.mg x = none) (ha : DKs X c W (e :: es) as) (hn : x ≠ "__name__" := by decide) (hdb : (x == ("__debug__" : Str)) = false := by decide)
    (he : starEach (e :: es) X.env = (false, eval e X.env) :: starEach es X.env := by rfl) (hpl : (backTo pos (starEach es X.env)).any (·.1) = false := by rfl) : DE X c W (.Call (.Name x p) (e :: es) [] pos) (dCB g as) := fun gd ioA => by
  obtain ⟨r, h1, h2⟩ := hc cm gd.hK
  exact PE.imp (pe_callB h1 hg hm hv (ha gd ioA) hn hdb he hpl) fun σ H Q h => cb_core h2 h
theorem de_cty (hc : CalD X c.kc (.type T) g) (cm : X.calm = true) (hv : bootBuiltins x = some (.type T)) (hg : Gl X x) (hm : X.mg x = none) (ha : DKs X c W (e :: es) as) (hn : x ≠ "__name__" := by decide) (hdb : (x == ("__debug__" : Str)) = false := by decide)
    (he : starEach (e :: es) X.env = (false, eval e X.env) :: starEach es X.env := by rfl) (hpl : (backTo pos (starEach es X.env)).any (·.1) = false := by rfl) : DE X c W (.Call (.Name x p) (e :: es) [] pos) (dCB g as) := fun gd ioA => by
  obtain ⟨r, h1, h2⟩ := hc cm gd.hK
  exact PE.imp (pe_callTy h1 hg hm hv (ha gd ioA) hn hdb he hpl) fun σ H Q h => cb_core h2 h
end
section
variable {k : Kc} {G H : Hp} {v : V}
theorem PkR.seq {d : PD} {ds : List PD} (s : Same G H) (h : PkR k G H v d) (e : seqOf d = some ds) : ∃ a xs, v = .ref a ∧ (SqL k.K H a xs ∨ SqT k.K H a xs) ∧ RpAll k G xs ds := by
  cases d with
  | list ys => cases e; obtain ⟨a, xs, e1, e2, e3⟩ := h.list s; exact ⟨a, xs, e1, .inl (.inl (.inl e2)), e3⟩
  | tuple ys => cases e; obtain ⟨a, xs, e1, e2, e3⟩ := h.tuple s; exact ⟨a, xs, e1, .inr e2, e3⟩
  | _ => cases e
theorem PkAll.one {vs : List V} {d : PD} (h : PkAll k G H vs [d]) : ∃ v, vs = [v] ∧ PkR k G H v d := by
  cases h with
  | cons a b => cases b; exact ⟨_, rfl, a⟩
theorem PkAll.two {vs : List V} {d d2 : PD} (h : PkAll k G H vs [d, d2]) : ∃ v w, vs = [v, w] ∧ PkR k G H v d ∧ PkR k G H w d2 := by
  cases h with
  | cons a b => cases b with
    | cons a2 b2 => cases b2; exact ⟨_, _, rfl, a, a2⟩
theorem rpKs_head : ∀ {es : List (Key × V)} {ds : List (PD × PD)}, RpKs k G es ds → ds.head?.map Prod.fst ≠ some PyData.none
  | _, _, .nil => by simp
  | _, _, .cons (f := .inl i) _ _ => by simp [kD]
  | _, _, .cons (f := .inr i) _ _ => by simp [kD]
theorem rpTs_head : ∀ {es : List (List Key × V)} {ds : List (PD × PD)}, RpTs k G es ds → ds.head?.map Prod.fst ≠ some PyData.none
  | _, _, .nil => by simp
  | _, _, .cons _ _ => by simp
/-- the script -/
theorem PkR.scr {ds : List PD} (s : Same G H) (h : PkR k G H v (.dict [(.none, .list ds)])) : ∃ a xs, v = .ref a ∧ SqL k.K H a xs ∧ RpAll k G xs ds := by
  rcases h with h | ⟨m, a, M, rfl, h, sm, e⟩
  · cases h with
    | scr h r => exact ⟨_, _, rfl, Same.seqL s h, r⟩
    | dK _ r => exact absurd rfl (rpKs_head r)
    | dT _ r => exact absurd rfl (rpTs_head r)
  · cases m with
    | lst xs => cases e
    | ll xss => cases e
    | dn kvs => cases e
    | tab q => cases e
    | dic es =>
      cases e
      rcases h with ⟨es, r, _⟩ | ⟨es, r, _⟩
      · exact absurd rfl (rpTs_head r)
      · exact absurd rfl (rpKs_head r)
    | ins n fs => cases e
/-- a dict, not an instance -/
theorem PkR.dict {kvs : List (PD × PD)} (s : Same G H) (hn : kvs.head?.map Prod.fst ≠ some PyData.none) (h : PkR k G H v (.dict kvs)) : ∃ a, v = .ref a ∧ ((∃ es, H a = some (.dK es) ∧ RpKs k G es kvs) ∨ ∃ es, H a = some (.dT es) ∧ RpTs k G es kvs) := by
  rcases h with h | ⟨m, a, M, rfl, h, sm, e⟩
  · cases h with
    | ins h1 h2 h3 => exact absurd rfl hn
    | scr _ _ => exact absurd rfl hn
    | dK h1 h2 => exact ⟨_, rfl, .inl ⟨_, s _ _ h1, h2⟩⟩
    | dT h1 h2 => exact ⟨_, rfl, .inr ⟨_, s _ _ h1, h2⟩⟩
  · cases m with
    | lst xs => cases e
    | ll xss => cases e
    | dn kvs => cases e
    | tab q => cases e
    | dic es =>
      cases e
      rcases h with ⟨es, r, rfl⟩ | ⟨es, r, rfl⟩
      · exact ⟨a, rfl, .inr ⟨es, sm _ _ one_same, r⟩⟩
      · exact ⟨a, rfl, .inl ⟨es, sm _ _ one_same, r⟩⟩
    | ins n fs => cases e; exact absurd rfl hn
/-- how many entries (the mark is none) -/
def dicN : List (PD × PD) → Nat
  | [] => 0
  | (.bool _, _) :: r => dicN r
  | _ :: r => dicN r + 1
theorem RpKs.length : ∀ {es : List (Key × V)} {ds : List (PD × PD)}, RpKs k G es ds → es.length = dicN ds
  | _, _, .nil => rfl
  | _, _, .cons (f := .inl i) _ r => by simp [RpKs.length r, kD, dicN]
  | _, _, .cons (f := .inr i) _ r => by simp [RpKs.length r, kD, dicN]
theorem RpTs.length : ∀ {es : List (List Key × V)} {ds : List (PD × PD)}, RpTs k G es ds → es.length = dicN ds
  | _, _, .nil => rfl
  | _, _, .cons _ r => by simp [RpTs.length r, dicN]
end
/-- a dict that is no instance -/
def isDic (kvs : List (PD × PD)) : Bool := match kvs with
  | (.none, _) :: _ => false
  | _ => true
theorem isDic_ne {kvs : List (PD × PD)} (h : isDic kvs = true) : kvs.head?.map Prod.fst ≠ some PyData.none := by
  intro e
  cases kvs with
  | nil => cases e
  | cons p r =>
    obtain ⟨a, b⟩ := p
    have e' : a = .none := by simpa using e
    subst e'
    cases h
def gLen : List PD → Option PD
  | [.list ds] => some (.int ds.length)
  | [.tuple ds] => some (.int ds.length)
  | [.str z] => if z.length ≤ sizeLine then some (.int z.length) else none
  | [.dict [(.none, .list ds)]] => some (.int ds.length)
  | [.dict kvs] => if isDic kvs = true then some (.int (dicN kvs)) else none
  | _ => none
section
variable {X : Cx} {k : Kc}
theorem c_len : CalD X k (.builtin "len") gLen := fun hc hK => by
  refine ⟨_, (CallR.or call_len_seq (CallR.or call_len_str (CallR.or call_lenD call_len_dT))), fun G H xs dxs dz Q s hp hg ho => ?_⟩
  unfold gLen at hg
  split at hg
  · cases hg
    obtain ⟨v, rfl, h⟩ := hp.one
    obtain ⟨a, xs, rfl, e2, e3⟩ := h.list s
    exact .inl ⟨a, xs, rfl, .inl (.inl (.inl e2)), by rw [e3.length]; exact ho.here s (.int _)⟩
  · cases hg
    obtain ⟨v, rfl, h⟩ := hp.one
    obtain ⟨a, xs, rfl, e2, e3⟩ := h.tuple s
    exact .inl ⟨a, xs, rfl, .inr (hK ▸ e2), by rw [e3.length]; exact ho.here s (.int _)⟩
  · split at hg
    · cases hg
      obtain ⟨v, rfl, h⟩ := hp.one
      cases h.str
      exact .inr (.inl ⟨_, rfl, by assumption, ho.here s (.int _)⟩)
    · cases hg
  · cases hg
    obtain ⟨v, rfl, h⟩ := hp.one
    obtain ⟨a, xs, rfl, e2, e3⟩ := h.scr s
    exact .inl ⟨a, xs, rfl, .inl (hK ▸ e2), by rw [e3.length]; exact ho.here s (.int _)⟩
  · split at hg
    · rename_i kvs _ hd
      cases hg
      obtain ⟨v, rfl, h⟩ := hp.one
      obtain ⟨a, rfl, ⟨es, e1, e2⟩ | ⟨es, e1, e2⟩⟩ := h.dict s (isDic_ne hd)
      · exact .inr (.inr (.inl ⟨a, es, rfl, e1, by rw [e2.length]; exact ho.here s (.int _)⟩))
      · exact .inr (.inr (.inr ⟨a, es, rfl, e1, by rw [e2.length]; exact ho.here s (.int _)⟩))
    · cases hg
  · cases hg
def gAbs : List PD → Option PD
  | [.int i] => some (.int (if i < 0 then -i else i))
  | _ => none
theorem c_abs : CalD X k (.builtin "abs") gAbs := fun hc hK => by
  refine ⟨_, call_abs, fun G H xs dxs dz Q s hp hg ho => ?_⟩
  unfold gAbs at hg
  split at hg
  · cases hg
    obtain ⟨v, rfl, h⟩ := hp.one
    cases h.int
    exact ⟨_, rfl, ho.here s (.int _)⟩
  · cases hg
def gInt : List PD → Option PD
  | [.int i] => some (.int i)
  | [.bool b] => some (.int (if b then 1 else 0))
  | _ => none
theorem c_int : CalD X k (.type "int") gInt := fun hc hK => by
  refine ⟨_, call_int1, fun G H xs dxs dz Q s hp hg ho => ?_⟩
  unfold gInt at hg
  split at hg
  · cases hg
    obtain ⟨v, rfl, h⟩ := hp.one
    cases h.int
    exact .inl ⟨_, rfl, ho.here s (.int _)⟩
  · cases hg
    obtain ⟨v, rfl, h⟩ := hp.one
    cases h.bl
    exact .inr ⟨_, rfl, ho.here s (.int _)⟩
  · cases hg
/-! all, any of a tuple of bools: the library's rules over data -/
end
end Den

set_option Elab.async false
set_option linter.all false
set_option maxRecDepth 100000
/-! DenL: displays, subscripts, slices, attributes, isinstance, by data. -/
namespace Den
open PySem PySem.Spec
open PyProof.Rows L2

theorem small_size {n : Nat} (h : n ≤ 10000) : n ≤ sizeLine := by have := sizeLine_eq; omega
def dTup (as : M (List PD)) : M PD := mbind as fun ds => if ds.length ≤ 10000 then mpure (.tuple ds) else fun _ => .bad
def dLst (as : M (List PD)) : M (List PD) := mbind as fun ds => if ds.length ≤ 10000 then mpure ds else fun _ => .bad
section
variable {X : Cx} {c : Cc} {W : WX} {e a b : Expr} {es : List Expr} {pos p p2 : Pos} {as : M (List PD)} {fa fb : M Pk} {f : M PD}
/-- a display: a tuple is made -/
def tTupF (t : TA) : TE := fun σ H Q => t σ H fun xs H1 => xs.length ≤ sizeLine ∧ ∀ (o : Obj) p, o.dict = none → H1 p = none → Q (.ref p) (upd H1 p (tupO o xs))
theorem pe_tupF {t : TA} {n : Nat} (h : PA X es t) : PE X (.Tuple es n pos) (tTupF t) := by
  constructor
  intro pins s σ H Q I q
  refine wpAny_Tuple_spliced (thn (h.run pos pins s σ H _ I q) ?_)
  rintro us s1 ⟨xs, H1, J, rel, few, q1⟩
  exact ⟨by rw [← rel.length]; exact few, .ref _, _, born_tup J rel few, rfl, q1 _ _ rfl (J.hok.fresh (Nat.le_refl _))⟩
theorem de_tup {n : Nat} (h : DEs X c W es as) : DE X c W (.Tuple es n pos) (dTup as) := fun gd ioA => by
  refine PE.imp (pe_tupF (h gd ioA)) fun σ H Q ⟨ρ, P, rp, h⟩ => ⟨ρ, P, rp, h.bind.mono fun vs H1 ⟨ds, ρ1, P1, s1, r1, v1, h1⟩ => ?_⟩
  by_cases hl : ds.length ≤ 10000
  · rw [if_pos hl] at h1
    have v1' : RpAll c.kc (P1 .g) vs ds := v1
    exact ⟨by rw [v1'.length]; exact small_size hl, (h1.out r1).tup (r1.pc.sub .g) v1'⟩
  · rw [if_neg hl] at h1; exact h1.elim
theorem df_lst (h : DEs X c W es as) : DF X c W (.List es pos) (dLst as) := fun gd ioA => by
  refine PE.imp (pe_lst (h gd ioA)) fun σ H Q ⟨ρ, P, rp, h⟩ => ⟨ρ, P, rp, h.bind.mono fun vs H1 ⟨ds, ρ1, P1, s1, r1, v1, h1⟩ => ?_⟩
  by_cases hl : ds.length ≤ 10000
  · rw [if_pos hl] at h1
    have v1' : RpAll c.kc (P1 .g) vs ds := v1
    exact ⟨by rw [v1'.length]; exact small_size hl, fun p n => h1.outF r1 p vs n v1'⟩
  · rw [if_neg hl] at h1; exact h1.elim
/-- minus -/
def dNeg (f : M PD) : M PD := mbind f fun d => match d with
  | .int i => mpure (.int (-i))
  | _ => fun _ => .bad
theorem de_neg (h : DE X c W e f) : DE X c W (.UnaryOp .USub e pos) (dNeg f) := fun gd ioA => by
  refine PE.imp (pe_un un_neg (h gd ioA)) fun σ H Q ⟨ρ, P, rp, h⟩ => ⟨ρ, P, rp, h.bind.mono fun v H1 ⟨d, ρ1, P1, s1, r1, v1, h1⟩ => ?_⟩
  cases d with
  | int i =>
    have v1' : Rp c.kc (P1 .g) v (.int i) := v1
    cases v1'
    exact ⟨i, rfl, h1.pure r1 (.int _)⟩
  | _ => exact h1.elim
/-- a[b] -/
def pGet : PD → PD → Option PD
  | .list ds, .int i => atI ds i
  | .tuple ds, .int i => atI ds i
  | .dict [(.none, .list ds)], .int i => atI ds i
  | .str z, .int i => if z.length ≤ sizeLine then (atI z.cps.toList i).map fun ch => .str ⟨#[ch]⟩ else none
  | _, _ => none
theorem atI_rp {k : Kc} {G : Hp} {vs : List V} {ds : List PD} {i : Int} {d : PD} (h : RpAll k G vs ds) (e : atI ds i = some d) : ∃ v, atI vs i = some v ∧ Rp k G v d := by
  unfold atI at e ⊢
  rw [h.length]
  cases e1 : ixN ds.length i with
  | none => rw [e1] at e; cases e
  | some j =>
    rw [e1] at e
    obtain ⟨v, h1, h2⟩ := h.get (i := j) (by simpa using e)
    exact ⟨v, by simpa using h1, h2⟩
theorem de_ix (ha : DK X c W a fa) (hb : DK X c W b fb) (hs : PlainIx b := by intro _ _; rfl) : DE X c W (.Subscript a b pos) (dOp2 pGet fa fb) := fun gd ioA => by
  refine PE.imp (pe_ix ix_seq (ha gd ioA) (hb gd ioA) hs) fun σ H Q h => op2_core (fun G H x y dx dy dz Q s h1 h2 e ho => ?_) h
  unfold pGet at e
  split at e
  · obtain ⟨p, xs, rfl, q1, q2⟩ := h1.list s
    cases h2.int
    obtain ⟨v, q3, q4⟩ := atI_rp q2 e
    exact .inl ⟨p, xs, _, v, rfl, rfl, .inl (.inl q1), q3, ho.here s q4⟩
  · obtain ⟨p, xs, rfl, q1, q2⟩ := h1.tuple s
    cases h2.int
    obtain ⟨v, q3, q4⟩ := atI_rp q2 e
    exact .inr (.inl ⟨p, xs, _, v, rfl, rfl, gd.hK ▸ q1, q3, ho.here s q4⟩)
  · obtain ⟨p, xs, rfl, q1, q2⟩ := h1.scr s
    cases h2.int
    obtain ⟨v, q3, q4⟩ := atI_rp q2 e
    exact .inl ⟨p, xs, _, v, rfl, rfl, gd.hK ▸ q1, q3, ho.here s q4⟩
  · cases h1.str
    cases h2.int
    split at e
    · rename_i hz
      obtain ⟨ch, q1, rfl⟩ := Option.map_eq_some_iff.mp e
      exact .inr (.inr ⟨_, _, ch, rfl, rfl, hz, q1, ho.here s (.str _)⟩)
    · cases e
  · cases e
/-! ### slices -/
theorem PO.imp {X : Cx} {e : Option Expr} {t t' : TO} (h : PO X e t) (i : ∀ σ H Q, t' σ H Q → t σ H Q) : PO X e t' := ⟨fun pins s σ H Q I q => h.run pins s σ H Q I (i σ H Q q)⟩
/-! ### attributes -/
theorem PkR.ins {k : Kc} {G H : Hp} {v : V} {n : Str} {fs : List (PD × PD)} (s : Same G H) (h : PkR k G H v (.dict ((.none, .str n) :: fs))) : ∃ a C dx vs, v = .ref a ∧ H a = some (.ins C dx vs) ∧ k.kl n = some C ∧ RpFs k G vs fs := by
  rcases h with h | ⟨m, a, M, rfl, h, sm, e⟩
  · cases h with
    | ins h1 h2 h3 => exact ⟨_, _, _, _, rfl, s _ _ h1, h2, h3⟩
    | dK h1 h2 => exact absurd rfl (rpKs_head h2)
    | dT h1 h2 => exact absurd rfl (rpTs_head h2)
  · cases m with
    | lst xs => cases e
    | ll xss => cases e
    | dn kvs => cases e
    | tab q => cases e
    | dic es =>
      cases e
      rcases h with ⟨es, r, rfl⟩ | ⟨es, r, rfl⟩
      · exact absurd rfl (rpTs_head r)
      · exact absurd rfl (rpKs_head r)
    | ins n' fs' =>
      obtain ⟨C, dx, vs, e1, r, q, rfl⟩ := h
      cases e
      exact ⟨a, C, dx, vs, rfl, sm _ _ upd_same, e1, r⟩
/-! ### isinstance -/
end
end Den

set_option Elab.async false
set_option linter.all false
set_option maxRecDepth 100000
/-! DenM: isinstance calls; lists that change. -/
namespace Den
open PySem PySem.Spec
open PyProof.Rows L2

/-! ### isinstance -/
section
variable {X : Cx} {c : Cc} {W : WX} {e : Expr} {pos p p2 p3 : Pos} {fa : M Pk} {T : String} {Ts : List String} {x : Str}
end
/-! ### where a mutable stands -/
theorem RepW.own_at {c : Cc} {ioA : List Addr} {ρ : Rho} {σ : St} {H : Hp} {P : Pcs} {i : Nat} {x : Ix} {m : MC} (r : RepW c ioA ρ σ H P) (ex : ixOf ρ i = some x) (em : getC ρ x = some m) :
    ∃ a, σ[i]? = some (some (.ref a)) ∧ MR c.kc (P .g) m a (P x) ∧ ((∃ i, x = .sl i ∧ σ[i]? = some (some (.ref a))) ∨ ∃ j, x = .io j ∧ ioA[j]? = some a) := by
  unfold ixOf at ex
  cases q : ρ.sl[i]? with
  | none => simp only [q] at ex; cases ex
  | some s =>
    have so := r.so i s q
    cases s with
    | own m0 =>
      simp only [q] at ex
      cases ex
      have em' : (match ρ.sl[i]? with | some (.own m) => some m | _ => none) = some m := em
      simp only [q] at em'
      cases em'
      obtain ⟨a, e1, e2⟩ := so
      exact ⟨a, e1, e2, .inl ⟨i, rfl, e1⟩⟩
    | io j =>
      simp only [q] at ex
      cases ex
      obtain ⟨a, e1, e2⟩ := so
      obtain ⟨b, e3, e4⟩ := r.io j m em
      rw [e1] at e3
      cases e3
      exact ⟨a, e2, e4, .inr ⟨j, rfl, e1⟩⟩
    | _ => simp only [q] at ex; cases ex
/-- a mutable is rewritten -/
theorem RepW.updC {c : Cc} {ioA : List Addr} {ρ : Rho} {σ : St} {H H' : Hp} {P : Pcs} {x : Ix} {m' : MC} {a : Addr} {M' : Hp} (r : RepW c ioA ρ σ H P) (hx : (∃ i, x = .sl i ∧ σ[i]? = some (some (.ref a))) ∨ ∃ j, x = .io j ∧ ioA[j]? = some a)
    (hk : ∀ b o, H b = some o → P x b = none → H' b = some o ∧ M' b = none) (hs : Same M' H') (hm : MR c.kc (P .g) m' a M') : RepW c ioA (setC ρ x m') σ H' (put P x M') ∧ Stp P (put P x M') := by
  have hxg : x ≠ .g := by rcases hx with ⟨_, rfl, _⟩ | ⟨_, rfl, _⟩ <;> simp
  have hxf : x ≠ .f := by rcases hx with ⟨_, rfl, _⟩ | ⟨_, rfl, _⟩ <;> simp
  have eg : put P x M' .g = P .g := put_ne (Ne.symm hxg)
  refine ⟨?_, ⟨by rw [eg]; exact Same.refl _, put_ne (Ne.symm hxf)⟩⟩
  rcases hx with ⟨i, rfl, hσ⟩ | ⟨j, rfl, hσ⟩
  · refine ⟨r.pc.put hk hs, by show σ.length = (ρ.sl.set i _).length; rw [List.length_set]; exact r.len, fun i2 sl e => ?_, fun j m2 e => ?_⟩
    · rw [eg]
      have e' : (ρ.sl.set i (.own m'))[i2]? = some sl := e
      rw [List.getElem?_set] at e'
      by_cases hi : i = i2
      · subst hi
        simp only [if_true] at e'
        split at e'
        · cases e'
          rw [put_same]
          exact ⟨a, hσ, hm⟩
        · cases e'
      · rw [if_neg hi] at e'
        rw [put_ne (by simp; exact fun z => hi z.symm)]
        exact r.so i2 sl e'
    · obtain ⟨b, e1, q⟩ := r.io j m2 e
      rw [eg, put_ne (by simp)]
      exact ⟨b, e1, q⟩
  · refine ⟨r.pc.put hk hs, r.len, fun i2 sl e => ?_, fun j2 m2 e => ?_⟩
    · rw [eg, put_ne (by simp)]
      exact r.so i2 sl e
    · have e' : (ρ.io.set j m')[j2]? = some m2 := e
      rw [List.getElem?_set] at e'
      rw [eg]
      by_cases hj : j = j2
      · subst hj
        simp only [if_true] at e'
        split at e'
        · cases e'
          rw [put_same]
          exact ⟨a, hσ, hm⟩
        · cases e'
      · rw [if_neg hj] at e'
        obtain ⟨b, e1, q⟩ := r.io j2 m2 e'
        rw [put_ne (by simp; exact fun z => hj z.symm)]
        exact ⟨b, e1, q⟩
def getM (i : Nat) (ρ : Rho) : Option MC := match ixOf ρ i with
  | some x => getC ρ x
  | none => none
def setM (i : Nat) (m : MC) (ρ : Rho) : Rho := match ixOf ρ i with
  | some x => setC ρ x m
  | none => ρ
/-- the list of a slot, to be rewritten -/
theorem RepW.lst_at {c : Cc} {ioA : List Addr} {ρ : Rho} {σ : St} {H : Hp} {P : Pcs} {i : Nat} {xs : List PD} (r : RepW c ioA ρ σ H P) (e : getM i ρ = some (.lst xs)) : ∃ a vs, σ[i]? = some (some (.ref a)) ∧ H a = some (.lst vs) ∧ RpAll c.kc (P .g) vs xs ∧
    ∀ ws ys, RpAll c.kc (P .g) ws ys → ∃ P', Stp P P' ∧ RepW c ioA (setM i (.lst ys) ρ) σ (upd H a (.lst ws)) P' ∧ P' .g = P .g := by
  unfold getM at e
  cases ex : ixOf ρ i with
  | none => rw [ex] at e; cases e
  | some x =>
    rw [ex] at e
    obtain ⟨a, e1, ⟨vs, e2, e3⟩, hx⟩ := r.own_at ex e
    have hxg : x ≠ .g := by rcases hx with ⟨_, rfl, _⟩ | ⟨_, rfl, _⟩ <;> simp
    have ha : P x a = some (.lst vs) := by rw [e3]; exact one_same
    refine ⟨a, vs, e1, r.pc.sub x a _ ha, e2, fun ws ys hw => ?_⟩
    have hk : ∀ b o, H b = some o → P x b = none → upd H a (.lst ws) b = some o ∧ one a (.lst ws) b = none := fun b o eb n => by
      have hb : b ≠ a := fun z => by rw [z, ha] at n; cases n
      exact ⟨by rw [upd_ne hb]; exact eb, one_ne hb⟩
    obtain ⟨r2, s2⟩ := r.updC (m' := .lst ys) (H' := upd H a (.lst ws)) (M' := one a (.lst ws)) hx hk (same_one upd_same) ⟨ws, hw, rfl⟩
    exact ⟨put P x (one a (.lst ws)), s2, by unfold setM; rw [ex]; exact r2, put_ne (Ne.symm hxg)⟩
/-! ### a list's methods -/
def getL (i : Nat) (ρ : Rho) : Option (List PD) := match getM i ρ with
  | some (.lst xs) => some xs
  | _ => none
theorem getL_ok {i : Nat} {ρ : Rho} {xs : List PD} (h : getL i ρ = some xs) : getM i ρ = some (.lst xs) := by
  unfold getL at h
  split at h
  · rename_i e; cases h; exact e
  · cases h
section
variable {X : Cx} {c : Cc} {W : WX} {e : Expr} {es : List Expr} {apos cpos p : Pos} {x name : Str} {id : String} {g : List PD → List PD → Option (List PD × PD)} {as : M (List PD)}
end
def mAppend (xs : List PD) : List PD → Option (List PD × PD)
  | [d] => if xs.length < 10000000 then some (xs ++ [d], .none) else none
  | _ => none
def mExtend (xs : List PD) : List PD → Option (List PD × PD)
  | [.list ys] => if xs.length + ys.length < 10000000 then some (xs ++ ys, .none) else none
  | _ => none
def mPop (xs : List PD) : List PD → Option (List PD × PD)
  | [] => xs.getLast?.map fun d => (xs.dropLast, d)
  | [.int i] => if smallI i = true then ((ixN xs.length i).bind fun j => xs[j]?.map fun d => (xs.eraseIdx j, d)) else none
  | _ => none
section
variable {X : Cx} {k : Kc}
theorem RpAll.dropLast {G : Hp} {vs : List V} {ds : List PD} (h : RpAll k G vs ds) : RpAll k G vs.dropLast ds.dropLast := by
  rw [List.dropLast_eq_take, List.dropLast_eq_take, h.length]
  exact h.take _
end
end Den

set_option Elab.async false
set_option linter.all false
set_option maxRecDepth 100000
/-! DenN: stores: subscripts, op=, tuples with new lists, fields. -/
namespace Den
open PySem PySem.Spec
open PyProof.Rows L2

/-! ### x[i] = e -/
def dSetI (i : Nat) (fi fv : M PD) : M Fl := mbind fv fun d ρ => match getL i ρ with
  | some _ => mbind fi (fun ix ρ' => match ix, getL i ρ' with
    | .int k, some xs => (match ixN xs.length k with
      | some j => .ok .nx (setM i (.lst (xs.set j d)) ρ')
      | none => .bad)
    | _, _ => .bad) ρ
  | none => .bad
section
variable {X : Cx} {c : Cc} {W : WX} {e ie : Expr} {es : List Expr} {pos pos' p tp : Pos} {x : Str} {fi fv f : M PD}
theorem ds_setI (i : Nat) (hv : DE X c W e fv) (hi : DE X c W ie fi) (hN : X.N[i]? = some x := by rfl) (hvs : Vis X.env.scope x := by first | exact Or.inl rfl | exact Or.inr (Or.inl rfl) | exact Or.inr (Or.inr rfl)) (hd : (x == ("__debug__" : Str)) = false := by decide)
    (hcd : (x == ("__classdict__" : Str)) = false := by decide)
    (ha : ∀ v, assign (.Subscript (.Name x p) ie tp) X.env v = (do
      let ov ← holding [v] (eval (.Name x p) X.env)
      let iv ← holding [v, ov] (eval ie X.env)
      standAt tp
      holding [v, ov, iv] (setItem ov iv v)
      release [v, ov, iv] []) := by intro _; rfl)
    (hs : swapsWithSole [.Subscript (.Name x p) ie tp] e pos.line X.env = pure false := by rfl) (hw : swappedStores [.Subscript (.Name x p) ie tp] e X.env = pure none := by rfl)
    (h1 : (assignEach [.Subscript (.Name x p) ie tp] X.env).map (·.2) = [assign (.Subscript (.Name x p) ie tp) X.env] := by rfl) :
    DS X c W (.Assign [.Subscript (.Name x p) ie tp] e pos) (dSetI i fi fv) := fun gd ioA => by
  refine PS.imp (ps_asg (hv gd ioA) (pg_sub (pe_var hN hvs hd hcd) (hi gd ioA) set_list ha) hs hw h1) fun D σ H ⟨ρ, P, rp, h⟩ => ⟨ρ, P, rp, h.bind.mono fun v H1 ⟨d, ρ1, P1, s1, r1, v1, h1⟩ => ?_⟩
  unfold tSat at h1
  cases e0 : getL i ρ1 with
  | none => simp only [e0] at h1
  | some xs0 =>
    simp only [e0] at h1
    obtain ⟨a, vs0, q1, q2, _⟩ := r1.lst_at (getL_ok e0)
    refine ⟨.ref a, q1, ρ1, P1, r1, ?_⟩
    have h1 : tSat c ioA W (mbind fi fun ix ρ' => match ix, getL i ρ' with
      | .int k, some xs => (match ixN xs.length k with
        | some j => R.ok Fl.nx (setM i (.lst (xs.set j d)) ρ')
        | none => .bad)
      | _, _ => .bad) ρ1 P1 D := h1
    refine h1.bind.mono fun iv H2 ⟨ix, ρ2, P2, s2, r2, v2, h2⟩ => ?_
    unfold tSat at h2
    cases ix with
    | int k =>
      cases e1 : getL i ρ2 with
      | none => simp only [e1] at h2
      | some xs =>
        simp only [e1] at h2
        cases e2 : ixN xs.length k with
        | none => simp only [e2] at h2
        | some j =>
          simp only [e2] at h2
          have v2' : Rp c.kc (P2 .g) iv (.int k) := v2
          cases v2'
          obtain ⟨b, ws, q3, q4, q5, q6⟩ := r2.lst_at (getL_ok e1)
          rw [q1] at q3; cases q3
          obtain ⟨P', s', r', eg⟩ := q6 (ws.set j v) (xs.set j d) (q5.set j (Rp.mono s2.g v1))
          exact ⟨a, ws, k, j, rfl, rfl, q4, by rw [q5.length]; exact e2, h2 σ _ P' s' r'⟩
    | _ => simp only at h2
/-! ### x op= e, ints -/
end
/-! ### x, y, .. = e, f, .. with new lists among them -/
inductive El where
  | val (f : M PD) | fre (f : M (List PD)) | frm (f : M MC)
inductive Ev where
  | val (d : PD) | own (j : Nat)
def elsM : List El → Nat → M (List Ev)
  | [], _ => mpure []
  | .val f :: r, n => mbind f fun d => mbind (elsM r n) fun es => mpure (.val d :: es)
  | .fre f :: r, n => mbind f fun xs ρ => if slOkN ρ = true ∧ ρ.io.length = n then mbind (elsM r (n + 1)) (fun es => mpure (.own n :: es)) { ρ with io := ρ.io ++ [.lst xs] } else .bad
  | .frm f :: r, n => mbind f fun m ρ => if slOkN ρ = true ∧ ρ.io.length = n then mbind (elsM r (n + 1)) (fun es => mpure (.own n :: es)) { ρ with io := ρ.io ++ [m] } else .bad
def nFre : List El → Nat
  | [] => 0
  | .val _ :: r => nFre r
  | .fre _ :: r => nFre r + 1
  | .frm _ :: r => nFre r + 1
def VREv (c : Cc) (ioA : List Addr) (P : Pcs) : Ev → V → Prop
  | .val d, v => Rp c.kc (P .g) v d
  | .own j, v => ∃ a, ioA[j]? = some a ∧ v = .ref a
inductive VREvs (c : Cc) (ioA : List Addr) (P : Pcs) : List Ev → List V → Prop
  | nil : VREvs c ioA P [] []
  | cons {e : Ev} {v : V} {es : List Ev} {vs : List V} : VREv c ioA P e v → VREvs c ioA P es vs → VREvs c ioA P (e :: es) (v :: vs)
def tElAt (c : Cc) (W : WX) (g : M (List Ev)) (k : Nat) (ioA : List Addr) (ρ : Rho) (P : Pcs) (σ : St) (Q : List V → Hp → Prop) : Prop := match g ρ with
  | .ok evs ρ' => ∀ as vs H' P', as.length = k → Stp P P' → RepW c (ioA ++ as) ρ' σ H' P' → VREvs c (ioA ++ as) P' evs vs → Q vs H'
  | .exc x ρ' => ∀ as cls dx H' P', Stp P P' → RepW c (ioA ++ as) ρ' σ H' P' → XR c.kc x cls dx H' P' → W cls dx σ H'
  | .bad => False
def tEl (c : Cc) (W : WX) (els : List El) (n : Nat) (ioA : List Addr) : TA := fun σ H Q => ∃ ρ P, RepW c ioA ρ σ H P ∧ ioA.length = n ∧ tElAt c W (elsM els n) (nFre els) ioA ρ P σ Q
theorem RepW.push {c : Cc} {ioA : List Addr} {ρ : Rho} {σ : St} {H : Hp} {P : Pcs} {p : Addr} {m : MC} (r : RepW c ioA ρ σ H P) (hm : MR c.kc (P .g) m p (P .t)) (hl : ρ.io.length = ioA.length) :
    RepW c (ioA ++ [p]) { ρ with io := ρ.io ++ [m] } σ H (put (put P .t emp) (.io ρ.io.length) (P .t)) ∧ Stp P (put (put P .t emp) (.io ρ.io.length) (P .t)) := by
  have eg : put (put P .t emp) (.io ρ.io.length) (P .t) .g = P .g := by rw [put_ne (by simp), put_ne (by simp)]
  refine ⟨⟨Pc.mv (x := .t) (y := .io ρ.io.length) r.pc (by simp), r.len, fun i s e => ?_, fun j m' e => ?_⟩, ⟨by rw [eg]; exact Same.refl _, by rw [put_ne (by simp), put_ne (by simp)]⟩⟩
  · rw [eg, put_ne (by simp), put_ne (by simp)]
    have so := r.so i s e
    cases s with
    | io j =>
      obtain ⟨b, f1, f2⟩ := so
      have := List.getElem?_eq_some_iff.mp f1
      obtain ⟨z, _⟩ := this
      exact ⟨b, by rw [List.getElem?_append_left z]; exact f1, f2⟩
    | no => exact so
    | val d => exact so
    | own m => exact so
    | xc x => exact so
  · rw [eg]
    have e' : (ρ.io ++ [m])[j]? = some m' := e
    by_cases hj : j < ρ.io.length
    · rw [List.getElem?_append_left hj] at e'
      obtain ⟨b, f1, f2⟩ := r.io j m' e'
      refine ⟨b, by rw [List.getElem?_append_left (by omega)]; exact f1, ?_⟩
      rw [put_ne (by simp; omega), put_ne (by simp)]
      exact f2
    · have ej : j = ρ.io.length := by
        have := List.getElem?_eq_some_iff.mp e'
        obtain ⟨z, _⟩ := this
        simp at z
        omega
      subst ej
      have em : m' = m := by rw [List.getElem?_append_right (Nat.le_refl _)] at e'; simpa using e'.symm
      subst em
      refine ⟨p, ?_, by rw [put_same]; exact hm⟩
      rw [hl, List.getElem?_append_right (Nat.le_refl _)]
      simp
theorem VREvs.length {c : Cc} {ioA : List Addr} {P : Pcs} : ∀ {es : List Ev} {vs : List V}, VREvs c ioA P es vs → vs.length = es.length
  | _, _, .nil => rfl
  | _, _, .cons _ r => by simp [VREvs.length r]
theorem VREv.step {c : Cc} {ioA as : List Addr} {P P' : Pcs} {e : Ev} {v : V} (h : VREv c ioA P e v) (s : Stp P P') : VREv c (ioA ++ as) P' e v := by
  cases e with
  | val d => exact Rp.mono s.g h
  | own j =>
    obtain ⟨a, h1, h2⟩ := h
    have := List.getElem?_eq_some_iff.mp h1
    obtain ⟨z, _⟩ := this
    exact ⟨a, by rw [List.getElem?_append_left z]; exact h1, h2⟩
section
variable {X : Cx} {c : Cc} {W : WX} {e : Expr} {es : List Expr} {pos pos' p tp : Pos} {f : M PD} {ff : M (List PD)} {els : List El}
end
/-! what happens behind: the slots are set, the new lists go to their slots -/
section
variable {c : Cc} {ioA : List Addr} {ρ : Rho} {σ : St} {H : Hp} {P : Pcs}
end
theorem tEl.mono {c : Cc} {W : WX} {els : List El} {n : Nat} {ioA : List Addr} {σ : St} {H : Hp} {Q Q' : List V → Hp → Prop} (h : tEl c W els n ioA σ H Q) (i : ∀ vs H', Q vs H' → Q' vs H') : tEl c W els n ioA σ H Q' := by
  obtain ⟨ρ, P, r, hl, h⟩ := h
  refine ⟨ρ, P, r, hl, ?_⟩
  unfold tElAt at h ⊢
  cases e : elsM els n ρ with
  | ok evs ρ' => simp only [e] at h; exact fun as vs H' P' hk s r' q => i _ _ (h as vs H' P' hk s r' q)
  | exc x ρ' => simp only [e] at h; exact h
  | bad => simp only [e] at h
section
variable {X : Cx} {c : Cc} {W : WX} {e : Expr} {es : List Expr} {pos px py pz pt p2 : Pos} {els : List El} {x y z : Str} {a b d : Expr} {kt k2 : Nat}
end
/-! ### self.f = e -/
theorem RpFs.length {k : Kc} {G : Hp} : ∀ {es : List (Str × V)} {ds : List (PD × PD)}, RpFs k G es ds → es.length = ds.length
  | _, _, .nil => rfl
  | _, _, .cons _ r => by simp [RpFs.length r]
section
variable {X : Cx} {c : Cc} {W : WX} {e : Expr} {pos p tp : Pos} {x f : Str} {ns : List Str} {fv : M PD}
end
end Den

set_option Elab.async false
set_option linter.all false
set_option maxRecDepth 100000
set_option maxHeartbeats 1000000
/-! DenX: an own exception class over own classes over Exception, its __init__: super().__init__(text); self.f = a. -/
namespace Den
open PySem PySem.W PySem.Calls
open PySem.Spec PyProof.Rows

/-- what stands behind the own classes in the order of such a class -/
def exBase : List Value := ["Exception", "BaseException", "object"].map Value.type
/-- what the written part says of such a class: all of it by the library's own tests -/
structure ClsX (K : PySem.W.Frag) (C : Addr) : Prop where
  made : PySem.W.excInitIn K C exBase "Exception.__new__" = true
  over : PySem.W.excOver K C exBase = true
  dict : PySem.W.hasDictIn K C = true
  sets : PySem.W.findIn K (.ref C) "__setattr__" = some (some (.builtin "object.__setattr__"))
  base : ∀ T ∈ ["BaseException", "Exception"], PySem.W.subIn K (.ref C) (.type T) = some true
  type : PySem.W.typeIn K (.ref C) = some (.type "type")
  kept : PySem.W.keepIn K (.ref C) = true
section
open Builtin Builtin.ObjectAttr
variable {prog : Program} {w : World} {A : Around} {E : Value → Shared → Prop} {K : PySem.W.Frag} {s : Shared} {C x t1 : Addr} {c2 v : Value} {f : Str} {tk : Tok}
/-- what a heap is after the first field of an exception at x is laid -/
structure Fielded (h h' : PySem.Heap) (C x t1 dx : Addr) (c2 : Value) (f : Str) (v : Value) : Prop where
  rest : ∀ y o, y ≠ x → h.get? y = some o → h'.get? y = some o
  new : h.objs.size ≤ dx
  apart : dx ≠ x
  obj : h'.get? x = some (PySem.W.excObj C t1 (some dx) c2)
  ns : h'.Ns1 dx fun y => if y = f then some v else none
theorem first_field {b : Bool} {Q : Fin → Shared → Prop} (X : K.In s.heap) (T : ClsX K C) (there : s.heap.get? x = some (PySem.W.excObj C t1 none c2))
    (fin : ∀ s' dx, Fielded s.heap s'.heap C x t1 dx c2 f v → s'.gens = s.gens → s'.drawn = s.drawn → s'.os = s.os → Q (.done (.ret .none)) s') :
    wpAny (model prog w) A (storeInOwnDict (.ref x) (.ref C) (.str f tk) f v b) Q E s := by
  have nodict := any_some T.dict
  have low : x < s.heap.objs.size := Heap.lt_size there
  rcases nodict with ⟨cd, known, yes⟩
  have pushed := Heap.get?_push_of_some { cls := .type "dict", data := .dict #[] } there
  unfold storeInOwnDict ownDictForStores ownStreamTells
  dsimp only
  refine wpAny_bind (wpAny_pure (wpAny_bind (PySem.W.instanceDict_exc there (PySem.W.looks_clsIn X known) yes ?_)))
  have ne : x ≠ s.heap.objs.size := Nat.ne_of_lt low
  have fresh : ∀ (F : Obj → Obj) (m : PySem.Heap), m.Ns s.heap.objs.size (fun _ => none) → (m.update x F).Ns s.heap.objs.size fun _ => none := fun F m n => by
    obtain ⟨o, es, ep, at_, all⟩ := n
    exact ⟨o, es, ep, by rw [Heap.get?_update_ne m _ x F ne.symm]; exact at_, all⟩
  refine PySem.HandSPX.store_in_new (fresh _ _ (Heap.Ns.new s.heap (.type "dict"))) fun h' tk' ns same => fin _ _ ⟨fun y o n e => ?_, Nat.le_refl _, ne.symm, ?_, ns⟩ rfl rfl rfl
  · have n2 : y ≠ s.heap.objs.size := Nat.ne_of_lt (Heap.lt_size e)
    rw [same.2 y n2, Heap.get?_update_ne _ y x _ n]
    exact Heap.get?_push_of_some _ e
  · rw [same.2 x ne]
    exact Heap.get?_update_self _ pushed rfl
end
/-- .. and of its __init__ -/
structure IniX (P : Program) (K : PySem.W.Frag) (C fI cc cda : Addr) (qual : Str) (params : Arguments) (body : List Stmt) (scope : Scope) : Prop where
  fn : ∃ oc od osl kV doc pm an ct, K.lookup fI = some ⟨oc, od, .func (fnX "__init__" qual params body scope [("__class__", cc)] .none kV doc pm an (.ref cda) ct), osl⟩
  ini : PySem.W.findIn K (.ref C) "__init__" = some (some (.ref fI))
  typ : PySem.W.typeIn K (.ref fI) = some (.type "function")
  code : PySem.W.codeIn K (.ref cda) qual = true
  cdo : ∃ c1 d1 vs s1 file tf, K.lookup cda = some ⟨c1, d1, .fields vs, s1⟩ ∧ vs[2]? = some (.str file tf) ∧ (P.main.file == file) = true
  cell : ∃ c2 d2 s2, K.lookup cc = some ⟨c2, d2, .cell (some (.ref C)), s2⟩
  opq : PySem.W.nsIn K cStatics "thirdparty.any" = some none
  sup : PySem.W.ks_superIn K C C "__init__" = some (some (.builtin "Exception.__init__"))
  self : PySem.W.mroIn K C (.ref C) = some true
  top : (P.main.scope.names.lookup ("super" : Str)).isSome = false
section
variable {prog : Program} {w : World} {A : Around} {R : Result → Shared → Prop} {h : PySem.Heap} {g : Array GenState} {d : Drawn} {t : Nat} {os : OsState} {K : PySem.W.Frag} {mg mb : Str → Option Value} {C fI cc cda e t0 : Addr} {qual f a sf : Str} {params : Arguments} {scope : Scope} {u : Value} {ar : Args} {z : Str} {j j2 : Nat}
  {p0 p1 p2 p3 p4 p5 p6 p7 p8 p9 : Pos} {arg : Arg}
/-- __init__(self, a): super().__init__(text); self.f = a -/
theorem init_run (T : ClsX K C) (Y : IniX prog K C fI cc cda qual params [.Expr (.Call (.Attribute (.Call (.Name "super" p0) [] [] p1) "__init__" p2) [.Constant (.str z) j p3] [] p4) p5, .Assign [.Attribute (.Name sf p6) f p7] (.Name a p8) p9] scope)
    (hroom : A.depth < recursionLimit) (X : K.In h) (hlim : h.NoLimit) (G : h.Ns mainGlobals mg) (hms : mg "super" = none) (B : h.Ns builtinsNs mb) (hbs : mb "super" = bootBuiltins "super")
    (hx1 : ∀ env : Env, env.scope = scope → ∃ pl : Sem Bool, eval (.Call (.Attribute (.Call (.Name "super" p0) [] [] p1) "__init__" p2) [.Constant (.str z) j p3] [] p4) env = (do
      let ov ← attributeBase (.Call (.Name "super" p0) [] [] p1) "__init__" env (eval (.Call (.Name "super" p0) [] [] p1) env)
      standAt p2.atName
      let (f, first) ← holding [ov] (getMethod ov "__init__" pl)
      callWith p4 f first (backTo p4 (starEach [.Constant (.str z) j p3] env)) []))
    (hx2 : ∀ env : Env, env.scope = scope → interactive env = false ∧ swapsWith (.Call (.Attribute (.Call (.Name "super" p0) [] [] p1) "__init__" p2) [.Constant (.str z) j p3] [] p4) none p5.line env = pure false ∧ swapsWith (.Name a p8) (some (.Attribute (.Name sf p6) f p7)) p9.line env = pure false)
    (hpar : (params.posonlyargs ++ params.args).head? = some arg) (harg : arg.arg = sf)
    (hbind : ∀ (kV doc pm : Value) (an : Option Addr) (ct : Value) (bd : List Stmt), bindArgs (fnX "__init__" qual params bd scope [("__class__", cc)] .none kV doc pm an (.ref cda) ct) ar = pure [(sf, .ref e), (a, u)])
    (hks : scope.names.lookup ("super" : Str) = some .globalImplicit) (hkc : scope.names.lookup ("__class__" : Str) = some .free) (hka : scope.names.lookup a = some .local) (hkf : scope.names.lookup sf = some .local) (hne : a ≠ sf)
    (hk : scope.kind = .function) (hco : scope.isCoroutine = false) (hgen : scope.isGenerator = false) (hnc : ∀ x ∈ scope.names, x.2 ≠ .cell) (hda : (a == ("__debug__" : Str)) = false) (hds : (sf == ("__debug__" : Str)) = false)
    (hf : PySem.W.findIn K (.ref C) f = some none) (he : h.get? e = some (PySem.HandSPX.excO C t0)) (heC : e ≠ C) (hKe : K.lookup e = none)
    (hq : ∀ h' t' dx t1, (∀ b o, b ≠ e → h.get? b = some o → h'.get? b = some o) → h.objs.size ≤ dx → dx ≠ e → h'.get? e = some ({ cls := .ref C, dict := some dx, data := .fields #[.ref t1, .none, .none, .none, .bool false, .none] } : Obj) →
      h'.Ns1 dx (fun y => if y = f then some u else none) → R (.ok (.ret .none)) ⟨h', g, d, t', os⟩) :
    codeAny (model prog w) A (.call (.ref fI) ar) R ⟨h, g, d, t, os⟩ := by
  obtain ⟨nm, N, q, bs, bm, hdct, sn, sub, ab, col, dd, k0, k1, k2, k3, k5, hC, _⟩ := PySem.W.excInit_of X T.made
  obtain ⟨cd, hcl, _⟩ := any_some T.over
  obtain ⟨oc, od, osl, kV, doc, pm, an, ct, hF⟩ := Y.fn
  obtain ⟨c1, d1, vs, s1, file, tf, hcd, hvs, hfile⟩ := Y.cdo
  obtain ⟨c2, d2, s2, hcell⟩ := Y.cell
  subst harg
  refine ks_codeAny_call_defAt (binds := [(arg.arg, .ref e), (a, u)]) hroom (X _ _ hF) rfl hlim (codeRec_of X Y.code) rfl (BindsTo.of_eq (hbind ..)) hnc (fun x hx => ?_) (fun h1 hns hk1 => ?_) hco hgen hk
  · simp at hx
    rcases hx with rfl | rfl
    · exact hkf
    · exact hka
  have X1 : K.In h1 := fun b o eb => hk1 b o (X b o eb)
  have G1 : h1.Ns mainGlobals mg := G.keeps hk1
  have B1 : h1.Ns builtinsNs mb := B.keeps hk1
  generalize henv : (callEnv (fnX "__init__" qual params [.Expr (.Call (.Attribute (.Call (.Name "super" p0) [] [] p1) "__init__" p2) [.Constant (.str z) j p3] [] p4) p5, .Assign [.Attribute (.Name arg.arg p6) f p7] (.Name a p8) p9] scope [("__class__", cc)] .none kV doc pm an (.ref cda) ct) (PySem.Shared.heap ⟨h, g, d, t, os⟩).objs.size fI) = env
  have ev : env = newEnv scope h.objs.size mainGlobals [("__class__", cc)] (qual ++ ".<locals>.") (some fI) (.ref cda) none builtinsNs := henv.symm
  have es : env.scope = scope := by rw [ev]; rfl
  obtain ⟨pl, hx1⟩ := hx1 env es
  obtain ⟨hi, hsw, hsa⟩ := hx2 env es
  have kk : env.scope.kind = .function := by rw [es]; exact hk
  have kf : ∀ {x : Str} {k : NameKind}, scope.names.lookup x = some k → env.kindOf x = some k := fun {x k} e => by
    show env.scope.names.lookup x = some k
    rw [es]; exact e
  have hL : env.locals = h.objs.size := by rw [ev]; rfl
  have hns' : h1.Ns env.locals (fun x => [(arg.arg, Value.ref e), (a, u)].reverse.lookup x) := by rw [hL]; exact hns
  have hlt : e < h.objs.size := Heap.lt_size he
  refine ks_wpAt_execs_cons (ks_wpAt_Expr_any (ks_wpAt_MethodCall ?_ hx1) hi hsw)
  refine ks_wpAt_super_base (kf hks) (kf hkc) rfl (by rw [ev]; rfl) (X1 _ _ hF) rfl hpar (by rw [ev]; rfl) (X1 _ _ hcd) rfl hvs hfile Y.top ?_
  refine ks_loadName_global kk (kf hks) (loadGlobal_builtin (by rw [ev]; exact G1) hms (by rw [ev]; exact B1) (hbs.trans ?_) ⟨rfl, ?_⟩)
  · decide +kernel
  refine wpAny_loadName_free kk (kf hkc) (c := cc) (by rw [ev]; rfl) ⟨_, X1 _ _ hcell, rfl⟩ ?_
  have hl1 : ([(arg.arg, Value.ref e), (a, u)].reverse.lookup arg.arg) = some (.ref e) := by
    have hb : (arg.arg == a) = false := by simpa using Ne.symm hne
    simp [List.lookup, hb]
  have hl2 : ([(arg.arg, Value.ref e), (a, u)].reverse.lookup a) = some u := by simp [List.lookup]
  refine wpAny_loadName_local (v := .ref e) kk (kf hkf) hns' hl1 ?_
  have he1 : h1.get? e = some (PySem.HandSPX.excO C t0) := hk1 _ _ he
  have hC1 := hk1 _ _ hC
  refine ks_wpAny_isType_cls hC1 rfl ⟨rfl, ?_⟩
  refine ks_wpAny_call_super hC1 rfl he1 rfl (fun c z => nomatch z) (looks_mroIn X1 Y.self) (fun h2 hso hk2 => ?_)
  have X2 : K.In h2 := fun b o eb => hk2 b o (X1 b o eb)
  have he2 : h2.get? e = some (PySem.HandSPX.excO C t0) := hk2 _ _ he1
  have I2 : PySem.W.InstAt h2 e (PySem.HandSPX.excO C t0) C none := ⟨he2, rfl, rfl, trivial⟩
  have hsup : PySem.W.alongIn K "__init__" ((cd.mro.dropWhile (· != .ref C)).drop 1) = some (some (.builtin "Exception.__init__")) := by
    have e := Y.sup
    unfold PySem.W.ks_superIn at e
    rwa [hcl] at e
  refine PySem.ESX.getMethod_super (x := e) hso (PySem.W.looks_opaque X2 Y.opq) ((PySem.W.looks_clsIn X2 hcl).andThen .now) rfl X2 hsup heC (by decide) (I2.type.andThen (PySem.W.looks_subIn X2 (T.base _ (by simp)))) ?_
  have up3 : ∀ b o, h2.get? b = some o → (h2.push (PySem.ESX.bw e)).get? b = some o := fun b o eb => Heap.get?_push_of_some _ eb
  refine PySem.ESX.callWith_bound (x := e) (e := .Constant (.str z) j p3) (rest := []) (Calls.spliced_cons (Calls.Constant_str (x := z) (k := j) (pos := p3) (Calls.spliced_nil ⟨?_, ?_⟩))) rfl rfl
  · exact Heap.get?_push_size _ rfl
  have X3 : K.In (h2.push (PySem.ESX.bw e)) := fun b o eb => up3 b o (X2 b o eb)
  refine PySem.ESX.call_bw (up3 _ _ (hk2 _ _ hC1)) (up3 _ _ he2) (Heap.get?_push_size _ rfl) (by show 1 ≤ sizeLine; decide) (fun h4 t1 hk4 he4 => ?_)
  have hkk : ∀ b o, b ≠ e → h.get? b = some o → h4.get? b = some o := fun b o hb q => hk4 b o hb (up3 b o (hk2 b o (hk1 b o q)))
  have X4 : K.In h4 := fun b o eb => hk4 b o (fun z => by rw [z, hKe] at eb; cases eb) (X3 b o eb)
  show PySem.wpAt _ _ _ (execs [.Assign [.Attribute (.Name arg.arg p6) f p7] (.Name a p8) p9] env) _ _ _
  refine wpAt_of_wpAny (wpAny_execs_cons (plainObj_wpAny_Assign_Attribute ?_ hsa))
  have hns4 : h4.Ns env.locals (fun x => [(arg.arg, Value.ref e), (a, u)].reverse.lookup x) := by
    obtain ⟨o, es', ep, ho, hr⟩ := hns'
    exact ⟨o, es', ep, hk4 _ _ (by rw [hL]; exact Nat.ne_of_gt hlt) (up3 _ _ (hk2 _ _ ho)), hr⟩
  refine PySem.ESX.ldL hns4 hl2 (PySem.ESX.ldL hns4 hl1 ?_ kk (kf hkf) hds) kk (kf hka) hda
  have no : PySem.W.takerIn K C f = some none := by
    unfold PySem.W.takerIn
    rw [hf]
    rfl
  have I4 : PySem.W.InstAt h4 e (PySem.HandSPX.excO C t1) C none := ⟨he4, rfl, rfl, trivial⟩
  refine PySem.W.set_plain X4 I4 T.sets (PySem.W.osa_openX PySem.F.store_Exception X4 I4 T.over no fun b => first_field X4 T he4 fun s5 dx N5 e1 e2 e3 => ?_)
  obtain ⟨h5, g5, d5, t5, o5⟩ := s5
  obtain rfl : g5 = g := e1
  obtain rfl : d5 = d := e2
  obtain rfl : o5 = os := e3
  refine wpAny_execs_nil (hq h5 t5 dx t1 (fun b o hb q => N5.rest b o hb (hkk b o hb q)) ?_ N5.apart N5.obj N5.ns)
  obtain ⟨o, _, _, ho, _⟩ := hns4
  have := Heap.lt_size ho
  rw [hL] at this
  exact Nat.le_trans (Nat.le_of_lt this) N5.new
end
end Den

set_option Elab.async false
set_option linter.all false
set_option maxRecDepth 100000
set_option maxHeartbeats 1000000
/-! DenY: raise C(e); try. -/
namespace Den
open PySem PySem.Spec
open PyProof.Rows L2

/-- the text of such an __init__, and what its scope tells -/
structure TxtX (qual : Str) (params : Arguments) (body : List Stmt) (scope : Scope) (f a sf : Str) : Prop where
  ex : ∃ (z : Str) (j : Nat) (p0 p1 p2 p3 p4 p5 p6 p7 p8 p9 : Pos) (arg : Arg), body = [.Expr (.Call (.Attribute (.Call (.Name "super" p0) [] [] p1) "__init__" p2) [.Constant (.str z) j p3] [] p4) p5, .Assign [.Attribute (.Name sf p6) f p7] (.Name a p8) p9] ∧
    (∀ env : Env, env.scope = scope → ∃ pl : Sem Bool, eval (.Call (.Attribute (.Call (.Name "super" p0) [] [] p1) "__init__" p2) [.Constant (.str z) j p3] [] p4) env = (do
      let ov ← attributeBase (.Call (.Name "super" p0) [] [] p1) "__init__" env (eval (.Call (.Name "super" p0) [] [] p1) env)
      standAt p2.atName
      let (f, first) ← holding [ov] (getMethod ov "__init__" pl)
      callWith p4 f first (backTo p4 (starEach [.Constant (.str z) j p3] env)) [])) ∧
    (∀ env : Env, env.scope = scope → interactive env = false ∧ swapsWith (.Call (.Attribute (.Call (.Name "super" p0) [] [] p1) "__init__" p2) [.Constant (.str z) j p3] [] p4) none p5.line env = pure false ∧ swapsWith (.Name a p8) (some (.Attribute (.Name sf p6) f p7)) p9.line env = pure false) ∧
    (params.posonlyargs ++ params.args).head? = some arg ∧ arg.arg = sf
  bind : ∀ (cda cc e : Addr) (u : Value) (kV doc pm : Value) (an : Option Addr) (ct : Value) (bd : List Stmt), bindArgs (PySem.W.fnX "__init__" qual params bd scope [("__class__", cc)] .none kV doc pm an (.ref cda) ct) ⟨[.ref e, u], []⟩ = pure [(sf, .ref e), (a, u)]
  bindK : ∀ (cda cc e : Addr) (u : Value) (kV doc pm : Value) (an : Option Addr) (ct : Value) (bd : List Stmt), bindArgs (PySem.W.fnX "__init__" qual params bd scope [("__class__", cc)] .none kV doc pm an (.ref cda) ct) ⟨[.ref e], [(a, u)]⟩ = pure [(sf, .ref e), (a, u)]
  hks : scope.names.lookup ("super" : Str) = some .globalImplicit
  hkc : scope.names.lookup ("__class__" : Str) = some .free
  hka : scope.names.lookup a = some .local
  hkf : scope.names.lookup sf = some .local
  hne : a ≠ sf
  hk : scope.kind = .function
  hco : scope.isCoroutine = false
  hgen : scope.isGenerator = false
  hnc : ∀ x ∈ scope.names, x.2 ≠ .cell
  hda : (a == ("__debug__" : Str)) = false
  hds : (sf == ("__debug__" : Str)) = false
/-- an own exception class by name -/
structure CalX (P : Program) (K : PySem.W.Frag) (mg : Str → Option Value) (C : Addr) (x f : Str) : Prop where
  gl : mg x = some (.ref C)
  sup : mg "super" = none
  cls : ClsX K C
  ini : ∃ (fI cc cda : Addr) (qual : Str) (params : Arguments) (body : List Stmt) (scope : Scope) (a sf : Str), IniX P K C fI cc cda qual params body scope ∧ TxtX qual params body scope f a sf
  no : PySem.W.findIn K (.ref C) f = some none
def tMkX (C : Addr) (f : Str) (te : TE) : St → Hp → XK → Prop := fun σ H Q => te σ H fun v H1 => ∀ d, H1 d = none → Q (.ref C) (some d) (upd H1 d (.xd [(f, v)]))
section
variable {X : Cx} {pins : List (Addr × Obj)} {σ : St} {H : Hp} {s s' : Shared} {Q : XK} {h0 : PySem.Heap} {C at_ e1 dx : Addr} {f : Str} {v : V} {u : Value}
/-- an exception with one field, made: the dict is ours, the object itself is nobody's -/
theorem made_x (I : Inv X pins σ H s) (rel : RelV v u) (hi : s.heap.objs.size ≤ at_) (hid : s.heap.objs.size ≤ dx) (keep : ∀ b o, b ≠ at_ → s.heap.get? b = some o → s'.heap.get? b = some o)
    (ne : dx ≠ at_) (ob : s'.heap.get? at_ = some (PySem.W.excObj C e1 (some dx) .none)) (ns : s'.heap.Ns1 dx fun y => if y = f then some u else none) (og : s'.gens = s.gens) (oo : s'.os = s.os)
    (r : Raises X (.ref C)) (q : Q (.ref C) (some dx) (upd H dx (.xd [(f, v)]))) : MkP X pins σ Q (.ref at_) s' := by
  obtain ⟨G, same, gone⟩ := restrict s'.heap fun b => b != at_
  have inG : ∀ {b}, b ≠ at_ → G.get? b = s'.heap.get? b := fun {b} n => same b (bne_iff_ne.mpr n)
  have old : ∀ b o, s.heap.get? b = some o → b ≠ at_ := fun b o z w => absurd (Heap.lt_size z) (by rw [w]; exact Nat.not_lt.mpr hi)
  have off : G.get? at_ = none := gone at_ (by simp)
  have nsG : G.Ns1 dx fun y => if y = f then some u else none := by
    rcases ns with ⟨o, es, ep, z, c⟩
    exact ⟨o, es, ep, by rw [inG ne, z], c⟩
  have fields : ∀ y, RelO ([(f, v)].lookup y) (if y = f then some u else none) := fun y => by
    by_cases hy : y = f
    · rw [hy]; simp only [List.lookup, beq_self_eq_true, if_true]; exact rel
    · have : (y == f) = false := by simpa using hy
      simp [List.lookup, this, hy, RelO]
  have laid := I.laid (h' := G) (t' := s'.toks) (a := dx) (o := .xd [(f, v)]) (fun b o z => (inG (old b o z)).trans (keep b o (old b o z) z)) hid ⟨_, nsG, fields⟩
  refine ⟨at_, _, _, { s with heap := G, toks := s'.toks }, _, .ref C, some dx, rfl, laid, fun b o z => ?_, off, ob, ⟨rfl, rfl⟩, rfl, rfl, ?_, oo, og ▸ I.bare, r, q⟩
  · have : b ≠ at_ := fun w => by rw [w, off] at z; cases z
    exact (inG this).symm.trans z
  · rw [upd_ne (Ne.symm ne)]
    exact I.hok.fresh hi
/-- C(e) -/
theorem pmk_x {x : Str} {e : Expr} {te : TE} {k : Nat} {p pos : Pos} (T : CalX X.prog X.K X.mg C x f) (room : Room (k + 1) X.A) (hg : Gl X x) (he : PE X e te)
    (hdb : (x == ("__debug__" : Str)) = false := by decide) (hs : starEach [e] X.env = (false, eval e X.env) :: starEach [] X.env := by rfl) (hpl : (backTo pos (starEach [] X.env)).any (·.1) = false := by rfl) :
    PMk X (.Call (.Name x p) [e] [] pos) (tMkX C f te) := fun pins s σ H Q I h => by
  obtain ⟨fI, cc, cda, qual, params, body, scope, a, sf, Y, W⟩ := T.ini
  obtain ⟨z, j, p0, p1, p2, p3, p4, p5, p6, p7, p8, p9, arg, rfl, hx1, hx2, hpar, harg⟩ := W.ex
  have one : PA X [e] (tCons te tNil) := pa_cons he pa_nil hs
  refine wpAny_Call_Name_kw (ld_glob I hg T.gl ?_ hdb)
  refine PySem.W.callWith_K (h₀ := X.base) I.ok.mod.kin T.cls.kept (thn (one.run pos pins s σ H (fun vs H1 => match vs with
    | [v] => ∀ d, H1 d = none → Q (.ref C) (some d) (upd H1 d (.xd [(f, v)]))
    | _ => False) I h) fun us s1 ap => ?_) hs hpl
  obtain ⟨vs, H1, I1, r1, q1⟩ := ap
  match vs, q1, r1 with
  | [], q1, _ => exact q1.elim
  | _ :: _ :: _, q1, _ => exact q1.elim
  | [v], q1, r1 =>
    cases r1 with
    | cons rv rn =>
    cases rn
    refine ⟨I1.kIn, ?_⟩
    obtain ⟨nm, N, qn, bs, bm, hdct, sn, sub, ab, col, dd, k0, k1, k2, k3, k5, hC, hbm⟩ := PySem.W.excInit_of I1.kIn T.cls.made
    obtain ⟨hp, g, dr, tk, os⟩ := s1
    rename_i u
    generalize ex : hp.objs.size + 1 = ea
    have up : ∀ b o, hp.get? b = some o → ((hp.push (PySem.W.kdv_tup [u])).push (PySem.HandSPX.excO C hp.objs.size)).get? b = some o := fun b o z => Heap.get?_push_of_some _ (Heap.get?_push_of_some _ z)
    have low : ∀ b o, hp.get? b = some o → b ≠ ea := fun b o z => by
      have y : b < hp.objs.size := Heap.lt_size z
      rw [← ex]
      exact Nat.ne_of_lt (Nat.lt_succ_of_lt y)
    have there : ((hp.push (PySem.W.kdv_tup [u])).push (PySem.HandSPX.excO C hp.objs.size)).get? ea = some (PySem.HandSPX.excO C hp.objs.size) := by
      rw [← ex]
      heap_get
    obtain ⟨mb, B1, B2⟩ := I1.mod.blt
    have kin := I1.kIn.keeps up
    refine wpAny_call (PySem.HandSPX.call_own F.excBase_Exception hbm hC (PySem.W.looks_findIn I1.kIn Y.ini) (fun self => PySem.W.bind_fn I1.kIn self Y.typ) (by show 1 ≤ sizeLine; decide) ?_)
    simp only [ex]
    refine init_run (K := X.K) (mg := X.mg) (mb := mb) T.cls Y (Room.depth (room.make C [u] [])) kin (I1.nolimit.keeps up) ((I1.mod.glob.keeps I1.bk).keeps up) T.sup ((B1.keeps I1.bk).keeps up) (B2 _ (by decide)) hx1 hx2 hpar harg (fun kV doc pm an ct bd => W.bind cda cc _ _ kV doc pm an ct bd)
      W.hks W.hkc W.hka W.hkf W.hne W.hk W.hco W.hgen W.hnc W.hda W.hds T.no there (fun z => low C _ hC z.symm) ?_ fun h' t' dx t1 keep hid ne ob ns => ⟨rfl, ?_⟩
    · cases kl : X.K.lookup ea with
      | none => rfl
      | some o => exact absurd rfl (low ea o (I1.kIn _ _ kl))
    · have hi : hp.objs.size ≤ ea := by rw [← ex]; exact Nat.le_succ _
      have hd : hp.objs.size ≤ dx := Nat.le_trans (by simp only [PySem.Heap.push, Array.size_push]; exact Nat.le_trans (Nat.le_succ _) (Nat.le_succ _)) hid
      exact made_x I1 rv hi hd (fun b o n z => keep b o n (up b o z)) ne ob ns rfl rfl (raises_own (T.cls.base _ (by simp)) T.cls.type) (q1 dx (I1.hok.fresh hd))
end
/-! ### raise -/
def dRaise (cls : Str) (f : M PD) : M Fl := mbind f fun d ρ => .exc ⟨cls, d⟩ ρ
theorem ds_raise {X : Cx} {c : Cc} {W : WX} {x : Str} {C : Addr} {e : Expr} {f : M PD} {p pos pos' : Pos} {k : Nat} (cm : X.calm = true) (cl : Cl X W (k + 1)) (hk : c.kc.kl x = some C) (T : CalX X.prog X.K X.mg C x (xfn x)) (hg : Gl X x) (he : DE X c W e f)
    (hdb : (x == ("__debug__" : Str)) = false := by decide) (hs : starEach [e] X.env = (false, eval e X.env) :: starEach [] X.env := by rfl) (hpl : (backTo pos (starEach [] X.env)).any (·.1) = false := by rfl) :
    DS X c W (.Raise (some (.Call (.Name x p) [e] [] pos)) none pos') (dRaise x f) := fun gd ioA => by
  refine PS.imp (L2.ps_raise cm cl.tk (pmk_x T cl.room hg (he gd ioA) hdb hs hpl)) fun D σ H ⟨ρ, P, rp, h⟩ => ⟨ρ, P, rp, h.bind.mono fun v H1 ⟨d, ρ1, P1, s1, r1, v1, h1⟩ => fun dx hdx => ?_⟩
  have nx : ∀ y, P1 y dx = none := fun y => r1.gnone hdx
  have r2 : RepW c ioA ρ1 σ (upd H1 dx (.xd [(xfn x, v)])) P1 := ⟨⟨fun y a o e => by rw [upd_ne (ne_of_none e (nx y))]; exact r1.pc.sub y a o e, r1.pc.dis⟩, r1.len, r1.so, r1.io⟩
  exact h1 (.ref C) (some dx) σ _ P1 (Stp.refl _) r2 ⟨C, one dx (.xd [(xfn x, v)]), hk, rfl, ⟨v, rfl, v1⟩, same_one upd_same, fun y => Disj.of fun b o e => one_ne (ne_of_none e (nx y))⟩
/-! ### try -/
def clX : Slot → Slot
  | .xc _ => .no
  | s => s
def clrX (ρ : Rho) : Rho := { ρ with sl := ρ.sl.map clX }
theorem RepW.clr {c c' : Cc} {ioA : List Addr} {ρ : Rho} {σ : St} {H : Hp} {P : Pcs} (r : RepW c ioA ρ σ H P) (hk : c'.kc = c.kc) : RepW c' ioA (clrX ρ) σ H P where
  pc := r.pc
  len := by show σ.length = (ρ.sl.map clX).length; rw [List.length_map]; exact r.len
  so := fun i s e => by
    have e' : (ρ.sl.map clX)[i]? = some s := e
    rw [List.getElem?_map] at e'
    cases e2 : ρ.sl[i]? with
    | none => rw [e2] at e'; cases e'
    | some s2 =>
      rw [e2] at e'
      have e' := Option.some.inj e'
      have so := r.so i s2 e2
      cases s2 with
      | xc x => subst e'; trivial
      | no => subst e'; trivial
      | io j => subst e'; exact so
      | val d =>
        subst e'
        obtain ⟨v, h1, h2⟩ := so
        exact ⟨v, h1, by rw [hk]; exact h2⟩
      | own m =>
        subst e'
        obtain ⟨v, h1, h2⟩ := so
        exact ⟨v, h1, by rw [hk]; exact h2⟩
  io := fun j m e => by
    obtain ⟨a, h1, h2⟩ := r.io j m e
    exact ⟨a, h1, by rw [hk]; exact h2⟩
/-- in a clause: the caught one is a, of class cls, its dict at d -/
def cX (c : Cc) (a : Addr) (cls : Value) (d : Option Addr) : Cc := ⟨c.kc, fun a' cls' d' => a' = a ∧ cls' = cls ∧ d' = d⟩
theorem RepW.setXc {c : Cc} {ioA : List Addr} {ρ : Rho} {σ : St} {H M : Hp} {P : Pcs} {i : Nat} {x : Xc} {a C : Addr} {dx : Option Addr} (r : RepW c ioA ρ σ H P) (h1 : c.kc.kl x.cls = some C) (h2 : c.xa a (.ref C) dx) (h3 : XcO c.kc (P .g) x dx M) (h4 : Same M H) (dj : ∀ y, Disj (P y) M) :
    RepW c ioA { ρ with sl := ρ.sl.set i (.xc x) } (σ.set i (some (.ref a))) H (put P (.sl i) M) ∧ Stp P (put P (.sl i) M) := by
  have eg : put P (.sl i) M .g = P .g := put_ne (by simp)
  refine ⟨⟨⟨fun y => ?_, fun y z n => ?_⟩, by simpa using r.len, fun j s e => ?_, fun j m e => ?_⟩, ⟨by rw [eg]; exact Same.refl _, put_ne (by simp)⟩⟩
  · by_cases hy : y = .sl i
    · subst hy; rw [put_same]; exact h4
    · rw [put_ne hy]; exact r.pc.sub y
  · by_cases hy : y = .sl i
    · subst hy
      rw [put_same, put_ne (Ne.symm n)]
      exact (dj z).symm
    · rw [put_ne hy]
      by_cases hz : z = .sl i
      · subst hz; rw [put_same]; exact dj y
      · rw [put_ne hz]; exact r.pc.dis y z n
  · rw [eg]
    rw [List.getElem?_set] at e
    by_cases hj : i = j
    · subst hj
      simp only [if_true] at e
      split at e
      · rename_i hl
        cases e
        rw [put_same]
        exact ⟨a, C, dx, by rw [List.getElem?_set_self (by rw [r.len]; exact hl)], h1, h2, h3⟩
      · cases e
    · rw [if_neg hj] at e
      rw [List.getElem?_set_ne hj, put_ne (by simp; exact fun z => hj z.symm)]
      exact r.so j s e
  · rw [eg, put_ne (by simp)]
    exact r.io j m e
theorem RepW.setNo {c : Cc} {ioA : List Addr} {ρ : Rho} {σ : St} {H : Hp} {P : Pcs} {i : Nat} {ov : Option V} (r : RepW c ioA ρ σ H P) : RepW c ioA { ρ with sl := ρ.sl.set i .no } (σ.set i ov) H P where
  pc := r.pc
  len := by simpa using r.len
  so := fun j s e => by
    rw [List.getElem?_set] at e
    by_cases hj : i = j
    · subst hj
      simp only [if_true] at e
      split at e
      · cases e; trivial
      · cases e
    · rw [if_neg hj] at e
      rw [List.getElem?_set_ne hj]
      exact r.so j s e
  io := r.io
/-- a clause of class h takes an exception of class n -/
def mt (n h : Str) : Bool := n == h || h == ("LateError" : Str)
def endC (i : Nat) (ρ : Rho) : Rho := { clrX ρ with sl := (clrX ρ).sl.set i .no }
def dTryAs (i : Nat) (xs : List Str) (h : Str) (g gs : M Fl) : M Fl := fun ρ => match g ρ with
  | .exc x ρ' => if x.cls ∈ xs then (if mt x.cls h = true then (match gs { clrX ρ' with sl := (clrX ρ').sl.set i (.xc x) } with
    | .ok fl ρ2 => .ok fl (endC i ρ2)
    | _ => .bad) else .exc x ρ') else .bad
  | r => r
/-- the clause's class, by name -/
structure HdC (X : Cx) (c : Cc) (xs : List Str) (x : Str) (C : Addr) : Prop where
  nm : Names X x (.ref C)
  mt : ∀ n ∈ xs, ∀ Cn, c.kc.kl n = some Cn → PySem.W.exmOne c.kc.K (.ref Cn) (.ref C) = some (mt n x)
section
variable {X : Cx} {c : Cc} {W : WX} {x n : Str} {C : Addr} {xs : List Str} {body suite : List Stmt} {b₀ : Stmt} {np pos pos' : Pos} {g gs : M Fl}
/-- in the body of a try -/
def BkT (X : Cx) (T : Cx → WX → Prop) : Prop := ∀ (W : WX) (pn : List (Addr × Obj)) (xe : Value → Shared → Prop), Takes (X.tr pn xe) W → PassesOwn (model X.prog X.w) X.A X.env xe → T (X.tr pn xe) W
/-- in a clause's suite -/
def BkS (X : Cx) (c : Cc) (T : Cx → Cc → Prop) : Prop := ∀ (a : Addr) (oe : Obj) (cls : Value) (d : Option Addr) (pn : List (Addr × Obj)), Zc cls d oe → (∃ vs, oe.data = .fields vs) → T (X.suite a ((a, oe) :: pn)) (cX c a cls d)
theorem Gd.toSu (gd : Gd X c) {a : Addr} {pn : List (Addr × Obj)} {cls : Value} {d : Option Addr} : Gd (X.suite a pn) (cX c a cls d) := ⟨gd.hK, gd.un⟩
theorem ds_tryAs (i : Nat) (hs : X.stack = X.env :: X.outer) (hf : X.env.frame = some X.env.locals) (hN : X.N.Nodup) (hi : X.N[i]? = some n) (hln : X.env.kindOf n = some .local) (hc : HdC X c xs x C) (tk : Takes X W)
    (hb : BkT X fun Y V => DSs Y c V body g) (hsu : BkS X c fun Y c' => DSs Y c' noW (b₀ :: suite) gs) : DS X c W (.Try body [.ExceptHandler (some (.Name x np)) (some n) (b₀ :: suite) pos'] [] [] pos) (dTryAs i xs x g gs) := fun gd ioA => by
  refine PS.imp (L2.ps_try_as (tb := fun V => tS c ioA V g) (ts := fun a cls d => tS (cX c a cls d) ioA noW gs) hs hf hN hi hln hc.nm tk (fun V pn xe t po => hb V pn xe t po ⟨gd.hK, gd.un⟩ ioA) (fun a oe cls d pn hz hv => hsu a oe cls d pn hz hv gd.toSu ioA)) fun D σ H ⟨ρ, P, rp, h⟩ => ⟨ρ, P, rp, ?_⟩
  unfold tSat dTryAs at h
  unfold tSat
  cases e : g ρ with
  | bad => simp only [e] at h
  | ok fl ρ' => simp only [e] at h; cases fl <;> exact h
  | exc y ρ' =>
    simp only [e] at h
    intro cls dx σ' H' P' s r q
    by_cases hy : y.cls ∈ xs
    case neg => rw [if_neg hy] at h; exact h.elim
    rw [if_pos hy] at h
    obtain ⟨Cn, M, q1, rfl, q4, q5, q6⟩ := id q
    refine ⟨mt y.cls x, gd.hK ▸ hc.mt y.cls hy Cn q1, fun hb a ha => ?_, fun hb => ?_⟩
    · rw [if_pos hb] at h
      have r1 : RepW (cX c a (.ref Cn) dx) ioA (clrX ρ') σ' H' P' := r.clr rfl
      obtain ⟨r2, s2⟩ := r1.setXc (i := i) (a := a) (x := y) q1 ⟨rfl, rfl, rfl⟩ q4 q5 q6
      refine ⟨_, _, r2, ?_⟩
      unfold tSat
      cases e2 : gs { clrX ρ' with sl := (clrX ρ').sl.set i (.xc y) } with
      | bad => simp only [e2] at h
      | exc _ _ => simp only [e2] at h
      | ok fl ρ2 =>
        simp only [e2] at h
        have bk : ∀ {σ3 : St} {H3 : Hp} {P3 : Pcs}, RepW (cX c a (.ref Cn) dx) ioA ρ2 σ3 H3 P3 → RepW c ioA (endC i ρ2) (σ3.set i none) H3 P3 := fun r3 => (RepW.clr (c' := c) r3 rfl).setNo
        have bk2 : ∀ {σ3 : St} {H3 : Hp} {P3 : Pcs}, RepW (cX c a (.ref Cn) dx) ioA ρ2 σ3 H3 P3 → RepW c ioA (endC i ρ2) σ3 H3 P3 := fun r3 => (RepW.clr (c' := c) r3 rfl).kill
        cases fl with
        | nx => exact fun σ3 H3 P3 s3 r3 => h _ H3 P3 ((s.trans s2).trans s3) (bk r3)
        | bk => exact fun σ3 H3 P3 s3 r3 => h _ H3 P3 ((s.trans s2).trans s3) (bk r3)
        | ct => exact fun σ3 H3 P3 s3 r3 => h _ H3 P3 ((s.trans s2).trans s3) (bk r3)
        | ret d => exact fun v σ3 H3 P3 s3 r3 w => h v _ H3 P3 ((s.trans s2).trans s3) (bk2 r3) w
        | fre d => exact fun v σ3 H3 P3 s3 r3 w => h v _ H3 P3 ((s.trans s2).trans s3) (bk2 r3) w
    · rw [if_neg (by rw [hb]; decide)] at h
      exact h _ _ σ' H' P' s r q
/-- e.f, e the caught one -/
def dXf (i : Nat) (xs : List Str) (f : Str) : M PD := fun ρ => match ρ.sl[i]? with
  | some (.xc x) => if x.cls ∈ xs ∧ f = xfn x.cls then .ok x.arg ρ else .bad
  | _ => .bad
theorem de_xf (i : Nat) {f : Str} {p : Pos} (hT : ∀ n ∈ xs, ∀ Cn, c.kc.kl n = some Cn → XfC c.kc.K Cn ∧ PySem.W.findIn c.kc.K (.ref Cn) f = some none) (hN : X.N[i]? = some n := by rfl) (hv : Vis X.env.scope n := by first | exact Or.inl rfl | exact Or.inr (Or.inl rfl) | exact Or.inr (Or.inr rfl))
    (nf : f ≠ ("" : Str) := by decide) (hd : (n == ("__debug__" : Str)) = false := by decide) (hcd : (n == ("__classdict__" : Str)) = false := by decide) (hb : attributeBase (.Name n p) f X.env (eval (.Name n p) X.env) = eval (.Name n p) X.env := by rfl) :
    BkS X c fun Y c' => DE Y c' noW (.Attribute (.Name n p) f pos) (dXf i xs f) := fun a oe cls d pn hz hf gd ioA => by
  refine ⟨fun pins s σ H Q I ⟨ρ, P, rp, h⟩ => ?_⟩
  unfold tMat dXf at h
  cases e : ρ.sl[i]? with
  | none => simp only [e] at h
  | some s0 =>
    cases s0 with
    | xc y =>
      simp only [e] at h
      by_cases hy : y.cls ∈ xs ∧ f = xfn y.cls
      case neg => rw [if_neg hy] at h; exact h.elim
      rw [if_pos hy] at h
      obtain ⟨a', Cn, dd, q1, q2, ⟨rfl, rfl, q3⟩, q4⟩ := rp.so i _ e
      cases dd with
      | none => exact absurd (hy.2.trans q4.1) nf
      | some dd =>
      obtain ⟨v, q4, q5⟩ := q4
      obtain ⟨T, hno⟩ := hT y.cls hy.1 Cn q2
      have hH : H dd = some (.xd [(xfn y.cls, v)]) := rp.pc.sub (.sl i) dd _ (by rw [q4]; exact one_same)
      refine (pe_xf (X := X) (gd.hK ▸ T) (gd.hK ▸ hno) hz hf (pe_var hN hv hd hcd) hb).run pins s σ H Q I ⟨_, q1, rfl, rfl, dd, _, v, q3.symm, hH, ?_, h v H P (Stp.refl _) rp q5⟩
      rw [hy.2]
      simp [List.lookup]
    | _ => simp only [e] at h
end
end Den

set_option Elab.async false
set_option linter.all false
set_option maxRecDepth 100000
/-! DenP: from a body to a def by name. -/
namespace Den
open PySem PySem.Spec
open PyProof.Rows L2

def slotOf : Ar → Slot
  | .val d => .val d
  | .io j => .io j
/-- the slots at a def's entry -/
def rho0 (n : Nat) (as : List Ar) (ms : List MC) : Rho := ⟨as.map slotOf ++ List.replicate (n - as.length) .no, ms⟩
/-- what a def does, by its body -/
def outB : R Fl → Rt × List MC
  | .ok .nx ρ => (.ret .none, ρ.io)
  | .ok (.ret d) ρ => (.ret d, ρ.io)
  | .ok (.fre xs) ρ => (.fre xs, ρ.io)
  | .exc x ρ => (.exc x, ρ.io)
  | _ => (.bad, [])
def runB (n np : Nat) (g : M Fl) : FD := fun as ms => if as.length = np then outB (g (rho0 n as ms)) else (.bad, [])
theorem runB_len {n np : Nat} {g : M Fl} (as : List Ar) (ms : List MC) (h : as.length ≠ np) : (runB n np g as ms).1 = .bad := by
  unfold runB
  rw [if_neg h]
/-- the plain context of a def's body: nothing is caught yet -/
def c0 (kc : Kc) : Cc := ⟨kc, fun _ _ _ => False⟩
/-- what leaves the body is the caller's -/
def wOf (E : XK) : WX := fun cls d _ H => E cls d H
theorem rep_start {kc : Kc} {N : List Str} {as : List Ar} {ms : List MC} {ioA : List Addr} {vs : List V} {H : Hp} {P : Pcs} (ri : RepIo kc ioA ms H P) (ra : ArAll kc ioA (P .g) as vs) : RepW (c0 kc) ioA (rho0 N.length as ms) (L2.start N vs) H P where
  pc := ri.pc
  len := by
    show (L2.start N vs).length = (as.map slotOf ++ List.replicate (N.length - as.length) Slot.no).length
    unfold L2.start
    simp [ra.length]
  io := ri.io
  so := fun i s e => by
    have e' : (as.map slotOf ++ List.replicate (N.length - as.length) Slot.no)[i]? = some s := e
    have lv : (vs.map some).length = as.length := by rw [List.length_map, ra.length]
    have la : (as.map slotOf).length = as.length := List.length_map _
    by_cases hi : i < as.length
    · rw [List.getElem?_append_left (by rw [la]; exact hi), List.getElem?_map] at e'
      unfold L2.start
      rw [List.getElem?_append_left (by rw [lv]; exact hi), List.getElem?_map]
      cases q : as[i]? with
      | none => rw [q] at e'; cases e'
      | some a =>
        rw [q] at e'
        obtain ⟨v, hv, ok⟩ := ra.get q
        rw [hv]
        have e' := Option.some.inj e'
        subst e'
        cases a with
        | val d => exact ⟨v, rfl, ok⟩
        | io j =>
          obtain ⟨a, h1, rfl⟩ := ok
          exact ⟨a, h1, rfl⟩
    · rw [List.getElem?_append_right (by rw [la]; exact Nat.le_of_not_lt hi)] at e'
      have := List.eq_of_mem_replicate (List.mem_of_getElem? e')
      subst this
      trivial
theorem sat_start {kc : Kc} {ioA : List Addr} {g : M Fl} {ρ : Rho} {P : Pcs} {Q : VK} {E : XK} (io : ∀ {ρ' : Rho} {σ' : St} {H' : Hp} {P' : Pcs}, RepW (c0 kc) ioA ρ' σ' H' P' → RepIo kc ioA ρ'.io H' P')
    (h : RtOk kc ioA P Q E (outB (g ρ))) : tSat (c0 kc) ioA (wOf E) g ρ P (ends Q) := by
  unfold tSat
  cases e : g ρ with
  | bad => rw [e] at h; exact h
  | exc x ρ' => rw [e] at h; exact fun cls dx σ' H' P' s r q => h cls dx H' P' s (io r) q
  | ok fl ρ' =>
    rw [e] at h
    cases fl with
    | nx => exact fun σ' H' P' s r => h .non H' P' s (io r) .non
    | bk => exact h.elim
    | ct => exact h.elim
    | ret d => exact fun v σ' H' P' s r q => h v H' P' s (io r) q
    | fre xs => exact fun v σ' H' P' s r q => h v H' P' s (io r) q
section
variable {P : Program} {w : World} {K : PySem.W.Frag} {mg : Str → Option Value} {base : PySem.Heap} {kc : Kc} {k : Nat} {x qual : Str} {params : Arguments} {body : List Stmt} {scope : Scope} {f : Addr} {fd : FuncData} {N ps : List Str}
/-- the context of its body -/
abbrev cxB (P : Program) (w : World) (K : PySem.W.Frag) (mg : Str → Option Value) (base : PySem.Heap) (N : List Str) (qual : Str) (scope : Scope) (f : Addr) (cdv : Value) (A : Around) (outer : List Env) (s : Shared) (H : Hp) (E : XK) : Cx :=
  cxOf (L2.CX P w) P w K mg base N qual scope f cdv A outer s H E
/-- the body by data, wherever the def is called -/
def Body (P : Program) (w : World) (K : PySem.W.Frag) (mg : Str → Option Value) (base : PySem.Heap) (kc : Kc) (k : Nat) (N : List Str) (qual : Str) (scope : Scope) (f : Addr) (body : List Stmt) (g : M Fl) : Prop :=
  ∀ (cdv : Value) (A : Around) (outer : List Env) (s : Shared) (H : Hp) (E : XK), Cl (cxB P w K mg base N qual scope f cdv A outer s H E) (wOf E) k → DSs (cxB P w K mg base N qual scope f cdv A outer s H E) (c0 kc) (wOf E) body g
theorem fn_body {g : M Fl} (hK : kc.K = K) (F : FunD K x qual params body scope [] [] f fd) (S : FnScope N ps scope) (B : Body P w K mg base kc k N qual scope f body g) : FnG P w K mg base (k + 1) f fd ps (spOf kc (runB N.length ps.length g)) := by
  refine fnG_of F S (fun vs H Q E h => spOf_len runB_len h) fun cdv A outer s H vs Q E room gu prom => ?_
  obtain ⟨as, ms, ioA, P0, ri, ra, rt⟩ := prom
  have cl : Cl (cxB P w K mg base N qual scope f cdv A outer s H E) (wOf E) k := ⟨room, gu, takes_of rfl rfl rfl rfl, passes_of rfl⟩
  refine ⟨_, B cdv A outer s H E cl ⟨hK, ?_⟩ ioA, rho0 N.length as ms, P0, rep_start ri ra, sat_start (fun r => ⟨r.pc, r.io⟩) ?_⟩
  · have := room.un
    show (A.deeper _).units + 190 < cLine
    omega
  · unfold runB at rt
    by_cases hl : as.length = ps.length
    · rwa [if_pos hl] at rt
    · rw [if_neg hl] at rt
      exact rt.elim
theorem cal_of {g : M Fl} (hm : mg x = some (.ref f)) (hK : kc.K = K) (F : FunD K x qual params body scope [] [] f fd) (S : FnScope N ps scope)
    (hb : ∀ (kV doc pm : Value) (an : Option Addr) (cdv ct : Value) (us : List Value), us.length = ps.length → bindArgs (PySem.W.fnOf x qual params body scope .none kV doc pm an cdv ct) ⟨us, []⟩ = pure (ps.zip us))
    (B : Body P w K mg base kc k N qual scope f body g) : Cal P w K mg base kc (k + 1) x (runB N.length ps.length g) where
  ex := ⟨f, fd, ps, hm, F.kp, F.bindsN hb, fn_body hK F S B⟩
end
end Den

set_option Elab.async false
set_option linter.all false
set_option maxRecDepth 100000
/-! DenQ: the law's call, at the heap behind the module's top. -/
namespace Den
open PySem PySem.Spec
open PyProof.Rows L2

/-- the script as it is handed to a law -/
def scrD (ns : List Int) : PD := .dict [(.none, .list (ns.map PyData.int))]
/-- where a law's call begins -/
structure Entry (K : PySem.W.Frag) (mg : Str → Option Value) (s : Shared) (a : Addr) (vs : List Value) (ns : List Int) : Prop where
  kin : K.In s.heap
  glob : s.heap.Ns mainGlobals mg
  blt : ∃ mb, s.heap.Ns builtinsNs mb ∧ ∀ x : Str, x ≠ "__name__" → mb x = bootBuiltins x
  lim : s.heap.NoLimit
  still : s.gens = #[]
  list : s.heap.get? a = some { cls := .type "list", data := .seq vs.toArray }
  nums : IntsAre vs ns
  short : ns.length ≤ sizeLine
abbrev scrO (vs : List Value) : Obj := { cls := .type "list", data := .seq vs.toArray }
/-- the script is followed, unless it is a thing of the written part itself -/
def follow (K : PySem.W.Frag) (a : Addr) (vs : List Value) (ns : List Int) : Hp := fun b => if b = a ∧ K.lookup a = none then some (.frz (scrO vs) (.lst (ns.map V.int))) else none
section
variable {P : Program} {w : World} {K : PySem.W.Frag} {mg : Str → Option Value} {s : Shared} {a b : Addr} {vs : List Value} {ns : List Int} {u : HO} {o : Obj}
theorem follow_some (h : follow K a vs ns b = some u) : (b = a ∧ K.lookup a = none) ∧ u = .frz (scrO vs) (.lst (ns.map V.int)) := by
  unfold follow at h
  by_cases q : b = a ∧ K.lookup a = none
  · rw [if_pos q] at h; exact ⟨q, (Option.some.inj h).symm⟩
  · rw [if_neg q] at h; cases h
theorem follow_off (h : b ≠ a) : follow K a vs ns b = none := if_neg fun q => h q.1
theorem Entry.apart (En : Entry K mg s a vs ns) (h : s.heap.get? b = some o) {es : Array DictEntry} {ep : Nat} (d : o.data = .dict es ep) : b ≠ a := fun q => by
  rw [q, En.list] at h
  cases h
  cases d
theorem Entry.ok (En : Entry K mg s a vs ns) : HOk P w (follow K a vs ns) s.heap := fun b u h => by
  obtain ⟨⟨rfl, _⟩, rfl⟩ := follow_some h
  exact ⟨En.list, by rw [List.length_map]; exact En.short, vs, 0, vals_ints En.nums, En.list⟩
theorem Entry.sq (En : Entry K mg s a vs ns) : SqL K (follow K a vs ns) a (ns.map V.int) := by
  cases q : K.lookup a with
  | none => exact .inl (.inr ⟨_, if_pos ⟨rfl, q⟩⟩)
  | some o =>
    have z := En.kin _ _ q
    rw [En.list] at z
    cases z
    have r := vals_ints En.nums
    exact .inr ⟨_, vs.toArray, 0, q, rfl, rfl, rfl, by rw [List.size_toArray, ← r.length, List.length_map]; exact En.short, r⟩
theorem rp_ints {k : Kc} {G : Hp} : ∀ ns : List Int, RpAll k G (ns.map V.int) (ns.map PyData.int)
  | [] => .nil
  | n :: r => .cons (.int n) (rp_ints r)
/-- the part of the heap that nobody changes -/
abbrev ground (K : PySem.W.Frag) (s : Shared) (a : Addr) (vs : List Value) (ns : List Int) : PySem.Heap := hidT s.heap (follow K a vs ns)
theorem Entry.still_ns (En : Entry K mg s a vs ns) {m : Str → Option Value} (h : s.heap.Ns b m) : (ground K s a vs ns).Ns b m := by
  obtain ⟨o, es, ep, g, d, r⟩ := h
  exact ⟨o, es, ep, hidT_get g (follow_off (En.apart g d)), d, r⟩
theorem Entry.mod (En : Entry K mg s a vs ns) : Mod K mg (ground K s a vs ns) where
  kin := fun b o q => hidT_get (En.kin b o q) (by
    cases z : follow K a vs ns b with
    | none => rfl
    | some u =>
      obtain ⟨⟨rfl, no⟩, _⟩ := follow_some z
      rw [no] at q
      cases q)
  glob := En.still_ns En.glob
  blt := En.blt.imp fun _ h => ⟨En.still_ns h.1, h.2⟩
  nolimit := En.lim.imp fun _ h => ⟨En.still_ns h.1, h.2⟩
theorem Entry.env (En : Entry K mg s a vs ns) : Env0 P w K mg (ground K s a vs ns) callerA [] s (follow K a vs ns) where
  frames := rfl
  mod := En.mod
  bs := fun _ _ h => of_hidT h
  bsz := Nat.le_of_eq (hidT_size _ _)
  funs := trivial
  frf := fun _ h => by cases h
  hok := En.ok
  bare := En.still ▸ .empty
/-- the pieces at the entry: what is frozen, and nothing else -/
def onlyG (G : Hp) : Pcs := put (fun _ => emp) .g G
theorem onlyG_pc {G : Hp} : Pc G (onlyG G) where
  sub := fun x => by
    by_cases e : x = .g
    · subst e; unfold onlyG; rw [put_same]; exact Same.refl _
    · unfold onlyG; rw [put_ne e]; exact same_emp
  dis := fun x y n => by
    unfold onlyG
    by_cases e : x = .g
    · rw [put_ne (x := .g) (y := y) (fun z => n (e.trans z.symm))]; exact fun _ => .inr rfl
    · rw [put_ne e]; exact fun _ => .inl rfl
theorem onlyG_g {G : Hp} : onlyG G .g = G := put_same
/-- a law whose def answers True -/
theorem law_answers {kc : Kc} {k : Nat} {F : FD} {fa : Addr} {fd : FuncData} {x : Str} (En : Entry K mg s a vs ns) (hK : kc.K = K) (room : Room k callerA)
    (fn : FnG P w K mg (ground K s a vs ns) k fa fd [x] (spOf kc F)) (bnd : BindsTo s fd ⟨[.ref a], []⟩ [(x, .ref a)]) (yes : F [.val (scrD ns)] [] = (.ret (.bool true), [])) :
    codeAny (model P w) callerA (.call (.ref fa) ⟨[.ref a], []⟩) (fun r s' => r = .ok (.ret (.bool true)) ∧ OldK s.heap s'.heap ∧ s'.os = s.os ∧ AllBare s'.gens) s := by
  have prom : spOf kc F [.ref a] (follow K a vs ns) (fun v _ => v = .bl true) fun _ _ _ => False := by
    refine ⟨[.val (scrD ns)], [], [], onlyG (follow K a vs ns), ⟨onlyG_pc, fun j m e => by simp at e⟩, .cons ?_ .nil, ?_⟩
    · show Rp kc (onlyG _ .g) (.ref a) (scrD ns)
      rw [onlyG_g]
      exact .scr (hK ▸ En.sq) (rp_ints ns)
    · rw [yes]
      rintro v H' P' _ _ r
      cases r
      rfl
  refine codeAny_mono (fn.run callerA [] s _ ⟨[.ref a], []⟩ [.ref a] [.ref a] _ _ room rfl En.env bnd (.cons rfl .nil) prom) fun r s' h => ?_
  match r, h with
  | .ok (.ret u), h =>
    obtain ⟨v, G, os, bare, un, ok, rv, rfl⟩ := h
    have ru : u = .bool true := rv
    refine ⟨by rw [ru], .of_keep fun b o q => ?_, os, bare⟩
    cases z : follow K a vs ns b with
    | none => exact un.keep b o q z (by simp [frs]) (by simp)
    | some y =>
      obtain ⟨⟨rfl, _⟩, rfl⟩ := follow_some z
      rw [En.list] at q
      cases q
      exact (ok _ _ (un.frzs _ _ _ z)).1
  | .error e, h =>
    obtain ⟨_, _, _, _, _, _, _, _, _, _, _, _, no⟩ := h
    exact no.elim
end
end Den

set_option Elab.async false
set_option linter.all false
set_option maxRecDepth 100000
/-! DenR: C(..) of an own class: its __init__ by data, then the instance is frozen. -/
namespace Den
open PySem PySem.Spec
open PyProof.Rows L2

section
variable {X : Cx} {W : WX} {k : Nat} {C f : Addr} {fd : FuncData} {ps : List Str} {sp : Sp} {pins : List (Addr × Obj)} {σ : St} {H : Hp} {s : Shared} {Q : VK} {us : List Value} {vs : List V}
end

/-! ### by data -/
section
variable {c : Cc} {ioA : List Addr} {ρ : Rho} {σ : St} {H : Hp} {P : Pcs} {s : Slot} {v : Option V}
end
section
variable {X : Cx} {c : Cc} {W : WX} {x : Str} {F : FD} {k j : Nat} {e : Expr} {es : List Expr} {fs : M (List PD)} {p pos : Pos}
end
end Den

set_option Elab.async false
set_option linter.all false
set_option maxRecDepth 100000
/-! DenS: methods of own classes, by data. -/
namespace Den
open PySem PySem.Spec
open PyProof.Rows L2

section
variable {X : Cx} {c : Cc} {W : WX} {n m : Str} {F : FD} {k j : Nat} {o e : Expr} {es : List Expr} {fo : M PD} {fs : M (List PD)} {pos apos : Pos} {pl : Sem Bool}
end
end Den

set_option Elab.async false
set_option linter.all false
set_option maxRecDepth 4000
/-! DenT: len(set(e)), e of ints. -/
namespace Den
open PySem PySem.Spec
open PyProof.Rows L2

/-- each number once, as it is met last -/
def dd : List Int → List Int
  | [] => []
  | n :: r => if n ∈ r then dd r else n :: dd r
section
variable {X : Cx} {c : Cc} {W : WX} {e : Expr} {f : M Pk} {p1 p2 p3 p4 : Pos}
end
end Den

set_option Elab.async false
set_option linter.all false
set_option maxRecDepth 100000
/-! DenU: dict(rows), rows a tuple of pairs whose first is a tuple of ints and texts. -/
namespace Den
open PySem PySem.Spec
open PyProof.Rows L2

section
variable {X : Cx} {pins : List (Addr × Obj)} {σ : St} {H : Hp} {s : Shared}
end
end Den

set_option Elab.async false
set_option linter.all false
set_option maxRecDepth 100000
/-! DenV: dict(rows) and d.get(key), by data. -/
namespace Den
open PySem PySem.Spec
open PyProof.Rows L2

def keyD : PD → Option Key
  | .int i => some (.inl i)
  | .str x => some (.inr x)
  | _ => none
section
variable {k : Kc} {G H : Hp}
end
section
variable {X : Cx} {k : Kc}
end
end Den

set_option Elab.async false
set_option linter.all false
set_option maxRecDepth 100000
/-! DenW: d.get(key), key a tuple of ints and texts. -/
namespace Den
open PySem PySem.Spec
open PyProof.Rows L2

section
variable {k : Kc} {G H : Hp}
end
section
variable {X : Cx} {c : Cc} {W : WX} {o e : Expr} {fo : M Pk} {fk : M PD} {apos cpos : Pos}
end
end Den

set_option Elab.async false
set_option linter.all false
set_option maxRecDepth 100000
/-! DenO: repr(e), by data. -/
namespace Den
open PySem PySem.Spec
open PyProof.Rows L2

/-- what can be shown: no dict, not deep, not long -/
def showOk (d : PD) : Bool := plainD d && d.showable && !d.hasDict && decide (d.depth ≤ 100) && decide (d.shown.length ≤ sizeLine)
def gRepr : List PD → Option PD
  | [d] => if showOk d = true then some (.str d.shown) else none
  | _ => none
section
variable {X : Cx} {k : Kc}
end
end Den

set_option Elab.async false
set_option linter.all false
set_option maxRecDepth 100000
/-! DenZ: what the printed proofs lean on. -/
namespace Den
open PySem PySem.Spec
open PyProof.Rows L2
theorem takes_no {X : Cx} : Takes X noW := fun _ _ h => by
  obtain ⟨_, _, _, _, _, _, _, _, _, _, _, _, _, _, _, _, no⟩ := h
  exact no.elim
/-- in a comprehension's block -/
theorem Cl.blk {X : Cx} {W : WX} {k : Nat} {s : Shared} {H : Hp} {scope : Scope} {cenv : Env} {fp : List Addr} (cl : Cl X W k) : Cl (X.blk s H scope cenv fp) noW k := ⟨cl.room, cl.gu, takes_no, .never⟩
/-- in the body of a try -/
theorem Cl.tr {X : Cx} {W V : WX} {k : Nat} {pn : List (Addr × Obj)} {xe : Value → Shared → Prop} (cl : Cl X W k) (t : Takes (X.tr pn xe) V) (po : PassesOwn (model X.prog X.w) X.A X.env xe) : Cl (X.tr pn xe) V k := ⟨cl.room, cl.gu, t, po⟩
theorem blk_of (N : List Str) (sc : Scope) {scope : Scope} {own : List (Str × Nat)} (h1 : scope.kind = .function) (h2 : ∀ y ∈ scope.names, scope.names.lookup y.1 = some y.2) (h3 : ∀ p ∈ own, N[p.2]? = some p.1)
    (h4 : ∀ y ∈ scope.names, y.2 = .free → sc.names.lookup y.1 = some .cell ∨ sc.names.lookup y.1 = some .free) (h5 : ∀ y ∈ scope.names, y.2 = .local ∨ y.2 = .cell → y.1 ∈ own.map (·.1) ∨ y.1 ∉ N) : BlkOk N sc scope own := ⟨h1, h2, h3, h4, h5⟩
def inCls (st : Stmt) (j : Nat) : Stmt := match st with
  | .ClassDef _ _ _ b _ _ _ _ _ _ _ => b.getD j st
  | _ => st
end Den

set_option Elab.async false
set_option linter.all false
set_option maxRecDepth 100000
/-! DenPl: what a piece by data does, asked piece by piece; loops by an invariant. Plain Lean: no program in sight. -/
namespace Den
open PySem PySem.Spec
open PyProof.Rows L2

/-- m, begun at ρ, ends well: with Q, or with an exception and E -/
@[irreducible] def Wp {α : Type} (m : M α) (ρ : Rho) (Q : α → Rho → Prop) (E : Xc → Rho → Prop) : Prop := match m ρ with
  | .ok a ρ' => Q a ρ'
  | .exc x ρ' => E x ρ'
  | .bad => False
/-- there is one, and of it Q -/
def Ho {α : Type} (o : Option α) (Q : α → Prop) : Prop := match o with
  | some a => Q a
  | none => False
@[simp] theorem ho_some {α : Type} {a : α} {Q : α → Prop} : Ho (some a) Q = Q a := rfl
@[simp] theorem ho_none {α : Type} {Q : α → Prop} : Ho none Q = False := rfl
@[simp] theorem ho_bind {α β : Type} {o : Option α} {f : α → Option β} {Q : β → Prop} : Ho (o.bind f) Q = Ho o fun a => Ho (f a) Q := by cases o <;> first | rfl | (unfold Wp; rfl)
@[simp] theorem ho_map {α β : Type} {o : Option α} {f : α → β} {Q : β → Prop} : Ho (o.map f) Q = Ho o fun a => Q (f a) := by cases o <;> first | rfl | (unfold Wp; rfl)
def asBo : PD → Option Bool
  | .bool b => some b
  | _ => none
def asIo : PD → Option Int
  | .int i => some i
  | _ => none
@[simp] theorem asBo_b {b : Bool} : asBo (.bool b) = some b := rfl
@[simp] theorem asIo_i {i : Int} : asIo (.int i) = some i := rfl
section
variable {α β : Type} {ρ : Rho} {E : Xc → Rho → Prop}
theorem Wp.mono {m : M α} {Q Q' : α → Rho → Prop} {E' : Xc → Rho → Prop} (h : Wp m ρ Q E) (hQ : ∀ a ρ', Q a ρ' → Q' a ρ') (hE : ∀ x ρ', E x ρ' → E' x ρ') : Wp m ρ Q' E' := by
  unfold Wp at h ⊢
  cases e : m ρ with
  | ok a ρ' => rw [e] at h; exact hQ _ _ h
  | exc x ρ' => rw [e] at h; exact hE _ _ h
  | bad => rw [e] at h; exact h
@[simp] theorem wp_pure {a : α} {Q : α → Rho → Prop} : Wp (mpure a) ρ Q E = Q a ρ := by unfold Wp; rfl
@[simp] theorem wp_bind {m : M α} {f : α → M β} {Q : β → Rho → Prop} : Wp (mbind m f) ρ Q E = Wp m ρ (fun a ρ' => Wp (f a) ρ' Q E) E := by
  unfold Wp mbind
  cases m ρ <;> first | rfl | (unfold Wp; rfl)
@[simp] theorem wp_bad {Q : α → Rho → Prop} : Wp (fun _ => R.bad) ρ Q E = False := by unfold Wp; rfl
@[simp] theorem wp_opt {o : Option α} {Q : α → Rho → Prop} : Wp (mopt o) ρ Q E = Ho o fun a => Q a ρ := by
  unfold Wp mopt
  cases o <;> first | rfl | (unfold Wp; rfl)
theorem wp_ite {b : Prop} [Decidable b] {m m' : M α} {Q : α → Rho → Prop} : Wp (if b then m else m') ρ Q E = if b then Wp m ρ Q E else Wp m' ρ Q E := by
  split <;> first | rfl | (unfold Wp; rfl)
end
section
variable {ρ : Rho} {E : Xc → Rho → Prop} {i : Nat}
/-! ### names -/
@[simp] theorem frz_lst {xs : List PD} : (MC.lst xs).frz = true := rfl
@[simp] theorem frz_ll {xs : List (List PD)} : (MC.ll xs).frz = true := rfl
@[simp] theorem frz_dic {xs : List (PD × PD)} : (MC.dic xs).frz = true := rfl
@[simp] theorem frz_ins {n : Str} {fs : List (Str × PD)} : (MC.ins n fs).frz = true := rfl
@[simp] theorem wp_dVar {Q : PD → Rho → Prop} {i : Nat} : Wp (dVar i) ρ Q E = match ρ.sl[i]? with
  | some (.val d) => Q d ρ
  | some (.own m) => m.frz = true ∧ Q m.pd { ρ with sl := ρ.sl.set i (.val m.pd) }
  | _ => False := by
  unfold Wp dVar
  cases ρ.sl[i]? with
  | none => rfl
  | some s =>
    cases s with
    | own m => by_cases h : m.frz = true <;> simp [h]
    | _ => first | rfl | (unfold Wp; rfl)
@[simp] theorem wp_dkVar {Q : Pk → Rho → Prop} {i : Nat} : Wp (dkVar i) ρ Q E = match ρ.sl[i]? with
  | some .no => False
  | some _ => Q (.sl i) ρ
  | none => False := by
  unfold Wp dkVar
  cases ρ.sl[i]? with
  | none => rfl
  | some s => cases s <;> first | rfl | (unfold Wp; rfl)
@[simp] theorem wp_dkE {f : M PD} {Q : Pk → Rho → Prop} : Wp (dkE f) ρ Q E = Wp f ρ (fun d ρ' => Q (.d d) ρ') E := by simp [dkE]
@[simp] theorem look_d {d : PD} : look (.d d) ρ = some d := rfl
/-! ### operators -/
@[simp] theorem wp_op2 {g : PD → PD → Option PD} {a b : M Pk} {Q : PD → Rho → Prop} : Wp (dOp2 g a b) ρ Q E = Wp a ρ (fun p ρ1 => Wp b ρ1 (fun q ρ2 => Ho (look p ρ2) fun x => Ho (look q ρ2) fun y => Ho (g x y) fun z => Q z ρ2) E) E := by
  unfold dOp2
  simp only [wp_bind]
  congr; funext p ρ1; congr; funext q ρ2
  unfold Wp
  cases h1 : look p ρ2 with
  | none => simp [h1]
  | some x =>
    cases h2 : look q ρ2 with
    | none => simp [h1, h2]
    | some y =>
      cases h3 : g x y <;> simp [mopt, h1, h2, h3]
@[simp] theorem wp_asB {f : M PD} {Q : Bool → Rho → Prop} : Wp (asB f) ρ Q E = Wp f ρ (fun d ρ' => Ho (asBo d) fun b => Q b ρ') E := by
  unfold asB
  simp only [wp_bind]
  congr; funext d ρ'
  cases d <;> first | rfl | (unfold Wp; rfl)
@[simp] theorem wp_dTru {f : M Pk} {Q : Bool → Rho → Prop} : Wp (dTru f) ρ Q E = Wp f ρ (fun p ρ' => Ho (look p ρ') fun d => Ho (tru d) fun b => Q b ρ') E := by
  unfold dTru
  simp only [wp_bind]
  congr; funext p ρ1
  unfold Wp
  cases h1 : look p ρ1 with
  | none => simp [h1]
  | some d => cases h2 : tru d <;> simp [mopt, h1, h2]
@[simp] theorem wp_tOrB {f g : M Bool} {Q : Bool → Rho → Prop} : Wp (tOrB f g) ρ Q E = Wp f ρ (fun b ρ' => if b = true then Q true ρ' else Wp g ρ' Q E) E := by
  unfold tOrB
  simp only [wp_bind]
  congr; funext b ρ1
  cases b <;> simp
@[simp] theorem wp_tNotB {f : M Bool} {Q : Bool → Rho → Prop} : Wp (tNotB f) ρ Q E = Wp f ρ (fun b ρ' => Q (!b) ρ') E := by simp [tNotB]
@[simp] theorem wp_dKs {f : M Pk} {r : M (List Pk)} {Q : List Pk → Rho → Prop} : Wp (dKs f r) ρ Q E = Wp f ρ (fun p ρ1 => Wp r ρ1 (fun ps ρ2 => Q (p :: ps) ρ2) E) E := by simp [dKs]
@[simp] theorem wp_dEs {f : M PD} {r : M (List PD)} {Q : List PD → Rho → Prop} : Wp (dEs f r) ρ Q E = Wp f ρ (fun p ρ1 => Wp r ρ1 (fun ps ρ2 => Q (p :: ps) ρ2) E) E := by simp [dEs]
@[simp] theorem wp_dCB {g : List PD → Option PD} {as : M (List Pk)} {Q : PD → Rho → Prop} : Wp (dCB g as) ρ Q E = Wp as ρ (fun ps ρ' => Ho (looks ps ρ') fun ds => Ho (g ds) fun z => Q z ρ') E := by
  unfold dCB
  simp only [wp_bind]
  congr; funext ps ρ1
  unfold Wp
  cases h1 : looks ps ρ1 with
  | none => simp [h1]
  | some ds => cases h2 : g ds <;> simp [mopt, h1, h2]
@[simp] theorem looks_nil : looks [] ρ = some [] := rfl
@[simp] theorem looks_cons {p : Pk} {ps : List Pk} {Q : List PD → Prop} : Ho (looks (p :: ps) ρ) Q = Ho (look p ρ) fun d => Ho (looks ps ρ) fun ds => Q (d :: ds) := by
  show Ho (match look p ρ, looks ps ρ with
    | some d, some ds => some (d :: ds)
    | _, _ => none) Q = _
  cases look p ρ <;> cases looks ps ρ <;> first | rfl | (unfold Wp; rfl)
@[simp] theorem wp_dTup {as : M (List PD)} {Q : PD → Rho → Prop} : Wp (dTup as) ρ Q E = Wp as ρ (fun ds ρ' => ds.length ≤ 10000 ∧ Q (.tuple ds) ρ') E := by
  unfold dTup
  simp only [wp_bind, wp_ite, wp_pure, wp_bad]
  congr; funext ds ρ1
  by_cases h : ds.length ≤ 10000 <;> simp [h]
@[simp] theorem wp_dLst {as : M (List PD)} {Q : List PD → Rho → Prop} : Wp (dLst as) ρ Q E = Wp as ρ (fun ds ρ' => ds.length ≤ 10000 ∧ Q ds ρ') E := by
  unfold dLst
  simp only [wp_bind, wp_ite, wp_pure, wp_bad]
  congr; funext ds ρ1
  by_cases h : ds.length ≤ 10000 <;> simp [h]
@[simp] theorem wp_dNeg {f : M PD} {Q : PD → Rho → Prop} : Wp (dNeg f) ρ Q E = Wp f ρ (fun d ρ' => Ho (asIo d) fun i => Q (.int (-i)) ρ') E := by
  unfold dNeg
  simp only [wp_bind]
  congr; funext d ρ1
  cases d <;> first | rfl | (unfold Wp; rfl)
theorem wp_congr {α : Type} {m m' : M α} {Q : α → Rho → Prop} (h : m ρ = m' ρ) : Wp m ρ Q E = Wp m' ρ Q E := by unfold Wp; rw [h]
/-! ### statements -/
@[simp] theorem wp_dNext {Q : Fl → Rho → Prop} : Wp dNext ρ Q E = Q .nx ρ := by unfold Wp; rfl
@[simp] theorem wp_dSeq {g h : M Fl} {Q : Fl → Rho → Prop} : Wp (dSeq g h) ρ Q E = Wp g ρ (fun fl ρ' => match fl with
  | .nx => Wp h ρ' Q E
  | fl => Q fl ρ') E := by
  unfold dSeq
  simp only [wp_bind]
  congr; funext fl ρ1
  cases fl <;> simp
@[simp] theorem wp_dDrop {f : M PD} {Q : Fl → Rho → Prop} : Wp (dDrop f) ρ Q E = Wp f ρ (fun _ ρ' => Q .nx ρ') E := by simp [dDrop]
@[simp] theorem wp_dRet {f : M PD} {Q : Fl → Rho → Prop} : Wp (dRet f) ρ Q E = Wp f ρ (fun d ρ' => Q (.ret d) ρ') E := by simp [dRet]
@[simp] theorem wp_dRetF {f : M (List PD)} {Q : Fl → Rho → Prop} : Wp (dRetF f) ρ Q E = Wp f ρ (fun d ρ' => Q (.fre d) ρ') E := by simp [dRetF]
@[simp] theorem wp_dIf {t : M Bool} {g h : M Fl} {Q : Fl → Rho → Prop} : Wp (dIf t g h) ρ Q E = Wp t ρ (fun b ρ' => if b = true then Wp g ρ' Q E else Wp h ρ' Q E) E := by
  unfold dIf
  simp only [wp_bind, wp_ite]
@[simp] theorem wp_dSet {f : M PD} {Q : Fl → Rho → Prop} {i : Nat} : Wp (dSet i f) ρ Q E = Wp f ρ (fun d ρ' => Q .nx { ρ' with sl := ρ'.sl.set i (.val d) }) E := by
  unfold dSet
  simp only [wp_bind]
  first | rfl | (unfold Wp; rfl)
@[simp] theorem wp_dSetF {f : M (List PD)} {Q : Fl → Rho → Prop} {i : Nat} : Wp (dSetF i f) ρ Q E = Wp f ρ (fun d ρ' => Q .nx { ρ' with sl := ρ'.sl.set i (.own (.lst d)) }) E := by
  unfold dSetF
  simp only [wp_bind]
  first | rfl | (unfold Wp; rfl)
@[simp] theorem wp_dRaise {cls : Str} {f : M PD} {Q : Fl → Rho → Prop} : Wp (dRaise cls f) ρ Q E = Wp f ρ (fun d ρ' => E ⟨cls, d⟩ ρ') E := by
  unfold dRaise
  simp only [wp_bind]
  first | rfl | (unfold Wp; rfl)
@[simp] theorem wp_dSetI {fi fv : M PD} {Q : Fl → Rho → Prop} {i : Nat} : Wp (dSetI i fi fv) ρ Q E = Wp fv ρ (fun d ρ1 => Ho (getL i ρ1) fun _ => Wp fi ρ1 (fun ix ρ2 => Ho (asIo ix) fun k => Ho (getL i ρ2) fun xs => Ho (ixN xs.length k) fun j => Q .nx (setM i (.lst (xs.set j d)) ρ2)) E) E := by
  unfold dSetI
  simp only [wp_bind]
  congr; funext d ρ1
  cases h : getL i ρ1 with
  | none => unfold Wp; simp [h]
  | some xs0 =>
  rw [wp_congr (m' := mbind fi (fun ix ρ' => match ix, getL i ρ' with
    | .int k, some xs => (match ixN xs.length k with
      | some j => .ok Fl.nx (setM i (.lst (xs.set j d)) ρ')
      | none => .bad)
    | _, _ => .bad)) (by simp only [h] <;> rfl), ho_some]
  rw [wp_bind]
  congr; funext ix ρ2
  unfold Wp
  cases ix with
  | int k =>
    cases h2 : getL i ρ2 with
    | none => simp [h2]
    | some xs => cases h3 : ixN xs.length k <;> simp [h2, h3]
  | _ => simp [asIo]
/-! ### calls -/
def inlO : Sum PD (List PD) → Option PD
  | .inl d => some d
  | .inr _ => none
def inrO : Sum PD (List PD) → Option (List PD)
  | .inl _ => none
  | .inr d => some d
@[simp] theorem inlO_l {d : PD} : inlO (.inl d) = some d := rfl
@[simp] theorem inrO_r {d : List PD} : inrO (.inr d) = some d := rfl
/-- behind a call: what it hands back -/
def Wr (rt : Rt) (ρ : Rho) (Q : Sum PD (List PD) → Rho → Prop) (E : Xc → Rho → Prop) : Prop := match rt with
  | .ret d => Q (.inl d) ρ
  | .fre xs => Q (.inr xs) ρ
  | .exc x => E x ρ
  | .bad => False
@[simp] theorem wr_ret {d : PD} {Q : Sum PD (List PD) → Rho → Prop} : Wr (.ret d) ρ Q E = Q (.inl d) ρ := rfl
@[simp] theorem wr_fre {d : List PD} {Q : Sum PD (List PD) → Rho → Prop} : Wr (.fre d) ρ Q E = Q (.inr d) ρ := rfl
@[simp] theorem wr_exc {x : Xc} {Q : Sum PD (List PD) → Rho → Prop} : Wr (.exc x) ρ Q E = E x ρ := rfl
/-- with one mutable handed in at x -/
def Wr1 (r : Rt × List MC) (x : Ix) (ρ : Rho) (Q : Sum PD (List PD) → Rho → Prop) (E : Xc → Rho → Prop) : Prop := match r with
  | (rt, [m']) => Wr rt (setC ρ x m') Q E
  | _ => False
@[simp] theorem wr1_one {rt : Rt} {m : MC} {x : Ix} {Q : Sum PD (List PD) → Rho → Prop} : Wr1 (rt, [m]) x ρ Q E = Wr rt (setC ρ x m) Q E := rfl
theorem wp_tail {F : FD} {es : List Ea} {Q : Sum PD (List PD) → Rho → Prop} : Wp (callTail F es) ρ Q E = match iosOf es with
  | [] => Wr (F (arsOf es) []).1 ρ Q E
  | [i] => Ho (ixOf ρ i) fun x => Ho (getC ρ x) fun m => Wr1 (F (arsOf es) [m]) x ρ Q E
  | _ => False := by
  unfold callTail Wp
  match h : iosOf es with
  | [] =>
    simp only
    unfold rtM Wr
    cases (F (arsOf es) []).1 <;> first | rfl | (unfold Wp; rfl)
  | [i] =>
    simp only
    cases h1 : ixOf ρ i with
    | none => simp
    | some x =>
      cases h2 : getC ρ x with
      | none => simp [h2]
      | some m =>
        simp only [ho_some, h2]
        unfold Wr1
        cases h3 : F (arsOf es) [m] with
        | mk rt ms =>
          match ms with
          | [] => simp
          | [m'] => simp only; unfold rtM Wr; cases rt <;> first | rfl | (unfold Wp; rfl)
          | _ :: _ :: _ => simp
  | _ :: _ :: _ => simp
@[simp] theorem wp_args_nil {Q : List Ea → Rho → Prop} : Wp (dArgs []) ρ Q E = Q [] ρ := by unfold Wp; rfl
@[simp] theorem wp_args_val {f : M PD} {r : List Sa} {Q : List Ea → Rho → Prop} : Wp (dArgs (.val f :: r)) ρ Q E = Wp f ρ (fun d ρ1 => Wp (dArgs r) ρ1 (fun es ρ2 => Q (.val d :: es) ρ2) E) E := by simp [dArgs]
@[simp] theorem wp_args_io {i : Nat} {r : List Sa} {Q : List Ea → Rho → Prop} : Wp (dArgs (.io i :: r)) ρ Q E = Ho (ixOf ρ i) fun _ => Wp (dArgs r) ρ (fun es ρ2 => Q (.io i :: es) ρ2) E := by
  simp only [dArgs, wp_bind, wp_pure]
  unfold Wp mHas
  cases h : ixOf ρ i <;> simp [h]
@[simp] theorem wp_dCall {F : FD} {args : List Sa} {Q : PD → Rho → Prop} : Wp (dCall F args) ρ Q E = Wp (dArgs args) ρ (fun es ρ' => Wp (callTail F es) ρ' (fun r ρ2 => Ho (inlO r) fun d => Q d ρ2) E) E := by
  unfold dCall dCallX
  simp only [wp_bind]
  congr; funext es ρ1; congr; funext r ρ2
  cases r <;> first | rfl | (unfold Wp; rfl)
@[simp] theorem wp_dCallF {F : FD} {args : List Sa} {Q : List PD → Rho → Prop} : Wp (dCallF F args) ρ Q E = Wp (dArgs args) ρ (fun es ρ' => Wp (callTail F es) ρ' (fun r ρ2 => Ho (inrO r) fun d => Q d ρ2) E) E := by
  unfold dCallF dCallX
  simp only [wp_bind]
  congr; funext es ρ1; congr; funext r ρ2
  cases r <;> first | rfl | (unfold Wp; rfl)
/-! ### a piece whose answer is known -/
theorem ok_of_wp {α : Type} {m : M α} {a : α} {ρ' : Rho} (h : Wp m ρ (fun x r => x = a ∧ r = ρ') (fun _ _ => False)) : m ρ = .ok a ρ' := by
  unfold Wp at h
  cases e : m ρ with
  | ok x r => rw [e] at h; rw [h.1, h.2]
  | exc x r => rw [e] at h; exact h.elim
  | bad => rw [e] at h; exact h.elim
theorem wp_of {α : Type} {m : M α} {a : α} {ρ' : Rho} {Q : α → Rho → Prop} (h : m ρ = .ok a ρ') : Wp m ρ Q E = Q a ρ' := by
  unfold Wp
  rw [h]
/-! ### a def's answer -/
theorem runB_post {n np : Nat} {g : M Fl} {as : List Ar} {ms : List MC} {T : Rt × List MC → Prop} (h : as.length = np) (hw : Wp g (rho0 n as ms) (fun fl ρ => T (outB (.ok fl ρ))) (fun x ρ => T (.exc x, ρ.io))) : T (runB n np g as ms) := by
  unfold runB
  rw [if_pos h]
  unfold Wp at hw
  cases e : g (rho0 n as ms) with
  | ok fl ρ => rw [e] at hw; exact hw
  | exc x ρ => rw [e] at hw; exact hw
  | bad => rw [e] at hw; exact hw.elim
theorem runB_eq {n np : Nat} {g : M Fl} {as : List Ar} {ms : List MC} {r : Rt × List MC} (h : as.length = np) (hw : Wp g (rho0 n as ms) (fun fl ρ => outB (.ok fl ρ) = r) (fun x ρ => (.exc x, ρ.io) = r)) : runB n np g as ms = r := runB_post (T := fun z => z = r) h hw
/-! ### loops -/
/-- behind a turn of a for -/
def turnQ (ks : List Nat) (N : Rho → Prop) (Q : Fl → Rho → Prop) : Fl → Rho → Prop := fun fl ρ => match fl with
  | .nx => N (killS ks ρ)
  | .ct => N (killS ks ρ)
  | .bk => Q .nx (killS ks ρ)
  | fl => Q fl ρ
theorem wp_forGo {t : Tg} {ks : List Nat} {ok : Rho → Prop} {body : M Fl} {Q : Fl → Rho → Prop} (I : Nat → Rho → Prop) (ds : List PD) (hok : ∀ i ρ, I i ρ → ok ρ) (hd : ∀ ρ, I ds.length ρ → Q .nx ρ)
    (hs : ∀ i ρ d, ds[i]? = some d → I i ρ → ∃ sl, bindT t d ρ.sl = some sl ∧ Wp body { ρ with sl := sl } (turnQ ks (I (i + 1)) Q) E) :
    ∀ {ρ : Rho}, I 0 ρ → Wp (forGo t ks ok body ds) ρ Q E := by
  have main : ∀ (n i : Nat) (ρ : Rho), ds.length - i = n → i ≤ ds.length → I i ρ → Wp (forGo t ks ok body (ds.drop i)) ρ Q E := by
    intro n
    induction n with
    | zero =>
      intro i ρ hn hi h
      have : i = ds.length := by omega
      subst this
      rw [List.drop_length]
      unfold Wp forGo
      rw [if_pos (hok _ _ h)]
      exact hd _ h
    | succ n ih =>
      intro i ρ hn hi h
      have hlt : i < ds.length := by omega
      rw [List.drop_eq_getElem_cons hlt]
      obtain ⟨sl, h1, h2⟩ := hs i ρ ds[i] (by simp [hlt]) h
      unfold Wp forGo
      rw [if_pos (hok _ _ h)]
      simp only [h1]
      unfold Wp at h2
      cases e : body { ρ with sl := sl } with
      | bad => rw [e] at h2; exact h2.elim
      | exc x ρ' => rw [e] at h2; exact h2
      | ok fl ρ' =>
        rw [e] at h2
        cases fl with
        | nx => have q := ih (i + 1) _ (by omega) hlt h2; unfold Wp at q; exact q
        | ct => have q := ih (i + 1) _ (by omega) hlt h2; unfold Wp at q; exact q
        | bk => exact h2
        | ret d => exact h2
        | fre d => exact h2
  intro ρ h
  simpa using main _ 0 ρ rfl (Nat.zero_le _) h
@[simp] theorem killS_nil {ρ : Rho} : killS [] ρ = ρ := rfl
theorem wp_dFor {t : Tg} {ks : List Nat} {fi : M (List PD × (Rho → Prop))} {body : M Fl} {Q : Fl → Rho → Prop} : Wp (dFor t ks fi body) ρ Q E = Wp fi ρ (fun s ρ' => Wp (forGo t ks s.2 body s.1) (killS ks ρ') Q E) E := by
  unfold dFor
  simp only [wp_bind]
  first | rfl | (unfold Wp; rfl)
theorem wp_dComp {t : Tg} {vs : List Nat} {fi : M (List PD × (Rho → Prop))} {tt : M Bool} {f : M PD} {Q : List PD → Rho → Prop} : Wp (dComp t vs fi tt f) ρ Q E = Wp fi ρ (fun s ρ' => s.1.length ≤ sizeLine ∧ Wp (compGo t vs s.2 tt f s.1) (killS vs ρ') (fun ys ρ2 => Q ys (compEnd vs ρ' ρ2)) (fun _ _ => False)) E := by
  unfold dComp
  simp only [wp_bind]
  congr; funext s ρ1
  unfold Wp
  by_cases h : s.1.length ≤ sizeLine
  · simp only [h, if_true, true_and]
    cases compGo t vs s.2 tt f s.1 (killS vs ρ1) <;> simp
  · simp [h]
/-! ### what a loop goes over -/
@[simp] theorem wp_dRange1 {f : M (List PD)} {Q : List PD × (Rho → Prop) → Rho → Prop} : Wp (dRange1 f) ρ Q E = Wp f ρ (fun ds ρ' => ∃ j, ds = [.int j] ∧ smallI j = true ∧ Q (rngI 0 j.toNat, fun _ => True) ρ') E := by
  unfold dRange1
  simp only [wp_bind]
  congr; funext ds ρ1
  split
  · rename_i j
    by_cases h : smallI j = true <;> simp [h]
  · rename_i h
    simp only [wp_bad, eq_iff_iff, false_iff]
    rintro ⟨j, rfl, _⟩
    exact h j rfl
theorem wp_dSeqs {p : Pk} {Q : List PD × (Rho → Prop) → Rho → Prop} : Wp (dSeqs p) ρ Q E = Ho (look p ρ) fun d => Ho (lkOf p ρ) fun ok => Ho (seqOf d) fun ds => Q (ds, ok) ρ := by
  unfold Wp dSeqs
  cases look p ρ with
  | none => rfl
  | some d =>
    cases lkOf p ρ with
    | none => rfl
    | some ok => cases h : seqOf d <;> simp [h]
/-- over a list, a tuple, a text -/
theorem wp_dIterV {f : M Pk} {Q : List PD × (Rho → Prop) → Rho → Prop} : Wp (dIterV f) ρ Q E = Wp f ρ (fun p ρ' => match look p ρ' with
  | some (.str z) => Q (chrs z, fun _ => True) ρ'
  | _ => Wp (dSeqs p) ρ' Q E) E := by
  unfold dIterV
  simp only [wp_bind]
  congr; funext p ρ1
  unfold Wp
  cases h : look p ρ1 with
  | none => simp [h]
  | some d => cases d <;> simp [h]
end
end Den

set_option Elab.async false
set_option linter.all false
set_option maxRecDepth 100000
/-! DenPm: loops turn by turn; what data may be compared and shown. -/
namespace Den
open PySem PySem.Spec
open PyProof.Rows L2
section
variable {ρ : Rho} {E : Xc → Rho → Prop} {t : Tg} {ks vs : List Nat} {ok : Rho → Prop} {body : M Fl} {tt : M Bool} {f : M PD} {d : PD} {ds : List PD}
@[simp] theorem wp_for_nil {Q : Fl → Rho → Prop} : Wp (forGo t ks ok body []) ρ Q E = (ok ρ ∧ Q .nx ρ) := by
  unfold Wp forGo
  by_cases h : ok ρ <;> simp [h]
@[simp] theorem wp_for_cons {Q : Fl → Rho → Prop} : Wp (forGo t ks ok body (d :: ds)) ρ Q E = (ok ρ ∧ Ho (bindT t d ρ.sl) fun sl => Wp body { ρ with sl := sl } (turnQ ks (fun ρ' => Wp (forGo t ks ok body ds) ρ' Q E) Q) E) := by
  unfold Wp
  rw [forGo]
  by_cases h : ok ρ
  · rw [if_pos h]
    simp only [h, true_and]
    cases hb : bindT t d ρ.sl with
    | none => rfl
    | some sl =>
      simp only [ho_some]
      cases body { ρ with sl := sl } with
      | ok fl ρ' => cases fl <;> rfl
      | _ => rfl
  · rw [if_neg h]
    simp [h]
@[simp] theorem wp_comp_nil {Q : List PD → Rho → Prop} : Wp (compGo t vs ok tt f []) ρ Q E = (ok ρ ∧ Q [] ρ) := by
  unfold Wp compGo
  by_cases h : ok ρ <;> simp [h]
@[simp] theorem wp_comp_cons {Q : List PD → Rho → Prop} : Wp (compGo t vs ok tt f (d :: ds)) ρ Q (fun _ _ => False) = (ok ρ ∧ Ho (bindT t d ρ.sl) fun sl => Wp tt { ρ with sl := sl } (fun b ρ1 =>
    if b = true then Wp f ρ1 (fun y ρ2 => Wp (compGo t vs ok tt f ds) (killS vs ρ2) (fun ys ρ3 => Q (y :: ys) ρ3) (fun _ _ => False)) (fun _ _ => False)
    else Wp (compGo t vs ok tt f ds) (killS vs ρ1) Q (fun _ _ => False)) (fun _ _ => False)) := by
  unfold Wp
  rw [compGo]
  by_cases h : ok ρ
  · rw [if_pos h]
    simp only [h, true_and]
    cases hb : bindT t d ρ.sl with
    | none => rfl
    | some sl =>
      simp only [ho_some]
      cases tt { ρ with sl := sl } with
      | ok b ρ1 =>
        cases b with
        | true =>
          dsimp only
          cases f ρ1 with
          | ok y ρ2 =>
            simp only [if_true]
            cases compGo t vs ok tt f ds (killS vs ρ2) <;> rfl
          | _ => rfl
        | false =>
          simp only [Bool.false_eq_true, if_false]
      | _ => rfl
  · rw [if_neg h]
    simp [h]
end
section
variable {ρ : Rho} {E : Xc → Rho → Prop} {t : Tg} {ks vs : List Nat} {ok : Rho → Prop} {tt : M Bool} {f : M PD}
/-- the i-th thing of each, all else as it was -/
theorem wp_compMap (h : PD → PD) : ∀ (ds : List PD) {Q : List PD → Rho → Prop}, ok ρ → (∀ d ∈ ds, Ho (bindT t d ρ.sl) fun sl => Wp f { ρ with sl := sl } (fun y ρ2 => y = h d ∧ killS vs ρ2 = ρ) (fun _ _ => False)) → Q (ds.map h) ρ →
    Wp (compGo t vs ok (mpure true) f ds) ρ Q (fun _ _ => False)
  | [], Q, hok, _, q => by simpa using ⟨hok, q⟩
  | d :: r, Q, hok, hs, q => by
    rw [wp_comp_cons]
    refine ⟨hok, ?_⟩
    have h1 := hs d List.mem_cons_self
    cases e : bindT t d ρ.sl with
    | none => rw [e] at h1; exact h1.elim
    | some sl =>
      rw [e] at h1
      simp only [ho_some, wp_pure, if_true] at h1 ⊢
      refine h1.mono (fun y ρ2 ⟨e1, e2⟩ => ?_) fun _ _ z => z
      rw [e2]
      exact wp_compMap (Q := fun ys ρ3 => _) h r hok (fun x hx => hs x (List.mem_cons_of_mem _ hx)) (by subst e1; exact q)
end
section
variable {ρ : Rho} {E : Xc → Rho → Prop} {t : Tg} {ks vs : List Nat} {ok : Rho → Prop} {body : M Fl}
end
section
variable {ρ : Rho} {E : Xc → Rho → Prop} {t : Tg} {ks vs : List Nat} {ok : Rho → Prop} {body : M Fl}
end
/-- fine data: no dict, no long text -/
def fine : Nat → PD → Bool
  | _, .none => true
  | _, .bool _ => true
  | _, .int _ => true
  | _, .str z => decide (z.length ≤ 1000) && PyData.strOk z
  | n + 1, .list xs => decide (xs.length ≤ 1000) && xs.all (fine n)
  | n + 1, .tuple xs => decide (xs.length ≤ 1000) && xs.all (fine n)
  | _, _ => false
/-- numbered from k on -/
def enF : Int → List PD → List PD
  | _, [] => []
  | k, d :: r => .tuple [.int k, d] :: enF (k + 1) r
theorem enumD_eq (ds : List PD) : enumD ds = enF 0 ds := by
  have main : ∀ (ds : List PD) (k : Nat), (List.range' k ds.length).zipWith (fun i d => PyData.tuple [.int (i : Nat), d]) ds = enF k ds := by
    intro ds
    induction ds with
    | nil => intro k; rfl
    | cons d r ih =>
      intro k
      rw [List.length_cons, List.range'_succ, List.zipWith_cons_cons, ih (k + 1)]
      rfl
  unfold enumD
  rw [List.range_eq_range']
  exact main ds 0
@[simp] theorem enF_len (k : Int) (ds : List PD) : (enF k ds).length = ds.length := by
  induction ds generalizing k with
  | nil => rfl
  | cons d r ih => simp [enF, ih]
/-! ### what the operations answer -/
@[simp] theorem bindT_nm (i : Nat) (d : PD) (sl : List Slot) : bindT (.nm i) d sl = some (sl.set i (.val d)) := by rw [bindT]
@[simp] theorem bindT_tup (ts : List Tg) (ds : List PD) (sl : List Slot) : bindT (.tup ts) (.tuple ds) sl = bindTs ts ds sl := by rw [bindT]
@[simp] theorem bindTs_nil (sl : List Slot) : bindTs [] [] sl = some sl := by rw [bindTs]
@[simp] theorem bindTs_cons (t : Tg) (ts : List Tg) (d : PD) (ds : List PD) (sl : List Slot) : bindTs (t :: ts) (d :: ds) sl = (bindT t d sl).bind fun sl' => bindTs ts ds sl' := by
  rw [bindTs]
  cases bindT t d sl <;> rfl
@[simp] theorem atI_nat {α : Type} (xs : List α) (n : Nat) : atI xs (n : Int) = xs[n]? := by
  unfold atI ixN
  by_cases h : n < xs.length
  · simp [h]
  · have : xs[n]? = none := List.getElem?_eq_none (Nat.le_of_not_lt h)
    simp [h, this]
theorem atI_of {α : Type} {xs : List α} {i : Int} {n : Nat} (h : i = n) : atI xs i = xs[n]? := by rw [h, atI_nat]
@[simp] theorem atI_0 {α : Type} (xs : List α) : atI xs 0 = xs[0]? := atI_of rfl
@[simp] theorem atI_1 {α : Type} (xs : List α) : atI xs 1 = xs[1]? := atI_of rfl
@[simp] theorem atI_2 {α : Type} (xs : List α) : atI xs 2 = xs[2]? := atI_of rfl
@[simp] theorem atI_3 {α : Type} (xs : List α) : atI xs 3 = xs[3]? := atI_of rfl
@[simp] theorem atI_4 {α : Type} (xs : List α) : atI xs 4 = xs[4]? := atI_of rfl
@[simp] theorem atI_m1 {α : Type} (xs : List α) : atI xs (-1) = xs.getLast? := by
  unfold atI ixN
  rw [if_neg (by decide), List.getLast?_eq_getElem?]
  by_cases h : xs.length = 0
  · have : xs = [] := List.length_eq_zero_iff.mp h
    subst this
    rfl
  · rw [if_pos (by omega)]
    show xs[((-1 : Int) + xs.length).toNat]? = _
    congr 1
    omega
@[simp] theorem ixN_nat {n m : Nat} (h : m < n) : ixN n (m : Int) = some m := by
  unfold ixN
  simp [h]
@[simp] theorem ixN_0 {n : Nat} (h : 0 < n) : ixN n 0 = some 0 := ixN_nat h
@[simp] theorem ixN_1 {n : Nat} (h : 1 < n) : ixN n 1 = some 1 := ixN_nat h
@[simp] theorem ixN_2 {n : Nat} (h : 2 < n) : ixN n 2 = some 2 := ixN_nat h
@[simp] theorem pGet_t (ds : List PD) (i : Int) : pGet (.tuple ds) (.int i) = atI ds i := rfl
@[simp] theorem pGet_l (ds : List PD) (i : Int) : pGet (.list ds) (.int i) = atI ds i := rfl
@[simp] theorem pLt_ii (i j : Int) : pLt (.int i) (.int j) = some (.bool (decide (i < j))) := rfl
@[simp] theorem pGe_ii (i j : Int) : pGe (.int i) (.int j) = some (.bool (decide (j ≤ i))) := rfl
@[simp] theorem pGt_ii (i j : Int) : pGt (.int i) (.int j) = some (.bool (decide (j < i))) := rfl
@[simp] theorem pAdd_ii (i j : Int) : pAdd (.int i) (.int j) = some (.int (i + j)) := rfl
theorem pMul_r (i j : Int) (h : -(2 ^ 64) < j ∧ j < 2 ^ 64) : pMul (.int i) (.int j) = some (.int (i * j)) := if_pos (.inr h)
theorem pMul_l (i j : Int) (h : -(2 ^ 64) < i ∧ i < 2 ^ 64) : pMul (.int i) (.int j) = some (.int (i * j)) := if_pos (.inl h)
theorem pMod_ii (i j : Int) (h : 0 < j) : pMod (.int i) (.int j) = some (.int (i % j)) := if_pos h
theorem pFdiv_ii (i j : Int) (h : 0 < j) (h2 : j < 2 ^ 64) : pFdiv (.int i) (.int j) = some (.int (i / j)) := if_pos ⟨h, by
  have : j.natAbs < 2 ^ 64 := by omega
  have := (Nat.log2_lt (n := j.natAbs) (by omega)).mpr this
  omega⟩
@[simp] theorem gLen_l (ds : List PD) : gLen [.list ds] = some (.int ds.length) := rfl
@[simp] theorem gLen_t (ds : List PD) : gLen [.tuple ds] = some (.int ds.length) := rfl
@[simp] theorem gInt_i (i : Int) : gInt [.int i] = some (.int i) := rfl
@[simp] theorem gInt_b (b : Bool) : gInt [.bool b] = some (.int (if b then 1 else 0)) := rfl
@[simp] theorem gAbs_i (i : Int) : gAbs [.int i] = some (.int (if i < 0 then -i else i)) := rfl
@[simp] theorem tru_b (b : Bool) : tru (.bool b) = some b := rfl
@[simp] theorem tru_n : tru .none = some false := rfl
@[simp] theorem tru_i (i : Int) : tru (.int i) = some (i != 0) := rfl
@[simp] theorem tru_l (ds : List PD) : tru (.list ds) = some (!ds.isEmpty) := rfl
@[simp] theorem tru_t (ds : List PD) : tru (.tuple ds) = some (!ds.isEmpty) := rfl
@[simp] theorem seqOf_l (ds : List PD) : seqOf (.list ds) = some ds := rfl
@[simp] theorem seqOf_n : seqOf .none = none := rfl
@[simp] theorem seqOf_b (b : Bool) : seqOf (.bool b) = none := rfl
@[simp] theorem seqOf_i (i : Int) : seqOf (.int i) = none := rfl
@[simp] theorem seqOf_s (z : Str) : seqOf (.str z) = none := rfl
@[simp] theorem seqOf_t (ds : List PD) : seqOf (.tuple ds) = some ds := rfl
/-! ### may be compared -/
structure OkN (n : Nat) (d : PD) : Prop where
  pl : plainD d = true
  lay : d.canLay0 = true
  dp : d.depth ≤ n
theorem OkN.mono {n m : Nat} {d : PD} (h : OkN n d) (l : n ≤ m) : OkN m d := ⟨h.pl, h.lay, Nat.le_trans h.dp l⟩
theorem OkN.ok {n : Nat} {d : PD} (h : OkN n d) (l : n ≤ 64 := by decide) : okD d = true := by
  have := h.dp
  unfold okD SeqAt.shaped
  rw [h.pl, h.lay]
  simp; omega
theorem okN_int (n : Nat) (i : Int) : OkN n (.int i) := ⟨rfl, rfl, Nat.zero_le _⟩
theorem okN_str {n : Nat} {x : Str} (h : (PyData.str x).canLay0 = true) : OkN n (.str x) := ⟨rfl, h, Nat.zero_le _⟩
theorem pEq_ok {n m : Nat} {x y : PD} (h : OkN n x) (h' : OkN m y) (l : n ≤ 64 := by decide) (l' : m ≤ 64 := by decide) : pEq x y = some (.bool (PyData.eqv x y)) := if_pos ⟨h.ok l, h'.ok l'⟩
theorem pNe_ok {n m : Nat} {x y : PD} (h : OkN n x) (h' : OkN m y) (l : n ≤ 64 := by decide) (l' : m ≤ 64 := by decide) : pNe x y = some (.bool (!PyData.eqv x y)) := if_pos ⟨h.ok l, h'.ok l'⟩
@[simp] theorem pEq_ii (i j : Int) : pEq (.int i) (.int j) = some (.bool (decide (i = j))) := by
  rw [pEq_ok (okN_int 0 i) (okN_int 0 j)]
  simp [PyData.eqv, BEq.beq]
@[simp] theorem pNe_ii (i j : Int) : pNe (.int i) (.int j) = some (.bool (!decide (i = j))) := by
  rw [pNe_ok (okN_int 0 i) (okN_int 0 j)]
  simp [PyData.eqv, BEq.beq]
/-! ### may be shown -/
structure Sh (n L : Nat) (d : PD) : Prop where
  pl : plainD d = true
  sh : d.showable = true
  nod : d.hasDict = false
  dp : d.depth ≤ n
  len : d.shown.length ≤ L
theorem Sh.mono {n m L L' : Nat} {d : PD} (h : Sh n L d) (l : n ≤ m) (l' : L ≤ L') : Sh m L' d := ⟨h.pl, h.sh, h.nod, Nat.le_trans h.dp l, Nat.le_trans h.len l'⟩
theorem Sh.ok {n L : Nat} {d : PD} (h : Sh n L d) (l : n ≤ 100 := by decide) (l' : L ≤ sizeLine := by decide) : gRepr [d] = some (.str d.shown) := by
  have h1 := h.dp
  have h2 := h.len
  have e : showOk d = true := by
    unfold showOk
    rw [h.pl, h.sh, h.nod]
    simp; omega
  show (if showOk d = true then _ else _) = _
  rw [if_pos e]
end Den

set_option Elab.async false
set_option linter.all false
set_option maxRecDepth 100000
/-! DenHk: what is told of the heap behind the top: facts, defs, and tests of one's own. -/
namespace Den
open PySem PySem.Spec
open PyProof.Rows L2

/-- what is looked at: what hangs on the module's names, and the table of the statics -/
def eyes (n : Nat) (g : Addr → Option Obj) : PySem.W.Frag := He.frG g (He.asD g n ++ [cStatics])
/-- the __init__ of an own exception class, as it is seen -/
abbrev IniV : Type := Option (Str × Str × Arguments × FuncBody × Scope × List Str × Addr × Addr)
def iniW (K : PySem.W.Frag) (C : Addr) : IniV := match K.lookup (He.ma K C "__init__") with
  | some ⟨_, _, .func fd, _⟩ => some (fd.name, fd.qualname, fd.params, fd.body, fd.scope, fd.closure.map (·.1), fd.globals, fd.builtins)
  | _ => none
def iniVal (qual : Str) (params : Arguments) (body : List Stmt) (scope : Scope) : IniV := some ("__init__", qual, params, .stmts body, scope, ["__class__"], mainGlobals, builtinsNs)
/-- an own exception class: its name, its field, its __init__ -/
structure ExI where
  x : Str
  f : Str
  qual : Str
  params : Arguments
  body : List Stmt
  scope : Scope
def ExI.val (e : ExI) : IniV := iniVal e.qual e.params e.body e.scope
abbrev Seen : Type := He.AlD × (List IniV × Bool)
def seenK (fa : List He.Fa) (fn : List He.DefD) (ins : List ExI) (ex : PySem.W.Frag → Bool) (K : PySem.W.Frag) : Seen := (He.obsD fa fn K, ins.map (fun e => iniW K (He.ga K e.x)), ex K)
def seen (n : Nat) (fa : List He.Fa) (fn : List He.DefD) (ins : List ExI) (ex : PySem.W.Frag → Bool) (g : Addr → Option Obj) : Seen := seenK fa fn ins ex (eyes n g)
structure Says (fa : List He.Fa) (fn : List He.DefD) (ins : List ExI) (ex : PySem.W.Frag → Bool) (K : PySem.W.Frag) (h : PySem.Heap) : Prop where
  kin : K.In h
  facts : He.SaysD fa fn K
  inis : ins.map (fun e => iniW K (He.ga K e.x)) = ins.map ExI.val
  own : ex K = true
def hookO (n : Nat) (fa : List He.Fa) (fn : List He.DefD) (ins : List ExI) (ex : PySem.W.Frag → Bool) : PySem.W.Hook where
  α := Seen
  obs := fun s => seen n fa fn ins ex s.heap.get?
  val := fun _ => (He.valD fn, ins.map ExI.val, true)
  says := fun _ h => ∃ K, Says fa fn ins ex K h
  of := fun _ s e => ⟨eyes n s.heap.get?, He.frG_in, congrArg (fun z : Seen => z.1) e, congrArg (fun z : Seen => z.2.1) e, congrArg (fun z : Seen => z.2.2) e⟩
  keeps := fun _ _ _ ⟨K, S⟩ k => ⟨K, S.kin.keeps k, S.facts, S.inis, S.own⟩
theorem seen_eq {n : Nat} {fa : List He.Fa} {fn : List He.DefD} {ins : List ExI} {ex : PySem.W.Frag → Bool} {g : Addr → Option Obj} {s : Shared} (h : ∀ a, g a = s.heap.get? a) : seen n fa fn ins ex g = (hookO n fa fn ins ex).obs s := by
  rw [funext h]
  rfl
theorem Says.ini {fa : List He.Fa} {fn : List He.DefD} {ins : List ExI} {ex : PySem.W.Frag → Bool} {K : PySem.W.Frag} {h : PySem.Heap} (S : Says fa fn ins ex K h) (i : Nat) {e : ExI} (he : ins[i]? = some e := by rfl) : iniW K (He.ga K e.x) = e.val := by
  have q : (ins.map (fun e => iniW K (He.ga K e.x)))[i]? = (ins.map ExI.val)[i]? := by rw [S.inis]
  rw [List.getElem?_map, List.getElem?_map, he] at q
  exact Option.some.inj q
/-! ### tests of one's own -/
def clsB (K : PySem.W.Frag) (C : Addr) : Bool := PySem.W.excInitIn K C exBase "Exception.__new__" && (PySem.W.excOver K C exBase && (PySem.W.hasDictIn K C && (He.eqO (PySem.W.findIn K (.ref C) "__setattr__") (some (some (.builtin "object.__setattr__"))) &&
  (decide (PySem.W.subIn K (.ref C) (.type "BaseException") = some true) && (decide (PySem.W.subIn K (.ref C) (.type "Exception") = some true) && (decide (PySem.W.typeIn K (.ref C) = some (.type "type")) && PySem.W.keepIn K (.ref C)))))))
theorem clsB_ok {K : PySem.W.Frag} {C : Addr} (h : clsB K C = true) : ClsX K C := by
  unfold clsB at h
  simp only [Bool.and_eq_true, decide_eq_true_eq] at h
  obtain ⟨h1, h2, h3, h4, h5, h6, h7, h8⟩ := h
  refine ⟨h1, h2, h3, He.eqO_ok h4, fun T hT => ?_, h7, h8⟩
  rcases List.mem_cons.mp hT with rfl | hT
  · exact h5
  · rw [List.mem_singleton] at hT
    subst hT
    exact h6
def cellB (K : PySem.W.Frag) (C : Addr) (cl : List (Str × Addr)) : Bool := match cl with
  | [(_, cc)] => (match K.lookup cc with
    | some ⟨_, _, .cell (some (.ref D)), _⟩ => D == C
    | _ => false)
  | _ => false
def codeB (P : Program) (K : PySem.W.Frag) (qual : Str) : Value → Bool
  | .ref c => PySem.W.codeIn K (.ref c) qual && (match K.lookup c with
    | some ⟨_, _, .fields vs, _⟩ => (match (vs[2]? : Option Value) with
      | some (.str file _) => P.main.file == file
      | _ => false)
    | _ => false)
  | _ => false
def fnB (P : Program) (K : PySem.W.Frag) (C : Addr) (qual : Str) : Bool := match K.lookup (He.ma K C "__init__") with
  | some ⟨_, _, .func fd, _⟩ => (match fd.defaults with
    | .none => true
    | _ => false) && (cellB K C fd.closure && codeB P K qual fd.code)
  | _ => false
def iniB (P : Program) (K : PySem.W.Frag) (C : Addr) (qual : Str) : Bool := fnB P K C qual && (He.eqO (PySem.W.findIn K (.ref C) "__init__") (some (some (.ref (He.ma K C "__init__")))) && (decide (PySem.W.typeIn K (.ref (He.ma K C "__init__")) = some (.type "function")) &&
  (He.eqO (PySem.W.nsIn K cStatics "thirdparty.any") (some none) && (He.eqO (PySem.W.ks_superIn K C C "__init__") (some (some (.builtin "Exception.__init__"))) && (decide (PySem.W.mroIn K C (.ref C) = some true) && !(P.main.scope.names.lookup ("super" : Str)).isSome)))))
theorem iniB_ok {P : Program} {K : PySem.W.Frag} {C : Addr} {qual : Str} {params : Arguments} {body : List Stmt} {scope : Scope} (h : iniB P K C qual = true) (v : iniW K C = iniVal qual params body scope) :
    ∃ cc cda, IniX P K C (He.ma K C "__init__") cc cda qual params body scope := by
  unfold iniB at h
  simp only [Bool.and_eq_true, decide_eq_true_eq, Bool.not_eq_true'] at h
  obtain ⟨h1, h2, h3, h4, h5, h6, h7⟩ := h
  unfold fnB at h1
  unfold iniW at v
  split at h1
  case h_2 => cases h1
  rename_i oc od fd osl look
  rw [look] at v
  simp only [Bool.and_eq_true] at h1
  obtain ⟨d1, d2, d3⟩ := h1
  obtain ⟨nm, qn, pr, bd, sc, gl, cl, dfl, kd, doc, pm, an, code, ct, bl⟩ := fd
  dsimp only at v d1 d2 d3
  unfold iniVal at v
  simp only [Option.some.injEq, Prod.mk.injEq] at v
  obtain ⟨rfl, rfl, rfl, rfl, rfl, e, rfl, rfl⟩ := v
  unfold cellB at d2
  split at d2
  case h_2 => cases d2
  rename_i nme cc
  split at d2
  case h_2 => cases d2
  rename_i c2 dd2 D s2 lcell
  obtain rfl : D = C := eq_of_beq d2
  unfold codeB at d3
  split at d3
  case h_2 => cases d3
  rename_i cda
  rw [Bool.and_eq_true] at d3
  obtain ⟨k1, k2⟩ := d3
  split at k2
  case h_2 => cases k2
  rename_i c1 dd1 vs s1 lcode
  split at k2
  case h_2 => cases k2
  rename_i file tf hv
  split at d1
  case h_2 => cases d1
  have en : nme = "__class__" := by simpa using e
  subst en
  exact ⟨cc, cda, ⟨⟨oc, od, osl, kd, doc, pm, an, ct, look⟩, He.eqO_ok h2, h3, k1, ⟨c1, dd1, vs, s1, file, tf, lcode, hv, k2⟩, ⟨c2, dd2, s2, lcell⟩, He.eqO_ok h4, He.eqO_ok h5, h6, h7⟩⟩
/-! ### an own exception class, all told -/
def ExI.ok (P : Program) (K : PySem.W.Frag) (e : ExI) : Bool := clsB K (He.ga K e.x) && (iniB P K (He.ga K e.x) e.qual && L2.xfB K (He.ga K e.x))
theorem ExI.calX {P : Program} {K : PySem.W.Frag} {mg : Str → Option Value} {e : ExI} {a sf : Str} (ok : e.ok P K = true) (v : iniW K (He.ga K e.x) = e.val) (gl : mg e.x = some (.ref (He.ga K e.x))) (sup : mg "super" = none)
    (no : PySem.W.findIn K (.ref (He.ga K e.x)) e.f = some none) (T : TxtX e.qual e.params e.body e.scope e.f a sf) : CalX P K mg (He.ga K e.x) e.x e.f := by
  unfold ExI.ok at ok
  simp only [Bool.and_eq_true] at ok
  obtain ⟨c1, c2, _⟩ := ok
  obtain ⟨cc, cda, Y⟩ := iniB_ok c2 v
  exact ⟨gl, sup, clsB_ok c1, ⟨_, cc, cda, _, _, _, _, a, sf, Y, T⟩, no⟩
theorem ExI.xfc {P : Program} {K : PySem.W.Frag} {e : ExI} (ok : e.ok P K = true) : L2.XfC K (He.ga K e.x) := by
  unfold ExI.ok at ok
  simp only [Bool.and_eq_true] at ok
  exact L2.xfB_ok ok.2.2
/-- classes by name: the module's own names -/
def kcOf (ns : List Str) (K : PySem.W.Frag) : Kc := ⟨K, fun n => if n ∈ ns then some (He.ga K n) else none, fun a => ∃ c, PySem.W.tabIn K "law" = some (c, a)⟩
theorem kcOf_kl {ns : List Str} {K : PySem.W.Frag} {n : Str} (h : n ∈ ns) : (kcOf ns K).kl n = some (He.ga K n) := if_pos h
theorem kcOf_eq {ns : List Str} {K : PySem.W.Frag} {n : Str} {C : Addr} (h : (kcOf ns K).kl n = some C) : C = He.ga K n := by
  unfold kcOf at h
  dsimp only at h
  split at h
  · exact (Option.some.inj h).symm
  · cases h
/-- the law's call, as the row's end asks for it -/
theorem walk_den {l : PySem.W.OpenLaw} {n : Nat} {q : Program} {loose : List Str} {XP : (Str → Option Value) → PySem.Heap → Prop} {YP : World → PySem.Heap → Prop} {d : PySem.DefRec} (hn : l.most = some n) (hn2 : n ≤ sizeLine) (hdf : d.params.defaults = [])
    (F : ∀ (w : World) (mg : Str → Option Value) (s : Shared) (fa a : Addr) (vs : List Value) (ns : List Int), YP w s.heap → s.heap.Ns mainGlobals mg → mg d.name = some (.ref fa) → (∀ K : PySem.W.Frag, K.In s.heap → Entry K mg s a vs ns) →
      ns.length ≤ n → (∀ k ∈ ns, Builtin.Int.intBits k ≤ 1048576) →
      codeAny (model l.prog w) callerA (.call (.ref fa) ⟨[.ref a], []⟩) (fun r s' => r = .ok (.ret (.bool true)) ∧ OldK s.heap s'.heap ∧ s'.os = s.os ∧ AllBare s'.gens) s) :
    PySem.W.WalkO q loose XP YP l.row.toRowW d [] (fun f vs => PySem.call f vs) :=
  Att.attach_callB hn hdf fun w s₀ s₁ mg mb fa o pm cd doc a vs ns G Y ho hd hcd hmg hobj hints hlen hbits hg =>
    F w mg s₁ fa a vs ns Y G.T.g hmg (fun K KX => ⟨KX, G.T.g, ⟨mb, G.T.b, G.T.builtins⟩, G.T.nolimit, hg, hobj, hints, Nat.le_trans hlen hn2⟩) hlen hbits
end Den

set_option Elab.async false
set_option linter.all false
set_option maxRecDepth 100000
/-! DenAA: two targets of one value. -/
namespace Den
open PySem PySem.Spec
open PyProof.Rows L2
end Den

set_option Elab.async false
set_option linter.all false
set_option maxRecDepth 100000
/-! DenAB: dicts with numbers and texts as keys; list(range(..)). -/
namespace Den
open PySem PySem.Spec
open PyProof.Rows L2

def unK : List (PD × PD) → Option (List (Key × PD))
  | [] => some []
  | (f, d) :: r => (keyD f).bind fun k => (unK r).map fun ps => (k, d) :: ps
def enK (ps : List (Key × PD)) : List (PD × PD) := ps.map fun q => (kD q.1, q.2)
theorem keyD_kD (f : Key) : keyD (kD f) = some f := by cases f <;> rfl
@[simp] theorem unK_enK : ∀ ps : List (Key × PD), unK (enK ps) = some ps
  | [] => rfl
  | (f, d) :: r => by
    show (keyD (kD f)).bind _ = _
    rw [keyD_kD, Option.bind_some]
    show (unK (enK r)).map _ = _
    rw [unK_enK r]
    rfl
inductive RpP (k : Kc) (G : Hp) : List (Key × V) → List (Key × PD) → Prop
  | nil : RpP k G [] []
  | cons {f : Key} {v : V} {vs : List (Key × V)} {d : PD} {ds : List (Key × PD)} : Rp k G v d → RpP k G vs ds → RpP k G ((f, v) :: vs) ((f, d) :: ds)
def valP (k : Key) : List (Key × PD) → Option PD
  | [] => none
  | (f, d) :: r => if f = k then some d else valP k r
def putP (k : Key) (v : PD) (ps : List (Key × PD)) : List (Key × PD) := if (valP k ps).isSome = true then ps.map (fun q => if q.1 = k then (q.1, v) else q) else ps ++ [(k, v)]
def dropP (k : Key) (ps : List (Key × PD)) : List (Key × PD) := ps.filter fun q => decide (q.1 ≠ k)
section
variable {k : Kc} {G H : Hp} {v : V}
theorem RpP.ks : ∀ {es : List (Key × V)} {ps : List (Key × PD)}, RpP k G es ps → RpKs k G es (enK ps)
  | _, _, .nil => .nil
  | _, _, .cons h r => .cons h r.ks
theorem RpP.len : ∀ {es : List (Key × V)} {ps : List (Key × PD)}, RpP k G es ps → es.length = ps.length
  | _, _, .nil => rfl
  | _, _, .cons h r => by rw [List.length_cons, List.length_cons, r.len]
theorem RpP.keys : ∀ {es : List (Key × V)} {ps : List (Key × PD)}, RpP k G es ps → es.map (·.1) = ps.map (·.1)
  | _, _, .nil => rfl
  | _, _, .cons h r => by rw [List.map_cons, List.map_cons, r.keys]
theorem RpP.val (f : Key) : ∀ {es : List (Key × V)} {ps : List (Key × PD)}, RpP k G es ps → (valP f ps = none ∧ valV es f = none) ∨ ∃ d v, valP f ps = some d ∧ valV es f = some v ∧ Rp k G v d
  | _, _, .nil => .inl ⟨rfl, rfl⟩
  | _, _, .cons (f := f') (v := v) (d := d) h r => by
    by_cases e : f' = f
    · exact .inr ⟨d, v, by rw [valP, if_pos e], valV_pos e, h⟩
    · rw [valP, if_neg e, valV_neg e]
      exact r.val f
theorem RpP.snoc {f : Key} {d : PD} (h : Rp k G v d) : ∀ {es : List (Key × V)} {ps : List (Key × PD)}, RpP k G es ps → RpP k G (es ++ [(f, v)]) (ps ++ [(f, d)])
  | _, _, .nil => .cons h .nil
  | _, _, .cons h1 r => .cons h1 (r.snoc h)
theorem RpP.repl {f : Key} {d : PD} (h : Rp k G v d) : ∀ {es : List (Key × V)} {ps : List (Key × PD)}, RpP k G es ps → RpP k G (es.map fun q => if q.1 = f then (q.1, v) else q) (ps.map fun q => if q.1 = f then (q.1, d) else q)
  | _, _, .nil => .nil
  | _, _, .cons (f := f') h1 r => by
    rw [List.map_cons, List.map_cons]
    by_cases e : f' = f
    · rw [if_pos e, if_pos e]; exact .cons h (r.repl h)
    · rw [if_neg e, if_neg e]; exact .cons h1 (r.repl h)
theorem RpP.put {f : Key} {d : PD} (h : Rp k G v d) {es : List (Key × V)} {ps : List (Key × PD)} (r : RpP k G es ps) : RpP k G (putK es f v) (putP f d ps) := by
  unfold putK putP
  rw [valV_any]
  rcases r.val f with ⟨e1, e2⟩ | ⟨d', v', e1, e2, _⟩
  · rw [e1, e2, if_neg (by decide), if_neg (by decide)]
    exact r.snoc h
  · rw [e1, e2]
    simp only [Option.isSome_some, if_true]
    exact r.repl h
theorem RpP.drop (f : Key) : ∀ {es : List (Key × V)} {ps : List (Key × PD)}, RpP k G es ps → RpP k G (dropK es f) (dropP f ps)
  | _, _, .nil => .nil
  | _, _, .cons (f := f') h1 r => by
    have ih := r.drop f
    unfold dropK dropP at ih ⊢
    rw [List.filter_cons, List.filter_cons]
    by_cases e : f' = f
    · simpa [e] using ih
    · simp only [e, ne_eq, not_false_eq_true, decide_true, if_true]
      exact .cons h1 (by simpa using ih)
end
/-! ### a part that reads alone -/
def mLook {α : Type} (o : Rho → Option α) : M α := fun ρ => match o ρ with
  | some a => .ok a ρ
  | none => .bad
section
variable {α β γ : Type} {c : Cc} {ioA : List Addr} {W : WX} {VR : α → β → St → Hp → Pcs → Prop} {ρ : Rho} {P : Pcs} {σ : St} {H : Hp} {D : Ends}
theorem tMat.look {o : Rho → Option γ} {f : γ → M α} {Q : β → Hp → Prop} (h : tMat c ioA W VR (mbind (mLook o) f) ρ P σ Q) : ∃ a, o ρ = some a ∧ tMat c ioA W VR (f a) ρ P σ Q := by
  unfold tMat mbind mLook at h
  cases e : o ρ with
  | none => rw [e] at h; exact h.elim
  | some a => rw [e] at h; exact ⟨a, rfl, h⟩
theorem tSat.look {o : Rho → Option γ} {f : γ → M Fl} (h : tSat c ioA W (mbind (mLook o) f) ρ P D) : ∃ a, o ρ = some a ∧ tSat c ioA W (f a) ρ P D := by
  unfold tSat mbind mLook at h
  cases e : o ρ with
  | none => rw [e] at h; exact h.elim
  | some a => rw [e] at h; exact ⟨a, rfl, h⟩
end
theorem keyD_rp {k : Kc} {G : Hp} {v : V} {d : PD} {f : Key} (e : keyD d = some f) (h : Rp k G v d) : v = kV f := by
  cases d with
  | int i => cases e; cases h; rfl
  | str x => cases e; cases h; rfl
  | _ => cases e
section
variable {X : Cx} {c : Cc} {W : WX} {o e e2 : Expr} {fo : M Pk} {fk fx : M PD} {apos cpos pos : Pos}
end
/-! ### new dicts -/
section
variable {X : Cx} {c : Cc} {W : WX} {e : Expr} {x : Str} {as : M (List Pk)} {fd : M (List (PD × PD))} {pos pos' p : Pos}
end
/-! ### an own dict, written -/
def getD (i : Nat) (ρ : Rho) : Option (List (Key × PD)) := match getM i ρ with
  | some (.dic kvs) => unK kvs
  | _ => none
section
variable {X : Cx} {c : Cc} {W : WX} {e ie e1 e2 : Expr} {pos pos' p tp apos cpos : Pos} {x : Str} {fi fv fk fx : M PD}
end
/-! ### sorted(d), list(range(n)) -/
end Den

set_option Elab.async false
set_option linter.all false
set_option maxRecDepth 100000
/-! DenPn: what the dict pieces do, asked piece by piece. -/
namespace Den
open PySem PySem.Spec
open PyProof.Rows L2

section
variable {ρ : Rho} {E : Xc → Rho → Prop}
@[simp] theorem wp_mLook {α : Type} {o : Rho → Option α} {Q : α → Rho → Prop} : Wp (mLook o) ρ Q E = Ho (o ρ) fun a => Q a ρ := by
  unfold Wp mLook
  cases o ρ <;> rfl
end
/-! ### dicts from small numbers to small numbers -/
@[simp] theorem unK_nil : unK [] = some [] := rfl
end Den

set_option Elab.async false
set_option linter.all false
set_option maxRecDepth 100000
/-! DenAC: lists of new lists. -/
namespace Den
open PySem PySem.Spec
open PyProof.Rows L2

section
variable {X : Cx} {c : Cc} {W : WX} {tg iter elt : Expr} {scope : Scope} {own : List (Str × Nat)} {pos pos' spos py lp : Pos} {fi : M (List PD × (Rho → Prop))}
end
/-! ### found[i].append(x) -/
theorem RpLL.len {k : Kc} {G : Hp} : ∀ {vss : List (List V)} {xss : List (List PD)}, RpLL k G vss xss → vss.length = xss.length
  | _, _, .nil => rfl
  | _, _, .cons _ r => by rw [List.length_cons, List.length_cons, r.len]
theorem RpLL.get {k : Kc} {G : Hp} : ∀ {vss : List (List V)} {xss : List (List PD)} {j : Nat} {xs : List PD}, RpLL k G vss xss → xss[j]? = some xs → ∃ vs, vss[j]? = some vs ∧ RpAll k G vs xs
  | _, _, 0, xs, .cons h _, e => by simp at e; subst e; exact ⟨_, rfl, h⟩
  | _, _, j + 1, xs, .cons _ r, e => by
    obtain ⟨vs, h1, h2⟩ := r.get (j := j) (by simpa using e)
    exact ⟨vs, by simpa using h1, h2⟩
  | _, _, _, _, .nil, e => by simp at e
theorem RpLL.set {k : Kc} {G : Hp} {ws : List V} {ys : List PD} (h0 : RpAll k G ws ys) : ∀ {vss : List (List V)} {xss : List (List PD)} (j : Nat), RpLL k G vss xss → RpLL k G (vss.set j ws) (xss.set j ys)
  | _, _, 0, .cons _ r => .cons h0 r
  | _, _, j + 1, .cons h r => .cons h (r.set h0 j)
  | _, _, _, .nil => .nil
section
variable {X : Cx} {c : Cc} {W : WX} {ie : Expr} {apos cpos p ip ep : Pos} {x y : Str} {fi : M PD}
end
end Den

set_option Elab.async false
set_option linter.all false
set_option maxRecDepth 100000
/-! DenAD: min of a list of data, sorted numbers, index, remove. -/
namespace Den
open PySem PySem.Spec
open PyProof.Rows L2
open PySem.W (AlikeAll minD dataLt min_list_data readsAll_at)

section
variable {k : Kc} {G H : Hp}
end
/-! ### sorted numbers -/
/-! ### l.index(k), l.remove(k) -/
section
variable {X : Cx} {c : Cc} {W : WX} {e : Expr} {apos cpos p : Pos} {x : Str} {fe : M PD}
end
end Den

set_option Elab.async false
set_option linter.all false
set_option maxRecDepth 100000
/-! DenAE: tuple(range(n)); what the pieces of DenAC, DenAD do. -/
namespace Den
open PySem PySem.Spec
open PyProof.Rows L2
open PySem.W (AlikeAll minD dataLt)

section
variable {X : Cx} {e : Expr} {te : St → Hp → (Int → Int → Hp → Prop) → Prop} {p pos : Pos}
end
/-! ### what they do -/
section
variable {ρ : Rho} {E : Xc → Rho → Prop}
end
end Den

set_option Elab.async false
set_option linter.all false
set_option maxRecDepth 100000
/-! DenAF: x[i] += e for a list of numbers, sorted lists of data. -/
namespace Den
open PySem PySem.Spec
open PyProof.Rows L2
open PySem.W (AllAlike Sortable dataLe dataLt EachIs keyToks)

/-! ### x[i] += e -/
section
variable {X : Cx} {c : Cc} {W : WX} {e ie : Expr} {pos p tp : Pos} {x : Str} {fi fe : M PD}
end
/-! ### a, b = a list -/
def seqL : PD → Option (List PD)
  | .list ds => some ds
  | _ => none
/-! ### sorted, data -/
end Den

set_option Elab.async false
set_option linter.all false
set_option maxRecDepth 100000
/-! DenAG: dicts with nested tuples of numbers as keys: in, d[k] = v, d[k], d.get(k, x), sorted(d), {k: v}. -/
namespace Den
open PySem PySem.Spec
open PyProof.Rows L2

/-! ### keys -/
mutual
theorem nk_reads {h : PySem.Heap} : ∀ (d : PD) (n : NestedKey) (u : Value) (as : List Addr), nkOf d = some n → Reads h u d as → NestedIs h n u
  | .int i, n, u, as, e, r => by
    cases e
    cases r
    exact .int _ _
  | .none, n, u, as, e, r => by
    cases e
    cases r
    exact .none
  | .tuple ds, n, u, as, e, r => by
    obtain ⟨ks, hk, rfl⟩ := Option.map_eq_some_iff.mp e
    cases r with
    | tuple h1 h2 h3 h4 => exact .tup h1 h2 h3 (nks_reads ds ks _ _ hk h4)
  | .bool _, n, u, as, e, r => by cases e
  | .str _, n, u, as, e, r => by cases e
  | .list _, n, u, as, e, r => by cases e
  | .dict _, n, u, as, e, r => by cases e
theorem nks_reads {h : PySem.Heap} : ∀ (ds : List PD) (ks : List NestedKey) (us : List Value) (as : List Addr), nksOf ds = some ks → ReadsAll h us ds as → NestedAll h ks us
  | [], ks, us, as, e, r => by
    cases e
    cases r
    exact .nil
  | d :: ds, ks, us, as, e, r => by
    obtain ⟨k, hk, e2⟩ := Option.bind_eq_some_iff.mp e
    obtain ⟨ks', hks, rfl⟩ := Option.map_eq_some_iff.mp e2
    cases r with
    | cons r1 r2 => exact .cons (nk_reads d k _ _ hk r1) (nks_reads ds ks' _ _ hks r2)
end
mutual
theorem nk_hash : ∀ (d : PD) (n : NestedKey), nkOf d = some n → ∀ w w' : World, n.hash w = n.hash w'
  | .int i, n, e, w, w' => by cases e; rfl
  | .none, n, e, w, w' => by cases e; rfl
  | .tuple ds, n, e, w, w' => by
    obtain ⟨ks, hk, rfl⟩ := Option.map_eq_some_iff.mp e
    rw [NestedKey.hash, NestedKey.hash, nks_hash ds ks hk w w']
  | .bool _, n, e, _, _ => by cases e
  | .str _, n, e, _, _ => by cases e
  | .list _, n, e, _, _ => by cases e
  | .dict _, n, e, _, _ => by cases e
theorem nks_hash : ∀ (ds : List PD) (ks : List NestedKey), nksOf ds = some ks → ∀ w w' : World, NestedKey.hashes w ks = NestedKey.hashes w' ks
  | [], ks, e, w, w' => by cases e; rfl
  | d :: ds, ks, e, w, w' => by
    obtain ⟨k, hk, e2⟩ := Option.bind_eq_some_iff.mp e
    obtain ⟨ks', hks, rfl⟩ := Option.map_eq_some_iff.mp e2
    rw [NestedKey.hashes, NestedKey.hashes, nk_hash d k hk w w', nks_hash ds ks' hks w w']
end
mutual
theorem nk_plain : ∀ (d : PD) (n : NestedKey), nkOf d = some n → plainD d = true
  | .int i, n, e => rfl
  | .none, n, e => rfl
  | .tuple ds, n, e => by
    obtain ⟨ks, hk, rfl⟩ := Option.map_eq_some_iff.mp e
    rw [plainD, nks_plain ds ks hk]
  | .bool _, n, e => by cases e
  | .str _, n, e => by cases e
  | .list _, n, e => by cases e
  | .dict _, n, e => by cases e
theorem nks_plain : ∀ (ds : List PD) (ks : List NestedKey), nksOf ds = some ks → plainDs ds = true
  | [], ks, e => rfl
  | d :: ds, ks, e => by
    obtain ⟨k, hk, e2⟩ := Option.bind_eq_some_iff.mp e
    obtain ⟨ks', hks, rfl⟩ := Option.map_eq_some_iff.mp e2
    rw [plainDs, nk_plain d k hk, nks_plain ds ks' hks]
    rfl
end
/-- at b stands the key n, wherever H is true; its hash is the same in each world -/
structure NkIs (X : Cx) (H : Hp) (b : Addr) (n : NestedKey) : Prop where
  is : ∀ (pins : List (Addr × Obj)) (σ : St) (s : Shared), Inv X pins σ H s → (nestedKind X.prog X.w).is s.heap n b
  hash : ∀ w w' : World, n.hash w = n.hash w'
theorem nk_is {X : Cx} {H : Hp} {b : Addr} {d : PD} {n : NestedKey} (h : Dp X.K H (.ref b) d) (e : nkOf d = some n) (hd : n.depth ≤ 8) : NkIs X H b n where
  is := fun pins σ s I => by
    obtain ⟨as, r⟩ := Dp.reads I d (.ref b) (.ref b) h rfl
    exact ⟨nk_reads d n _ _ e r, hd⟩
  hash := nk_hash d n e
/-! ### the dict's object -/
abbrev NEnt : Type := NestedKey × Addr × V
def valE (xs : List NEnt) (n : NestedKey) : Option V := (xs.find? fun x => decide (x.1 = n)).map (·.2.2)
def putE (xs : List NEnt) (n : NestedKey) (b : Addr) (v : V) : List NEnt := if (xs.any fun x => decide (x.1 = n)) = true then xs.map fun x => if x.1 = n then (x.1, x.2.1, v) else x else xs ++ [(n, b, v)]
abbrev NRel : List NEnt → List (NestedKey × Addr × Value) → Prop := Paired fun x y => x.1 = y.1 ∧ x.2.1 = y.2.1 ∧ RelV x.2.2 y.2.2
section
variable {X : Cx} {pins : List (Addr × Obj)} {σ : St} {H : Hp} {s : Shared} {a b : Addr} {n : NestedKey} {v : V} {xs : List NEnt} {ys : List (NestedKey × Addr × Value)}
theorem NRel.length (r : NRel xs ys) : xs.length = ys.length := Paired.length r
theorem NRel.val (r : NRel xs ys) (n : NestedKey) : RelO (valE xs n) ((atKey ys n).map (·.2)) := by
  induction r with
  | nil => exact True.intro
  | @cons p q ps qs h t ih =>
    obtain ⟨h1, _, h3⟩ := h
    by_cases e : p.1 = n
    · have e' : q.1 = n := h1.symm.trans e
      have c1 : valE (p :: ps) n = some p.2.2 := by simp [valE, List.find?_cons, e]
      have c2 : atKey (q :: qs) n = some q.2 := by simp [atKey, List.find?_cons, e']
      rw [c1, c2]
      exact h3
    · have e' : ¬ q.1 = n := fun z => e (h1.trans z)
      have c1 : valE (p :: ps) n = valE ps n := by simp [valE, List.find?_cons, e]
      have c2 : atKey (q :: qs) n = atKey qs n := by simp [atKey, List.find?_cons, e']
      rw [c1, c2]
      exact ih
theorem valE_any (xs : List NEnt) (n : NestedKey) : (xs.any fun x => decide (x.1 = n)) = (valE xs n).isSome := by
  induction xs with
  | nil => rfl
  | cons x r ih =>
    by_cases e : x.1 = n
    · simp [valE, List.find?_cons, e]
    · simp [valE, List.find?_cons, e] at ih ⊢
      exact ih
theorem NRel.put {u : Value} (r : NRel xs ys) (rv : RelV v u) : NRel (putE xs n b v) (storedH ys n b u) := by
  have e : (xs.any fun x => decide (x.1 = n)) = (atKey ys n).isSome := by
    rw [valE_any, (r.val n).isSome_eq, Option.isSome_map]
  unfold putE storedH
  rw [e]
  by_cases q : (atKey ys n).isSome = true
  · rw [if_pos q, if_pos q]
    clear e q
    induction r with
    | nil => exact .nil
    | @cons p q ps qs h t ih =>
      rw [List.map_cons, List.map_cons]
      refine .cons ?_ ih
      unfold putAt
      obtain ⟨h1, h2, h3⟩ := h
      by_cases e : p.1 = n
      · rw [if_pos e, if_pos (h1.symm.trans e)]
        exact ⟨h1, h2, rv⟩
      · rw [if_neg e, if_neg (fun z => e (h1.trans z))]
        exact ⟨h1, h2, h3⟩
  · rw [if_neg q, if_neg q]
    exact Paired.snoc r ⟨rfl, rfl, rv⟩
/-- all keys stand where they are told -/
abbrev NAll (X : Cx) (H : Hp) (xs : List NEnt) : Prop := ∀ x ∈ xs, NkIs X H x.2.1 x.1
theorem NRel.keys (r : NRel xs ys) : ∀ y ∈ ys, ∃ x ∈ xs, x.1 = y.1 ∧ x.2.1 = y.2.1 := by
  induction r with
  | nil => intro y hy; cases hy
  | @cons p q ps qs h t ih =>
    intro y hy
    rcases List.mem_cons.mp hy with e | e
    · rw [e]; exact ⟨p, List.mem_cons_self, h.1, h.2.1⟩
    · obtain ⟨x, hx, k⟩ := ih y e
      exact ⟨x, List.mem_cons_of_mem _ hx, k⟩
end
/-! ### in, not in -/
section
variable {X : Cx}
/-! ### d[k] = v -/
end
end Den

set_option Elab.async false
set_option linter.all false
set_option maxRecDepth 100000
/-! DenAH: sorted(d), {k: v}, d[k], d.get(k, x), keys nested tuples of numbers. -/
namespace Den
open PySem PySem.Spec
open PyProof.Rows L2
open PySem.W (AllAlike Sortable dataLe dataLt EachIs keyToks)

section
open PySem.W (SortsAt dataKind dataKind_inv dataKind_some kat_lt katLex_alike)
end
section
open PySem.W (dataKind list_sort_vals list_sort_data sortVals_data sortVals_length each_keepBut)
end
/-- the keys, as values -/
def keysE (xs : List NEnt) : List V := xs.map fun x => .ref x.2.1
end Den

set_option Elab.async false
set_option linter.all false
set_option maxRecDepth 100000
/-! DenAI: dicts with nested tuples of numbers as keys, as own dicts of a def. -/
namespace Den
open PySem PySem.Spec
open PyProof.Rows L2
open PySem.W (AllAlike Sortable dataLe dataLt EachIs keyToks)

def keyN : PD → Option NestedKey
  | .tuple ds => (nkOf (.tuple ds)).bind fun n => if n.depth ≤ 8 then some n else none
  | _ => none
theorem keyN_of {d : PD} {n : NestedKey} (h : keyN d = some n) : nkOf d = some n ∧ n.depth ≤ 8 := by
  unfold keyN at h
  split at h
  · obtain ⟨m, e1, e2⟩ := Option.bind_eq_some_iff.mp h
    by_cases q : m.depth ≤ 8
    · rw [if_pos q] at e2; cases e2; exact ⟨e1, q⟩
    · rw [if_neg q] at e2; cases e2
  · cases h
def valQ (n : NestedKey) (kvs : List (PD × PD)) : Option PD := (kvs.find? fun x => decide (nkOf x.1 = some n)).map (·.2)
def hasQ (n : NestedKey) (kvs : List (PD × PD)) : Bool := kvs.any fun x => decide (nkOf x.1 = some n)
def putQ (n : NestedKey) (kd vd : PD) (kvs : List (PD × PD)) : List (PD × PD) := if hasQ n kvs = true then kvs.map fun x => if nkOf x.1 = some n then (x.1, vd) else x else kvs ++ [(kd, vd)]
section
variable {k : Kc} {X : Cx} {G H : Hp}
theorem KvN.length : ∀ {xs : List NEnt} {kvs : List (PD × PD)}, KvN k G xs kvs → xs.length = kvs.length
  | _, _, .nil => rfl
  | _, _, .cons _ _ _ _ r => by simp [KvN.length r]
theorem KvN.all (s : Same G H) (hK : k.K = X.K) : ∀ {xs : List NEnt} {kvs : List (PD × PD)}, KvN k G xs kvs → NAll X H xs
  | _, _, .nil => fun x hx => by cases hx
  | _, _, .cons h1 h0 h2 h3 r => fun x hx => by
    rcases List.mem_cons.mp hx with e | e
    · rw [e]; exact nk_is (hK ▸ Rp.dp s h2 (nk_plain _ _ h1)) h1 h0
    · exact KvN.all s hK r x e
theorem KvN.val (n : NestedKey) : ∀ {xs : List NEnt} {kvs : List (PD × PD)}, KvN k G xs kvs → (valQ n kvs = none ∧ valE xs n = none) ∨ ∃ d w, valQ n kvs = some d ∧ valE xs n = some w ∧ Rp k G w d
  | _, _, .nil => .inl ⟨rfl, rfl⟩
  | _, _, .cons (n := m) h1 h0 h2 h3 r => by
    by_cases e : m = n
    · subst e
      exact .inr ⟨_, _, by simp [valQ, List.find?_cons, h1], by simp [valE, List.find?_cons], h3⟩
    · have ih := KvN.val n r
      simpa [valQ, valE, List.find?_cons, h1, e] using ih
theorem KvN.has (n : NestedKey) : ∀ {xs : List NEnt} {kvs : List (PD × PD)}, KvN k G xs kvs → (xs.any fun x => decide (x.1 = n)) = hasQ n kvs
  | _, _, .nil => rfl
  | _, _, .cons h1 h0 h2 h3 r => by
    have ih := KvN.has n r
    unfold hasQ at ih ⊢
    rw [List.any_cons, List.any_cons, ih, h1]
    simp
theorem KvN.setAll {n : NestedKey} {v : V} {vd : PD} (hv : Rp k G v vd) : ∀ {xs : List NEnt} {kvs : List (PD × PD)}, KvN k G xs kvs → KvN k G (xs.map fun x => if x.1 = n then (x.1, x.2.1, v) else x) (kvs.map fun x => if nkOf x.1 = some n then (x.1, vd) else x)
  | _, _, .nil => .nil
  | _, _, .cons (n := m) h1 h0 h2 h3 r => by
    rw [List.map_cons, List.map_cons]
    by_cases e : m = n
    · rw [if_pos e, if_pos (by rw [h1, e])]
      exact .cons h1 h0 h2 hv (KvN.setAll hv r)
    · rw [if_neg e, if_neg (by rw [h1]; exact fun z => e (Option.some.inj z))]
      exact .cons h1 h0 h2 h3 (KvN.setAll hv r)
theorem KvN.snoc {n : NestedKey} {b : Addr} {v : V} {kd vd : PD} (e1 : nkOf kd = some n) (e0 : n.depth ≤ 8) (e2 : Rp k G (.ref b) kd) (e3 : Rp k G v vd) : ∀ {xs : List NEnt} {kvs : List (PD × PD)}, KvN k G xs kvs → KvN k G (xs ++ [(n, b, v)]) (kvs ++ [(kd, vd)])
  | _, _, .nil => .cons e1 e0 e2 e3 .nil
  | _, _, .cons h1 h0 h2 h3 r => .cons h1 h0 h2 h3 (KvN.snoc e1 e0 e2 e3 r)
theorem KvN.put {n : NestedKey} {b : Addr} {v : V} {kd vd : PD} {xs : List NEnt} {kvs : List (PD × PD)} (r : KvN k G xs kvs) (e : keyN kd = some n) (hk : Rp k G (.ref b) kd) (hv : Rp k G v vd) : KvN k G (putE xs n b v) (putQ n kd vd kvs) := by
  unfold putE putQ
  rw [KvN.has n r]
  split
  · exact KvN.setAll hv r
  · exact KvN.snoc (keyN_of e).1 (keyN_of e).2 hk hv r
theorem KvN.keys : ∀ {xs : List NEnt} {kvs : List (PD × PD)}, KvN k G xs kvs → RpAll k G (keysE xs) (kvs.map (·.1))
  | _, _, .nil => .nil
  | _, _, .cons h1 h0 h2 h3 r => .cons h2 (KvN.keys r)
end
/-! ### a slot's -/
/-! ### in, not in -/
section
variable {X : Cx} {c : Cc} {W : WX} {e e2 ie : Expr} {pos p tp apos cpos : Pos} {x : Str} {fk fv fx : M PD}
/-! ### d[k] = v -/
/-! ### sorted(d) -/
/-! ### {k: v} -/
end
end Den

set_option Elab.async false
set_option linter.all false
set_option maxRecDepth 100000
/-! DenAJ: {k: v}, {}, d[k], d.get(k, x), a dict handed on: keys nested tuples of numbers. -/
namespace Den
open PySem PySem.Spec
open PyProof.Rows L2
open PySem.W (AllAlike Sortable dataLe dataLt EachIs keyToks)

section
variable {X : Cx} {k v o e f : Expr} {pos apos cpos : Pos} {tk tv td ty tx : TE}
end
/-! ### pieces -/
section
variable {c : Cc} {ioA : List Addr} {ρ : Rho} {σ : St} {H : Hp} {P : Pcs}
end
/-! ### new ones -/
section
variable {X : Cx} {c : Cc} {W : WX} {e e2 k v : Expr} {pos pos' p tp apos cpos : Pos} {x y : Str} {fk fv fx : M PD} {fm : M MC}
/-! ### d[k], d.get(k, x) -/
end
end Den

set_option Elab.async false
set_option linter.all false
set_option maxRecDepth 100000
/-! DenAK: range(a, b, -1); what the pieces of DenAI, DenAJ do. -/
namespace Den
open PySem PySem.Spec
open PyProof.Rows L2
open PySem.W (AllAlike Sortable dataLe dataLt EachIs keyToks)

section
variable {X : Cx} {c : Cc} {W : WX} {tg : Expr} {p pos : Pos}
end
/-! ### what they do -/
section
variable {ρ : Rho} {E : Xc → Rho → Prop}
end
end Den

set_option Elab.async false
set_option linter.all false
set_option maxRecDepth 100000
/-! DenAL: (x,) * n. -/
namespace Den
open PySem PySem.Spec
open PyProof.Rows L2

end Den

set_option Elab.async false
set_option linter.all false
set_option maxRecDepth 100000
set_option maxHeartbeats 1200000
/-! DenAM: f(lambda: e), where f tries what it gets and tells the field of what it caught. -/
namespace Den
open PySem PySem.Spec
open PyProof.Rows L2

/-! ### a lambda is made -/
section
variable {X : Cx} {s : Shared} {H : Hp} {σ : St} {pins : List (Addr × Obj)}
end
/-! ### the def that tries it -/
section
variable {X : Cx} {s : Shared} {H : Hp} {pins : List (Addr × Obj)} {σ : St} {f c' : Addr} {params : Arguments} {body : Expr} {scope : Scope}
end
section
variable {X : Cx} {s : Shared} {H : Hp}
end
end Den

set_option Elab.async false
set_option linter.all false
set_option maxRecDepth 100000
set_option maxHeartbeats 1200000
/-! DenAN: a law that makes lambdas: its table of code objects is handed in; what is told behind the top. -/
namespace Den
open PySem PySem.Spec
open PyProof.Rows L2

/-! ### a def with a known code object -/
section
variable {P : Program} {w : World} {K : PySem.W.Frag} {mg : Str → Option Value} {base : PySem.Heap} {kc : Kc} {k : Nat} {x qual : Str} {params : Arguments} {body : List Stmt} {scope : Scope} {f cd : Addr} {fd : FuncData} {N ps : List Str} {sp : Sp}
end

/-! ### the law's call -/
/-- the table as it stands ahead of the call -/
structure TabAt (K : PySem.W.Frag) (h : PySem.Heap) (cd T : Addr) : Prop where
  tab : PySem.W.tabIn K "law" = some (cd, T)
  hd : PySem.W.codeHdIn K cd T = true
  out : K.lookup T = none
  nil : h.get? T = some { cls := .none, data := .fields #[] }
section
variable {P : Program} {w : World} {K : PySem.W.Frag} {mg : Str → Option Value} {s : Shared} {a b cd T : Addr} {vs : List Value} {ns : List Int} {u : HO} {o : Obj}
theorem Entry.off (En : Entry K mg s a vs ns) (TA : TabAt K s.heap cd T) : a ≠ T := fun z => by
  have h1 := En.list
  rw [z, TA.nil] at h1
  cases h1
end
/-! ### behind the top -/
/-! ### the plain rule -/
section
variable {ρ : Rho} {E : Xc → Rho → Prop}
end
end Den

set_option Elab.async false
set_option linter.all false
set_option maxRecDepth 100000
set_option maxHeartbeats 1200000
/-! DenAO: try with several clauses, each with or without a name. -/
namespace Den
open PySem PySem.Spec
open PyProof.Rows L2

abbrev Cse : Type := Option Nat × Value × (Addr → Value → Option Addr → TS)
/-- what a clause hands on to what is behind it -/
def endN (D : Ends) : Option Nat → Ends
  | none => D
  | some i => { nx := fun σ' H' => D.nx (σ'.set i none) H', rt := D.rt, bk := fun σ' H' => D.bk (σ'.set i none) H', ct := fun σ' H' => D.ct (σ'.set i none) H' }
def inN (σ : St) (a : Addr) : Option Nat → St
  | none => σ
  | some i => σ.set i (some (.ref a))
def wCs (K : PySem.W.Frag) (Wout : WX) (D : Ends) : List Cse → WX
  | [] => Wout
  | (o, c, ts) :: r => fun cls d σ H => ∃ b, PySem.W.exmOne K cls c = some b ∧ (b = true → ∀ a, H a = none → ts a cls d (endN D o) (inN σ a o) H) ∧ (b = false → wCs K Wout D r cls d σ H)
inductive HdsC (X : Cx) : List ExceptHandler → List Cse → Prop
  | nil : HdsC X [] []
  | plain {x : Str} {c : Value} {ts : Addr → Value → Option Addr → TS} {b₀ : Stmt} {suite : List Stmt} {np pos' : Pos} {hds : List ExceptHandler} {l : List Cse} (hc : Names X x c)
      (hsu : ∀ (a : Addr) (oe : Obj) (cls : Value) (d : Option Addr) (pn : List (Addr × Obj)), Zc cls d oe → (∃ vs, oe.data = .fields vs) → PSs (X.suite a ((a, oe) :: pn)) (b₀ :: suite) (ts a cls d)) (r : HdsC X hds l) :
      HdsC X (.ExceptHandler (some (.Name x np)) none (b₀ :: suite) pos' :: hds) ((none, c, ts) :: l)
  | named {x n : Str} {i : Nat} {c : Value} {ts : Addr → Value → Option Addr → TS} {b₀ : Stmt} {suite : List Stmt} {np pos' : Pos} {hds : List ExceptHandler} {l : List Cse} (hi : X.N[i]? = some n) (hln : X.env.kindOf n = some .local) (hc : Names X x c)
      (hsu : ∀ (a : Addr) (oe : Obj) (cls : Value) (d : Option Addr) (pn : List (Addr × Obj)), Zc cls d oe → (∃ vs, oe.data = .fields vs) → PSs (X.suite a ((a, oe) :: pn)) (b₀ :: suite) (ts a cls d)) (r : HdsC X hds l) :
      HdsC X (.ExceptHandler (some (.Name x np)) (some n) (b₀ :: suite) pos' :: hds) ((some i, c, ts) :: l)
/-- what was caught, on the ground, ahead of a clause -/
structure Cgt (X : Cx) (pins : List (Addr × Obj)) (B : Heap) (a : Addr) (cls : Value) (d : Option Addr) (σ : St) (H : Hp) (s : Shared) : Prop where
  loc : X.env.frame = some X.env.locals
  ok : X.Ok
  new : H a = none
  fly : HandSPX.FlyingZ B (X.env :: X.outer) a (Zc cls d) s.heap
  inv : ∀ h, HandSPX.FlyingZ B (X.env :: X.outer) a (Zc cls d) h → s.heap.UpToSlots h → L2.Inv X pins σ H { s with heap := h }
section
variable {X : Cx} {pins : List (Addr × Obj)} {B : Heap} {a : Addr} {cls : Value} {d : Option Addr} {σ : St} {H : Hp} {s : Shared} {D : Ends} {Wout : WX} {l : List Cse} {hds : List ExceptHandler}
/-- the suite's context holds there -/
theorem Cgt.hot (C : Cgt X pins B a cls d σ H s) {h : Heap} (fl : HandSPX.FlyingZ B (X.env :: X.outer) a (Zc cls d) h) (up : s.heap.UpToSlots h) :
    ∃ oe, Zc cls d oe ∧ (∃ vs, oe.data = .fields vs) ∧ h.get? a = some oe ∧ L2.Inv (X.suite a ((a, oe) :: (X.pn ++ pins))) [] σ H { s with heap := h } := by
  obtain ⟨oe, vs, at_, z, isF⟩ := fl.there
  have out : a ∉ frs (X.env :: X.outer) := by
    intro m
    obtain ⟨_, o, q, nf⟩ := fl.2.2.1.mem m
    rw [at_] at q
    cases q
    exact nf vs isF
  refine ⟨oe, z, ⟨vs, isF⟩, at_, (C.inv h fl up).suite at_ isF C.new ?_ ?_⟩
  · rintro rfl
    exact out (List.mem_filterMap.mpr ⟨X.env, .head _, C.loc⟩)
  · intro m
    obtain ⟨e, he, q⟩ := List.mem_filterMap.mp m
    exact out (List.mem_filterMap.mpr ⟨e, .tail _ he, q⟩)
/-- no clause took it -/
theorem Cgt.pass (C : Cgt X pins B a cls d σ H s) (out : ∀ h, HandSPX.HeldZ B (X.env :: X.outer) a (Zc cls d) X.env.locals h → s.heap.UpToSlots h → X.xe (.ref a) { s with heap := h }) :
    wpAny (model X.prog X.w) X.A (handleBy (.ref a) X.env []) (SP X pins D) X.xe s := by
  have away : wpAny (model X.prog X.w) X.A (setFlight (.ref a) (some X.env.locals)) (fun _ t => wpAny (model X.prog X.w) X.A (throw (.ref a) : Sem Flow) (SP X pins D) X.xe t) X.xe s :=
    HandSPX.setFlight_upZ C.fly fun h held up => wpAny_throw (out h held up)
  rw [← C.loc] at away
  obtain ⟨_, _, _, _, _, T, _, _, at_, _, isF, trace, _⟩ := id C.fly
  apply wpAny_handleBy_nil
  unfold PySem.passOn
  apply wpAny_bind
  refine wpAny_field at_ isF trace ?_
  have some_ : (Value.ref T == Value.none) = false := by simp
  rw [some_, if_neg Bool.false_ne_true]
  first
    | exact wpAny_bind (wpAny_pure (wpAny_bind away))
    | exact wpAny_bind away
/-- the clause's class, looked up, and whether it takes it -/
theorem Cgt.name (C : Cgt X pins B a cls d σ H s) {x : Str} {np : Pos} {c : Value} (nm : Names X x c) {Q : Value → Shared → Prop} {E : Value → Shared → Prop} (q : Q c s) : wpAny (model X.prog X.w) (X.A.mark (some (.ref a))) (eval (.Name x np) X.env) Q E s := by
  obtain ⟨oe, _, _, _, J⟩ := C.hot C.fly (Heap.UpToSlots.refl _)
  rcases nm with ⟨gl, dbg, own | ⟨no, bv, nn⟩⟩
  · exact ld_glob J gl own q dbg
  · exact ld_blt J gl no bv q nn dbg
theorem Cgt.match_ (C : Cgt X pins B a cls d σ H s) {c : Value} {b : Bool} (m : PySem.W.exmOne X.K cls c = some b) : PySem.W.Looks (model X.prog X.w) s.heap (PySem.excMatches (.ref a) c) b := by
  obtain ⟨oe, z, _, at_, J⟩ := C.hot C.fly (Heap.UpToSlots.refl _)
  refine PySem.W.exm_one J.kIn (fun A Q E t k q => ?_) m
  exact wpAny_typeOf_ref (k _ _ at_) (by rw [z.1]; exact q)
/-- the clauses, from the first -/
theorem Cgt.clauses (C : Cgt X pins B a cls d σ H s) (hN : X.N.Nodup) (out : Wout cls d σ H → ∀ h, HandSPX.HeldZ B (X.env :: X.outer) a (Zc cls d) X.env.locals h → s.heap.UpToSlots h → X.xe (.ref a) { s with heap := h }) (hk : HdsC X hds l) :
    wCs X.K Wout D l cls d σ H → wpAny (model X.prog X.w) X.A (handleBy (.ref a) X.env hds) (SP X pins D) X.xe s := by
  induction hk with
  | nil => exact fun w => C.pass (out w)
  | plain nm hsu _ ih =>
    rintro ⟨b, m, yes, no⟩
    refine wpAny_handleBy_cons (hnb := by rintro ⟨⟩) ?_
    apply codeAny_handlers_test
    refine C.name nm ((C.match_ m).here ?_)
    cases b with
    | false => exact ih (no rfl)
    | true =>
      apply codeAny_handlers_suite
      refine HandSPX.lands_againZ C.fly fun h fl up => ?_
      obtain ⟨oe, z, isF, _, J⟩ := C.hot fl up
      refine wpAny_mono ((hsu a oe cls d _ z isF).run [] _ σ H D J (yes rfl a C.new)) ?_ fun _ _ q => q.elim
      rintro (_ | _ | _ | u) t q
      · obtain ⟨_, _, K, q⟩ := q
        exact ⟨_, _, K.unsuite C.ok, q⟩
      · obtain ⟨_, _, K, q⟩ := q
        exact ⟨_, _, K.unsuite C.ok, q⟩
      · obtain ⟨_, _, K, q⟩ := q
        exact ⟨_, _, K.unsuite C.ok, q⟩
      · obtain ⟨_, _, _, K, r, q⟩ := q
        exact ⟨_, _, _, K.unsuite C.ok, r, q⟩
  | @named x n i c ts b₀ suite np pos' hds2 l2 hi hln nm hsu _ ih =>
    rintro ⟨b, m, yes, no⟩
    refine wpAny_handleBy_cons (hnb := by rintro ⟨⟩) ?_
    apply codeAny_handlers_test
    refine C.name nm ((C.match_ m).here ?_)
    cases b with
    | false => exact ih (no rfl)
    | true =>
      apply codeAny_handlers_suite_as
      refine HandSPX.lands_againZ C.fly fun h fl up => ?_
      obtain ⟨oe, z, isF, _, J⟩ := C.hot fl up
      refine store_ok (X := X.suite a ((a, oe) :: (X.pn ++ pins))) (v := V.ref a) J hN hi (.inl hln) rfl (fun t T => ?_) (.inr hln)
      have behind : ∀ {τ : St} {G : Hp} {u : Shared} {R : Shared → Prop}, L2.Inv (X.suite a ((a, oe) :: (X.pn ++ pins))) [] τ G u → (∀ u', L2.Inv X pins (τ.set i none) G u' → R u') →
          wpAny (model X.prog X.w) X.A (do bindName X.env n .none; unbindBehindTheSuite X.env n pos') (fun _ u' => R u') X.xe u := fun K k => gone_ok (K.unsuite C.ok) hN hi hln k
      refine wpAny_mono ((hsu a oe cls d _ z isF).run [] t _ H _ T (yes rfl a C.new)) ?_ fun _ _ q => q.elim
      rintro (_ | _ | _ | u) t' q
      · obtain ⟨_, _, K, q⟩ := q
        exact behind K fun _ K' => ⟨_, _, K', q⟩
      · obtain ⟨_, _, K, q⟩ := q
        exact behind K fun _ K' => ⟨_, _, K', q⟩
      · obtain ⟨_, _, K, q⟩ := q
        exact behind K fun _ K' => ⟨_, _, K', q⟩
      · obtain ⟨_, _, _, K, r, q⟩ := q
        exact behind K fun _ K' => ⟨_, _, _, K', r, q⟩
end
section
variable {X : Cx} {body : List Stmt} {h₀ : ExceptHandler} {hds : List ExceptHandler} {l : List Cse} {pos : Pos} {tb : WX → TS} {Wout : WX}
theorem ps_tryC (top : X.stack = X.env :: X.outer) (loc : X.env.frame = some X.env.locals) (hN : X.N.Nodup) (tk : Takes X Wout)
    (hb : ∀ (W : WX) (pn : List (Addr × Obj)) (xe : Value → Shared → Prop), Takes (X.tr pn xe) W → PassesOwn (model X.prog X.w) X.A X.env xe → PSs (X.tr pn xe) body (tb W)) (hh : HdsC X (h₀ :: hds) l) :
    PS X (.Try body (h₀ :: hds) [] [] pos) (fun D σ H => tb (wCs X.K Wout D l) D σ H) := by
  constructor
  intro pins s σ H D I h
  have ok := I.ok
  have fr : X.A.frames = some (X.env :: X.outer) := by rw [ok.frames, top]
  let after : Value → Shared → Prop := fun e s₁ => wpAny (model X.prog X.w) X.A (noteFrame e X.env) (fun _ s₂ => wpAny (model X.prog X.w) X.A (setFlight e none) (fun _ s₃ => wpAny (model X.prog X.w) X.A (handleBy e X.env (h₀ :: hds)) (SP X pins D) X.xe s₃) X.xe s₂) X.xe s₁
  have taken : Takes (X.tr (X.pn ++ pins) after) (wCs X.K Wout D l) := by
    rintro u t ⟨a, B, sI, _, σ', H', cls, d, rfl, J', nb, up, sky, na, os, ag, w⟩
    have J : L2.Inv X pins σ' H' sI := J'.ofTry ok
    rw [show (X.tr (X.pn ++ pins) after).stack = X.env :: X.outer from top] at sky
    refine Sky.land Zc.steady fr loc sky fun h3 fl up3 => ?_
    have C : Cgt X pins B a cls d σ' H' { t with heap := h3 } := ⟨loc, ok, na, fl, fun g fg ug => J.landed nb fg.1 ((up.trans up3).trans ug) os ag⟩
    refine C.clauses hN (fun w g held ug => tk _ _ ?_) hh w
    exact ⟨a, B, sI, pins, σ', H', cls, d, rfl, J, nb, (up.trans up3).trans ug, .inr (.inr (by rw [top]; exact held)), na, os, ag, w⟩
  apply wpAny_Try_except
  refine wpAny_mono ((hb _ _ after taken PassesOwn.looking).run [] s σ H D (I.toTry _) h) ?_ fun _ _ q => q
  rintro (_ | _ | _ | u) t q
  · obtain ⟨_, _, K, q⟩ := q
    exact wpAny_execs_nil ⟨_, _, K.ofTry ok, q⟩
  · obtain ⟨_, _, K, q⟩ := q
    exact ⟨_, _, K.ofTry ok, q⟩
  · obtain ⟨_, _, K, q⟩ := q
    exact ⟨_, _, K.ofTry ok, q⟩
  · obtain ⟨_, _, _, K, r, q⟩ := q
    exact ⟨_, _, _, K.ofTry ok, r, q⟩
end
/-! ### by data -/
/-- the clauses: the name's slot, or none; the class; what its suite does -/
def dTryC (x : Xc) : List (Option Nat × Str × M Fl) → M Fl
  | [], ρ => .exc x ρ
  | (o, h, gs) :: r, ρ => if mt x.cls h = true then (match o with
    | none => (match gs (clrX ρ) with
      | .ok fl ρ2 => .ok fl (clrX ρ2)
      | _ => .bad)
    | some i => (match gs { clrX ρ with sl := (clrX ρ).sl.set i (.xc x) } with
      | .ok fl ρ2 => .ok fl (endC i ρ2)
      | _ => .bad)) else dTryC x r ρ
def dTryN (xs : List Str) (g : M Fl) (hs : List (Option Nat × Str × M Fl)) : M Fl := fun ρ => match g ρ with
  | .exc x ρ' => if x.cls ∈ xs then dTryC x hs ρ' else .bad
  | r => r
inductive HdN (X : Cx) (c : Cc) (xs : List Str) : List ExceptHandler → List (Option Nat × Str × M Fl) → Prop
  | nil : HdN X c xs [] []
  | plain {x : Str} {C : Addr} {b₀ : Stmt} {suite : List Stmt} {np pos' : Pos} {gs : M Fl} {hds : List ExceptHandler} {l : List (Option Nat × Str × M Fl)} (hc : HdC X c xs x C) (hsu : BkS X c fun Y c' => DSs Y c' noW (b₀ :: suite) gs) (r : HdN X c xs hds l) :
      HdN X c xs (.ExceptHandler (some (.Name x np)) none (b₀ :: suite) pos' :: hds) ((none, x, gs) :: l)
  | named {x n : Str} (i : Nat) {C : Addr} {b₀ : Stmt} {suite : List Stmt} {np pos' : Pos} {gs : M Fl} {hds : List ExceptHandler} {l : List (Option Nat × Str × M Fl)} (hi : X.N[i]? = some n) (hln : X.env.kindOf n = some .local) (hc : HdC X c xs x C)
      (hsu : BkS X c fun Y c' => DSs Y c' noW (b₀ :: suite) gs) (r : HdN X c xs hds l) : HdN X c xs (.ExceptHandler (some (.Name x np)) (some n) (b₀ :: suite) pos' :: hds) ((some i, x, gs) :: l)
section
variable {X : Cx} {c : Cc} {W : WX} {xs : List Str} {body : List Stmt} {pos : Pos} {g : M Fl}
theorem try_c {ioA : List Addr} (gd : Gd X c) : ∀ {hds : List ExceptHandler} {l : List (Option Nat × Str × M Fl)}, HdN X c xs hds l → ∃ l2 : List Cse, HdsC X hds l2 ∧
    ∀ (y : Xc) (ρ' : Rho) (P P' : Pcs) (σ' : St) (H' : Hp) (D : Ends) (cls : Value) (dx : Option Addr), y.cls ∈ xs → Stp P P' → RepW c ioA ρ' σ' H' P' → XR c.kc y cls dx H' P' → tSat c ioA W (dTryC y l) ρ' P D → wCs X.K W D l2 cls dx σ' H'
  | _, _, .nil => ⟨[], .nil, fun y ρ' P P' σ' H' D cls dx hy s r q h => h cls dx σ' H' P' s r q⟩
  | _, _, .plain (x := x) (C := C) (gs := gs) (l := lr) hc hsu hr => by
    obtain ⟨l2, hk, ih⟩ := try_c (ioA := ioA) gd hr
    refine ⟨(none, .ref C, fun a cls d => tS (cX c a cls d) ioA noW gs) :: l2, .plain hc.nm (fun a oe cls d pn hz hv => hsu a oe cls d pn hz hv gd.toSu ioA) hk, fun y ρ' P P' σ' H' D cls dx hy s r q h => ?_⟩
    obtain ⟨Cn, M, q1, rfl, q4, q5, q6⟩ := id q
    refine ⟨mt y.cls x, gd.hK ▸ hc.mt y.cls hy Cn q1, fun hb a ha => ?_, fun hb => ?_⟩
    · unfold tSat dTryC at h
      rw [if_pos hb] at h
      have r1 : RepW (cX c a (.ref Cn) dx) ioA (clrX ρ') σ' H' P' := r.clr rfl
      refine ⟨_, _, r1, ?_⟩
      show tSat (cX c a (.ref Cn) dx) ioA noW gs (clrX ρ') P' D
      unfold tSat
      cases e2 : gs (clrX ρ') with
      | bad => simp only [e2] at h
      | exc _ _ => simp only [e2] at h
      | ok fl ρ2 =>
        simp only [e2] at h
        have bk : ∀ {σ3 : St} {H3 : Hp} {P3 : Pcs}, RepW (cX c a (.ref Cn) dx) ioA ρ2 σ3 H3 P3 → RepW c ioA (clrX ρ2) σ3 H3 P3 := fun r3 => RepW.clr (c' := c) r3 rfl
        cases fl with
        | nx => exact fun σ3 H3 P3 s3 r3 => h _ H3 P3 (s.trans s3) (bk r3)
        | bk => exact fun σ3 H3 P3 s3 r3 => h _ H3 P3 (s.trans s3) (bk r3)
        | ct => exact fun σ3 H3 P3 s3 r3 => h _ H3 P3 (s.trans s3) (bk r3)
        | ret d => exact fun v σ3 H3 P3 s3 r3 w => h v _ H3 P3 (s.trans s3) (bk r3) w
        | fre d => exact fun v σ3 H3 P3 s3 r3 w => h v _ H3 P3 (s.trans s3) (bk r3) w
    · have h' : tSat c ioA W (dTryC y lr) ρ' P D := by
        unfold tSat dTryC at h
        rw [if_neg (by rw [hb]; decide)] at h
        exact h
      exact ih y ρ' P P' σ' H' D _ _ hy s r q h'
  | _, _, .named (x := x) (n := n) i (C := C) (gs := gs) (l := lr) hi hln hc hsu hr => by
    obtain ⟨l2, hk, ih⟩ := try_c (ioA := ioA) gd hr
    refine ⟨(some i, .ref C, fun a cls d => tS (cX c a cls d) ioA noW gs) :: l2, .named hi hln hc.nm (fun a oe cls d pn hz hv => hsu a oe cls d pn hz hv gd.toSu ioA) hk, fun y ρ' P P' σ' H' D cls dx hy s r q h => ?_⟩
    obtain ⟨Cn, M, q1, rfl, q4, q5, q6⟩ := id q
    refine ⟨mt y.cls x, gd.hK ▸ hc.mt y.cls hy Cn q1, fun hb a ha => ?_, fun hb => ?_⟩
    · unfold tSat dTryC at h
      rw [if_pos hb] at h
      have r1 : RepW (cX c a (.ref Cn) dx) ioA (clrX ρ') σ' H' P' := r.clr rfl
      obtain ⟨r2, s2⟩ := r1.setXc (i := i) (a := a) (x := y) q1 ⟨rfl, rfl, rfl⟩ q4 q5 q6
      refine ⟨_, _, r2, ?_⟩
      show tSat (cX c a (.ref Cn) dx) ioA noW gs _ _ (endN D (some i))
      unfold tSat
      cases e2 : gs { clrX ρ' with sl := (clrX ρ').sl.set i (.xc y) } with
      | bad => simp only [e2] at h
      | exc _ _ => simp only [e2] at h
      | ok fl ρ2 =>
        simp only [e2] at h
        have bk : ∀ {σ3 : St} {H3 : Hp} {P3 : Pcs}, RepW (cX c a (.ref Cn) dx) ioA ρ2 σ3 H3 P3 → RepW c ioA (endC i ρ2) (σ3.set i none) H3 P3 := fun r3 => (RepW.clr (c' := c) r3 rfl).setNo
        have bk2 : ∀ {σ3 : St} {H3 : Hp} {P3 : Pcs}, RepW (cX c a (.ref Cn) dx) ioA ρ2 σ3 H3 P3 → RepW c ioA (endC i ρ2) σ3 H3 P3 := fun r3 => (RepW.clr (c' := c) r3 rfl).kill
        cases fl with
        | nx => exact fun σ3 H3 P3 s3 r3 => h _ H3 P3 ((s.trans s2).trans s3) (bk r3)
        | bk => exact fun σ3 H3 P3 s3 r3 => h _ H3 P3 ((s.trans s2).trans s3) (bk r3)
        | ct => exact fun σ3 H3 P3 s3 r3 => h _ H3 P3 ((s.trans s2).trans s3) (bk r3)
        | ret d => exact fun v σ3 H3 P3 s3 r3 w => h v _ H3 P3 ((s.trans s2).trans s3) (bk2 r3) w
        | fre d => exact fun v σ3 H3 P3 s3 r3 w => h v _ H3 P3 ((s.trans s2).trans s3) (bk2 r3) w
    · have h' : tSat c ioA W (dTryC y lr) ρ' P D := by
        unfold tSat dTryC at h
        rw [if_neg (by rw [hb]; decide)] at h
        exact h
      exact ih y ρ' P P' σ' H' D _ _ hy s r q h'
theorem ds_tryN {h₀ : ExceptHandler} {hds : List ExceptHandler} {l : List (Option Nat × Str × M Fl)} (hs : X.stack = X.env :: X.outer) (hf : X.env.frame = some X.env.locals) (hN : X.N.Nodup) (tk : Takes X W)
    (hb : BkT X fun Y V => DSs Y c V body g) (hh : HdN X c xs (h₀ :: hds) l) : DS X c W (.Try body (h₀ :: hds) [] [] pos) (dTryN xs g l) := fun gd ioA => by
  obtain ⟨l2, hk, ih⟩ := try_c (W := W) (ioA := ioA) gd hh
  refine PS.imp (ps_tryC (tb := fun V => tS c ioA V g) hs hf hN tk (fun V pn xe t po => hb V pn xe t po ⟨gd.hK, gd.un⟩ ioA) hk) fun D σ H ⟨ρ, P, rp, h⟩ => ⟨ρ, P, rp, ?_⟩
  unfold tSat dTryN at h
  unfold tSat
  cases e : g ρ with
  | bad => simp only [e] at h
  | ok fl ρ' => simp only [e] at h; cases fl <;> exact h
  | exc y ρ' =>
    simp only [e] at h
    intro cls dx σ' H' P' s r q
    by_cases hy : y.cls ∈ xs
    case neg => rw [if_neg hy] at h; exact h.elim
    rw [if_pos hy] at h
    exact ih y ρ' P P' σ' H' D cls dx hy s r q h
end
/-! ### the plain rules -/
section
variable {ρ : Rho} {E : Xc → Rho → Prop} {Q : Fl → Rho → Prop}
end
end Den

set_option Elab.async false
set_option linter.all false
set_option maxRecDepth 100000
set_option maxHeartbeats 1000000
/-! DenAP: (*a, b), zip(a, b), d.get(k) of a dict of numbers and texts. -/
namespace Den
open PySem PySem.Spec
open PyProof.Rows L2

/-! ### items of a row, spread -/
section
variable {X : Cx} {c : Cc} {W : WX} {e : Expr} {es : List Expr} {fa : M Pk} {fr : M (List PD)} {p : Pos}
end
/-! ### zip of two tuples -/
section
variable {X : Cx} {c : Cc} {W : WX} {e e2 : Expr} {p pos tpos : Pos} {elts : List Expr} {kk : Nat} {f : M (List Pk)}
end
/-! ### d.get(k) -/
section
variable {X : Cx} {c : Cc} {W : WX} {o e : Expr} {fo : M Pk} {fk : M PD} {apos cpos : Pos}
end
/-! ### what they do -/
section
variable {ρ : Rho} {E : Xc → Rho → Prop}
end
end Den

set_option Elab.async false
set_option linter.all false
set_option maxRecDepth 100000
set_option maxHeartbeats 1000000
/-! DenAQ: {k: v, ..}: a new dict with numbers and texts as keys. -/
namespace Den
open PySem PySem.Spec
open PyProof.Rows L2

/-- the pairs, as they are made -/
inductive RpPP (k : Kc) (G : Hp) : List (PD × PD) → List (V × V) → Prop
  | nil : RpPP k G [] []
  | cons {x y : V} {kd vd : PD} {r : List (PD × PD)} {q : List (V × V)} : Rp k G x kd → Rp k G y vd → RpPP k G r q → RpPP k G ((kd, vd) :: r) ((x, y) :: q)
theorem RpPP.keys {k : Kc} {G : Hp} : ∀ {kvs : List (PD × PD)} {qs : List (V × V)} {ps : List (Key × PD)}, RpPP k G kvs qs → unK kvs = some ps → ∃ es : List (Key × V), qs = es.map (fun kv => (kV kv.1, kv.2)) ∧ RpP k G es ps
  | _, _, _, .nil, e => by cases e; exact ⟨[], rfl, .nil⟩
  | (kd, vd) :: r, _, _, .cons (x := x) (y := y) h1 h2 t, e => by
    have e' : ((keyD kd).bind fun f => (unK r).map fun ps => (f, vd) :: ps) = some _ := e
    cases e1 : keyD kd with
    | none => rw [e1] at e'; cases e'
    | some f =>
      rw [e1, Option.bind_some] at e'
      cases e2 : unK r with
      | none => rw [e2] at e'; cases e'
      | some ps' =>
        rw [e2] at e'
        have e3 := Option.some.inj e'
        subst e3
        obtain ⟨es, q1, q2⟩ := RpPP.keys t e2
        exact ⟨(f, y) :: es, by rw [List.map_cons, ← q1, keyD_rp e1 h1], .cons h2 q2⟩
section
variable {X : Cx} {c : Cc} {W : WX} {pos : Pos} {k v : Expr} {ks : List (Option Expr)} {vs : List Expr} {fk fv : M PD} {l : List (M PD × M PD)}
theorem RpPP.mono {k : Kc} {G G' : Hp} (s : Same G G') : ∀ {kvs : List (PD × PD)} {qs : List (V × V)}, RpPP k G kvs qs → RpPP k G' kvs qs
  | _, _, .nil => .nil
  | _, _, .cons a b r => .cons (a.mono s) (b.mono s) (RpPP.mono s r)
end
section
variable {X : Cx} {c : Cc} {W : WX} {pos : Pos} {keys : List (Option Expr)} {values : List Expr} {l : List (M PD × M PD)} {e : Expr}
end
/-! ### what they do -/
section
variable {ρ : Rho} {E : Xc → Rho → Prop}
end
end Den

set_option Elab.async false
set_option linter.all false
set_option maxRecDepth 100000
set_option maxHeartbeats 1200000
/-! DenAR: [e for x in a if .. for y in b if ..]. -/
namespace Den
open PySem PySem.Spec
open PyProof.Rows L2

/-! ### the list that grows -/
section
variable {c : Cc} {ioA : List Addr} {ρ : Rho} {σ : St} {H : Hp} {P P1 : Pcs} {D : Addr} {va : List V}
end
section
variable {X : Cx} {c : Cc} {W : WX} {tg iter tg1 iter1 elt : Expr} {ifs ifs1 : List Expr} {scope : Scope} {own : List (Str × Nat)} {pos : Pos} {t t1 : Tg} {vs vs1 : List Nat} {ok : Rho → Prop} {fi fi1 : M (List PD × (Rho → Prop))} {tt tt1 : M Bool} {f : M PD}
end
end Den

set_option Elab.async false
set_option linter.all false
set_option maxRecDepth 100000
set_option maxHeartbeats 1200000
/-! DenAS: what comprehensions with two fors do; len in a clause's suite. -/
namespace Den
open PySem PySem.Spec
open PyProof.Rows L2

section
variable {ρ : Rho} {E : Xc → Rho → Prop} {t t1 : Tg} {vs vs1 : List Nat} {tt tt1 : M Bool} {f : M PD} {fi fi1 : M (List PD × (Rho → Prop))}
end
/-! ### where an exception is held -/
section
variable {X : Cx} {c : Cc} {W : WX} {x : Str} {id : String} {e : Expr} {es : List Expr} {as : M (List Pk)} {g : List PD → Option PD} {p pos : Pos}
end
end Den

set_option Elab.async false
set_option linter.all false
set_option maxRecDepth 100000
/-! DenAT: tuple(reversed(e)), x in range(e), a def that calls itself. -/
namespace Den
open PySem PySem.Spec
open PyProof.Rows L2

section
variable {X : Cx} {c : Cc} {W : WX} {e : Expr} {f : M PD} {p p' pos pos' : Pos}
/-! ### x in range(e) -/
/-! ### x in a dict of numbers and texts, as a test -/
end
/-! ### a def that calls itself: below its last turn nothing is told -/
/-! ### what they do -/
section
variable {ρ : Rho} {E : Xc → Rho → Prop}
end
end Den

set_option Elab.async false
set_option linter.all false
set_option maxRecDepth 100000
/-! DenAU: x *= e; e.upper(). -/
namespace Den
open PySem PySem.Spec
open PyProof.Rows L2

section
variable {X : Cx} {c : Cc} {W : WX} {e : Expr} {f : M PD} {p pos apos : Pos}
/-! ### x in a dict with tuples as keys -/
end
/-! ### what they do -/
section
variable {ρ : Rho} {E : Xc → Rho → Prop}
end
end Den

set_option Elab.async false
set_option linter.all false
set_option maxRecDepth 100000
set_option maxHeartbeats 2500000
/-! DenAV: C(f=e) of an own exception class, made and not raised. -/
namespace Den
open PySem PySem.W PySem.Calls PySem.HandSPX
open PySem.Spec PyProof.Rows
section
variable {prog : Program} {w : World} {A : Around} {E : Value → Shared → Prop} {R : Result → Shared → Prop} {h : PySem.Heap} {g : Array GenState} {d : Drawn} {t : Nat} {os : OsState}
variable {nm q : Str} {C N : Addr} {bs bm bmB : List Value} {hdct : Bool} {sn : List Str} {sub : List Value} {ab : Bool} {col : Option Bool} {dd : Option Addr} {k0 k1 k2 k3 k5 : Option Value} {B newId initId : String} {kw : List (Str × Value)}
/-- an object that has just been made, with no argument -/
def freshX (h : PySem.Heap) (C : Addr) : PySem.Heap := (h.push (PySem.W.kdv_tup [])).push (PySem.HandSPX.excO C h.objs.size)
theorem kw_new (F : ExcBaseFacts B newId initId bmB) (hT : ∀ X : String, bm.contains (.type X) = bmB.contains (.type X))
    (hC : h.get? C = some (excClassObj nm q C N bs bm hdct sn sub ab col dd k0 k1 k2 k3 k5 newId)) (fin : R (.ok (.ret (.ref (h.objs.size + 1)))) ⟨freshX h C, g, d, t, os⟩) : codeAny (model prog w) A (.builtin newId ⟨[.ref C], kw⟩) R ⟨h, g, d, t, os⟩ := by
  have e0 := F.ends
  have e1 : (Value.ref C :: bm).contains (.type B) = true := by rw [List.contains_cons]; simp only [hT, F.hasB, Bool.or_true]
  have e2 : (Value.ref C :: bm).contains (.type "AttributeError") = false := by rw [List.contains_cons]; simp only [hT, F.noAttr]; rfl
  have e3 : (Value.ref C :: bm).contains (.type "NameError") = false := by rw [List.contains_cons]; simp only [hT, F.noName]; rfl
  apply codeAny_builtinAt F.entry
  unfold Builtin.«BaseException.__new__»; apply PySem.wpAt_bind
  change PySem.wpAt _ _ _ (stack >>= _) _ _ _
  apply PySem.wpAt_bind
  refine PySem.wpAt_stack fun p below => PySem.wpAt_of_wpAny ?_
  wp_walk
  apply PySem.wpAt_of_wpAny
  rw [F.owner]
  repeat (first
    | (with_reducible refine wpAny_isSubtype_exc hC ?_; first | rw [e1] | rw [e2] | rw [e3])
    | with_reducible refine wpAny_loadPart_at hC ?_
    | with_reducible refine wpAny_madeHere_exc F.canon hC ?_
    | wp_step)
  change R _ _
  rw [Heap.size_push]
  exact fin
theorem kw_check (F : ExcBaseFacts B newId initId bmB) (hT : ∀ X : String, bm.contains (.type X) = bmB.contains (.type X)) {M : Model} {Q : Unit → Shared → Prop}
    (hC : h.get? C = some (excClassObj nm q C N bs bm hdct sn sub ab col dd k0 k1 k2 k3 k5 newId)) (hq : Q () ⟨h, g, d, t, os⟩) : wpAny M A (checkBuiltinCall newId ⟨[.ref C], kw⟩) Q E ⟨h, g, d, t, os⟩ := by
  have e1 : (Value.ref C :: bm).contains (.type B) = true := by rw [List.contains_cons]; simp only [hT, F.hasB, Bool.or_true]
  have e2 := F.noStar
  simp only [checkBuiltinCall, F.newRow, F.newKind, F.newSplit]
  repeat (first | refine wpAny_madeBy_exc hC ?_ | refine wpAny_staticBase_exc hC ?_ | refine wpAny_loadPart_at hC ?_ | (refine wpAny_isSubtype_exc hC ?_; rw [e1]) | simp only [bne_self_eq_false, if_false, Bool.false_eq_true] | wp_step)
  exact hq
theorem kw_type (F : ExcBaseFacts B newId initId bmB) (hT : ∀ X : String, bm.contains (.type X) = bmB.contains (.type X)) {fI : Addr} {Q : Fin → Shared → Prop}
    (hC : h.get? C = some (excClassObj nm q C N bs bm hdct sn sub ab col dd k0 k1 k2 k3 k5 newId)) (hi : PySem.W.Looks (model prog w) h (typeLookup (.ref C) "__init__") (some (.ref fI))) (hb : ∀ self, PySem.W.Looks (model prog w) h (bindSpecial (.ref fI) self) (.ref fI, [self]))
    (hq : codeAny (model prog w) A (.call (.ref fI) ⟨[.ref (h.objs.size + 1)], kw⟩) (fun r s' => match r with
      | .ok (.ret v) => v = .none ∧ Q (.done (.ret (.ref (h.objs.size + 1)))) s'
      | .ok _ => False
      | .error e => E e s') ⟨freshX h C, g, d, t, os⟩) :
    wpAny (model prog w) A (Builtin.«type.__call__» ⟨[.ref C], kw⟩) Q E ⟨h, g, d, t, os⟩ := by
  repeat (first | with_reducible refine wpAny_madeBy_exc hC ?_ | with_reducible refine wpAny_loadPart_at hC ?_ | wp_step)
  refine codeAny_call_builtin_code (Code.quiet_builtin _ F.quiet) (kw_check F hT hC (kw_new F hT hC ?_))
  change wpAny _ _ _ _ _ _
  have up : ∀ b o, h.get? b = some o → (freshX h C).get? b = some o := fun b o z => by
    unfold freshX
    exact Heap.get?_push_of_some _ (Heap.get?_push_of_some _ z)
  have at_ : (freshX h C).get? (h.objs.size + 1) = some (PySem.HandSPX.excO C h.objs.size) := by
    unfold freshX
    heap_get
  have own : (Value.ref C :: bm).contains (.ref C) = true := by simp
  have C2 := up _ _ hC
  have hi2 := hi.keeps up
  have hb2 := (hb (.ref (h.objs.size + 1))).keeps up
  unfold isInstance
  repeat (first | (with_reducible refine wpAny_isSubtype_exc C2 ?_; rw [own]) | with_reducible refine wpAny_loadPart_at at_ ?_ | wp_step)
  change wpAny _ _ (typeLookup (.ref C) _) _ _ _
  apply hi2.at
  apply wpAny_holding
  apply wpAny_bind
  apply hb2.at
  apply wpAny_bind
  apply wpAny_call
  refine codeAny_mono hq ?_
  rintro (e | v | _ | _ | _) s' z
  · exact z
  · exact z.elim
  · exact z.elim
  · exact z.elim
  · obtain ⟨rfl, z⟩ := z
    first | exact wpAny_pure (wpAny_pure z) | (wp_walk; exact z)
/-- C(k=v, ..) -/
theorem kw_call (F : ExcBaseFacts B newId initId bmB) (hT : ∀ X : String, bm.contains (.type X) = bmB.contains (.type X)) {fI : Addr}
    (hC : h.get? C = some (excClassObj nm q C N bs bm hdct sn sub ab col dd k0 k1 k2 k3 k5 newId)) (hi : PySem.W.Looks (model prog w) h (typeLookup (.ref C) "__init__") (some (.ref fI))) (hb : ∀ self, PySem.W.Looks (model prog w) h (bindSpecial (.ref fI) self) (.ref fI, [self]))
    (hq : codeAny (model prog w) (A.under (.builtin "type.__call__" ⟨[.ref C], kw⟩)) (.call (.ref fI) ⟨[.ref (h.objs.size + 1)], kw⟩) (PySem.W.InitBack (h.objs.size + 1) R) ⟨freshX h C, g, d, t, os⟩) :
    codeAny (model prog w) A (.call (.ref C) ⟨[], kw⟩) R ⟨h, g, d, t, os⟩ := by
  have a1 := tc_bind (.ref C)
  have a2 := tc_lookup
  have a3 : (⟨h, g, d, t, os⟩ : Shared).TypeIs (.ref C) "type" := ⟨_, hC, rfl⟩
  have a4 := tc_sub
  apply codeAny_of_tree
  change wpAny _ _ (callAny (.ref C) _) _ _ _
  repeat (any_goals (first | with_reducible refine wpAny_loadPart_at hC ?_ | assumption | wp_step))
  refine ⟨rfl, codeAny_call_builtin_at (Code.quiet_builtin _ (by decide +kernel)) entry_typeCall ?_⟩
  have chk : ∀ Q : Unit → Shared → Prop, Q () ⟨h, g, d, t, os⟩ → ∀ (A' : Around) (E' : Value → Shared → Prop), wpAny (model prog w) A' (checkBuiltinCall "type.__call__" ⟨[.ref C], kw⟩) Q E' ⟨h, g, d, t, os⟩ := fun Q q A' E' => by
    simp only [checkBuiltinCall, tc_split, tc_kind]
    repeat (any_goals (first | with_reducible refine wpAny_loadPart_at hC ?_ | assumption | with_reducible refine wpAny_map ?_ | with_reducible refine wpAny_onRaise ?_ | wp_step))
  apply chk
  refine kw_type F hT hC hi hb (codeAny_mono hq ?_)
  rintro (e | v | _ | _ | _) s' z <;> exact z
end
/-- such a class, made by its field's name -/
def MkX (P : Program) (K : PySem.W.Frag) (mg : Str → Option Value) (C : Addr) (x f : Str) : Prop := CalX P K mg C x f ∧ L2.XfC K C ∧ ∃ (fI cc cda : Addr) (qual : Str) (params : Arguments) (body : List Stmt) (scope : Scope) (sf : Str), IniX P K C fI cc cda qual params body scope ∧ TxtX qual params body scope f f sf
section
open L2
variable {X : Cx} {c : Cc} {W : WX} {x f : Str} {C : Addr} {e : Expr} {fe : M PD} {k : Nat} {p pos pos' kp : Pos}
/-- C(f=e).f: the datum itself -/
theorem de_mkf (cl : Cl X W (k + 1)) (T : MkX X.prog X.K X.mg C x f) (hg : Gl X x) (he : DE X c W e fe)
    (hdb : (x == ("__debug__" : Str)) = false := by decide) (hpl : ((backTo pos (starEach [] X.env)).any (·.1) || (backToKw pos (keywordEach [⟨some f, e, kp⟩] X.env)).any (·.1.isNone)) = false := by rfl)
    (hall : (backToKw pos (keywordEach [⟨some f, e, kp⟩] X.env)).all (·.1.isSome) = true := by rfl) (hks : (backToKw pos (keywordEach [⟨some f, e, kp⟩] X.env)).filterMap (·.1) = [f] := by rfl)
    (hab : attributeBase (.Call (.Name x p) [] [⟨some f, e, kp⟩] pos) f X.env (eval (.Call (.Name x p) [] [⟨some f, e, kp⟩] pos) X.env) = eval (.Call (.Name x p) [] [⟨some f, e, kp⟩] pos) X.env := by rfl) :
    DE X c W (.Attribute (.Call (.Name x p) [] [⟨some f, e, kp⟩] pos) f pos') fe := fun gd ioA => by
  obtain ⟨T, TX, fI, cc, cda, qual, params, body, scope, sf, Y, Z⟩ := T
  obtain ⟨z, j, p0, p1, p2, p3, p4, p5, p6, p7, p8, p9, arg, rfl, hx1, hx2, hpar, harg⟩ := Z.ex
  have one : PK X [⟨some f, e, kp⟩] (tCons (tM c ioA W (VRe c) fe) tNil) := pk_cons (he gd ioA) pk_nil
  refine ⟨fun pins s σ H Q I h => ?_⟩
  refine attr_of hab (wpAny_Call_Name_kw (ld_glob I hg T.gl ?_ hdb))
  refine PySem.W.callWith_KW0 (h₀ := X.base) I.ok.mod.kin T.cls.kept hall ?_ hpl
  refine thn (one.run pos pins s σ H (fun vs H1 => match vs with
    | [v] => Q v H1
    | _ => False) I h) fun us s1 ap => ?_
  obtain ⟨vs, H1, I1, r1, q1⟩ := ap
  rw [hks]
  match vs, q1, r1 with
  | [], q1, _ => exact q1.elim
  | _ :: _ :: _, q1, _ => exact q1.elim
  | [v], q1, .cons (b := u) rv .nil =>
    refine ⟨I1.kIn, ?_⟩
    obtain ⟨nm, N, qn, bs, bm, hdct, sn, sub, ab, col, dd, k0, k1, k2, k3, k5, hC, hbm⟩ := PySem.W.excInit_of I1.kIn T.cls.made
    obtain ⟨hp, g, dr, tk, os⟩ := s1
    generalize ex : hp.objs.size + 1 = ea
    have up : ∀ b o, hp.get? b = some o → (freshX hp C).get? b = some o := fun b o z => by
      unfold freshX
      exact Heap.get?_push_of_some _ (Heap.get?_push_of_some _ z)
    have low : ∀ b o, hp.get? b = some o → b ≠ ea := fun b o z => by
      have y : b < hp.objs.size := Heap.lt_size z
      rw [← ex]
      exact Nat.ne_of_lt (Nat.lt_succ_of_lt y)
    have there : (freshX hp C).get? ea = some (PySem.HandSPX.excO C hp.objs.size) := by
      rw [← ex]
      unfold freshX
      heap_get
    obtain ⟨mb, B1, B2⟩ := I1.mod.blt
    have kin := I1.kIn.keeps up
    refine wpAny_call (kw_call F.excBase_Exception hbm hC (PySem.W.looks_findIn I1.kIn Y.ini) (fun self => PySem.W.bind_fn I1.kIn self Y.typ) ?_)
    simp only [ex]
    refine init_run (K := X.K) (mg := X.mg) (mb := mb) (e := ea) (u := u) T.cls Y (Room.depth (cl.room.make C [] [(f, u)])) kin (I1.nolimit.keeps up) ((I1.mod.glob.keeps I1.bk).keeps up) T.sup ((B1.keeps I1.bk).keeps up) (B2 _ (by decide)) hx1 hx2 hpar harg (fun kV doc pm an ct bd => Z.bindK cda cc _ _ kV doc pm an ct bd)
      Z.hks Z.hkc Z.hka Z.hkf Z.hne Z.hk Z.hco Z.hgen Z.hnc Z.hda Z.hds T.no there (fun z => low C _ hC z.symm) ?_ fun h' t' dx t1 keep hid ne ob ns => ⟨rfl, ?_⟩
    · cases kl : X.K.lookup ea with
      | none => rfl
      | some o => exact absurd rfl (low ea o (I1.kIn _ _ kl))
    · have I2 : L2.Inv X pins σ H1 ⟨h', g, dr, t', os⟩ := I1.kept fun b o z => keep b o (low b o z) (up b o z)
      obtain ⟨od, ho, hl⟩ := lookIn_ns ns
      have J : PySem.W.InstAt h' ea _ C (some od) := ⟨ob, rfl, rfl, ho⟩
      exact HandSPX.exc_get I2.kIn J TX.ga TX.gg TX.exC (PySem.W.findObj_own TX.hdC T.no rfl (by rw [hl, if_pos rfl])) (handed_of rv) ⟨v, H1, I2.tok _, rv, q1⟩
end
section
variable {prog : Program} {w : World} {A : Around} {R : Result → Shared → Prop} {h : PySem.Heap} {g : Array GenState} {d : Drawn} {t : Nat} {os : OsState} {K : PySem.W.Frag} {mg mb : Str → Option Value} {C fI cc cda e t0 : Addr} {qual sf : Str} {params : Arguments} {scope : Scope} {ar : Args} {z : Str} {j : Nat}
  {p0 p1 p2 p3 p4 p5 : Pos} {arg : Arg}
/-- __init__(self): super().__init__(text) -/
theorem init_run0 (T : ClsX K C) (Y : IniX prog K C fI cc cda qual params [.Expr (.Call (.Attribute (.Call (.Name "super" p0) [] [] p1) "__init__" p2) [.Constant (.str z) j p3] [] p4) p5] scope)
    (hroom : A.depth < recursionLimit) (X : K.In h) (hlim : h.NoLimit) (G : h.Ns mainGlobals mg) (hms : mg "super" = none) (B : h.Ns builtinsNs mb) (hbs : mb "super" = bootBuiltins "super")
    (hx1 : ∀ env : Env, env.scope = scope → ∃ pl : Sem Bool, eval (.Call (.Attribute (.Call (.Name "super" p0) [] [] p1) "__init__" p2) [.Constant (.str z) j p3] [] p4) env = (do
      let ov ← attributeBase (.Call (.Name "super" p0) [] [] p1) "__init__" env (eval (.Call (.Name "super" p0) [] [] p1) env)
      standAt p2.atName
      let (f, first) ← holding [ov] (getMethod ov "__init__" pl)
      callWith p4 f first (backTo p4 (starEach [.Constant (.str z) j p3] env)) []))
    (hx2 : ∀ env : Env, env.scope = scope → interactive env = false ∧ swapsWith (.Call (.Attribute (.Call (.Name "super" p0) [] [] p1) "__init__" p2) [.Constant (.str z) j p3] [] p4) none p5.line env = pure false)
    (hpar : (params.posonlyargs ++ params.args).head? = some arg) (harg : arg.arg = sf)
    (hbind : ∀ (kV doc pm : Value) (an : Option Addr) (ct : Value) (bd : List Stmt), bindArgs (fnX "__init__" qual params bd scope [("__class__", cc)] .none kV doc pm an (.ref cda) ct) ar = pure [(sf, .ref e)])
    (hks : scope.names.lookup ("super" : Str) = some .globalImplicit) (hkc : scope.names.lookup ("__class__" : Str) = some .free) (hkf : scope.names.lookup sf = some .local)
    (hk : scope.kind = .function) (hco : scope.isCoroutine = false) (hgen : scope.isGenerator = false) (hnc : ∀ x ∈ scope.names, x.2 ≠ .cell) (hds : (sf == ("__debug__" : Str)) = false)
    (he : h.get? e = some (PySem.HandSPX.excO C t0)) (heC : e ≠ C) (hKe : K.lookup e = none)
    (hq : ∀ h' t' t1, (∀ b o, b ≠ e → h.get? b = some o → h'.get? b = some o) → h'.get? e = some ({ cls := .ref C, data := .fields #[.ref t1, .none, .none, .none, .bool false, .none] } : Obj) → R (.ok (.ret .none)) ⟨h', g, d, t', os⟩) :
    codeAny (model prog w) A (.call (.ref fI) ar) R ⟨h, g, d, t, os⟩ := by
  obtain ⟨nm, N, q, bs, bm, hdct, sn, sub, ab, col, dd, k0, k1, k2, k3, k5, hC, _⟩ := PySem.W.excInit_of X T.made
  obtain ⟨cd, hcl, _⟩ := any_some T.over
  obtain ⟨oc, od, osl, kV, doc, pm, an, ct, hF⟩ := Y.fn
  obtain ⟨c1, d1, vs, s1, file, tf, hcd, hvs, hfile⟩ := Y.cdo
  obtain ⟨c2, d2, s2, hcell⟩ := Y.cell
  subst harg
  refine ks_codeAny_call_defAt (binds := [(arg.arg, .ref e)]) hroom (X _ _ hF) rfl hlim (codeRec_of X Y.code) rfl (BindsTo.of_eq (hbind ..)) hnc (fun x hx => ?_) (fun h1 hns hk1 => ?_) hco hgen hk
  · simp at hx
    subst hx
    exact hkf
  have X1 : K.In h1 := fun b o eb => hk1 b o (X b o eb)
  have G1 : h1.Ns mainGlobals mg := G.keeps hk1
  have B1 : h1.Ns builtinsNs mb := B.keeps hk1
  generalize henv : (callEnv (fnX "__init__" qual params [.Expr (.Call (.Attribute (.Call (.Name "super" p0) [] [] p1) "__init__" p2) [.Constant (.str z) j p3] [] p4) p5] scope [("__class__", cc)] .none kV doc pm an (.ref cda) ct) (PySem.Shared.heap ⟨h, g, d, t, os⟩).objs.size fI) = env
  have ev : env = newEnv scope h.objs.size mainGlobals [("__class__", cc)] (qual ++ ".<locals>.") (some fI) (.ref cda) none builtinsNs := henv.symm
  have es : env.scope = scope := by rw [ev]; rfl
  obtain ⟨pl, hx1⟩ := hx1 env es
  obtain ⟨hi, hsw⟩ := hx2 env es
  have kk : env.scope.kind = .function := by rw [es]; exact hk
  have kf : ∀ {x : Str} {k : NameKind}, scope.names.lookup x = some k → env.kindOf x = some k := fun {x k} e => by
    show env.scope.names.lookup x = some k
    rw [es]; exact e
  have hL : env.locals = h.objs.size := by rw [ev]; rfl
  have hns' : h1.Ns env.locals (fun x => [(arg.arg, Value.ref e)].reverse.lookup x) := by rw [hL]; exact hns
  have hlt : e < h.objs.size := Heap.lt_size he
  refine ks_wpAt_execs_cons (ks_wpAt_Expr_any (ks_wpAt_MethodCall ?_ hx1) hi hsw)
  refine ks_wpAt_super_base (kf hks) (kf hkc) rfl (by rw [ev]; rfl) (X1 _ _ hF) rfl hpar (by rw [ev]; rfl) (X1 _ _ hcd) rfl hvs hfile Y.top ?_
  refine ks_loadName_global kk (kf hks) (loadGlobal_builtin (by rw [ev]; exact G1) hms (by rw [ev]; exact B1) (hbs.trans ?_) ⟨rfl, ?_⟩)
  · decide +kernel
  refine wpAny_loadName_free kk (kf hkc) (c := cc) (by rw [ev]; rfl) ⟨_, X1 _ _ hcell, rfl⟩ ?_
  have hl1 : ([(arg.arg, Value.ref e)].reverse.lookup arg.arg) = some (.ref e) := by
    simp [List.lookup]
  refine wpAny_loadName_local (v := .ref e) kk (kf hkf) hns' hl1 ?_
  have he1 : h1.get? e = some (PySem.HandSPX.excO C t0) := hk1 _ _ he
  have hC1 := hk1 _ _ hC
  refine ks_wpAny_isType_cls hC1 rfl ⟨rfl, ?_⟩
  refine ks_wpAny_call_super hC1 rfl he1 rfl (fun c z => nomatch z) (looks_mroIn X1 Y.self) (fun h2 hso hk2 => ?_)
  have X2 : K.In h2 := fun b o eb => hk2 b o (X1 b o eb)
  have he2 : h2.get? e = some (PySem.HandSPX.excO C t0) := hk2 _ _ he1
  have I2 : PySem.W.InstAt h2 e (PySem.HandSPX.excO C t0) C none := ⟨he2, rfl, rfl, trivial⟩
  have hsup : PySem.W.alongIn K "__init__" ((cd.mro.dropWhile (· != .ref C)).drop 1) = some (some (.builtin "Exception.__init__")) := by
    have e := Y.sup
    unfold PySem.W.ks_superIn at e
    rwa [hcl] at e
  refine PySem.ESX.getMethod_super (x := e) hso (PySem.W.looks_opaque X2 Y.opq) ((PySem.W.looks_clsIn X2 hcl).andThen .now) rfl X2 hsup heC (by decide) (I2.type.andThen (PySem.W.looks_subIn X2 (T.base _ (by simp)))) ?_
  have up3 : ∀ b o, h2.get? b = some o → (h2.push (PySem.ESX.bw e)).get? b = some o := fun b o eb => Heap.get?_push_of_some _ eb
  refine PySem.ESX.callWith_bound (x := e) (e := .Constant (.str z) j p3) (rest := []) (Calls.spliced_cons (Calls.Constant_str (x := z) (k := j) (pos := p3) (Calls.spliced_nil ⟨?_, ?_⟩))) rfl rfl
  · exact Heap.get?_push_size _ rfl
  have X3 : K.In (h2.push (PySem.ESX.bw e)) := fun b o eb => up3 b o (X2 b o eb)
  refine PySem.ESX.call_bw (up3 _ _ (hk2 _ _ hC1)) (up3 _ _ he2) (Heap.get?_push_size _ rfl) (by show 1 ≤ sizeLine; decide) (fun h4 t1 hk4 he4 => ?_)
  have hkk : ∀ b o, b ≠ e → h.get? b = some o → h4.get? b = some o := fun b o hb q => hk4 b o hb (up3 b o (hk2 b o (hk1 b o q)))
  have X4 : K.In h4 := fun b o eb => hk4 b o (fun z => by rw [z, hKe] at eb; cases eb) (X3 b o eb)
  exact PySem.wpAt_of_wpAny (wpAny_execs_nil (hq h4 _ t1 hkk he4))
end
/-- the text of such an __init__, and what its scope tells -/
structure TxtX0 (qual : Str) (params : Arguments) (body : List Stmt) (scope : Scope) (sf : Str) : Prop where
  ex : ∃ (z : Str) (j : Nat) (p0 p1 p2 p3 p4 p5 : Pos) (arg : Arg), body = [.Expr (.Call (.Attribute (.Call (.Name "super" p0) [] [] p1) "__init__" p2) [.Constant (.str z) j p3] [] p4) p5] ∧
    (∀ env : Env, env.scope = scope → ∃ pl : Sem Bool, eval (.Call (.Attribute (.Call (.Name "super" p0) [] [] p1) "__init__" p2) [.Constant (.str z) j p3] [] p4) env = (do
      let ov ← attributeBase (.Call (.Name "super" p0) [] [] p1) "__init__" env (eval (.Call (.Name "super" p0) [] [] p1) env)
      standAt p2.atName
      let (f, first) ← holding [ov] (getMethod ov "__init__" pl)
      callWith p4 f first (backTo p4 (starEach [.Constant (.str z) j p3] env)) [])) ∧
    (∀ env : Env, env.scope = scope → interactive env = false ∧ swapsWith (.Call (.Attribute (.Call (.Name "super" p0) [] [] p1) "__init__" p2) [.Constant (.str z) j p3] [] p4) none p5.line env = pure false) ∧
    (params.posonlyargs ++ params.args).head? = some arg ∧ arg.arg = sf
  bind : ∀ (cda cc e : Addr) (kV doc pm : Value) (an : Option Addr) (ct : Value) (bd : List Stmt), bindArgs (PySem.W.fnX "__init__" qual params bd scope [("__class__", cc)] .none kV doc pm an (.ref cda) ct) ⟨[.ref e], []⟩ = pure [(sf, .ref e)]
  hks : scope.names.lookup ("super" : Str) = some .globalImplicit
  hkc : scope.names.lookup ("__class__" : Str) = some .free
  hkf : scope.names.lookup sf = some .local
  hk : scope.kind = .function
  hco : scope.isCoroutine = false
  hgen : scope.isGenerator = false
  hnc : ∀ x ∈ scope.names, x.2 ≠ .cell
  hds : (sf == ("__debug__" : Str)) = false
/-- an own exception class without a field -/
structure CalX0 (P : Program) (K : PySem.W.Frag) (mg : Str → Option Value) (C : Addr) (x : Str) : Prop where
  gl : mg x = some (.ref C)
  sup : mg "super" = none
  cls : ClsX K C
  ini : ∃ (fI cc cda : Addr) (qual : Str) (params : Arguments) (body : List Stmt) (scope : Scope) (sf : Str), IniX P K C fI cc cda qual params body scope ∧ TxtX0 qual params body scope sf
section
open L2
variable {X : Cx} {pins : List (Addr × Obj)} {σ : St} {H : Hp} {s s' : Shared} {Q : XK} {C at_ e1 : Addr}
/-- an exception without a field, made: nothing of it is ours -/
theorem made_x0 (I : L2.Inv X pins σ H s) (hi : s.heap.objs.size ≤ at_) (keep : ∀ b o, b ≠ at_ → s.heap.get? b = some o → s'.heap.get? b = some o)
    (ob : s'.heap.get? at_ = some (PySem.W.excObj C e1 none .none)) (og : s'.gens = s.gens) (oo : s'.os = s.os) (r : Raises X (.ref C)) (q : Q (.ref C) none H) : MkP X pins σ Q (.ref at_) s' := by
  obtain ⟨G, same, gone⟩ := restrict s'.heap fun b => b != at_
  have inG : ∀ {b}, b ≠ at_ → G.get? b = s'.heap.get? b := fun {b} n => same b (bne_iff_ne.mpr n)
  have old : ∀ b o, s.heap.get? b = some o → b ≠ at_ := fun b o z w => absurd (Heap.lt_size z) (by rw [w]; exact Nat.not_lt.mpr hi)
  have off : G.get? at_ = none := gone at_ (by simp)
  have kept : L2.Inv X pins σ H { s with heap := G, toks := s'.toks } := I.kept fun b o z => (inG (old b o z)).trans (keep b o (old b o z) z)
  refine ⟨at_, _, _, { s with heap := G, toks := s'.toks }, _, .ref C, none, rfl, kept, fun b o z => ?_, off, ob, ⟨rfl, rfl⟩, rfl, rfl, I.hok.fresh hi, oo, og ▸ I.bare, r, q⟩
  have : b ≠ at_ := fun w => by rw [w, off] at z; cases z
  exact (inG this).symm.trans z
/-- C() -/
theorem pmk_x0 {x : Str} {k : Nat} {p pos : Pos} (T : CalX0 X.prog X.K X.mg C x) (room : Room (k + 1) X.A) (hg : Gl X x) (hdb : (x == ("__debug__" : Str)) = false := by decide) (hpl : (backTo pos (starEach [] X.env)).any (·.1) = false := by rfl) :
    PMk X (.Call (.Name x p) [] [] pos) (fun σ H Q => Q (.ref C) none H) := fun pins s σ H Q I h => by
  obtain ⟨fI, cc, cda, qual, params, body, scope, sf, Y, W⟩ := T.ini
  obtain ⟨z, j, p0, p1, p2, p3, p4, p5, arg, rfl, hx1, hx2, hpar, harg⟩ := W.ex
  refine wpAny_Call_Name_kw (ld_glob I hg T.gl ?_ hdb)
  refine PySem.W.callWith_K0 I.kIn T.cls.kept ?_
  obtain ⟨nm, N, qn, bs, bm, hdct, sn, sub, ab, col, dd, k0, k1, k2, k3, k5, hC, hbm⟩ := PySem.W.excInit_of I.kIn T.cls.made
  obtain ⟨hp, g, dr, tk, os⟩ := s
  generalize ex : hp.objs.size + 1 = ea
  have up : ∀ b o, hp.get? b = some o → (freshX hp C).get? b = some o := fun b o z => by
    unfold freshX
    exact Heap.get?_push_of_some _ (Heap.get?_push_of_some _ z)
  have low : ∀ b o, hp.get? b = some o → b ≠ ea := fun b o z => by
    have y : b < hp.objs.size := Heap.lt_size z
    rw [← ex]
    exact Nat.ne_of_lt (Nat.lt_succ_of_lt y)
  have there : (freshX hp C).get? ea = some (PySem.HandSPX.excO C hp.objs.size) := by
    rw [← ex]
    unfold freshX
    heap_get
  obtain ⟨mb, B1, B2⟩ := I.mod.blt
  have kin := I.kIn.keeps up
  refine wpAny_call (kw_call F.excBase_Exception hbm hC (PySem.W.looks_findIn I.kIn Y.ini) (fun self => PySem.W.bind_fn I.kIn self Y.typ) ?_)
  simp only [ex]
  refine init_run0 (K := X.K) (mg := X.mg) (mb := mb) (e := ea) T.cls Y (Room.depth (room.make C [] [])) kin (I.nolimit.keeps up) ((I.mod.glob.keeps I.bk).keeps up) T.sup ((B1.keeps I.bk).keeps up) (B2 _ (by decide)) hx1 hx2 hpar harg (fun kV doc pm an ct bd => W.bind cda cc _ kV doc pm an ct bd)
    W.hks W.hkc W.hkf W.hk W.hco W.hgen W.hnc W.hds there (fun z => low C _ hC z.symm) ?_ fun h' t' t1 keep ob => ⟨rfl, ?_⟩
  · cases kl : X.K.lookup ea with
    | none => rfl
    | some o => exact absurd rfl (low ea o (I.kIn _ _ kl))
  · exact made_x0 I (by rw [← ex]; exact Nat.le_succ _) (fun b o n z => keep b o n (up b o z)) ob rfl rfl (raises_own (T.cls.base _ (by simp)) T.cls.type) h
end
/-! ### raise C() -/
def dRaise0 (cls : Str) : M Fl := fun ρ => .exc ⟨cls, .none⟩ ρ
theorem ds_raise0 {X : L2.Cx} {c : Cc} {W : L2.WX} {x : Str} {C : Addr} {p pos pos' : Pos} {k : Nat} (cm : X.calm = true) (cl : Cl X W (k + 1)) (hk : c.kc.kl x = some C) (T : CalX0 X.prog X.K X.mg C x) (hg : L2.Gl X x)
    (hx : xfn x = "" := by decide) (hdb : (x == ("__debug__" : Str)) = false := by decide) (hpl : (backTo pos (starEach [] X.env)).any (·.1) = false := by rfl) :
    DS X c W (.Raise (some (.Call (.Name x p) [] [] pos)) none pos') (dRaise0 x) := fun gd ioA => by
  refine PS.imp (L2.ps_raise cm cl.tk (pmk_x0 T cl.room hg hdb hpl)) fun D σ H ⟨ρ, P, rp, h⟩ => ?_
  exact h (.ref C) none σ H P (Stp.refl _) rp ⟨C, emp, hk, rfl, ⟨hx, rfl, rfl⟩, same_emp, fun y => Disj.emp⟩
end Den

set_option Elab.async false
set_option linter.all false
set_option maxRecDepth 100000
set_option maxHeartbeats 2500000
/-! DenAW: isinstance(e, C) of a caught exception. -/
namespace Den
open PySem PySem.W PySem.Calls PySem.HandSPX
open PySem.Spec PyProof.Rows
section
variable {prog : Program} {w : World} {A : Around} {E : Value → Shared → Prop} {s : Shared} {K : PySem.W.Frag} {x D : Addr} {ox : Obj} {od : Option Obj}
theorem found_cls (T : L2.ExcC K D) : PySem.W.findObj K D od "__class__" = some (.bind (.builtin "getset_descriptor.__get__") (.builtin "object.__class__")) := by
  obtain ⟨cd, hc, _⟩ := any_some T.hd
  unfold PySem.W.findObj
  simp only [hc, T.ha, T.hn, T.ht, Option.bind_some]
theorem asks_cls (T : L2.ExcC K D) (X : K.In s.heap) (I : PySem.W.InstAt s.heap x ox D od) {Q : Option Value → Shared → Prop} (fin : Q (some (.ref D)) { s with toks := s.toks + 1 }) :
    wpAny (model prog w) A (getAttr? (.ref x) "__class__") Q E s := by
  obtain ⟨hp, g, dr, tk, os⟩ := s
  have ty := I.type (M := model prog w)
  have a1 := PySem.W.looks_findIn (M := model prog w) X T.hg
  have a2 := PySem.W.looks_findIn (M := model prog w) X T.hk
  have a3 := PySem.W.looks_find (M := model prog w) X I (found_cls T)
  have a4 : PySem.W.Looks (model prog w) hp (isInstance (.ref x) (.type "BaseException")) true :=
    ty.andThen (PySem.W.looks_subIn X T.hs)
  have n1 : (Value.builtin "BaseException.__getattribute__" == Value.builtin "object.__getattribute__") = false := by decide +kernel
  unfold getAttr? getAttrBy? getAttrBy
  apply wpAny_bind; apply wpAny_mkText; apply wpAny_bind; apply wpAny_attempt; apply wpAny_holding; apply wpAny_bind
  apply ty.at; apply wpAny_bind; apply a1.at
  simp only [n1, Bool.and_false, Bool.false_eq_true, if_false]
  unfold getAttrByItsOwn hookBefore
  apply wpAny_bind
  rw [if_pos (show onTheHeap (Value.ref D) = true from rfl)]
  apply a2.at; apply wpAny_bind; apply wpAny_attempt; apply wpAny_holding
  unfold callGetattribute
  rw [if_neg (show ¬ (false && onTheHeap (Value.builtin "BaseException.__getattribute__")) = true from by decide)]
  unfold boundAndCalled
  rw [PySem.F.excAttr_ValueError.ga.bind (.ref x)]
  apply wpAny_bind; apply wpAny_pure
  change wpAny _ _ (call (.builtin "BaseException.__getattribute__") [.ref x, .str "__class__" tk]) _ _ _
  apply wpAny_call
  refine codeAny_call_builtin PySem.F.excAttr_ValueError.ga.plain PySem.F.entry_bexc_ga (@check_slot (model prog w) _ _ ⟨hp, g, dr, tk + 1, os⟩ "BaseException.__getattribute__" "BaseException" "__getattribute__" (.ref x) [.str "__class__" tk] [] _ (by decide +kernel) (by decide +kernel) a4
    (PySem.F.args_bexc_ga (.ref x) (.str "__class__" tk)) ?_)
  unfold Builtin.«object.__getattribute__»
  apply wpAny_bind
  refine wpAny_of_eq (a := ((Value.ref x : Value), [Value.str "__class__" tk])) (by first | rfl | (simp only [slotArgs]; rfl)) ?_
  apply wpAny_bind; apply wpAny_pure; apply wpAny_bind; apply ty.at; apply wpAny_bind; apply a3.at
  change wpAny _ _ (holding [Value.builtin "object.__class__"] (call (.builtin "getset_descriptor.__get__") [.builtin "object.__class__", .ref x, .ref D]) >>= ret) _ _ _
  apply wpAny_bind; apply wpAny_holding; apply wpAny_call
  refine PySem.W.class_get (s := ⟨hp, g, dr, tk + 1, os⟩) (ox := ox) (od := od) X I T.hm (wpAny_pure ?_)
  change wpAny _ _ (handedOut (.ref D)) _ _ _
  rw [PySem.W.handedOut_of (v := .ref D) rfl]
  first
    | exact wpAny_pure (wpAny_pure fin)
    | exact wpAny_pure fin
    | exact wpAny_pure (wpAny_bind (wpAny_pure (wpAny_pure fin)))
theorem kit_exc (T : L2.ExcC K D) (ht : PySem.W.typeIn K (.ref D) = some (.type "type")) : PySem.W.KitX K (.ref x) (.ref D) (fun h => PySem.W.InstAt h x ox D od) where
  ty := fun _ _ _ I => I.type
  it := fun M h X _ => by
    obtain ⟨cd, hc, _⟩ := any_some T.hd
    have e : PySem.W.kitCls K (.ref D) (.ref D) = PySem.W.subIn K (.ref D) (.ref D) := by
      show (if ((PySem.W.clsIn K D).isSome && PySem.W.typeIn K (.ref D) == some (.type "type")) = true then PySem.W.subIn K (.ref D) (.ref D) else none) = _
      rw [hc, ht]; rfl
    cases hs : PySem.W.subIn K (.ref D) (.ref D) with
    | some v => exact (PySem.W.kit_cls X (e.trans hs)).2.1
    | none =>
      have := T.hs
      unfold PySem.W.subIn PySem.W.mroIn at hs this
      simp only [hc] at hs this
      simp at hs this
      simp_all
  ne := fun h tp dd its n sl X e => by
    obtain ⟨cd, hc, _⟩ := any_some T.hd
    unfold PySem.W.clsIn at hc
    cases hD : K.lookup D with
    | none => rw [hD] at hc; cases hc
    | some o =>
      rw [hD] at hc
      by_cases z : D = tp
      · subst z
        have := (X _ _ hD).symm.trans e
        cases this
        cases hc
      · simpa using z
  ca := fun X I k => asks_cls T X I k
end

section
open L2
/-- isinstance(e, C), e the caught one -/
theorem call_isX {X : Cx} {a D : Addr} {oe : Obj} {od : Option Addr} {pn : List (Addr × Obj)} (T : ExcC X.K D) (ht : PySem.W.typeIn X.K (.ref D) = some (.type "type")) (hz : Zc (.ref D) od oe) (hf : ∃ vs, oe.data = .fields vs) :
    CallR (X.suite a ((a, oe) :: pn)) (.builtin "isinstance") (fun xs H Q => (∀ d, od = some d → ∃ fs, H d = some (.xd fs)) ∧ rIsE X.K D a xs H Q) := by
  intro pins s σ H xs us Q I r h
  obtain ⟨hd, c, cv, b, rfl, hcv, e, q⟩ := h
  match us, r with
  | [_, _], .cons rx (.cons rt .nil) =>
    obtain rfl := hcv _ rt
    obtain rfl := rx
    obtain ⟨at_, _⟩ := I.pin (a, oe) (List.mem_append.mpr (.inl List.mem_cons_self))
    obtain ⟨vs, hv⟩ := hf
    obtain ⟨oc, odd, oda, osl⟩ := oe
    obtain ⟨rfl, rfl⟩ := hz
    dsimp only at hv
    subst hv
    have fin : ∀ tk, EP (X.suite a ((a, (⟨.ref D, odd, .fields vs, osl⟩ : Obj)) :: pn)) pins σ Q (.bool b) { s with toks := tk } := fun tk => ⟨.bl b, H, I.kept (t' := tk) fun _ _ z => z, rfl, q⟩
    cases odd with
    | none => exact PySem.W.kia_one (kit_exc (od := none) T ht) I.kIn ⟨at_, rfl, rfl, trivial⟩ e (fun z => nomatch z) fin
    | some d =>
      obtain ⟨fs, hH⟩ := hd d rfl
      obtain ⟨mA, hns, hr⟩ : ObjOk X.prog X.w H s.heap d (.xd fs) := I.hok d _ hH
      obtain ⟨od, ho, hl⟩ := lookIn_ns hns
      exact PySem.W.kia_one (kit_exc (od := some od) T ht) I.kIn ⟨at_, rfl, rfl, ho⟩ e (fun z => nomatch z) fin
/-- .. by data: i the caught one's slot -/
def dIsX (i : Nat) (xs : List Str) (x : Str) : M PD := fun ρ => match ρ.sl[i]? with
  | some (.xc y) => if y.cls ∈ xs then .ok (.bool (y.cls == x)) ρ else .bad
  | _ => .bad
theorem de_isx {X : Cx} {c : Cc} {xs : List Str} {n x : Str} {C : Addr} {p p2 p3 pos : Pos} (i : Nat) (hT : ∀ y ∈ xs, ∀ Cn, c.kc.kl y = some Cn → ExcC c.kc.K Cn ∧ PySem.W.typeIn c.kc.K (.ref Cn) = some (.type "type") ∧ PySem.W.kitOne c.kc.K (.ref Cn) (.ref C) = some (y == x))
    (hgx : Gl X x) (hmx : X.mg x = some (.ref C)) (hg : Gl X "isinstance") (hm : X.mg "isinstance" = none) (hN : X.N[i]? = some n := by rfl) (hv : Vis X.env.scope n := by first | exact Or.inl rfl | exact Or.inr (Or.inl rfl) | exact Or.inr (Or.inr rfl))
    (hd : (n == ("__debug__" : Str)) = false := by decide) (hcd : (n == ("__classdict__" : Str)) = false := by decide) (hdx : (x == ("__debug__" : Str)) = false := by decide)
    (hs : starEach [.Name n p2, .Name x p3] X.env = (false, eval (.Name n p2) X.env) :: starEach [.Name x p3] X.env := by rfl) (hs2 : starEach [.Name x p3] X.env = (false, eval (.Name x p3) X.env) :: starEach [] X.env := by rfl)
    (hpl : (backTo pos (starEach [.Name x p3] X.env)).any (·.1) = false := by rfl) :
    BkS X c fun Y c' => DE Y c' noW (.Call (.Name "isinstance" p) [.Name n p2, .Name x p3] [] pos) (dIsX i xs x) := fun a oe cls d pn hz hf gd ioA => by
  refine ⟨fun pins s σ H Q I ⟨ρ, P, rp, h⟩ => ?_⟩
  unfold tMat dIsX at h
  cases e : ρ.sl[i]? with
  | none => simp only [e] at h
  | some s0 =>
    cases s0 with
    | xc y =>
      simp only [e] at h
      by_cases hy : y.cls ∈ xs
      case neg => rw [if_neg hy] at h; exact h.elim
      rw [if_pos hy] at h
      obtain ⟨a', Cn, dd, q1, q2, ⟨rfl, rfl, rfl⟩, q4⟩ := rp.so i _ e
      obtain ⟨T, ht, hk⟩ := hT y.cls hy Cn q2
      have K := gd.hK
      have two : PA (X.suite a' ((a', oe) :: pn)) [.Name n p2, .Name x p3] (tCons (tVar i) (tCons (tC (.ref C)) tNil)) := pa_cons (pe_var hN hv hd hcd) (pa_cons (pe_glob hgx hmx (show RelV (V.ref C) (.ref C) from rfl) hdx) pa_nil hs2) hs
      refine (pe_callB (call_isX (X := X) (K ▸ T) (K ▸ ht) hz hf) hg hm boot_isinstance two (by decide) (by decide) hs hpl).run pins s σ H Q I ?_
      refine ⟨_, q1, fun d' ed => ?_, .ref C, .ref C, y.cls == x, rfl, fun u ru => ru, K ▸ hk, h (.bl _) H P (Stp.refl _) rp (.bl _)⟩
      subst ed
      obtain ⟨v, q5, _⟩ := q4
      exact ⟨_, rp.pc.sub (.sl i) d' _ (by rw [q5]; exact one_same)⟩
    | _ => simp only [e] at h
/-- the class's part, as a test -/
def excB (K : PySem.W.Frag) (D : Addr) : Bool := (He.eqO (PySem.W.findIn K (.ref D) "__getattribute__") (some (some (.builtin "BaseException.__getattribute__"))) && (He.eqO (PySem.W.findIn K (.ref D) "__getattr__") (some none) && decide (PySem.W.subIn K (.ref D) (.type "BaseException") = some true))) &&
  ((PySem.W.hasDictIn K D && (He.eqO (PySem.W.findIn K (.ref D) "__class__") (some (some (.builtin "object.__class__"))) && He.eqO (PySem.W.specialIn K (.builtin "object.__class__") "__get__") (some (some (.builtin "getset_descriptor.__get__"))))) &&
  (decide (PySem.W.takesIn K (.builtin "object.__class__") = some true) && decide (PySem.W.mroIn K D (.type "object") = some true)))
theorem excB_ok {K : PySem.W.Frag} {D : Addr} (h : excB K D = true) : ExcC K D := by
  unfold excB at h
  simp only [Bool.and_eq_true, decide_eq_true_eq] at h
  obtain ⟨⟨h1, h2, h3⟩, ⟨h4, h5, h6⟩, h7, h8⟩ := h
  exact ⟨He.eqO_ok h1, He.eqO_ok h2, h3, h4, He.eqO_ok h5, He.eqO_ok h6, h7, h8⟩
def isB (K : PySem.W.Frag) (ns xs : List Str) : Bool := ns.all fun n => excB K (He.ga K n) && (decide (PySem.W.typeIn K (.ref (He.ga K n)) = some (.type "type")) && xs.all fun x => decide (PySem.W.kitOne K (.ref (He.ga K n)) (.ref (He.ga K x)) = some (n == x)))
theorem isB_ok {K : PySem.W.Frag} {ns xs : List Str} (h : isB K ns xs = true) {n x : Str} (hn : n ∈ ns) (hx : x ∈ xs) : ExcC K (He.ga K n) ∧ PySem.W.typeIn K (.ref (He.ga K n)) = some (.type "type") ∧ PySem.W.kitOne K (.ref (He.ga K n)) (.ref (He.ga K x)) = some (n == x) := by
  have := List.all_eq_true.mp h n hn
  simp only [Bool.and_eq_true, decide_eq_true_eq, List.all_eq_true] at this
  exact ⟨excB_ok this.1, this.2.1, this.2.2 x hx⟩
end
/-! ### the plain rules -/
section
variable {ρ : Rho} {E : Xc → Rho → Prop} {Q : Fl → Rho → Prop}
end
end Den

set_option Elab.async false
set_option linter.all false
set_option maxRecDepth 100000
/-! DenAX: own exception classes, told by tests over lists of names. -/
namespace Den
open PySem PySem.Spec
open PyProof.Rows L2
/-- the classes ns, the clauses hs, the fields fs -/
def grpB (K : PySem.W.Frag) (ns hs fs : List Str) : Bool := ns.all fun n => L2.xfB K (He.ga K n) && (hs.all (fun x => decide (PySem.W.exmOne K (.ref (He.ga K n)) (.ref (He.ga K x)) = some (mt n x))) && fs.all fun f => He.eqO (PySem.W.findIn K (.ref (He.ga K n)) f) (some none))
theorem grpB_ok {K : PySem.W.Frag} {ns hs fs : List Str} (h : grpB K ns hs fs = true) {n : Str} (hn : n ∈ ns) : L2.XfC K (He.ga K n) ∧ (∀ x ∈ hs, PySem.W.exmOne K (.ref (He.ga K n)) (.ref (He.ga K x)) = some (mt n x)) ∧ ∀ f ∈ fs, PySem.W.findIn K (.ref (He.ga K n)) f = some none := by
  have := List.all_eq_true.mp h n hn
  simp only [Bool.and_eq_true, List.all_eq_true, decide_eq_true_eq] at this
  exact ⟨L2.xfB_ok this.1, this.2.1, fun f hf => He.eqO_ok (this.2.2 f hf)⟩
theorem ExI.mkX {P : Program} {K : PySem.W.Frag} {mg : Str → Option Value} {e : ExI} {sf : Str} (ok : e.ok P K = true) (v : iniW K (He.ga K e.x) = e.val) (gl : mg e.x = some (.ref (He.ga K e.x))) (sup : mg "super" = none)
    (no : PySem.W.findIn K (.ref (He.ga K e.x)) e.f = some none) (T : TxtX e.qual e.params e.body e.scope e.f e.f sf) : MkX P K mg (He.ga K e.x) e.x e.f := by
  refine ⟨ExI.calX ok v gl sup no T, ExI.xfc ok, ?_⟩
  unfold ExI.ok at ok
  simp only [Bool.and_eq_true] at ok
  obtain ⟨_, c2, _⟩ := ok
  obtain ⟨cc, cda, Y⟩ := iniB_ok c2 v
  exact ⟨_, cc, cda, _, _, _, _, sf, Y, T⟩
theorem ExI.calX0 {P : Program} {K : PySem.W.Frag} {mg : Str → Option Value} {e : ExI} {sf : Str} (ok : e.ok P K = true) (v : iniW K (He.ga K e.x) = e.val) (gl : mg e.x = some (.ref (He.ga K e.x))) (sup : mg "super" = none)
    (T : TxtX0 e.qual e.params e.body e.scope sf) : CalX0 P K mg (He.ga K e.x) e.x := by
  unfold ExI.ok at ok
  simp only [Bool.and_eq_true] at ok
  obtain ⟨c1, c2, _⟩ := ok
  obtain ⟨cc, cda, Y⟩ := iniB_ok c2 v
  exact ⟨gl, sup, clsB_ok c1, _, cc, cda, _, _, _, _, sf, Y, T⟩
end Den

set_option Elab.async false
set_option linter.all false
set_option maxRecDepth 100000
set_option maxHeartbeats 4000000
/-! DenPo: the plain part, what speaks of no def. -/
namespace Den
open PySem PySem.Spec
open PyProof.Rows L2
def lenB (d : PD) (n : Int) : Bool := match seqOf d with
  | some ds => decide ((ds.length : Int) = n)
  | none => false
def letters : Str := "abcdefghijklmnopqrstuvwxyz"
def isLet (c : Nat) : Bool := !(Builtin.Str.occurrences letters ⟨#[c]⟩ 0 letters.length 1).isEmpty
def nameB (z : Str) : Bool := decide (1 ≤ z.length) && decide (z.length ≤ 8) && z.cps.toList.all isLet
theorem lenB_iff {v : PD} {n : Int} : lenB v n = true ↔ ∃ ds, seqOf v = some ds ∧ (ds.length : Int) = n := by
  unfold lenB
  cases seqOf v <;> simp
theorem seq_or {v : PD} {ds : List PD} (h : seqOf v = some ds) : v = .list ds ∨ v = .tuple ds := by
  cases v <;> simp [seqOf] at h <;> simp [h]
theorem two {v : PD} (h : lenB v 2 = true) : ∃ a b, v = .list [a, b] ∨ v = .tuple [a, b] := by
  obtain ⟨ds, h1, h2⟩ := lenB_iff.mp h
  match ds, h2 with
  | [a, b], _ => exact ⟨a, b, seq_or h1⟩
def Fine (d : PD) : Prop := ∃ m, fine m d = true
abbrev Kd := Str × Nat
def kP (k : Kd) : PD := .tuple [.str k.1, .int k.2]
def ksP (ks : List Kd) : PD := .tuple (ks.map kP)
def nP (n : Nat) : PD := .int n
def natO (d : PD) (lim : Nat) : Option Nat := match d with
  | .int i => if 0 ≤ i ∧ i < lim then some i.toNat else none
  | _ => none
theorem natO_eq {d : PD} {lim n : Nat} (h : natO d lim = some n) : d = nP n ∧ n < lim := by
  unfold natO at h
  split at h
  · split at h
    · cases h
      rename_i i hc
      exact ⟨by unfold nP; congr 1; omega, by omega⟩
    · cases h
  · cases h
theorem natO_nP {n lim : Nat} (h : n < lim) : natO (nP n) lim = some n := by
  unfold natO nP
  simp only
  rw [if_pos ⟨by omega, by omega⟩]
  simp
def natsO : List Nat → List PD → Option (List Nat)
  | [], [] => some []
  | l :: ls, d :: ds => (natO d l).bind fun n => (natsO ls ds).map (n :: ·)
  | _, _ => none
theorem natsO_eq : ∀ {ls : List Nat} {ds : List PD} {ns : List Nat}, natsO ls ds = some ns → ds = ns.map nP ∧ ns.length = ls.length ∧ ∀ i n : Nat, ns[i]? = some n → ∃ l : Nat, ls[i]? = some l ∧ n < l
  | [], [], ns, h => by cases h; simp
  | l :: ls, d :: ds, ns, h => by
    unfold natsO at h
    cases h1 : natO d l with
    | none => rw [h1] at h; cases h
    | some n =>
      rw [h1, Option.bind_some] at h
      cases h2 : natsO ls ds with
      | none => rw [h2] at h; cases h
      | some ms =>
        rw [h2] at h
        cases h
        obtain ⟨e1, e2⟩ := natO_eq h1
        obtain ⟨q1, q2, q3⟩ := natsO_eq h2
        refine ⟨by rw [e1, q1]; rfl, by simp [q2], fun i m hm => ?_⟩
        cases i with
        | zero => simp at hm; subst hm; exact ⟨l, rfl, e2⟩
        | succ i => exact q3 i m (by simpa using hm)
  | [], _ :: _, _, h => by cases h
  | _ :: _, [], _, h => by cases h
theorem natsO_nP : ∀ {ls ns : List Nat}, ns.length = ls.length → (∀ i n l : Nat, ns[i]? = some n → ls[i]? = some l → n < l) → natsO ls (ns.map nP) = some ns
  | [], [], _, _ => rfl
  | l :: ls, n :: ns, h, q => by
    have h1 : n < l := q 0 n l rfl rfl
    have h2 := natsO_nP (ls := ls) (ns := ns) (by simpa using h) fun i m k e1 e2 => q (i + 1) m k (by simpa using e1) (by simpa using e2)
    rw [List.map_cons, natsO, natO_nP h1, Option.bind_some, h2]
    rfl
  | [], _ :: _, h, _ => by simp at h
  | _ :: _, [], h, _ => by simp at h
theorem natsO_len {ls : List Nat} {ds : List PD} {ns : List Nat} (h : natsO ls ds = some ns) : ds.length = ls.length := by
  obtain ⟨e1, e2, _⟩ := natsO_eq h
  rw [e1, List.length_map, e2]
def rsP (ns : List Nat) : PD := .tuple (ns.map nP)
theorem gLen_seq {v : PD} {ds : List PD} (h : seqOf v = some ds) : gLen [v] = some (.int ds.length) := by rcases seq_or h with rfl | rfl <;> rfl
theorem pGet_seq {v : PD} {ds : List PD} (h : seqOf v = some ds) (i : Int) : pGet v (.int i) = atI ds i := by rcases seq_or h with rfl | rfl <;> rfl
def limK (ks : List Kd) (r : Nat) : Nat := (ks[r]?.map (·.2)).getD 0
def lims (ks : List Kd) (roles : List Nat) : List Nat := roles.map (limK ks)
abbrev Rw := List Nat × List Nat
def rowP (r : Rw) : PD := .tuple [rsP r.1, rsP r.2]
def rwsP (rs : List Rw) : PD := .tuple (rs.map rowP)
abbrev Tl := Str × List Nat × List Rw
def tlP (t : Tl) : PD := .tuple [.str t.1, rsP t.2.1, rwsP t.2.2]
def tsP (ts : List Tl) : PD := .tuple (ts.map tlP)
abbrev R4 := Nat × Nat × Nat × Nat
def rpP (r : R4) : PD := .tuple [nP r.1, nP r.2.1, nP r.2.2.1, nP r.2.2.2]
def rpsP (rs : List R4) : PD := .tuple (rs.map rpP)
def way (r : R4) : List Nat := [r.1, r.2.1, r.2.2.1]
abbrev Asc (rs : List Rw) : Prop := rs.Pairwise fun a b => a.1 < b.1
/-- what is known of an accepted tool -/
structure VTool (ks : List Kd) (t : Tl) : Prop where
  len1 : 1 ≤ t.2.1.length
  len3 : t.2.1.length ≤ 3
  below : ∀ r ∈ t.2.1, r < ks.length
  rows : ∀ w ∈ t.2.2, natsO (lims ks t.2.1) (w.1.map nP) = some w.1 ∧ natsO (lims ks t.2.1) (w.2.map nP) = some w.2
  asc : Asc t.2.2
  few : t.2.2.length ≤ 1000
theorem VTool.ne {ks : List Kd} {t : Tl} (h : VTool ks t) : ∀ w ∈ t.2.2, w.1 ≠ [] := fun w hw e => by
  have h1 := natsO_len (h.rows w hw).1
  have h2 := h.len1
  rw [e] at h1
  unfold lims at h1
  simp at h1
  omega
/-- one statement, then the rest -/
theorem wp_seq {g h : M Fl} {ρ ρ1 : Rho} {Q : Fl → Rho → Prop} {E : Xc → Rho → Prop} (a : Wp g ρ (fun fl r => fl = .nx ∧ r = ρ1) (fun _ _ => False)) (k : Wp h ρ1 Q E) : Wp (dSeq g h) ρ Q E := by
  rw [wp_dSeq, wp_of (ok_of_wp a)]
  exact k
def Box (b : List PD) : Prop := ∃ x y z : Int, b = [.int x, .int y, .int z]
theorem wp_seqP {g h : M Fl} {ρ : Rho} {Q : Fl → Rho → Prop} {E : Xc → Rho → Prop} (P : Rho → Prop) (a : Wp g ρ (fun fl r => fl = .nx ∧ P r) (fun _ _ => False)) (k : ∀ r, P r → Wp h r Q E) : Wp (dSeq g h) ρ Q E := by
  rw [wp_dSeq]
  refine a.mono (fun fl r ⟨e, p⟩ => ?_) fun _ _ z => z.elim
  subst e
  exact k r p
theorem wp_at {α : Type} {m : M α} {ρ ρ1 : Rho} {a1 : α} {Q : α → Rho → Prop} {E : Xc → Rho → Prop} (h : Wp m ρ (fun a r => a = a1 ∧ r = ρ1) (fun _ _ => False)) (q : Q a1 ρ1) : Wp m ρ Q E := by
  rw [wp_of (ok_of_wp h)]
  exact q
theorem wp_ifT {t : M Bool} {g h k : M Fl} {ρ : Rho} {Q : Fl → Rho → Prop} {E : Xc → Rho → Prop} {b : Bool} (et : t ρ = .ok b ρ) : Wp (dSeq (dIf t g h) k) ρ Q E = if b = true then Wp (dSeq g k) ρ Q E else Wp (dSeq h k) ρ Q E := by
  rw [wp_dSeq, wp_dIf, wp_of et, wp_dSeq, wp_dSeq]
theorem wp_assoc {a b k : M Fl} {ρ : Rho} {Q : Fl → Rho → Prop} {E : Xc → Rho → Prop} : Wp (dSeq (dSeq a b) k) ρ Q E = Wp (dSeq a (dSeq b k)) ρ Q E := by
  simp only [wp_dSeq]
  congr; funext fl r
  cases fl <;> rfl
theorem wp_skip {k : M Fl} {ρ : Rho} {Q : Fl → Rho → Prop} {E : Xc → Rho → Prop} : Wp (dSeq dNext k) ρ Q E = Wp k ρ Q E := by
  simp only [wp_dSeq, wp_dNext]
theorem wp_retseq {f : M PD} {k : M Fl} {ρ : Rho} {Q : Fl → Rho → Prop} {E : Xc → Rho → Prop} : Wp (dSeq (dRet f) k) ρ Q E = Wp (dRet f) ρ Q E := by
  simp only [wp_dSeq, wp_dRet]
@[simp] theorem rng_nP (n : Nat) : rngI 0 n = (List.range n).map nP := by
  unfold rngI nP
  simp
def Bd (a ls : List Nat) : Prop := a.length = ls.length ∧ ∀ i n l : Nat, a[i]? = some n → ls[i]? = some l → n < l
theorem Bd.ok {a ls : List Nat} (h : Bd a ls) : natsO ls (a.map nP) = some a := natsO_nP h.1 h.2
theorem Bd.snoc {a ls : List Nat} (h : Bd a ls) {n l : Nat} (hn : n < l) : Bd (a ++ [n]) (ls ++ [l]) := by
  refine ⟨by simp [h.1], fun i m k e1 e2 => ?_⟩
  by_cases hi : i < a.length
  · rw [List.getElem?_append_left hi] at e1
    rw [List.getElem?_append_left (by rw [← h.1]; exact hi)] at e2
    exact h.2 i m k e1 e2
  · have h2 : i = a.length := by
      have : i < (a ++ [n]).length := by
        rcases Nat.lt_or_ge i (a ++ [n]).length with q | q
        · exact q
        · rw [List.getElem?_eq_none q] at e1; cases e1
      simp at this
      omega
    subst h2
    rw [List.getElem?_append_right (Nat.le_refl _)] at e1
    rw [h.1, List.getElem?_append_right (Nat.le_refl _)] at e2
    simp at e1 e2
    omega
/-- ns as far as the limits go -/
def Upto (ls ns : List Nat) : Prop := ∀ i n : Nat, ns[i]? = some n → ∃ l, ls[i]? = some l ∧ n < l
theorem Upto.snoc {ls ns : List Nat} (h : Upto ls ns) {n l : Nat} (e : ls[ns.length]? = some l) (hn : n < l) : Upto ls (ns ++ [n]) := fun i m e1 => by
  by_cases hi : i < ns.length
  · rw [List.getElem?_append_left hi] at e1
    exact h i m e1
  · have h2 : i = ns.length := by
      have : i < (ns ++ [n]).length := by
        rcases Nat.lt_or_ge i (ns ++ [n]).length with q | q
        · exact q
        · rw [List.getElem?_eq_none q] at e1; cases e1
      simp at this
      omega
    subst h2
    simp at e1
    subst e1
    exact ⟨l, e, hn⟩
theorem Upto.bd {ls ns : List Nat} (h : Upto ls ns) (e : ns.length = ls.length) : Bd ns ls := ⟨e, fun i n l e1 e2 => by
  obtain ⟨k, k1, k2⟩ := h i n e1
  rw [e2] at k1
  cases k1
  exact k2⟩
section
variable {ρ : Rho} {E : Xc → Rho → Prop} {n : Nat} {r : List El}
end
/-- kinds that were drawn -/
structure VKs (ks : List Kd) : Prop where
  pos : 1 ≤ ks.length
  few : ks.length ≤ 6
  one : ∀ k ∈ ks, nameB k.1 = true ∧ PyData.strOk k.1 = true ∧ k.1.length ≤ 8 ∧ 1 ≤ k.2 ∧ k.2 ≤ 6
  nd : (ks.map (·.1)).Nodup
theorem VKs.lim {ks : List Kd} (h : VKs ks) (r : Nat) : limK ks r ≤ 6 := by
  unfold limK
  cases e : ks[r]? with
  | none => simp
  | some k => exact (h.one k (List.mem_of_getElem? e)).2.2.2.2
theorem Fine.int (i : Int) : Fine (.int i) := ⟨0, rfl⟩
theorem Fine.nP (n : Nat) : Fine (nP n) := ⟨0, rfl⟩
theorem Fine.str {z : Str} (h : z.length ≤ 8) (h2 : PyData.strOk z = true) : Fine (.str z) := ⟨0, by simp [fine, h2]; omega⟩
theorem fine_mono : ∀ {m n : Nat} {d : PD}, m ≤ n → fine m d = true → fine n d = true
  | m, n, .none, _, _ => by cases n <;> rfl
  | m, n, .bool _, _, _ => by cases n <;> rfl
  | m, n, .int _, _, _ => by cases n <;> rfl
  | m, n, .str z, _, h => by cases m <;> cases n <;> exact h
  | 0, n, .list xs, _, h => by cases h
  | 0, n, .tuple xs, _, h => by cases h
  | m + 1, 0, .list xs, l, h => by omega
  | m + 1, 0, .tuple xs, l, h => by omega
  | m + 1, n + 1, .list xs, l, h => by
    simp only [fine, Bool.and_eq_true, List.all_eq_true] at h ⊢
    exact ⟨h.1, fun x hx => fine_mono (by omega) (h.2 x hx)⟩
  | m + 1, n + 1, .tuple xs, l, h => by
    simp only [fine, Bool.and_eq_true, List.all_eq_true] at h ⊢
    exact ⟨h.1, fun x hx => fine_mono (by omega) (h.2 x hx)⟩
  | m, n, .dict _, _, h => by cases m <;> cases h
theorem fine_all : ∀ {xs : List PD}, (∀ x ∈ xs, Fine x) → ∃ m, ∀ x ∈ xs, fine m x = true
  | [], _ => ⟨0, by simp⟩
  | x :: r, h => by
    obtain ⟨m1, h1⟩ := h x List.mem_cons_self
    obtain ⟨m2, h2⟩ := fine_all (xs := r) fun y hy => h y (List.mem_cons_of_mem _ hy)
    refine ⟨max m1 m2, fun y hy => ?_⟩
    rcases List.mem_cons.mp hy with rfl | hy
    · exact fine_mono (Nat.le_max_left _ _) h1
    · exact fine_mono (Nat.le_max_right _ _) (h2 y hy)
theorem Fine.tup {xs : List PD} (h : ∀ x ∈ xs, Fine x) (l : xs.length ≤ 1000) : Fine (.tuple xs) := by
  obtain ⟨m, hm⟩ := fine_all h
  exact ⟨m + 1, by simp only [fine, Bool.and_eq_true, List.all_eq_true]; exact ⟨by simpa using l, hm⟩⟩
theorem Fine.lst {xs : List PD} (h : ∀ x ∈ xs, Fine x) (l : xs.length ≤ 1000) : Fine (.list xs) := by
  obtain ⟨m, hm⟩ := fine_all h
  exact ⟨m + 1, by simp only [fine, Bool.and_eq_true, List.all_eq_true]; exact ⟨by simpa using l, hm⟩⟩
theorem Fine.none : Fine .none := ⟨0, rfl⟩
theorem Fine.bool (b : Bool) : Fine (.bool b) := ⟨0, rfl⟩
theorem Fine.rs {ns : List Nat} (l : ns.length ≤ 1000) : Fine (rsP ns) := Fine.tup (fun x hx => by
  obtain ⟨n, _, rfl⟩ := List.mem_map.mp hx
  exact Fine.nP n) (by simpa using l)
theorem Fine.pair {a b : PD} (ha : Fine a) (hb : Fine b) : Fine (.tuple [a, b]) := Fine.tup (fun x hx => by
  simp at hx
  rcases hx with rfl | rfl <;> assumption) (by simp)
theorem VKs.fine {ks : List Kd} (V : VKs ks) : Fine (ksP ks) := Fine.tup (fun x hx => by
  obtain ⟨k, hk, rfl⟩ := List.mem_map.mp hx
  obtain ⟨_, h2, h3, _⟩ := V.one k hk
  exact Fine.pair (Fine.str h3 h2) (Fine.int _)) (by have := V.few; simp; omega)
/-- tools that were drawn -/
structure VTs (ks : List Kd) (ts : List Tl) : Prop where
  few : ts.length ≤ 20
  tool : ∀ t ∈ ts, VTool ks t
  name : ∀ t ∈ ts, nameB t.1 = true ∧ PyData.strOk t.1 = true ∧ t.1.length ≤ 8
  nd : (ts.map (·.1)).Nodup
/-- repairs that were drawn -/
structure VRs (ks : List Kd) (rs : List R4) : Prop where
  few : rs.length ≤ 1000
  one : ∀ r ∈ rs, r.1 < ks.length ∧ r.2.1 < limK ks r.1 ∧ r.2.2.1 < limK ks r.1 ∧ r.2.1 ≠ r.2.2.1 ∧ 1 ≤ r.2.2.2 ∧ r.2.2.2 ≤ 1000000
  asc : rs.Pairwise fun a b => way a < way b
theorem VTs.fine {ks : List Kd} {ts : List Tl} (V : VTs ks ts) : Fine (tsP ts) := Fine.tup (fun x hx => by
  obtain ⟨t, ht, rfl⟩ := List.mem_map.mp hx
  obtain ⟨_, h2, h3⟩ := V.name t ht
  have vt := V.tool t ht
  have l3 := vt.len3
  refine Fine.tup (fun y hy => ?_) (by simp)
  simp at hy
  rcases hy with rfl | rfl | rfl
  · exact Fine.str h3 h2
  · exact Fine.rs (by omega)
  · refine Fine.tup (fun z hz => ?_) (by simpa using vt.few)
    obtain ⟨w, hw, rfl⟩ := List.mem_map.mp hz
    have e1 := natsO_len (vt.rows w hw).1
    have e2 := natsO_len (vt.rows w hw).2
    unfold lims at e1 e2
    rw [List.length_map, List.length_map] at e1 e2
    exact Fine.pair (Fine.rs (by omega)) (Fine.rs (by omega))) (by have := V.few; simp; omega)
theorem VRs.fine {ks : List Kd} {rs : List R4} (V : VRs ks rs) : Fine (rpsP rs) := Fine.tup (fun x hx => by
  obtain ⟨r, _, rfl⟩ := List.mem_map.mp hx
  refine Fine.tup (fun y hy => ?_) (by simp)
  simp at hy
  rcases hy with rfl | rfl | rfl | rfl <;> exact Fine.nP _) (by simpa using V.few)
structure RGood (ks : List Kd) (rs : List R4) (w : List Nat) (L : Nat) : Prop where
  one : ∀ r ∈ rs, r.1 < ks.length ∧ r.2.1 < limK ks r.1 ∧ r.2.2.1 < limK ks r.1 ∧ r.2.1 ≠ r.2.2.1 ∧ 1 ≤ r.2.2.2 ∧ r.2.2.2 ≤ 1000000
  asc : rs.Pairwise fun a b => way a < way b
  ahead : ∀ r ∈ rs, way r < w
  len : rs.length ≤ L
theorem RGood.mono {ks : List Kd} {rs : List R4} {w w' : List Nat} {L L' : Nat} (h : RGood ks rs w L) (lt : w < w') (l : L ≤ L') : RGood ks rs w' L' := ⟨h.one, h.asc, fun r hr => List.lt_trans (h.ahead r hr) lt, Nat.le_trans h.len l⟩
theorem mem_range_nP {n i : Nat} {d : PD} (h : ((List.range n).map nP)[i]? = some d) : d = nP i ∧ i < n := by
  rw [List.getElem?_map] at h
  rcases Nat.lt_or_ge i n with z | z
  · rw [List.getElem?_range z] at h
    cases h
    exact ⟨rfl, z⟩
  · rw [List.getElem?_eq_none (by simpa using z)] at h; cases h
section
variable {states : Nat} {ns : List Str} {ks : List Kd} {ts : List Tl} {few : Nat}
end
/-- may be shown, and the text compared -/
structure Sw (n L : Nat) (d : PD) : Prop where
  sh : Sh n L d
  st : PyData.strOk d.shown = true
theorem Sw.ne {n L : Nat} {d : PD} (h : Sw n L d) : pNe (.str d.shown) (.str d.shown) = some (.bool false) := by
  have e : OkN 0 (.str d.shown) := okN_str (by simpa [PyData.canLay0] using h.st)
  rw [pNe_ok e e]
  simp [PyData.eqv]
theorem Sw.mono {n m L L' : Nat} {d : PD} (h : Sw n L d) (l : n ≤ m) (l' : L ≤ L') : Sw m L' d := ⟨h.sh.mono l l', h.st⟩
end Den

set_option Elab.async false
set_option linter.all false
set_option maxRecDepth 100000
set_option maxHeartbeats 4000000
namespace K00
open PySem PySem.Spec Den
open PyProof.Rows L2
def top (i : Nat) : Stmt := PySem.Challenge.pw_lateno_k00_whole_errors_and_what_they_ke.main.body.getD i (.Pass ⟨0, 0, 0, 0⟩)
/-- what the module leaves to the language, its numbers and texts -/
structure Gs (mg : Str → Option Value) : Prop where
  n_abs : mg "abs" = none
  n_int : mg "int" = none
  n_isinstance : mg "isinstance" = none
  n_len : mg "len" = none
  n_range : mg "range" = none
section
variable {P : Program} {w : World} {K : PySem.W.Frag} {mg : Str → Option Value} {base : PySem.Heap} {kc : Kc} {f : Addr}
def g__law_box : M Fl := dSeq (dSet 2 (dOp2 pAdd (dkE (dOp2 pMul (dkE (mpure (.int 6007))) (dkVar 1))) (dkE (mpure (.int 281))))) (dSeq (dIf (asB (dOp2 pLt (dkVar 1) (dkE (dCB gLen (dKs (dkVar 0) (mpure [])))))) (dSet 2 (dCB gAbs (dKs (dkE (dOp2 pGet (dkVar 0) (dkVar 1))) (mpure [])))) (dIf (asB (dOp2 pGt (dkE (dCB gLen (dKs (dkVar 0) (mpure [])))) (dkE (mpure (.int 0))))) (dSet 2 (dOp2 pAdd (dkVar 2) (dkE (dOp2 pMul (dkE (dOp2 pMod (dkE (dCB gInt (dKs (dkE (dCB gAbs (dKs (dkE (dOp2 pGet (dkVar 0) (dkE (dOp2 pMod (dkE (dCB gInt (dKs (dkVar 1) (mpure [])))) (dkE (dCB gLen (dKs (dkVar 0) (mpure [])))))))) (mpure [])))) (mpure [])))) (dkE (mpure (.int 2147483629))))) (dkE (mpure (.int 70009))))))) (dNext))) (dRetF (dLst (dEs (dOp2 pGet (dkE (mbind (dLst (dEs (mpure (.int 0)) (dEs (dVar 2) (mpure [])))) (fun xs => mpure (.list xs)))) (dkE (dCB gInt (dKs (dkE (dOp2 pGe (dkVar 2) (dkE (dOp2 pPow (dkE (mpure (.int 10))) (dkE (mpure (.int 18))))))) (mpure []))))) (dEs (dOp2 pAdd (dkE (dOp2 pMod (dkE (dCB gInt (dKs (dkE (dOp2 pAdd (dkE (dOp2 pMul (dkE (dOp2 pMod (dkE (dCB gInt (dKs (dkVar 2) (mpure [])))) (dkE (mpure (.int 2147483629))))) (dkE (mpure (.int 44017))))) (dkE (dOp2 pMul (dkE (mpure (.int 53089))) (dkVar 1))))) (mpure [])))) (dkE (mpure (.int 2147483629))))) (dkE (mpure (.int 1)))) (dEs (mpure (.int 0)) (mpure [])))))))
def F__law_box : FD := runB 3 2 g__law_box
theorem sc__law_box : FnScope ["script", "k", "cell"] ["script", "k"] (defScope (top 31)) := ⟨rfl, rfl, rfl, by decide +kernel, rfl, by decide +kernel, by decide +kernel⟩
theorem b__law_box (fa : Gs mg) : Body P w K mg base kc 0 ["script", "k", "cell"] "_law_box" (defScope (top 31)) f (defBody (top 31)) g__law_box := fun cdv A outer s H E cl =>
  have hN := (sc__law_box).nd
  dss_cons (ds_set 2 (de_op o_add (dk_e (de_op o_mul (dk_e (de_int)) (dk_var 1))) (dk_e (de_int))) hN) (dss_cons (ds_if (dt_cmp o_lt (dk_var 1) (dk_e (de_cb c_len rfl (by decide +kernel) rfl fa.n_len (dks_cons (dk_var 0) (dks_nil)))) rfl) (dss_one (ds_set 2 (de_cb c_abs rfl (by decide +kernel) rfl fa.n_abs (dks_cons (dk_e (de_ix (dk_var 0) (dk_var 1))) (dks_nil))) hN)) (dss_one (ds_if (dt_cmp o_gt (dk_e (de_cb c_len rfl (by decide +kernel) rfl fa.n_len (dks_cons (dk_var 0) (dks_nil)))) (dk_e (de_int)) rfl) (dss_one (ds_set 2 (de_op o_add (dk_var 2) (dk_e (de_op o_mul (dk_e (de_op o_mod (dk_e (de_cty c_int rfl (by decide +kernel) rfl fa.n_int (dks_cons (dk_e (de_cb c_abs rfl (by decide +kernel) rfl fa.n_abs (dks_cons (dk_e (de_ix (dk_var 0) (dk_e (de_op o_mod (dk_e (de_cty c_int rfl (by decide +kernel) rfl fa.n_int (dks_cons (dk_var 1) (dks_nil)))) (dk_e (de_cb c_len rfl (by decide +kernel) rfl fa.n_len (dks_cons (dk_var 0) (dks_nil)))))))) (dks_nil)))) (dks_nil)))) (dk_e (de_int)))) (dk_e (de_int))))) hN)) (dss_nil)))) (dss_one (ds_retF (df_lst (des_cons (de_ix (dk_e (de_f (df_lst (des_cons (de_int) (des_cons (de_var 2) (des_nil)))))) (dk_e (de_cty c_int rfl (by decide +kernel) rfl fa.n_int (dks_cons (dk_e (de_cmp o_ge (dk_var 2) (dk_e (de_op o_pow (dk_e (de_int)) (dk_e (de_int)))) rfl)) (dks_nil))))) (des_cons (de_op o_add (dk_e (de_op o_mod (dk_e (de_cty c_int rfl (by decide +kernel) rfl fa.n_int (dks_cons (dk_e (de_op o_add (dk_e (de_op o_mul (dk_e (de_op o_mod (dk_e (de_cty c_int rfl (by decide +kernel) rfl fa.n_int (dks_cons (dk_var 2) (dks_nil)))) (dk_e (de_int)))) (dk_e (de_int)))) (dk_e (de_op o_mul (dk_e (de_int)) (dk_var 1))))) (dks_nil)))) (dk_e (de_int)))) (dk_e (de_int))) (des_cons (de_int) (des_nil))))))))

def g__law_take : M Fl := dSeq (dIf (asB (dOp2 pGt (dkE (dOp2 pGet (dkVar 0) (dkE (mpure (.int 0))))) (dkE (mpure (.int 0))))) (dSeq (dSet 3 (dOp2 pMod (dkE (dCB gInt (dKs (dkE (dOp2 pGet (dkVar 0) (dkE (mpure (.int 0))))) (mpure [])))) (dkVar 1))) (dSeq (dSetI 0 (mpure (.int 0)) (dOp2 pFdiv (dkE (dOp2 pGet (dkVar 0) (dkE (mpure (.int 0))))) (dkVar 1))) (dRet (dVar 3)))) (dNext)) (dSeq (dSetI 0 (mpure (.int 2)) (dOp2 pAdd (dkE (dOp2 pGet (dkVar 0) (dkE (mpure (.int 2))))) (dkE (mpure (.int 1))))) (dSeq (dSet 2 (dOp2 pMod (dkE (dCB gInt (dKs (dkE (dOp2 pAdd (dkE (dOp2 pMul (dkE (dOp2 pAdd (dkE (dOp2 pGet (dkVar 0) (dkE (mpure (.int 1))))) (dkE (dOp2 pMul (dkE (mpure (.int 70001))) (dkE (dOp2 pGet (dkVar 0) (dkE (mpure (.int 2))))))))) (dkE (mpure (.int 61211))))) (dkE (mpure (.int 37))))) (mpure [])))) (dkE (mpure (.int 2147483563))))) (dSeq (dSetI 0 (mpure (.int 1)) (dOp2 pAdd (dkE (dOp2 pMod (dkE (dCB gInt (dKs (dkE (dOp2 pAdd (dkE (dOp2 pMul (dkVar 2) (dkE (mpure (.int 38011))))) (dkE (mpure (.int 23057))))) (mpure [])))) (dkE (mpure (.int 2147483629))))) (dkE (mpure (.int 1))))) (dRet (dOp2 pMod (dkE (dCB gInt (dKs (dkE (dOp2 pFdiv (dkE (dOp2 pAdd (dkE (dOp2 pMul (dkVar 2) (dkE (mpure (.int 2147483647))))) (dkE (dOp2 pGet (dkVar 0) (dkE (mpure (.int 1))))))) (dkE (mpure (.int 8191))))) (mpure [])))) (dkVar 1))))))
def F__law_take : FD := runB 4 2 g__law_take
theorem sc__law_take : FnScope ["box", "many", "raw", "digit"] ["box", "many"] (defScope (top 32)) := ⟨rfl, rfl, rfl, by decide +kernel, rfl, by decide +kernel, by decide +kernel⟩
theorem b__law_take (fa : Gs mg) : Body P w K mg base kc 0 ["box", "many", "raw", "digit"] "_law_take" (defScope (top 32)) f (defBody (top 32)) g__law_take := fun cdv A outer s H E cl =>
  have hN := (sc__law_take).nd
  dss_cons (ds_if (dt_cmp o_gt (dk_e (de_ix (dk_var 0) (dk_e (de_int)))) (dk_e (de_int)) rfl) (dss_cons (ds_set 3 (de_op o_mod (dk_e (de_cty c_int rfl (by decide +kernel) rfl fa.n_int (dks_cons (dk_e (de_ix (dk_var 0) (dk_e (de_int)))) (dks_nil)))) (dk_var 1)) hN) (dss_cons (ds_setI 0 (de_op o_fdiv (dk_e (de_ix (dk_var 0) (dk_e (de_int)))) (dk_var 1)) (de_int)) (dss_one (ds_ret (de_var 3))))) (dss_nil)) (dss_cons (ds_setI 0 (de_op o_add (dk_e (de_ix (dk_var 0) (dk_e (de_int)))) (dk_e (de_int))) (de_int)) (dss_cons (ds_set 2 (de_op o_mod (dk_e (de_cty c_int rfl (by decide +kernel) rfl fa.n_int (dks_cons (dk_e (de_op o_add (dk_e (de_op o_mul (dk_e (de_op o_add (dk_e (de_ix (dk_var 0) (dk_e (de_int)))) (dk_e (de_op o_mul (dk_e (de_int)) (dk_e (de_ix (dk_var 0) (dk_e (de_int)))))))) (dk_e (de_int)))) (dk_e (de_int)))) (dks_nil)))) (dk_e (de_int))) hN) (dss_cons (ds_setI 0 (de_op o_add (dk_e (de_op o_mod (dk_e (de_cty c_int rfl (by decide +kernel) rfl fa.n_int (dks_cons (dk_e (de_op o_add (dk_e (de_op o_mul (dk_var 2) (dk_e (de_int)))) (dk_e (de_int)))) (dks_nil)))) (dk_e (de_int)))) (dk_e (de_int))) (de_int)) (dss_one (ds_ret (de_op o_mod (dk_e (de_cty c_int rfl (by decide +kernel) rfl fa.n_int (dks_cons (dk_e (de_op o_fdiv (dk_e (de_op o_add (dk_e (de_op o_mul (dk_var 2) (dk_e (de_int)))) (dk_e (de_ix (dk_var 0) (dk_e (de_int)))))) (dk_e (de_int)))) (dks_nil)))) (dk_var 1)))))))

noncomputable def g__law_pick : M Fl := dRet (dOp2 pGet (dkVar 1) (dkE (dCall F__law_take (.io 0 :: .val (dCB gLen (dKs (dkVar 1) (mpure []))) :: []))))
noncomputable def F__law_pick : FD := runB 2 2 g__law_pick
theorem sc__law_pick : FnScope ["box", "some"] ["box", "some"] (defScope (top 33)) := ⟨rfl, rfl, rfl, by decide +kernel, rfl, by decide +kernel, by decide +kernel⟩
theorem b__law_pick (fa : Gs mg) (h__law_take : Cal P w K mg base kc 1 "_law_take" F__law_take) : Body P w K mg base kc 1 ["box", "some"] "_law_pick" (defScope (top 33)) f (defBody (top 33)) g__law_pick := fun cdv A outer s H E cl =>
  have hN := (sc__law_pick).nd
  dss_one (ds_ret (de_ix (dk_var 1) (dk_e (de_call h__law_take cl (by decide) rfl (das_io 0 (das_val (de_cb c_len rfl (by decide +kernel) rfl fa.n_len (dks_cons (dk_var 1) (dks_nil))) (das_nil)))))))

def g__law_raise_a : M Fl := dIf (asB (dOp2 pEq (dkVar 0) (dkE (mpure (.int 0))))) (dRaise "InvalidDesk" (dVar 1)) (dIf (asB (dOp2 pEq (dkVar 0) (dkE (mpure (.int 1))))) (dRaise "InvalidHistory" (dVar 1)) (dIf (asB (dOp2 pEq (dkVar 0) (dkE (mpure (.int 2))))) (dRaise "InvalidStruck" (dVar 1)) (dIf (asB (dOp2 pEq (dkVar 0) (dkE (mpure (.int 3))))) (dRaise "InvalidText" (dVar 1)) (dIf (asB (dOp2 pEq (dkVar 0) (dkE (mpure (.int 4))))) (dRaise "InvalidTry" (dVar 1)) (dIf (asB (dOp2 pEq (dkVar 0) (dkE (mpure (.int 5))))) (dRaise "InvalidIndex" (dVar 1)) (dIf (asB (dOp2 pEq (dkVar 0) (dkE (mpure (.int 6))))) (dRaise "InvalidSort" (dVar 1)) (dIf (asB (dOp2 pEq (dkVar 0) (dkE (mpure (.int 7))))) (dRaise "InvalidStep" (dVar 1)) (dNext))))))))
def F__law_raise_a : FD := runB 2 2 g__law_raise_a
theorem sc__law_raise_a : FnScope ["number", "thing"] ["number", "thing"] (defScope (top 34)) := ⟨rfl, rfl, rfl, by decide +kernel, rfl, by decide +kernel, by decide +kernel⟩
theorem b__law_raise_a (fa : Gs mg) {C_InvalidDesk : Addr} (k_InvalidDesk : kc.kl "InvalidDesk" = some C_InvalidDesk) (x_InvalidDesk : CalX P K mg C_InvalidDesk "InvalidDesk" "at") {C_InvalidHistory : Addr} (k_InvalidHistory : kc.kl "InvalidHistory" = some C_InvalidHistory) (x_InvalidHistory : CalX P K mg C_InvalidHistory "InvalidHistory" "at") {C_InvalidStruck : Addr} (k_InvalidStruck : kc.kl "InvalidStruck" = some C_InvalidStruck) (x_InvalidStruck : CalX P K mg C_InvalidStruck "InvalidStruck" "at") {C_InvalidText : Addr} (k_InvalidText : kc.kl "InvalidText" = some C_InvalidText) (x_InvalidText : CalX P K mg C_InvalidText "InvalidText" "at") {C_InvalidTry : Addr} (k_InvalidTry : kc.kl "InvalidTry" = some C_InvalidTry) (x_InvalidTry : CalX P K mg C_InvalidTry "InvalidTry" "at") {C_InvalidIndex : Addr} (k_InvalidIndex : kc.kl "InvalidIndex" = some C_InvalidIndex) (x_InvalidIndex : CalX P K mg C_InvalidIndex "InvalidIndex" "at") {C_InvalidSort : Addr} (k_InvalidSort : kc.kl "InvalidSort" = some C_InvalidSort) (x_InvalidSort : CalX P K mg C_InvalidSort "InvalidSort" "at") {C_InvalidStep : Addr} (k_InvalidStep : kc.kl "InvalidStep" = some C_InvalidStep) (x_InvalidStep : CalX P K mg C_InvalidStep "InvalidStep" "at") : Body P w K mg base kc 1 ["number", "thing"] "_law_raise_a" (defScope (top 34)) f (defBody (top 34)) g__law_raise_a := fun cdv A outer s H E cl =>
  have hN := (sc__law_raise_a).nd
  dss_one (ds_if (dt_cmp o_eq (dk_var 0) (dk_e (de_int)) rfl) (dss_one (ds_raise rfl cl k_InvalidDesk x_InvalidDesk rfl (de_var 1))) (dss_one (ds_if (dt_cmp o_eq (dk_var 0) (dk_e (de_int)) rfl) (dss_one (ds_raise rfl cl k_InvalidHistory x_InvalidHistory rfl (de_var 1))) (dss_one (ds_if (dt_cmp o_eq (dk_var 0) (dk_e (de_int)) rfl) (dss_one (ds_raise rfl cl k_InvalidStruck x_InvalidStruck rfl (de_var 1))) (dss_one (ds_if (dt_cmp o_eq (dk_var 0) (dk_e (de_int)) rfl) (dss_one (ds_raise rfl cl k_InvalidText x_InvalidText rfl (de_var 1))) (dss_one (ds_if (dt_cmp o_eq (dk_var 0) (dk_e (de_int)) rfl) (dss_one (ds_raise rfl cl k_InvalidTry x_InvalidTry rfl (de_var 1))) (dss_one (ds_if (dt_cmp o_eq (dk_var 0) (dk_e (de_int)) rfl) (dss_one (ds_raise rfl cl k_InvalidIndex x_InvalidIndex rfl (de_var 1))) (dss_one (ds_if (dt_cmp o_eq (dk_var 0) (dk_e (de_int)) rfl) (dss_one (ds_raise rfl cl k_InvalidSort x_InvalidSort rfl (de_var 1))) (dss_one (ds_if (dt_cmp o_eq (dk_var 0) (dk_e (de_int)) rfl) (dss_one (ds_raise rfl cl k_InvalidStep x_InvalidStep rfl (de_var 1))) (dss_nil))))))))))))))))

def g__law_raise_b : M Fl := dIf (asB (dOp2 pEq (dkVar 0) (dkE (mpure (.int 8))))) (dRaise "InvalidNumber" (dVar 1)) (dIf (asB (dOp2 pEq (dkVar 0) (dkE (mpure (.int 9))))) (dRaise "InvalidLot" (dVar 1)) (dIf (asB (dOp2 pEq (dkVar 0) (dkE (mpure (.int 10))))) (dRaise "InvalidPlan" (dVar 1)) (dIf (asB (dOp2 pEq (dkVar 0) (dkE (mpure (.int 11))))) (dRaise "InvalidMoves" (dVar 1)) (dIf (asB (dOp2 pEq (dkVar 0) (dkE (mpure (.int 12))))) (dRaise "InvalidOffers" (dVar 1)) (dIf (asB (dOp2 pEq (dkVar 0) (dkE (mpure (.int 13))))) (dRaise "InvalidRules" (dVar 1)) (dIf (asB (dOp2 pEq (dkVar 0) (dkE (mpure (.int 14))))) (dRaise "InvalidBound" (dVar 1)) (dIf (asB (dOp2 pEq (dkVar 0) (dkE (mpure (.int 15))))) (dRaise "Refused" (dVar 1)) (dNext))))))))
def F__law_raise_b : FD := runB 2 2 g__law_raise_b
theorem sc__law_raise_b : FnScope ["number", "thing"] ["number", "thing"] (defScope (top 35)) := ⟨rfl, rfl, rfl, by decide +kernel, rfl, by decide +kernel, by decide +kernel⟩
theorem b__law_raise_b (fa : Gs mg) {C_InvalidNumber : Addr} (k_InvalidNumber : kc.kl "InvalidNumber" = some C_InvalidNumber) (x_InvalidNumber : CalX P K mg C_InvalidNumber "InvalidNumber" "at") {C_InvalidLot : Addr} (k_InvalidLot : kc.kl "InvalidLot" = some C_InvalidLot) (x_InvalidLot : CalX P K mg C_InvalidLot "InvalidLot" "at") {C_InvalidPlan : Addr} (k_InvalidPlan : kc.kl "InvalidPlan" = some C_InvalidPlan) (x_InvalidPlan : CalX P K mg C_InvalidPlan "InvalidPlan" "at") {C_InvalidMoves : Addr} (k_InvalidMoves : kc.kl "InvalidMoves" = some C_InvalidMoves) (x_InvalidMoves : CalX P K mg C_InvalidMoves "InvalidMoves" "at") {C_InvalidOffers : Addr} (k_InvalidOffers : kc.kl "InvalidOffers" = some C_InvalidOffers) (x_InvalidOffers : CalX P K mg C_InvalidOffers "InvalidOffers" "at") {C_InvalidRules : Addr} (k_InvalidRules : kc.kl "InvalidRules" = some C_InvalidRules) (x_InvalidRules : CalX P K mg C_InvalidRules "InvalidRules" "at") {C_InvalidBound : Addr} (k_InvalidBound : kc.kl "InvalidBound" = some C_InvalidBound) (x_InvalidBound : CalX P K mg C_InvalidBound "InvalidBound" "at") {C_Refused : Addr} (k_Refused : kc.kl "Refused" = some C_Refused) (x_Refused : CalX P K mg C_Refused "Refused" "at") : Body P w K mg base kc 1 ["number", "thing"] "_law_raise_b" (defScope (top 35)) f (defBody (top 35)) g__law_raise_b := fun cdv A outer s H E cl =>
  have hN := (sc__law_raise_b).nd
  dss_one (ds_if (dt_cmp o_eq (dk_var 0) (dk_e (de_int)) rfl) (dss_one (ds_raise rfl cl k_InvalidNumber x_InvalidNumber rfl (de_var 1))) (dss_one (ds_if (dt_cmp o_eq (dk_var 0) (dk_e (de_int)) rfl) (dss_one (ds_raise rfl cl k_InvalidLot x_InvalidLot rfl (de_var 1))) (dss_one (ds_if (dt_cmp o_eq (dk_var 0) (dk_e (de_int)) rfl) (dss_one (ds_raise rfl cl k_InvalidPlan x_InvalidPlan rfl (de_var 1))) (dss_one (ds_if (dt_cmp o_eq (dk_var 0) (dk_e (de_int)) rfl) (dss_one (ds_raise rfl cl k_InvalidMoves x_InvalidMoves rfl (de_var 1))) (dss_one (ds_if (dt_cmp o_eq (dk_var 0) (dk_e (de_int)) rfl) (dss_one (ds_raise rfl cl k_InvalidOffers x_InvalidOffers rfl (de_var 1))) (dss_one (ds_if (dt_cmp o_eq (dk_var 0) (dk_e (de_int)) rfl) (dss_one (ds_raise rfl cl k_InvalidRules x_InvalidRules rfl (de_var 1))) (dss_one (ds_if (dt_cmp o_eq (dk_var 0) (dk_e (de_int)) rfl) (dss_one (ds_raise rfl cl k_InvalidBound x_InvalidBound rfl (de_var 1))) (dss_one (ds_if (dt_cmp o_eq (dk_var 0) (dk_e (de_int)) rfl) (dss_one (ds_raise rfl cl k_Refused x_Refused rfl (de_var 1))) (dss_nil))))))))))))))))

def g__law_raise_c : M Fl := dIf (asB (dOp2 pEq (dkVar 0) (dkE (mpure (.int 16))))) (dRaise "InvalidSize" (dVar 1)) (dIf (asB (dOp2 pEq (dkVar 0) (dkE (mpure (.int 17))))) (dRaise "InvalidWants" (dVar 1)) (dIf (asB (dOp2 pEq (dkVar 0) (dkE (mpure (.int 18))))) (dRaise "InvalidLedger" (dVar 1)) (dIf (asB (dOp2 pEq (dkVar 0) (dkE (mpure (.int 19))))) (dRaise "InvalidHouse" (dVar 1)) (dIf (asB (dOp2 pEq (dkVar 0) (dkE (mpure (.int 20))))) (dRaise "InvalidSeam" (dVar 1)) (dIf (asB (dOp2 pEq (dkVar 0) (dkE (mpure (.int 21))))) (dRaise "InvalidLots" (dVar 1)) (dIf (asB (dOp2 pEq (dkVar 0) (dkE (mpure (.int 22))))) (dRaise "InvalidPromise" (dVar 1)) (dIf (asB (dOp2 pEq (dkVar 0) (dkE (mpure (.int 23))))) (dRaise "InvalidContract" (dVar 1)) (dNext))))))))
def F__law_raise_c : FD := runB 2 2 g__law_raise_c
theorem sc__law_raise_c : FnScope ["number", "thing"] ["number", "thing"] (defScope (top 36)) := ⟨rfl, rfl, rfl, by decide +kernel, rfl, by decide +kernel, by decide +kernel⟩
theorem b__law_raise_c (fa : Gs mg) {C_InvalidSize : Addr} (k_InvalidSize : kc.kl "InvalidSize" = some C_InvalidSize) (x_InvalidSize : CalX P K mg C_InvalidSize "InvalidSize" "word") {C_InvalidWants : Addr} (k_InvalidWants : kc.kl "InvalidWants" = some C_InvalidWants) (x_InvalidWants : CalX P K mg C_InvalidWants "InvalidWants" "at") {C_InvalidLedger : Addr} (k_InvalidLedger : kc.kl "InvalidLedger" = some C_InvalidLedger) (x_InvalidLedger : CalX P K mg C_InvalidLedger "InvalidLedger" "at") {C_InvalidHouse : Addr} (k_InvalidHouse : kc.kl "InvalidHouse" = some C_InvalidHouse) (x_InvalidHouse : CalX P K mg C_InvalidHouse "InvalidHouse" "at") {C_InvalidSeam : Addr} (k_InvalidSeam : kc.kl "InvalidSeam" = some C_InvalidSeam) (x_InvalidSeam : CalX P K mg C_InvalidSeam "InvalidSeam" "at") {C_InvalidLots : Addr} (k_InvalidLots : kc.kl "InvalidLots" = some C_InvalidLots) (x_InvalidLots : CalX P K mg C_InvalidLots "InvalidLots" "at") {C_InvalidPromise : Addr} (k_InvalidPromise : kc.kl "InvalidPromise" = some C_InvalidPromise) (x_InvalidPromise : CalX P K mg C_InvalidPromise "InvalidPromise" "at") {C_InvalidContract : Addr} (k_InvalidContract : kc.kl "InvalidContract" = some C_InvalidContract) (x_InvalidContract : CalX P K mg C_InvalidContract "InvalidContract" "at") : Body P w K mg base kc 1 ["number", "thing"] "_law_raise_c" (defScope (top 36)) f (defBody (top 36)) g__law_raise_c := fun cdv A outer s H E cl =>
  have hN := (sc__law_raise_c).nd
  dss_one (ds_if (dt_cmp o_eq (dk_var 0) (dk_e (de_int)) rfl) (dss_one (ds_raise rfl cl k_InvalidSize x_InvalidSize rfl (de_var 1))) (dss_one (ds_if (dt_cmp o_eq (dk_var 0) (dk_e (de_int)) rfl) (dss_one (ds_raise rfl cl k_InvalidWants x_InvalidWants rfl (de_var 1))) (dss_one (ds_if (dt_cmp o_eq (dk_var 0) (dk_e (de_int)) rfl) (dss_one (ds_raise rfl cl k_InvalidLedger x_InvalidLedger rfl (de_var 1))) (dss_one (ds_if (dt_cmp o_eq (dk_var 0) (dk_e (de_int)) rfl) (dss_one (ds_raise rfl cl k_InvalidHouse x_InvalidHouse rfl (de_var 1))) (dss_one (ds_if (dt_cmp o_eq (dk_var 0) (dk_e (de_int)) rfl) (dss_one (ds_raise rfl cl k_InvalidSeam x_InvalidSeam rfl (de_var 1))) (dss_one (ds_if (dt_cmp o_eq (dk_var 0) (dk_e (de_int)) rfl) (dss_one (ds_raise rfl cl k_InvalidLots x_InvalidLots rfl (de_var 1))) (dss_one (ds_if (dt_cmp o_eq (dk_var 0) (dk_e (de_int)) rfl) (dss_one (ds_raise rfl cl k_InvalidPromise x_InvalidPromise rfl (de_var 1))) (dss_one (ds_if (dt_cmp o_eq (dk_var 0) (dk_e (de_int)) rfl) (dss_one (ds_raise rfl cl k_InvalidContract x_InvalidContract rfl (de_var 1))) (dss_nil))))))))))))))))

def g__law_raise_d : M Fl := dIf (asB (dOp2 pEq (dkVar 0) (dkE (mpure (.int 24))))) (dRaise "InvalidCosts" (dVar 1)) (dIf (asB (dOp2 pEq (dkVar 0) (dkE (mpure (.int 25))))) (dRaise "InvalidTools" (dVar 1)) (dIf (asB (dOp2 pEq (dkVar 0) (dkE (mpure (.int 26))))) (dRaise "InvalidWaits" (dVar 1)) (dIf (asB (dOp2 pEq (dkVar 0) (dkE (mpure (.int 27))))) (dRaise0 "InvalidCommand") (dNext))))
def F__law_raise_d : FD := runB 2 2 g__law_raise_d
theorem sc__law_raise_d : FnScope ["number", "thing"] ["number", "thing"] (defScope (top 37)) := ⟨rfl, rfl, rfl, by decide +kernel, rfl, by decide +kernel, by decide +kernel⟩
theorem b__law_raise_d (fa : Gs mg) {C_InvalidCosts : Addr} (k_InvalidCosts : kc.kl "InvalidCosts" = some C_InvalidCosts) (x_InvalidCosts : CalX P K mg C_InvalidCosts "InvalidCosts" "at") {C_InvalidTools : Addr} (k_InvalidTools : kc.kl "InvalidTools" = some C_InvalidTools) (x_InvalidTools : CalX P K mg C_InvalidTools "InvalidTools" "at") {C_InvalidWaits : Addr} (k_InvalidWaits : kc.kl "InvalidWaits" = some C_InvalidWaits) (x_InvalidWaits : CalX P K mg C_InvalidWaits "InvalidWaits" "at") {C_InvalidCommand : Addr} (k_InvalidCommand : kc.kl "InvalidCommand" = some C_InvalidCommand) (x_InvalidCommand : CalX0 P K mg C_InvalidCommand "InvalidCommand") : Body P w K mg base kc 1 ["number", "thing"] "_law_raise_d" (defScope (top 37)) f (defBody (top 37)) g__law_raise_d := fun cdv A outer s H E cl =>
  have hN := (sc__law_raise_d).nd
  dss_one (ds_if (dt_cmp o_eq (dk_var 0) (dk_e (de_int)) rfl) (dss_one (ds_raise rfl cl k_InvalidCosts x_InvalidCosts rfl (de_var 1))) (dss_one (ds_if (dt_cmp o_eq (dk_var 0) (dk_e (de_int)) rfl) (dss_one (ds_raise rfl cl k_InvalidTools x_InvalidTools rfl (de_var 1))) (dss_one (ds_if (dt_cmp o_eq (dk_var 0) (dk_e (de_int)) rfl) (dss_one (ds_raise rfl cl k_InvalidWaits x_InvalidWaits rfl (de_var 1))) (dss_one (ds_if (dt_cmp o_eq (dk_var 0) (dk_e (de_int)) rfl) (dss_one (ds_raise0 rfl cl k_InvalidCommand x_InvalidCommand rfl)) (dss_nil))))))))

noncomputable def g__law_raise : M Fl := dIf (asB (dOp2 pLt (dkVar 0) (dkE (mpure (.int 8))))) (dDrop (dCall F__law_raise_a (.val (dVar 0) :: .val (dVar 1) :: []))) (dIf (asB (dOp2 pLt (dkVar 0) (dkE (mpure (.int 16))))) (dDrop (dCall F__law_raise_b (.val (dVar 0) :: .val (dVar 1) :: []))) (dIf (asB (dOp2 pLt (dkVar 0) (dkE (mpure (.int 24))))) (dDrop (dCall F__law_raise_c (.val (dVar 0) :: .val (dVar 1) :: []))) (dDrop (dCall F__law_raise_d (.val (dVar 0) :: .val (dVar 1) :: [])))))
noncomputable def F__law_raise : FD := runB 2 2 g__law_raise
theorem sc__law_raise : FnScope ["number", "thing"] ["number", "thing"] (defScope (top 38)) := ⟨rfl, rfl, rfl, by decide +kernel, rfl, by decide +kernel, by decide +kernel⟩
theorem b__law_raise (fa : Gs mg) (h__law_raise_a : Cal P w K mg base kc 2 "_law_raise_a" F__law_raise_a) (h__law_raise_b : Cal P w K mg base kc 2 "_law_raise_b" F__law_raise_b) (h__law_raise_c : Cal P w K mg base kc 2 "_law_raise_c" F__law_raise_c) (h__law_raise_d : Cal P w K mg base kc 2 "_law_raise_d" F__law_raise_d) : Body P w K mg base kc 2 ["number", "thing"] "_law_raise" (defScope (top 38)) f (defBody (top 38)) g__law_raise := fun cdv A outer s H E cl =>
  have hN := (sc__law_raise).nd
  dss_one (ds_if (dt_cmp o_lt (dk_var 0) (dk_e (de_int)) rfl) (dss_one (ds_expr (de_call h__law_raise_a cl (by decide) rfl (das_val (de_var 0) (das_val (de_var 1) (das_nil)))))) (dss_one (ds_if (dt_cmp o_lt (dk_var 0) (dk_e (de_int)) rfl) (dss_one (ds_expr (de_call h__law_raise_b cl (by decide) rfl (das_val (de_var 0) (das_val (de_var 1) (das_nil)))))) (dss_one (ds_if (dt_cmp o_lt (dk_var 0) (dk_e (de_int)) rfl) (dss_one (ds_expr (de_call h__law_raise_c cl (by decide) rfl (das_val (de_var 0) (das_val (de_var 1) (das_nil)))))) (dss_one (ds_expr (de_call h__law_raise_d cl (by decide) rfl (das_val (de_var 0) (das_val (de_var 1) (das_nil)))))))))))

noncomputable def g__law_caught_a : M Fl := dSeq (dTryN ["InvalidDesk", "InvalidHistory", "InvalidStruck", "InvalidText", "InvalidTry", "InvalidIndex", "InvalidSort", "InvalidStep", "InvalidNumber", "InvalidLot", "InvalidPlan", "InvalidMoves", "InvalidOffers", "InvalidRules", "InvalidBound", "Refused", "InvalidSize", "InvalidWants", "InvalidLedger", "InvalidHouse", "InvalidSeam", "InvalidLots", "InvalidPromise", "InvalidContract", "InvalidCosts", "InvalidTools", "InvalidWaits", "InvalidCommand"] (dDrop (dCall F__law_raise (.val (dVar 0) :: .val (dVar 1) :: []))) ((some 2, "InvalidDesk", dRet (dTup (dEs (mpure (.int 0)) (dEs (dXf 2 ["InvalidDesk", "InvalidHistory", "InvalidStruck", "InvalidText", "InvalidTry", "InvalidIndex", "InvalidSort", "InvalidStep", "InvalidNumber", "InvalidLot", "InvalidPlan", "InvalidMoves", "InvalidOffers", "InvalidRules", "InvalidBound", "Refused", "InvalidSize", "InvalidWants", "InvalidLedger", "InvalidHouse", "InvalidSeam", "InvalidLots", "InvalidPromise", "InvalidContract", "InvalidCosts", "InvalidTools", "InvalidWaits", "InvalidCommand"] "at") (mpure []))))) :: (some 2, "InvalidHistory", dRet (dTup (dEs (mpure (.int 1)) (dEs (dXf 2 ["InvalidDesk", "InvalidHistory", "InvalidStruck", "InvalidText", "InvalidTry", "InvalidIndex", "InvalidSort", "InvalidStep", "InvalidNumber", "InvalidLot", "InvalidPlan", "InvalidMoves", "InvalidOffers", "InvalidRules", "InvalidBound", "Refused", "InvalidSize", "InvalidWants", "InvalidLedger", "InvalidHouse", "InvalidSeam", "InvalidLots", "InvalidPromise", "InvalidContract", "InvalidCosts", "InvalidTools", "InvalidWaits", "InvalidCommand"] "at") (mpure []))))) :: (some 2, "InvalidStruck", dRet (dTup (dEs (mpure (.int 2)) (dEs (dXf 2 ["InvalidDesk", "InvalidHistory", "InvalidStruck", "InvalidText", "InvalidTry", "InvalidIndex", "InvalidSort", "InvalidStep", "InvalidNumber", "InvalidLot", "InvalidPlan", "InvalidMoves", "InvalidOffers", "InvalidRules", "InvalidBound", "Refused", "InvalidSize", "InvalidWants", "InvalidLedger", "InvalidHouse", "InvalidSeam", "InvalidLots", "InvalidPromise", "InvalidContract", "InvalidCosts", "InvalidTools", "InvalidWaits", "InvalidCommand"] "at") (mpure []))))) :: (some 2, "InvalidText", dRet (dTup (dEs (mpure (.int 3)) (dEs (dXf 2 ["InvalidDesk", "InvalidHistory", "InvalidStruck", "InvalidText", "InvalidTry", "InvalidIndex", "InvalidSort", "InvalidStep", "InvalidNumber", "InvalidLot", "InvalidPlan", "InvalidMoves", "InvalidOffers", "InvalidRules", "InvalidBound", "Refused", "InvalidSize", "InvalidWants", "InvalidLedger", "InvalidHouse", "InvalidSeam", "InvalidLots", "InvalidPromise", "InvalidContract", "InvalidCosts", "InvalidTools", "InvalidWaits", "InvalidCommand"] "at") (mpure []))))) :: (some 2, "InvalidTry", dRet (dTup (dEs (mpure (.int 4)) (dEs (dXf 2 ["InvalidDesk", "InvalidHistory", "InvalidStruck", "InvalidText", "InvalidTry", "InvalidIndex", "InvalidSort", "InvalidStep", "InvalidNumber", "InvalidLot", "InvalidPlan", "InvalidMoves", "InvalidOffers", "InvalidRules", "InvalidBound", "Refused", "InvalidSize", "InvalidWants", "InvalidLedger", "InvalidHouse", "InvalidSeam", "InvalidLots", "InvalidPromise", "InvalidContract", "InvalidCosts", "InvalidTools", "InvalidWaits", "InvalidCommand"] "at") (mpure []))))) :: (some 2, "InvalidIndex", dRet (dTup (dEs (mpure (.int 5)) (dEs (dXf 2 ["InvalidDesk", "InvalidHistory", "InvalidStruck", "InvalidText", "InvalidTry", "InvalidIndex", "InvalidSort", "InvalidStep", "InvalidNumber", "InvalidLot", "InvalidPlan", "InvalidMoves", "InvalidOffers", "InvalidRules", "InvalidBound", "Refused", "InvalidSize", "InvalidWants", "InvalidLedger", "InvalidHouse", "InvalidSeam", "InvalidLots", "InvalidPromise", "InvalidContract", "InvalidCosts", "InvalidTools", "InvalidWaits", "InvalidCommand"] "at") (mpure []))))) :: (some 2, "InvalidSort", dRet (dTup (dEs (mpure (.int 6)) (dEs (dXf 2 ["InvalidDesk", "InvalidHistory", "InvalidStruck", "InvalidText", "InvalidTry", "InvalidIndex", "InvalidSort", "InvalidStep", "InvalidNumber", "InvalidLot", "InvalidPlan", "InvalidMoves", "InvalidOffers", "InvalidRules", "InvalidBound", "Refused", "InvalidSize", "InvalidWants", "InvalidLedger", "InvalidHouse", "InvalidSeam", "InvalidLots", "InvalidPromise", "InvalidContract", "InvalidCosts", "InvalidTools", "InvalidWaits", "InvalidCommand"] "at") (mpure []))))) :: (some 2, "InvalidStep", dRet (dTup (dEs (mpure (.int 7)) (dEs (dXf 2 ["InvalidDesk", "InvalidHistory", "InvalidStruck", "InvalidText", "InvalidTry", "InvalidIndex", "InvalidSort", "InvalidStep", "InvalidNumber", "InvalidLot", "InvalidPlan", "InvalidMoves", "InvalidOffers", "InvalidRules", "InvalidBound", "Refused", "InvalidSize", "InvalidWants", "InvalidLedger", "InvalidHouse", "InvalidSeam", "InvalidLots", "InvalidPromise", "InvalidContract", "InvalidCosts", "InvalidTools", "InvalidWaits", "InvalidCommand"] "at") (mpure []))))) :: [])) (dRet (mpure .none))
noncomputable def F__law_caught_a : FD := runB 3 2 g__law_caught_a
theorem sc__law_caught_a : FnScope ["number", "thing", "e"] ["number", "thing"] (defScope (top 39)) := ⟨rfl, rfl, rfl, by decide +kernel, rfl, by decide +kernel, by decide +kernel⟩
theorem b__law_caught_a (fa : Gs mg) (h__law_raise : Cal P w K mg base kc 3 "_law_raise" F__law_raise) {C_InvalidStep : Addr} (hc_InvalidStep : ∀ X : Cx, X.mg = mg → Gl X "InvalidStep" → HdC X (c0 kc) ["InvalidDesk", "InvalidHistory", "InvalidStruck", "InvalidText", "InvalidTry", "InvalidIndex", "InvalidSort", "InvalidStep", "InvalidNumber", "InvalidLot", "InvalidPlan", "InvalidMoves", "InvalidOffers", "InvalidRules", "InvalidBound", "Refused", "InvalidSize", "InvalidWants", "InvalidLedger", "InvalidHouse", "InvalidSeam", "InvalidLots", "InvalidPromise", "InvalidContract", "InvalidCosts", "InvalidTools", "InvalidWaits", "InvalidCommand"] "InvalidStep" C_InvalidStep) (hx_InvalidStep : ∀ n ∈ (["InvalidDesk", "InvalidHistory", "InvalidStruck", "InvalidText", "InvalidTry", "InvalidIndex", "InvalidSort", "InvalidStep", "InvalidNumber", "InvalidLot", "InvalidPlan", "InvalidMoves", "InvalidOffers", "InvalidRules", "InvalidBound", "Refused", "InvalidSize", "InvalidWants", "InvalidLedger", "InvalidHouse", "InvalidSeam", "InvalidLots", "InvalidPromise", "InvalidContract", "InvalidCosts", "InvalidTools", "InvalidWaits", "InvalidCommand"] : List Str), ∀ Cn, kc.kl n = some Cn → XfC kc.K Cn ∧ PySem.W.findIn kc.K (.ref Cn) "at" = some none) {C_InvalidSort : Addr} (hc_InvalidSort : ∀ X : Cx, X.mg = mg → Gl X "InvalidSort" → HdC X (c0 kc) ["InvalidDesk", "InvalidHistory", "InvalidStruck", "InvalidText", "InvalidTry", "InvalidIndex", "InvalidSort", "InvalidStep", "InvalidNumber", "InvalidLot", "InvalidPlan", "InvalidMoves", "InvalidOffers", "InvalidRules", "InvalidBound", "Refused", "InvalidSize", "InvalidWants", "InvalidLedger", "InvalidHouse", "InvalidSeam", "InvalidLots", "InvalidPromise", "InvalidContract", "InvalidCosts", "InvalidTools", "InvalidWaits", "InvalidCommand"] "InvalidSort" C_InvalidSort) (hx_InvalidSort : ∀ n ∈ (["InvalidDesk", "InvalidHistory", "InvalidStruck", "InvalidText", "InvalidTry", "InvalidIndex", "InvalidSort", "InvalidStep", "InvalidNumber", "InvalidLot", "InvalidPlan", "InvalidMoves", "InvalidOffers", "InvalidRules", "InvalidBound", "Refused", "InvalidSize", "InvalidWants", "InvalidLedger", "InvalidHouse", "InvalidSeam", "InvalidLots", "InvalidPromise", "InvalidContract", "InvalidCosts", "InvalidTools", "InvalidWaits", "InvalidCommand"] : List Str), ∀ Cn, kc.kl n = some Cn → XfC kc.K Cn ∧ PySem.W.findIn kc.K (.ref Cn) "at" = some none) {C_InvalidIndex : Addr} (hc_InvalidIndex : ∀ X : Cx, X.mg = mg → Gl X "InvalidIndex" → HdC X (c0 kc) ["InvalidDesk", "InvalidHistory", "InvalidStruck", "InvalidText", "InvalidTry", "InvalidIndex", "InvalidSort", "InvalidStep", "InvalidNumber", "InvalidLot", "InvalidPlan", "InvalidMoves", "InvalidOffers", "InvalidRules", "InvalidBound", "Refused", "InvalidSize", "InvalidWants", "InvalidLedger", "InvalidHouse", "InvalidSeam", "InvalidLots", "InvalidPromise", "InvalidContract", "InvalidCosts", "InvalidTools", "InvalidWaits", "InvalidCommand"] "InvalidIndex" C_InvalidIndex) (hx_InvalidIndex : ∀ n ∈ (["InvalidDesk", "InvalidHistory", "InvalidStruck", "InvalidText", "InvalidTry", "InvalidIndex", "InvalidSort", "InvalidStep", "InvalidNumber", "InvalidLot", "InvalidPlan", "InvalidMoves", "InvalidOffers", "InvalidRules", "InvalidBound", "Refused", "InvalidSize", "InvalidWants", "InvalidLedger", "InvalidHouse", "InvalidSeam", "InvalidLots", "InvalidPromise", "InvalidContract", "InvalidCosts", "InvalidTools", "InvalidWaits", "InvalidCommand"] : List Str), ∀ Cn, kc.kl n = some Cn → XfC kc.K Cn ∧ PySem.W.findIn kc.K (.ref Cn) "at" = some none) {C_InvalidTry : Addr} (hc_InvalidTry : ∀ X : Cx, X.mg = mg → Gl X "InvalidTry" → HdC X (c0 kc) ["InvalidDesk", "InvalidHistory", "InvalidStruck", "InvalidText", "InvalidTry", "InvalidIndex", "InvalidSort", "InvalidStep", "InvalidNumber", "InvalidLot", "InvalidPlan", "InvalidMoves", "InvalidOffers", "InvalidRules", "InvalidBound", "Refused", "InvalidSize", "InvalidWants", "InvalidLedger", "InvalidHouse", "InvalidSeam", "InvalidLots", "InvalidPromise", "InvalidContract", "InvalidCosts", "InvalidTools", "InvalidWaits", "InvalidCommand"] "InvalidTry" C_InvalidTry) (hx_InvalidTry : ∀ n ∈ (["InvalidDesk", "InvalidHistory", "InvalidStruck", "InvalidText", "InvalidTry", "InvalidIndex", "InvalidSort", "InvalidStep", "InvalidNumber", "InvalidLot", "InvalidPlan", "InvalidMoves", "InvalidOffers", "InvalidRules", "InvalidBound", "Refused", "InvalidSize", "InvalidWants", "InvalidLedger", "InvalidHouse", "InvalidSeam", "InvalidLots", "InvalidPromise", "InvalidContract", "InvalidCosts", "InvalidTools", "InvalidWaits", "InvalidCommand"] : List Str), ∀ Cn, kc.kl n = some Cn → XfC kc.K Cn ∧ PySem.W.findIn kc.K (.ref Cn) "at" = some none) {C_InvalidText : Addr} (hc_InvalidText : ∀ X : Cx, X.mg = mg → Gl X "InvalidText" → HdC X (c0 kc) ["InvalidDesk", "InvalidHistory", "InvalidStruck", "InvalidText", "InvalidTry", "InvalidIndex", "InvalidSort", "InvalidStep", "InvalidNumber", "InvalidLot", "InvalidPlan", "InvalidMoves", "InvalidOffers", "InvalidRules", "InvalidBound", "Refused", "InvalidSize", "InvalidWants", "InvalidLedger", "InvalidHouse", "InvalidSeam", "InvalidLots", "InvalidPromise", "InvalidContract", "InvalidCosts", "InvalidTools", "InvalidWaits", "InvalidCommand"] "InvalidText" C_InvalidText) (hx_InvalidText : ∀ n ∈ (["InvalidDesk", "InvalidHistory", "InvalidStruck", "InvalidText", "InvalidTry", "InvalidIndex", "InvalidSort", "InvalidStep", "InvalidNumber", "InvalidLot", "InvalidPlan", "InvalidMoves", "InvalidOffers", "InvalidRules", "InvalidBound", "Refused", "InvalidSize", "InvalidWants", "InvalidLedger", "InvalidHouse", "InvalidSeam", "InvalidLots", "InvalidPromise", "InvalidContract", "InvalidCosts", "InvalidTools", "InvalidWaits", "InvalidCommand"] : List Str), ∀ Cn, kc.kl n = some Cn → XfC kc.K Cn ∧ PySem.W.findIn kc.K (.ref Cn) "at" = some none) {C_InvalidStruck : Addr} (hc_InvalidStruck : ∀ X : Cx, X.mg = mg → Gl X "InvalidStruck" → HdC X (c0 kc) ["InvalidDesk", "InvalidHistory", "InvalidStruck", "InvalidText", "InvalidTry", "InvalidIndex", "InvalidSort", "InvalidStep", "InvalidNumber", "InvalidLot", "InvalidPlan", "InvalidMoves", "InvalidOffers", "InvalidRules", "InvalidBound", "Refused", "InvalidSize", "InvalidWants", "InvalidLedger", "InvalidHouse", "InvalidSeam", "InvalidLots", "InvalidPromise", "InvalidContract", "InvalidCosts", "InvalidTools", "InvalidWaits", "InvalidCommand"] "InvalidStruck" C_InvalidStruck) (hx_InvalidStruck : ∀ n ∈ (["InvalidDesk", "InvalidHistory", "InvalidStruck", "InvalidText", "InvalidTry", "InvalidIndex", "InvalidSort", "InvalidStep", "InvalidNumber", "InvalidLot", "InvalidPlan", "InvalidMoves", "InvalidOffers", "InvalidRules", "InvalidBound", "Refused", "InvalidSize", "InvalidWants", "InvalidLedger", "InvalidHouse", "InvalidSeam", "InvalidLots", "InvalidPromise", "InvalidContract", "InvalidCosts", "InvalidTools", "InvalidWaits", "InvalidCommand"] : List Str), ∀ Cn, kc.kl n = some Cn → XfC kc.K Cn ∧ PySem.W.findIn kc.K (.ref Cn) "at" = some none) {C_InvalidHistory : Addr} (hc_InvalidHistory : ∀ X : Cx, X.mg = mg → Gl X "InvalidHistory" → HdC X (c0 kc) ["InvalidDesk", "InvalidHistory", "InvalidStruck", "InvalidText", "InvalidTry", "InvalidIndex", "InvalidSort", "InvalidStep", "InvalidNumber", "InvalidLot", "InvalidPlan", "InvalidMoves", "InvalidOffers", "InvalidRules", "InvalidBound", "Refused", "InvalidSize", "InvalidWants", "InvalidLedger", "InvalidHouse", "InvalidSeam", "InvalidLots", "InvalidPromise", "InvalidContract", "InvalidCosts", "InvalidTools", "InvalidWaits", "InvalidCommand"] "InvalidHistory" C_InvalidHistory) (hx_InvalidHistory : ∀ n ∈ (["InvalidDesk", "InvalidHistory", "InvalidStruck", "InvalidText", "InvalidTry", "InvalidIndex", "InvalidSort", "InvalidStep", "InvalidNumber", "InvalidLot", "InvalidPlan", "InvalidMoves", "InvalidOffers", "InvalidRules", "InvalidBound", "Refused", "InvalidSize", "InvalidWants", "InvalidLedger", "InvalidHouse", "InvalidSeam", "InvalidLots", "InvalidPromise", "InvalidContract", "InvalidCosts", "InvalidTools", "InvalidWaits", "InvalidCommand"] : List Str), ∀ Cn, kc.kl n = some Cn → XfC kc.K Cn ∧ PySem.W.findIn kc.K (.ref Cn) "at" = some none) {C_InvalidDesk : Addr} (hc_InvalidDesk : ∀ X : Cx, X.mg = mg → Gl X "InvalidDesk" → HdC X (c0 kc) ["InvalidDesk", "InvalidHistory", "InvalidStruck", "InvalidText", "InvalidTry", "InvalidIndex", "InvalidSort", "InvalidStep", "InvalidNumber", "InvalidLot", "InvalidPlan", "InvalidMoves", "InvalidOffers", "InvalidRules", "InvalidBound", "Refused", "InvalidSize", "InvalidWants", "InvalidLedger", "InvalidHouse", "InvalidSeam", "InvalidLots", "InvalidPromise", "InvalidContract", "InvalidCosts", "InvalidTools", "InvalidWaits", "InvalidCommand"] "InvalidDesk" C_InvalidDesk) (hx_InvalidDesk : ∀ n ∈ (["InvalidDesk", "InvalidHistory", "InvalidStruck", "InvalidText", "InvalidTry", "InvalidIndex", "InvalidSort", "InvalidStep", "InvalidNumber", "InvalidLot", "InvalidPlan", "InvalidMoves", "InvalidOffers", "InvalidRules", "InvalidBound", "Refused", "InvalidSize", "InvalidWants", "InvalidLedger", "InvalidHouse", "InvalidSeam", "InvalidLots", "InvalidPromise", "InvalidContract", "InvalidCosts", "InvalidTools", "InvalidWaits", "InvalidCommand"] : List Str), ∀ Cn, kc.kl n = some Cn → XfC kc.K Cn ∧ PySem.W.findIn kc.K (.ref Cn) "at" = some none) : Body P w K mg base kc 3 ["number", "thing", "e"] "_law_caught_a" (defScope (top 39)) f (defBody (top 39)) g__law_caught_a := fun cdv A outer s H E cl =>
  have hN := (sc__law_caught_a).nd
  dss_cons (ds_tryN (xs := ["InvalidDesk", "InvalidHistory", "InvalidStruck", "InvalidText", "InvalidTry", "InvalidIndex", "InvalidSort", "InvalidStep", "InvalidNumber", "InvalidLot", "InvalidPlan", "InvalidMoves", "InvalidOffers", "InvalidRules", "InvalidBound", "Refused", "InvalidSize", "InvalidWants", "InvalidLedger", "InvalidHouse", "InvalidSeam", "InvalidLots", "InvalidPromise", "InvalidContract", "InvalidCosts", "InvalidTools", "InvalidWaits", "InvalidCommand"]) rfl rfl hN cl.tk (fun V pn xe t po => dss_one (ds_expr (de_call h__law_raise (Cl.tr cl t po) (by decide) rfl (das_val (de_var 0) (das_val (de_var 1) (das_nil)))))) (.named 2 rfl rfl (hc_InvalidDesk _ rfl rfl) (fun a oe cls d pn hz hf => dss_one (ds_ret (de_tup (des_cons (de_int) (des_cons (de_xf (xs := ["InvalidDesk", "InvalidHistory", "InvalidStruck", "InvalidText", "InvalidTry", "InvalidIndex", "InvalidSort", "InvalidStep", "InvalidNumber", "InvalidLot", "InvalidPlan", "InvalidMoves", "InvalidOffers", "InvalidRules", "InvalidBound", "Refused", "InvalidSize", "InvalidWants", "InvalidLedger", "InvalidHouse", "InvalidSeam", "InvalidLots", "InvalidPromise", "InvalidContract", "InvalidCosts", "InvalidTools", "InvalidWaits", "InvalidCommand"]) 2 hx_InvalidDesk rfl (by first | exact Or.inl rfl | exact Or.inr (Or.inl rfl)) (by decide) (by decide) (by decide) rfl a oe cls d pn hz hf) (des_nil)))))) (.named 2 rfl rfl (hc_InvalidHistory _ rfl rfl) (fun a oe cls d pn hz hf => dss_one (ds_ret (de_tup (des_cons (de_int) (des_cons (de_xf (xs := ["InvalidDesk", "InvalidHistory", "InvalidStruck", "InvalidText", "InvalidTry", "InvalidIndex", "InvalidSort", "InvalidStep", "InvalidNumber", "InvalidLot", "InvalidPlan", "InvalidMoves", "InvalidOffers", "InvalidRules", "InvalidBound", "Refused", "InvalidSize", "InvalidWants", "InvalidLedger", "InvalidHouse", "InvalidSeam", "InvalidLots", "InvalidPromise", "InvalidContract", "InvalidCosts", "InvalidTools", "InvalidWaits", "InvalidCommand"]) 2 hx_InvalidHistory rfl (by first | exact Or.inl rfl | exact Or.inr (Or.inl rfl)) (by decide) (by decide) (by decide) rfl a oe cls d pn hz hf) (des_nil)))))) (.named 2 rfl rfl (hc_InvalidStruck _ rfl rfl) (fun a oe cls d pn hz hf => dss_one (ds_ret (de_tup (des_cons (de_int) (des_cons (de_xf (xs := ["InvalidDesk", "InvalidHistory", "InvalidStruck", "InvalidText", "InvalidTry", "InvalidIndex", "InvalidSort", "InvalidStep", "InvalidNumber", "InvalidLot", "InvalidPlan", "InvalidMoves", "InvalidOffers", "InvalidRules", "InvalidBound", "Refused", "InvalidSize", "InvalidWants", "InvalidLedger", "InvalidHouse", "InvalidSeam", "InvalidLots", "InvalidPromise", "InvalidContract", "InvalidCosts", "InvalidTools", "InvalidWaits", "InvalidCommand"]) 2 hx_InvalidStruck rfl (by first | exact Or.inl rfl | exact Or.inr (Or.inl rfl)) (by decide) (by decide) (by decide) rfl a oe cls d pn hz hf) (des_nil)))))) (.named 2 rfl rfl (hc_InvalidText _ rfl rfl) (fun a oe cls d pn hz hf => dss_one (ds_ret (de_tup (des_cons (de_int) (des_cons (de_xf (xs := ["InvalidDesk", "InvalidHistory", "InvalidStruck", "InvalidText", "InvalidTry", "InvalidIndex", "InvalidSort", "InvalidStep", "InvalidNumber", "InvalidLot", "InvalidPlan", "InvalidMoves", "InvalidOffers", "InvalidRules", "InvalidBound", "Refused", "InvalidSize", "InvalidWants", "InvalidLedger", "InvalidHouse", "InvalidSeam", "InvalidLots", "InvalidPromise", "InvalidContract", "InvalidCosts", "InvalidTools", "InvalidWaits", "InvalidCommand"]) 2 hx_InvalidText rfl (by first | exact Or.inl rfl | exact Or.inr (Or.inl rfl)) (by decide) (by decide) (by decide) rfl a oe cls d pn hz hf) (des_nil)))))) (.named 2 rfl rfl (hc_InvalidTry _ rfl rfl) (fun a oe cls d pn hz hf => dss_one (ds_ret (de_tup (des_cons (de_int) (des_cons (de_xf (xs := ["InvalidDesk", "InvalidHistory", "InvalidStruck", "InvalidText", "InvalidTry", "InvalidIndex", "InvalidSort", "InvalidStep", "InvalidNumber", "InvalidLot", "InvalidPlan", "InvalidMoves", "InvalidOffers", "InvalidRules", "InvalidBound", "Refused", "InvalidSize", "InvalidWants", "InvalidLedger", "InvalidHouse", "InvalidSeam", "InvalidLots", "InvalidPromise", "InvalidContract", "InvalidCosts", "InvalidTools", "InvalidWaits", "InvalidCommand"]) 2 hx_InvalidTry rfl (by first | exact Or.inl rfl | exact Or.inr (Or.inl rfl)) (by decide) (by decide) (by decide) rfl a oe cls d pn hz hf) (des_nil)))))) (.named 2 rfl rfl (hc_InvalidIndex _ rfl rfl) (fun a oe cls d pn hz hf => dss_one (ds_ret (de_tup (des_cons (de_int) (des_cons (de_xf (xs := ["InvalidDesk", "InvalidHistory", "InvalidStruck", "InvalidText", "InvalidTry", "InvalidIndex", "InvalidSort", "InvalidStep", "InvalidNumber", "InvalidLot", "InvalidPlan", "InvalidMoves", "InvalidOffers", "InvalidRules", "InvalidBound", "Refused", "InvalidSize", "InvalidWants", "InvalidLedger", "InvalidHouse", "InvalidSeam", "InvalidLots", "InvalidPromise", "InvalidContract", "InvalidCosts", "InvalidTools", "InvalidWaits", "InvalidCommand"]) 2 hx_InvalidIndex rfl (by first | exact Or.inl rfl | exact Or.inr (Or.inl rfl)) (by decide) (by decide) (by decide) rfl a oe cls d pn hz hf) (des_nil)))))) (.named 2 rfl rfl (hc_InvalidSort _ rfl rfl) (fun a oe cls d pn hz hf => dss_one (ds_ret (de_tup (des_cons (de_int) (des_cons (de_xf (xs := ["InvalidDesk", "InvalidHistory", "InvalidStruck", "InvalidText", "InvalidTry", "InvalidIndex", "InvalidSort", "InvalidStep", "InvalidNumber", "InvalidLot", "InvalidPlan", "InvalidMoves", "InvalidOffers", "InvalidRules", "InvalidBound", "Refused", "InvalidSize", "InvalidWants", "InvalidLedger", "InvalidHouse", "InvalidSeam", "InvalidLots", "InvalidPromise", "InvalidContract", "InvalidCosts", "InvalidTools", "InvalidWaits", "InvalidCommand"]) 2 hx_InvalidSort rfl (by first | exact Or.inl rfl | exact Or.inr (Or.inl rfl)) (by decide) (by decide) (by decide) rfl a oe cls d pn hz hf) (des_nil)))))) (.named 2 rfl rfl (hc_InvalidStep _ rfl rfl) (fun a oe cls d pn hz hf => dss_one (ds_ret (de_tup (des_cons (de_int) (des_cons (de_xf (xs := ["InvalidDesk", "InvalidHistory", "InvalidStruck", "InvalidText", "InvalidTry", "InvalidIndex", "InvalidSort", "InvalidStep", "InvalidNumber", "InvalidLot", "InvalidPlan", "InvalidMoves", "InvalidOffers", "InvalidRules", "InvalidBound", "Refused", "InvalidSize", "InvalidWants", "InvalidLedger", "InvalidHouse", "InvalidSeam", "InvalidLots", "InvalidPromise", "InvalidContract", "InvalidCosts", "InvalidTools", "InvalidWaits", "InvalidCommand"]) 2 hx_InvalidStep rfl (by first | exact Or.inl rfl | exact Or.inr (Or.inl rfl)) (by decide) (by decide) (by decide) rfl a oe cls d pn hz hf) (des_nil)))))) (.nil)))))))))) (dss_one (ds_ret (de_non)))

noncomputable def g__law_caught_b : M Fl := dSeq (dTryN ["InvalidDesk", "InvalidHistory", "InvalidStruck", "InvalidText", "InvalidTry", "InvalidIndex", "InvalidSort", "InvalidStep", "InvalidNumber", "InvalidLot", "InvalidPlan", "InvalidMoves", "InvalidOffers", "InvalidRules", "InvalidBound", "Refused", "InvalidSize", "InvalidWants", "InvalidLedger", "InvalidHouse", "InvalidSeam", "InvalidLots", "InvalidPromise", "InvalidContract", "InvalidCosts", "InvalidTools", "InvalidWaits", "InvalidCommand"] (dRet (dCall F__law_caught_a (.val (dVar 0) :: .val (dVar 1) :: []))) ((some 2, "InvalidNumber", dRet (dTup (dEs (mpure (.int 8)) (dEs (dXf 2 ["InvalidDesk", "InvalidHistory", "InvalidStruck", "InvalidText", "InvalidTry", "InvalidIndex", "InvalidSort", "InvalidStep", "InvalidNumber", "InvalidLot", "InvalidPlan", "InvalidMoves", "InvalidOffers", "InvalidRules", "InvalidBound", "Refused", "InvalidSize", "InvalidWants", "InvalidLedger", "InvalidHouse", "InvalidSeam", "InvalidLots", "InvalidPromise", "InvalidContract", "InvalidCosts", "InvalidTools", "InvalidWaits", "InvalidCommand"] "at") (mpure []))))) :: (some 2, "InvalidLot", dRet (dTup (dEs (mpure (.int 9)) (dEs (dXf 2 ["InvalidDesk", "InvalidHistory", "InvalidStruck", "InvalidText", "InvalidTry", "InvalidIndex", "InvalidSort", "InvalidStep", "InvalidNumber", "InvalidLot", "InvalidPlan", "InvalidMoves", "InvalidOffers", "InvalidRules", "InvalidBound", "Refused", "InvalidSize", "InvalidWants", "InvalidLedger", "InvalidHouse", "InvalidSeam", "InvalidLots", "InvalidPromise", "InvalidContract", "InvalidCosts", "InvalidTools", "InvalidWaits", "InvalidCommand"] "at") (mpure []))))) :: (some 2, "InvalidPlan", dRet (dTup (dEs (mpure (.int 10)) (dEs (dXf 2 ["InvalidDesk", "InvalidHistory", "InvalidStruck", "InvalidText", "InvalidTry", "InvalidIndex", "InvalidSort", "InvalidStep", "InvalidNumber", "InvalidLot", "InvalidPlan", "InvalidMoves", "InvalidOffers", "InvalidRules", "InvalidBound", "Refused", "InvalidSize", "InvalidWants", "InvalidLedger", "InvalidHouse", "InvalidSeam", "InvalidLots", "InvalidPromise", "InvalidContract", "InvalidCosts", "InvalidTools", "InvalidWaits", "InvalidCommand"] "at") (mpure []))))) :: (some 2, "InvalidMoves", dRet (dTup (dEs (mpure (.int 11)) (dEs (dXf 2 ["InvalidDesk", "InvalidHistory", "InvalidStruck", "InvalidText", "InvalidTry", "InvalidIndex", "InvalidSort", "InvalidStep", "InvalidNumber", "InvalidLot", "InvalidPlan", "InvalidMoves", "InvalidOffers", "InvalidRules", "InvalidBound", "Refused", "InvalidSize", "InvalidWants", "InvalidLedger", "InvalidHouse", "InvalidSeam", "InvalidLots", "InvalidPromise", "InvalidContract", "InvalidCosts", "InvalidTools", "InvalidWaits", "InvalidCommand"] "at") (mpure []))))) :: (some 2, "InvalidOffers", dRet (dTup (dEs (mpure (.int 12)) (dEs (dXf 2 ["InvalidDesk", "InvalidHistory", "InvalidStruck", "InvalidText", "InvalidTry", "InvalidIndex", "InvalidSort", "InvalidStep", "InvalidNumber", "InvalidLot", "InvalidPlan", "InvalidMoves", "InvalidOffers", "InvalidRules", "InvalidBound", "Refused", "InvalidSize", "InvalidWants", "InvalidLedger", "InvalidHouse", "InvalidSeam", "InvalidLots", "InvalidPromise", "InvalidContract", "InvalidCosts", "InvalidTools", "InvalidWaits", "InvalidCommand"] "at") (mpure []))))) :: (some 2, "InvalidRules", dRet (dTup (dEs (mpure (.int 13)) (dEs (dXf 2 ["InvalidDesk", "InvalidHistory", "InvalidStruck", "InvalidText", "InvalidTry", "InvalidIndex", "InvalidSort", "InvalidStep", "InvalidNumber", "InvalidLot", "InvalidPlan", "InvalidMoves", "InvalidOffers", "InvalidRules", "InvalidBound", "Refused", "InvalidSize", "InvalidWants", "InvalidLedger", "InvalidHouse", "InvalidSeam", "InvalidLots", "InvalidPromise", "InvalidContract", "InvalidCosts", "InvalidTools", "InvalidWaits", "InvalidCommand"] "at") (mpure []))))) :: (some 2, "InvalidBound", dRet (dTup (dEs (mpure (.int 14)) (dEs (dXf 2 ["InvalidDesk", "InvalidHistory", "InvalidStruck", "InvalidText", "InvalidTry", "InvalidIndex", "InvalidSort", "InvalidStep", "InvalidNumber", "InvalidLot", "InvalidPlan", "InvalidMoves", "InvalidOffers", "InvalidRules", "InvalidBound", "Refused", "InvalidSize", "InvalidWants", "InvalidLedger", "InvalidHouse", "InvalidSeam", "InvalidLots", "InvalidPromise", "InvalidContract", "InvalidCosts", "InvalidTools", "InvalidWaits", "InvalidCommand"] "at") (mpure []))))) :: (some 2, "Refused", dRet (dTup (dEs (mpure (.int 15)) (dEs (dXf 2 ["InvalidDesk", "InvalidHistory", "InvalidStruck", "InvalidText", "InvalidTry", "InvalidIndex", "InvalidSort", "InvalidStep", "InvalidNumber", "InvalidLot", "InvalidPlan", "InvalidMoves", "InvalidOffers", "InvalidRules", "InvalidBound", "Refused", "InvalidSize", "InvalidWants", "InvalidLedger", "InvalidHouse", "InvalidSeam", "InvalidLots", "InvalidPromise", "InvalidContract", "InvalidCosts", "InvalidTools", "InvalidWaits", "InvalidCommand"] "at") (mpure []))))) :: [])) (dRet (mpure .none))
noncomputable def F__law_caught_b : FD := runB 3 2 g__law_caught_b
theorem sc__law_caught_b : FnScope ["number", "thing", "e"] ["number", "thing"] (defScope (top 40)) := ⟨rfl, rfl, rfl, by decide +kernel, rfl, by decide +kernel, by decide +kernel⟩
theorem b__law_caught_b (fa : Gs mg) (h__law_caught_a : Cal P w K mg base kc 4 "_law_caught_a" F__law_caught_a) {C_Refused : Addr} (hc_Refused : ∀ X : Cx, X.mg = mg → Gl X "Refused" → HdC X (c0 kc) ["InvalidDesk", "InvalidHistory", "InvalidStruck", "InvalidText", "InvalidTry", "InvalidIndex", "InvalidSort", "InvalidStep", "InvalidNumber", "InvalidLot", "InvalidPlan", "InvalidMoves", "InvalidOffers", "InvalidRules", "InvalidBound", "Refused", "InvalidSize", "InvalidWants", "InvalidLedger", "InvalidHouse", "InvalidSeam", "InvalidLots", "InvalidPromise", "InvalidContract", "InvalidCosts", "InvalidTools", "InvalidWaits", "InvalidCommand"] "Refused" C_Refused) (hx_Refused : ∀ n ∈ (["InvalidDesk", "InvalidHistory", "InvalidStruck", "InvalidText", "InvalidTry", "InvalidIndex", "InvalidSort", "InvalidStep", "InvalidNumber", "InvalidLot", "InvalidPlan", "InvalidMoves", "InvalidOffers", "InvalidRules", "InvalidBound", "Refused", "InvalidSize", "InvalidWants", "InvalidLedger", "InvalidHouse", "InvalidSeam", "InvalidLots", "InvalidPromise", "InvalidContract", "InvalidCosts", "InvalidTools", "InvalidWaits", "InvalidCommand"] : List Str), ∀ Cn, kc.kl n = some Cn → XfC kc.K Cn ∧ PySem.W.findIn kc.K (.ref Cn) "at" = some none) {C_InvalidBound : Addr} (hc_InvalidBound : ∀ X : Cx, X.mg = mg → Gl X "InvalidBound" → HdC X (c0 kc) ["InvalidDesk", "InvalidHistory", "InvalidStruck", "InvalidText", "InvalidTry", "InvalidIndex", "InvalidSort", "InvalidStep", "InvalidNumber", "InvalidLot", "InvalidPlan", "InvalidMoves", "InvalidOffers", "InvalidRules", "InvalidBound", "Refused", "InvalidSize", "InvalidWants", "InvalidLedger", "InvalidHouse", "InvalidSeam", "InvalidLots", "InvalidPromise", "InvalidContract", "InvalidCosts", "InvalidTools", "InvalidWaits", "InvalidCommand"] "InvalidBound" C_InvalidBound) (hx_InvalidBound : ∀ n ∈ (["InvalidDesk", "InvalidHistory", "InvalidStruck", "InvalidText", "InvalidTry", "InvalidIndex", "InvalidSort", "InvalidStep", "InvalidNumber", "InvalidLot", "InvalidPlan", "InvalidMoves", "InvalidOffers", "InvalidRules", "InvalidBound", "Refused", "InvalidSize", "InvalidWants", "InvalidLedger", "InvalidHouse", "InvalidSeam", "InvalidLots", "InvalidPromise", "InvalidContract", "InvalidCosts", "InvalidTools", "InvalidWaits", "InvalidCommand"] : List Str), ∀ Cn, kc.kl n = some Cn → XfC kc.K Cn ∧ PySem.W.findIn kc.K (.ref Cn) "at" = some none) {C_InvalidRules : Addr} (hc_InvalidRules : ∀ X : Cx, X.mg = mg → Gl X "InvalidRules" → HdC X (c0 kc) ["InvalidDesk", "InvalidHistory", "InvalidStruck", "InvalidText", "InvalidTry", "InvalidIndex", "InvalidSort", "InvalidStep", "InvalidNumber", "InvalidLot", "InvalidPlan", "InvalidMoves", "InvalidOffers", "InvalidRules", "InvalidBound", "Refused", "InvalidSize", "InvalidWants", "InvalidLedger", "InvalidHouse", "InvalidSeam", "InvalidLots", "InvalidPromise", "InvalidContract", "InvalidCosts", "InvalidTools", "InvalidWaits", "InvalidCommand"] "InvalidRules" C_InvalidRules) (hx_InvalidRules : ∀ n ∈ (["InvalidDesk", "InvalidHistory", "InvalidStruck", "InvalidText", "InvalidTry", "InvalidIndex", "InvalidSort", "InvalidStep", "InvalidNumber", "InvalidLot", "InvalidPlan", "InvalidMoves", "InvalidOffers", "InvalidRules", "InvalidBound", "Refused", "InvalidSize", "InvalidWants", "InvalidLedger", "InvalidHouse", "InvalidSeam", "InvalidLots", "InvalidPromise", "InvalidContract", "InvalidCosts", "InvalidTools", "InvalidWaits", "InvalidCommand"] : List Str), ∀ Cn, kc.kl n = some Cn → XfC kc.K Cn ∧ PySem.W.findIn kc.K (.ref Cn) "at" = some none) {C_InvalidOffers : Addr} (hc_InvalidOffers : ∀ X : Cx, X.mg = mg → Gl X "InvalidOffers" → HdC X (c0 kc) ["InvalidDesk", "InvalidHistory", "InvalidStruck", "InvalidText", "InvalidTry", "InvalidIndex", "InvalidSort", "InvalidStep", "InvalidNumber", "InvalidLot", "InvalidPlan", "InvalidMoves", "InvalidOffers", "InvalidRules", "InvalidBound", "Refused", "InvalidSize", "InvalidWants", "InvalidLedger", "InvalidHouse", "InvalidSeam", "InvalidLots", "InvalidPromise", "InvalidContract", "InvalidCosts", "InvalidTools", "InvalidWaits", "InvalidCommand"] "InvalidOffers" C_InvalidOffers) (hx_InvalidOffers : ∀ n ∈ (["InvalidDesk", "InvalidHistory", "InvalidStruck", "InvalidText", "InvalidTry", "InvalidIndex", "InvalidSort", "InvalidStep", "InvalidNumber", "InvalidLot", "InvalidPlan", "InvalidMoves", "InvalidOffers", "InvalidRules", "InvalidBound", "Refused", "InvalidSize", "InvalidWants", "InvalidLedger", "InvalidHouse", "InvalidSeam", "InvalidLots", "InvalidPromise", "InvalidContract", "InvalidCosts", "InvalidTools", "InvalidWaits", "InvalidCommand"] : List Str), ∀ Cn, kc.kl n = some Cn → XfC kc.K Cn ∧ PySem.W.findIn kc.K (.ref Cn) "at" = some none) {C_InvalidMoves : Addr} (hc_InvalidMoves : ∀ X : Cx, X.mg = mg → Gl X "InvalidMoves" → HdC X (c0 kc) ["InvalidDesk", "InvalidHistory", "InvalidStruck", "InvalidText", "InvalidTry", "InvalidIndex", "InvalidSort", "InvalidStep", "InvalidNumber", "InvalidLot", "InvalidPlan", "InvalidMoves", "InvalidOffers", "InvalidRules", "InvalidBound", "Refused", "InvalidSize", "InvalidWants", "InvalidLedger", "InvalidHouse", "InvalidSeam", "InvalidLots", "InvalidPromise", "InvalidContract", "InvalidCosts", "InvalidTools", "InvalidWaits", "InvalidCommand"] "InvalidMoves" C_InvalidMoves) (hx_InvalidMoves : ∀ n ∈ (["InvalidDesk", "InvalidHistory", "InvalidStruck", "InvalidText", "InvalidTry", "InvalidIndex", "InvalidSort", "InvalidStep", "InvalidNumber", "InvalidLot", "InvalidPlan", "InvalidMoves", "InvalidOffers", "InvalidRules", "InvalidBound", "Refused", "InvalidSize", "InvalidWants", "InvalidLedger", "InvalidHouse", "InvalidSeam", "InvalidLots", "InvalidPromise", "InvalidContract", "InvalidCosts", "InvalidTools", "InvalidWaits", "InvalidCommand"] : List Str), ∀ Cn, kc.kl n = some Cn → XfC kc.K Cn ∧ PySem.W.findIn kc.K (.ref Cn) "at" = some none) {C_InvalidPlan : Addr} (hc_InvalidPlan : ∀ X : Cx, X.mg = mg → Gl X "InvalidPlan" → HdC X (c0 kc) ["InvalidDesk", "InvalidHistory", "InvalidStruck", "InvalidText", "InvalidTry", "InvalidIndex", "InvalidSort", "InvalidStep", "InvalidNumber", "InvalidLot", "InvalidPlan", "InvalidMoves", "InvalidOffers", "InvalidRules", "InvalidBound", "Refused", "InvalidSize", "InvalidWants", "InvalidLedger", "InvalidHouse", "InvalidSeam", "InvalidLots", "InvalidPromise", "InvalidContract", "InvalidCosts", "InvalidTools", "InvalidWaits", "InvalidCommand"] "InvalidPlan" C_InvalidPlan) (hx_InvalidPlan : ∀ n ∈ (["InvalidDesk", "InvalidHistory", "InvalidStruck", "InvalidText", "InvalidTry", "InvalidIndex", "InvalidSort", "InvalidStep", "InvalidNumber", "InvalidLot", "InvalidPlan", "InvalidMoves", "InvalidOffers", "InvalidRules", "InvalidBound", "Refused", "InvalidSize", "InvalidWants", "InvalidLedger", "InvalidHouse", "InvalidSeam", "InvalidLots", "InvalidPromise", "InvalidContract", "InvalidCosts", "InvalidTools", "InvalidWaits", "InvalidCommand"] : List Str), ∀ Cn, kc.kl n = some Cn → XfC kc.K Cn ∧ PySem.W.findIn kc.K (.ref Cn) "at" = some none) {C_InvalidLot : Addr} (hc_InvalidLot : ∀ X : Cx, X.mg = mg → Gl X "InvalidLot" → HdC X (c0 kc) ["InvalidDesk", "InvalidHistory", "InvalidStruck", "InvalidText", "InvalidTry", "InvalidIndex", "InvalidSort", "InvalidStep", "InvalidNumber", "InvalidLot", "InvalidPlan", "InvalidMoves", "InvalidOffers", "InvalidRules", "InvalidBound", "Refused", "InvalidSize", "InvalidWants", "InvalidLedger", "InvalidHouse", "InvalidSeam", "InvalidLots", "InvalidPromise", "InvalidContract", "InvalidCosts", "InvalidTools", "InvalidWaits", "InvalidCommand"] "InvalidLot" C_InvalidLot) (hx_InvalidLot : ∀ n ∈ (["InvalidDesk", "InvalidHistory", "InvalidStruck", "InvalidText", "InvalidTry", "InvalidIndex", "InvalidSort", "InvalidStep", "InvalidNumber", "InvalidLot", "InvalidPlan", "InvalidMoves", "InvalidOffers", "InvalidRules", "InvalidBound", "Refused", "InvalidSize", "InvalidWants", "InvalidLedger", "InvalidHouse", "InvalidSeam", "InvalidLots", "InvalidPromise", "InvalidContract", "InvalidCosts", "InvalidTools", "InvalidWaits", "InvalidCommand"] : List Str), ∀ Cn, kc.kl n = some Cn → XfC kc.K Cn ∧ PySem.W.findIn kc.K (.ref Cn) "at" = some none) {C_InvalidNumber : Addr} (hc_InvalidNumber : ∀ X : Cx, X.mg = mg → Gl X "InvalidNumber" → HdC X (c0 kc) ["InvalidDesk", "InvalidHistory", "InvalidStruck", "InvalidText", "InvalidTry", "InvalidIndex", "InvalidSort", "InvalidStep", "InvalidNumber", "InvalidLot", "InvalidPlan", "InvalidMoves", "InvalidOffers", "InvalidRules", "InvalidBound", "Refused", "InvalidSize", "InvalidWants", "InvalidLedger", "InvalidHouse", "InvalidSeam", "InvalidLots", "InvalidPromise", "InvalidContract", "InvalidCosts", "InvalidTools", "InvalidWaits", "InvalidCommand"] "InvalidNumber" C_InvalidNumber) (hx_InvalidNumber : ∀ n ∈ (["InvalidDesk", "InvalidHistory", "InvalidStruck", "InvalidText", "InvalidTry", "InvalidIndex", "InvalidSort", "InvalidStep", "InvalidNumber", "InvalidLot", "InvalidPlan", "InvalidMoves", "InvalidOffers", "InvalidRules", "InvalidBound", "Refused", "InvalidSize", "InvalidWants", "InvalidLedger", "InvalidHouse", "InvalidSeam", "InvalidLots", "InvalidPromise", "InvalidContract", "InvalidCosts", "InvalidTools", "InvalidWaits", "InvalidCommand"] : List Str), ∀ Cn, kc.kl n = some Cn → XfC kc.K Cn ∧ PySem.W.findIn kc.K (.ref Cn) "at" = some none) : Body P w K mg base kc 4 ["number", "thing", "e"] "_law_caught_b" (defScope (top 40)) f (defBody (top 40)) g__law_caught_b := fun cdv A outer s H E cl =>
  have hN := (sc__law_caught_b).nd
  dss_cons (ds_tryN (xs := ["InvalidDesk", "InvalidHistory", "InvalidStruck", "InvalidText", "InvalidTry", "InvalidIndex", "InvalidSort", "InvalidStep", "InvalidNumber", "InvalidLot", "InvalidPlan", "InvalidMoves", "InvalidOffers", "InvalidRules", "InvalidBound", "Refused", "InvalidSize", "InvalidWants", "InvalidLedger", "InvalidHouse", "InvalidSeam", "InvalidLots", "InvalidPromise", "InvalidContract", "InvalidCosts", "InvalidTools", "InvalidWaits", "InvalidCommand"]) rfl rfl hN cl.tk (fun V pn xe t po => dss_one (ds_ret (de_call h__law_caught_a (Cl.tr cl t po) (by decide) rfl (das_val (de_var 0) (das_val (de_var 1) (das_nil)))))) (.named 2 rfl rfl (hc_InvalidNumber _ rfl rfl) (fun a oe cls d pn hz hf => dss_one (ds_ret (de_tup (des_cons (de_int) (des_cons (de_xf (xs := ["InvalidDesk", "InvalidHistory", "InvalidStruck", "InvalidText", "InvalidTry", "InvalidIndex", "InvalidSort", "InvalidStep", "InvalidNumber", "InvalidLot", "InvalidPlan", "InvalidMoves", "InvalidOffers", "InvalidRules", "InvalidBound", "Refused", "InvalidSize", "InvalidWants", "InvalidLedger", "InvalidHouse", "InvalidSeam", "InvalidLots", "InvalidPromise", "InvalidContract", "InvalidCosts", "InvalidTools", "InvalidWaits", "InvalidCommand"]) 2 hx_InvalidNumber rfl (by first | exact Or.inl rfl | exact Or.inr (Or.inl rfl)) (by decide) (by decide) (by decide) rfl a oe cls d pn hz hf) (des_nil)))))) (.named 2 rfl rfl (hc_InvalidLot _ rfl rfl) (fun a oe cls d pn hz hf => dss_one (ds_ret (de_tup (des_cons (de_int) (des_cons (de_xf (xs := ["InvalidDesk", "InvalidHistory", "InvalidStruck", "InvalidText", "InvalidTry", "InvalidIndex", "InvalidSort", "InvalidStep", "InvalidNumber", "InvalidLot", "InvalidPlan", "InvalidMoves", "InvalidOffers", "InvalidRules", "InvalidBound", "Refused", "InvalidSize", "InvalidWants", "InvalidLedger", "InvalidHouse", "InvalidSeam", "InvalidLots", "InvalidPromise", "InvalidContract", "InvalidCosts", "InvalidTools", "InvalidWaits", "InvalidCommand"]) 2 hx_InvalidLot rfl (by first | exact Or.inl rfl | exact Or.inr (Or.inl rfl)) (by decide) (by decide) (by decide) rfl a oe cls d pn hz hf) (des_nil)))))) (.named 2 rfl rfl (hc_InvalidPlan _ rfl rfl) (fun a oe cls d pn hz hf => dss_one (ds_ret (de_tup (des_cons (de_int) (des_cons (de_xf (xs := ["InvalidDesk", "InvalidHistory", "InvalidStruck", "InvalidText", "InvalidTry", "InvalidIndex", "InvalidSort", "InvalidStep", "InvalidNumber", "InvalidLot", "InvalidPlan", "InvalidMoves", "InvalidOffers", "InvalidRules", "InvalidBound", "Refused", "InvalidSize", "InvalidWants", "InvalidLedger", "InvalidHouse", "InvalidSeam", "InvalidLots", "InvalidPromise", "InvalidContract", "InvalidCosts", "InvalidTools", "InvalidWaits", "InvalidCommand"]) 2 hx_InvalidPlan rfl (by first | exact Or.inl rfl | exact Or.inr (Or.inl rfl)) (by decide) (by decide) (by decide) rfl a oe cls d pn hz hf) (des_nil)))))) (.named 2 rfl rfl (hc_InvalidMoves _ rfl rfl) (fun a oe cls d pn hz hf => dss_one (ds_ret (de_tup (des_cons (de_int) (des_cons (de_xf (xs := ["InvalidDesk", "InvalidHistory", "InvalidStruck", "InvalidText", "InvalidTry", "InvalidIndex", "InvalidSort", "InvalidStep", "InvalidNumber", "InvalidLot", "InvalidPlan", "InvalidMoves", "InvalidOffers", "InvalidRules", "InvalidBound", "Refused", "InvalidSize", "InvalidWants", "InvalidLedger", "InvalidHouse", "InvalidSeam", "InvalidLots", "InvalidPromise", "InvalidContract", "InvalidCosts", "InvalidTools", "InvalidWaits", "InvalidCommand"]) 2 hx_InvalidMoves rfl (by first | exact Or.inl rfl | exact Or.inr (Or.inl rfl)) (by decide) (by decide) (by decide) rfl a oe cls d pn hz hf) (des_nil)))))) (.named 2 rfl rfl (hc_InvalidOffers _ rfl rfl) (fun a oe cls d pn hz hf => dss_one (ds_ret (de_tup (des_cons (de_int) (des_cons (de_xf (xs := ["InvalidDesk", "InvalidHistory", "InvalidStruck", "InvalidText", "InvalidTry", "InvalidIndex", "InvalidSort", "InvalidStep", "InvalidNumber", "InvalidLot", "InvalidPlan", "InvalidMoves", "InvalidOffers", "InvalidRules", "InvalidBound", "Refused", "InvalidSize", "InvalidWants", "InvalidLedger", "InvalidHouse", "InvalidSeam", "InvalidLots", "InvalidPromise", "InvalidContract", "InvalidCosts", "InvalidTools", "InvalidWaits", "InvalidCommand"]) 2 hx_InvalidOffers rfl (by first | exact Or.inl rfl | exact Or.inr (Or.inl rfl)) (by decide) (by decide) (by decide) rfl a oe cls d pn hz hf) (des_nil)))))) (.named 2 rfl rfl (hc_InvalidRules _ rfl rfl) (fun a oe cls d pn hz hf => dss_one (ds_ret (de_tup (des_cons (de_int) (des_cons (de_xf (xs := ["InvalidDesk", "InvalidHistory", "InvalidStruck", "InvalidText", "InvalidTry", "InvalidIndex", "InvalidSort", "InvalidStep", "InvalidNumber", "InvalidLot", "InvalidPlan", "InvalidMoves", "InvalidOffers", "InvalidRules", "InvalidBound", "Refused", "InvalidSize", "InvalidWants", "InvalidLedger", "InvalidHouse", "InvalidSeam", "InvalidLots", "InvalidPromise", "InvalidContract", "InvalidCosts", "InvalidTools", "InvalidWaits", "InvalidCommand"]) 2 hx_InvalidRules rfl (by first | exact Or.inl rfl | exact Or.inr (Or.inl rfl)) (by decide) (by decide) (by decide) rfl a oe cls d pn hz hf) (des_nil)))))) (.named 2 rfl rfl (hc_InvalidBound _ rfl rfl) (fun a oe cls d pn hz hf => dss_one (ds_ret (de_tup (des_cons (de_int) (des_cons (de_xf (xs := ["InvalidDesk", "InvalidHistory", "InvalidStruck", "InvalidText", "InvalidTry", "InvalidIndex", "InvalidSort", "InvalidStep", "InvalidNumber", "InvalidLot", "InvalidPlan", "InvalidMoves", "InvalidOffers", "InvalidRules", "InvalidBound", "Refused", "InvalidSize", "InvalidWants", "InvalidLedger", "InvalidHouse", "InvalidSeam", "InvalidLots", "InvalidPromise", "InvalidContract", "InvalidCosts", "InvalidTools", "InvalidWaits", "InvalidCommand"]) 2 hx_InvalidBound rfl (by first | exact Or.inl rfl | exact Or.inr (Or.inl rfl)) (by decide) (by decide) (by decide) rfl a oe cls d pn hz hf) (des_nil)))))) (.named 2 rfl rfl (hc_Refused _ rfl rfl) (fun a oe cls d pn hz hf => dss_one (ds_ret (de_tup (des_cons (de_int) (des_cons (de_xf (xs := ["InvalidDesk", "InvalidHistory", "InvalidStruck", "InvalidText", "InvalidTry", "InvalidIndex", "InvalidSort", "InvalidStep", "InvalidNumber", "InvalidLot", "InvalidPlan", "InvalidMoves", "InvalidOffers", "InvalidRules", "InvalidBound", "Refused", "InvalidSize", "InvalidWants", "InvalidLedger", "InvalidHouse", "InvalidSeam", "InvalidLots", "InvalidPromise", "InvalidContract", "InvalidCosts", "InvalidTools", "InvalidWaits", "InvalidCommand"]) 2 hx_Refused rfl (by first | exact Or.inl rfl | exact Or.inr (Or.inl rfl)) (by decide) (by decide) (by decide) rfl a oe cls d pn hz hf) (des_nil)))))) (.nil)))))))))) (dss_one (ds_ret (de_non)))

noncomputable def g__law_caught_c : M Fl := dSeq (dTryN ["InvalidDesk", "InvalidHistory", "InvalidStruck", "InvalidText", "InvalidTry", "InvalidIndex", "InvalidSort", "InvalidStep", "InvalidNumber", "InvalidLot", "InvalidPlan", "InvalidMoves", "InvalidOffers", "InvalidRules", "InvalidBound", "Refused", "InvalidSize", "InvalidWants", "InvalidLedger", "InvalidHouse", "InvalidSeam", "InvalidLots", "InvalidPromise", "InvalidContract", "InvalidCosts", "InvalidTools", "InvalidWaits", "InvalidCommand"] (dRet (dCall F__law_caught_b (.val (dVar 0) :: .val (dVar 1) :: []))) ((some 2, "InvalidSize", dRet (dTup (dEs (mpure (.int 16)) (dEs (dXf 2 ["InvalidDesk", "InvalidHistory", "InvalidStruck", "InvalidText", "InvalidTry", "InvalidIndex", "InvalidSort", "InvalidStep", "InvalidNumber", "InvalidLot", "InvalidPlan", "InvalidMoves", "InvalidOffers", "InvalidRules", "InvalidBound", "Refused", "InvalidSize", "InvalidWants", "InvalidLedger", "InvalidHouse", "InvalidSeam", "InvalidLots", "InvalidPromise", "InvalidContract", "InvalidCosts", "InvalidTools", "InvalidWaits", "InvalidCommand"] "word") (mpure []))))) :: (some 2, "InvalidWants", dRet (dTup (dEs (mpure (.int 17)) (dEs (dXf 2 ["InvalidDesk", "InvalidHistory", "InvalidStruck", "InvalidText", "InvalidTry", "InvalidIndex", "InvalidSort", "InvalidStep", "InvalidNumber", "InvalidLot", "InvalidPlan", "InvalidMoves", "InvalidOffers", "InvalidRules", "InvalidBound", "Refused", "InvalidSize", "InvalidWants", "InvalidLedger", "InvalidHouse", "InvalidSeam", "InvalidLots", "InvalidPromise", "InvalidContract", "InvalidCosts", "InvalidTools", "InvalidWaits", "InvalidCommand"] "at") (mpure []))))) :: (some 2, "InvalidLedger", dRet (dTup (dEs (mpure (.int 18)) (dEs (dXf 2 ["InvalidDesk", "InvalidHistory", "InvalidStruck", "InvalidText", "InvalidTry", "InvalidIndex", "InvalidSort", "InvalidStep", "InvalidNumber", "InvalidLot", "InvalidPlan", "InvalidMoves", "InvalidOffers", "InvalidRules", "InvalidBound", "Refused", "InvalidSize", "InvalidWants", "InvalidLedger", "InvalidHouse", "InvalidSeam", "InvalidLots", "InvalidPromise", "InvalidContract", "InvalidCosts", "InvalidTools", "InvalidWaits", "InvalidCommand"] "at") (mpure []))))) :: (some 2, "InvalidHouse", dRet (dTup (dEs (mpure (.int 19)) (dEs (dXf 2 ["InvalidDesk", "InvalidHistory", "InvalidStruck", "InvalidText", "InvalidTry", "InvalidIndex", "InvalidSort", "InvalidStep", "InvalidNumber", "InvalidLot", "InvalidPlan", "InvalidMoves", "InvalidOffers", "InvalidRules", "InvalidBound", "Refused", "InvalidSize", "InvalidWants", "InvalidLedger", "InvalidHouse", "InvalidSeam", "InvalidLots", "InvalidPromise", "InvalidContract", "InvalidCosts", "InvalidTools", "InvalidWaits", "InvalidCommand"] "at") (mpure []))))) :: (some 2, "InvalidSeam", dRet (dTup (dEs (mpure (.int 20)) (dEs (dXf 2 ["InvalidDesk", "InvalidHistory", "InvalidStruck", "InvalidText", "InvalidTry", "InvalidIndex", "InvalidSort", "InvalidStep", "InvalidNumber", "InvalidLot", "InvalidPlan", "InvalidMoves", "InvalidOffers", "InvalidRules", "InvalidBound", "Refused", "InvalidSize", "InvalidWants", "InvalidLedger", "InvalidHouse", "InvalidSeam", "InvalidLots", "InvalidPromise", "InvalidContract", "InvalidCosts", "InvalidTools", "InvalidWaits", "InvalidCommand"] "at") (mpure []))))) :: (some 2, "InvalidLots", dRet (dTup (dEs (mpure (.int 21)) (dEs (dXf 2 ["InvalidDesk", "InvalidHistory", "InvalidStruck", "InvalidText", "InvalidTry", "InvalidIndex", "InvalidSort", "InvalidStep", "InvalidNumber", "InvalidLot", "InvalidPlan", "InvalidMoves", "InvalidOffers", "InvalidRules", "InvalidBound", "Refused", "InvalidSize", "InvalidWants", "InvalidLedger", "InvalidHouse", "InvalidSeam", "InvalidLots", "InvalidPromise", "InvalidContract", "InvalidCosts", "InvalidTools", "InvalidWaits", "InvalidCommand"] "at") (mpure []))))) :: (some 2, "InvalidPromise", dRet (dTup (dEs (mpure (.int 22)) (dEs (dXf 2 ["InvalidDesk", "InvalidHistory", "InvalidStruck", "InvalidText", "InvalidTry", "InvalidIndex", "InvalidSort", "InvalidStep", "InvalidNumber", "InvalidLot", "InvalidPlan", "InvalidMoves", "InvalidOffers", "InvalidRules", "InvalidBound", "Refused", "InvalidSize", "InvalidWants", "InvalidLedger", "InvalidHouse", "InvalidSeam", "InvalidLots", "InvalidPromise", "InvalidContract", "InvalidCosts", "InvalidTools", "InvalidWaits", "InvalidCommand"] "at") (mpure []))))) :: (some 2, "InvalidContract", dRet (dTup (dEs (mpure (.int 23)) (dEs (dXf 2 ["InvalidDesk", "InvalidHistory", "InvalidStruck", "InvalidText", "InvalidTry", "InvalidIndex", "InvalidSort", "InvalidStep", "InvalidNumber", "InvalidLot", "InvalidPlan", "InvalidMoves", "InvalidOffers", "InvalidRules", "InvalidBound", "Refused", "InvalidSize", "InvalidWants", "InvalidLedger", "InvalidHouse", "InvalidSeam", "InvalidLots", "InvalidPromise", "InvalidContract", "InvalidCosts", "InvalidTools", "InvalidWaits", "InvalidCommand"] "at") (mpure []))))) :: [])) (dRet (mpure .none))
noncomputable def F__law_caught_c : FD := runB 3 2 g__law_caught_c
theorem sc__law_caught_c : FnScope ["number", "thing", "e"] ["number", "thing"] (defScope (top 41)) := ⟨rfl, rfl, rfl, by decide +kernel, rfl, by decide +kernel, by decide +kernel⟩
theorem b__law_caught_c (fa : Gs mg) (h__law_caught_b : Cal P w K mg base kc 5 "_law_caught_b" F__law_caught_b) {C_InvalidContract : Addr} (hc_InvalidContract : ∀ X : Cx, X.mg = mg → Gl X "InvalidContract" → HdC X (c0 kc) ["InvalidDesk", "InvalidHistory", "InvalidStruck", "InvalidText", "InvalidTry", "InvalidIndex", "InvalidSort", "InvalidStep", "InvalidNumber", "InvalidLot", "InvalidPlan", "InvalidMoves", "InvalidOffers", "InvalidRules", "InvalidBound", "Refused", "InvalidSize", "InvalidWants", "InvalidLedger", "InvalidHouse", "InvalidSeam", "InvalidLots", "InvalidPromise", "InvalidContract", "InvalidCosts", "InvalidTools", "InvalidWaits", "InvalidCommand"] "InvalidContract" C_InvalidContract) (hx_InvalidContract : ∀ n ∈ (["InvalidDesk", "InvalidHistory", "InvalidStruck", "InvalidText", "InvalidTry", "InvalidIndex", "InvalidSort", "InvalidStep", "InvalidNumber", "InvalidLot", "InvalidPlan", "InvalidMoves", "InvalidOffers", "InvalidRules", "InvalidBound", "Refused", "InvalidSize", "InvalidWants", "InvalidLedger", "InvalidHouse", "InvalidSeam", "InvalidLots", "InvalidPromise", "InvalidContract", "InvalidCosts", "InvalidTools", "InvalidWaits", "InvalidCommand"] : List Str), ∀ Cn, kc.kl n = some Cn → XfC kc.K Cn ∧ PySem.W.findIn kc.K (.ref Cn) "at" = some none) {C_InvalidPromise : Addr} (hc_InvalidPromise : ∀ X : Cx, X.mg = mg → Gl X "InvalidPromise" → HdC X (c0 kc) ["InvalidDesk", "InvalidHistory", "InvalidStruck", "InvalidText", "InvalidTry", "InvalidIndex", "InvalidSort", "InvalidStep", "InvalidNumber", "InvalidLot", "InvalidPlan", "InvalidMoves", "InvalidOffers", "InvalidRules", "InvalidBound", "Refused", "InvalidSize", "InvalidWants", "InvalidLedger", "InvalidHouse", "InvalidSeam", "InvalidLots", "InvalidPromise", "InvalidContract", "InvalidCosts", "InvalidTools", "InvalidWaits", "InvalidCommand"] "InvalidPromise" C_InvalidPromise) (hx_InvalidPromise : ∀ n ∈ (["InvalidDesk", "InvalidHistory", "InvalidStruck", "InvalidText", "InvalidTry", "InvalidIndex", "InvalidSort", "InvalidStep", "InvalidNumber", "InvalidLot", "InvalidPlan", "InvalidMoves", "InvalidOffers", "InvalidRules", "InvalidBound", "Refused", "InvalidSize", "InvalidWants", "InvalidLedger", "InvalidHouse", "InvalidSeam", "InvalidLots", "InvalidPromise", "InvalidContract", "InvalidCosts", "InvalidTools", "InvalidWaits", "InvalidCommand"] : List Str), ∀ Cn, kc.kl n = some Cn → XfC kc.K Cn ∧ PySem.W.findIn kc.K (.ref Cn) "at" = some none) {C_InvalidLots : Addr} (hc_InvalidLots : ∀ X : Cx, X.mg = mg → Gl X "InvalidLots" → HdC X (c0 kc) ["InvalidDesk", "InvalidHistory", "InvalidStruck", "InvalidText", "InvalidTry", "InvalidIndex", "InvalidSort", "InvalidStep", "InvalidNumber", "InvalidLot", "InvalidPlan", "InvalidMoves", "InvalidOffers", "InvalidRules", "InvalidBound", "Refused", "InvalidSize", "InvalidWants", "InvalidLedger", "InvalidHouse", "InvalidSeam", "InvalidLots", "InvalidPromise", "InvalidContract", "InvalidCosts", "InvalidTools", "InvalidWaits", "InvalidCommand"] "InvalidLots" C_InvalidLots) (hx_InvalidLots : ∀ n ∈ (["InvalidDesk", "InvalidHistory", "InvalidStruck", "InvalidText", "InvalidTry", "InvalidIndex", "InvalidSort", "InvalidStep", "InvalidNumber", "InvalidLot", "InvalidPlan", "InvalidMoves", "InvalidOffers", "InvalidRules", "InvalidBound", "Refused", "InvalidSize", "InvalidWants", "InvalidLedger", "InvalidHouse", "InvalidSeam", "InvalidLots", "InvalidPromise", "InvalidContract", "InvalidCosts", "InvalidTools", "InvalidWaits", "InvalidCommand"] : List Str), ∀ Cn, kc.kl n = some Cn → XfC kc.K Cn ∧ PySem.W.findIn kc.K (.ref Cn) "at" = some none) {C_InvalidSeam : Addr} (hc_InvalidSeam : ∀ X : Cx, X.mg = mg → Gl X "InvalidSeam" → HdC X (c0 kc) ["InvalidDesk", "InvalidHistory", "InvalidStruck", "InvalidText", "InvalidTry", "InvalidIndex", "InvalidSort", "InvalidStep", "InvalidNumber", "InvalidLot", "InvalidPlan", "InvalidMoves", "InvalidOffers", "InvalidRules", "InvalidBound", "Refused", "InvalidSize", "InvalidWants", "InvalidLedger", "InvalidHouse", "InvalidSeam", "InvalidLots", "InvalidPromise", "InvalidContract", "InvalidCosts", "InvalidTools", "InvalidWaits", "InvalidCommand"] "InvalidSeam" C_InvalidSeam) (hx_InvalidSeam : ∀ n ∈ (["InvalidDesk", "InvalidHistory", "InvalidStruck", "InvalidText", "InvalidTry", "InvalidIndex", "InvalidSort", "InvalidStep", "InvalidNumber", "InvalidLot", "InvalidPlan", "InvalidMoves", "InvalidOffers", "InvalidRules", "InvalidBound", "Refused", "InvalidSize", "InvalidWants", "InvalidLedger", "InvalidHouse", "InvalidSeam", "InvalidLots", "InvalidPromise", "InvalidContract", "InvalidCosts", "InvalidTools", "InvalidWaits", "InvalidCommand"] : List Str), ∀ Cn, kc.kl n = some Cn → XfC kc.K Cn ∧ PySem.W.findIn kc.K (.ref Cn) "at" = some none) {C_InvalidHouse : Addr} (hc_InvalidHouse : ∀ X : Cx, X.mg = mg → Gl X "InvalidHouse" → HdC X (c0 kc) ["InvalidDesk", "InvalidHistory", "InvalidStruck", "InvalidText", "InvalidTry", "InvalidIndex", "InvalidSort", "InvalidStep", "InvalidNumber", "InvalidLot", "InvalidPlan", "InvalidMoves", "InvalidOffers", "InvalidRules", "InvalidBound", "Refused", "InvalidSize", "InvalidWants", "InvalidLedger", "InvalidHouse", "InvalidSeam", "InvalidLots", "InvalidPromise", "InvalidContract", "InvalidCosts", "InvalidTools", "InvalidWaits", "InvalidCommand"] "InvalidHouse" C_InvalidHouse) (hx_InvalidHouse : ∀ n ∈ (["InvalidDesk", "InvalidHistory", "InvalidStruck", "InvalidText", "InvalidTry", "InvalidIndex", "InvalidSort", "InvalidStep", "InvalidNumber", "InvalidLot", "InvalidPlan", "InvalidMoves", "InvalidOffers", "InvalidRules", "InvalidBound", "Refused", "InvalidSize", "InvalidWants", "InvalidLedger", "InvalidHouse", "InvalidSeam", "InvalidLots", "InvalidPromise", "InvalidContract", "InvalidCosts", "InvalidTools", "InvalidWaits", "InvalidCommand"] : List Str), ∀ Cn, kc.kl n = some Cn → XfC kc.K Cn ∧ PySem.W.findIn kc.K (.ref Cn) "at" = some none) {C_InvalidLedger : Addr} (hc_InvalidLedger : ∀ X : Cx, X.mg = mg → Gl X "InvalidLedger" → HdC X (c0 kc) ["InvalidDesk", "InvalidHistory", "InvalidStruck", "InvalidText", "InvalidTry", "InvalidIndex", "InvalidSort", "InvalidStep", "InvalidNumber", "InvalidLot", "InvalidPlan", "InvalidMoves", "InvalidOffers", "InvalidRules", "InvalidBound", "Refused", "InvalidSize", "InvalidWants", "InvalidLedger", "InvalidHouse", "InvalidSeam", "InvalidLots", "InvalidPromise", "InvalidContract", "InvalidCosts", "InvalidTools", "InvalidWaits", "InvalidCommand"] "InvalidLedger" C_InvalidLedger) (hx_InvalidLedger : ∀ n ∈ (["InvalidDesk", "InvalidHistory", "InvalidStruck", "InvalidText", "InvalidTry", "InvalidIndex", "InvalidSort", "InvalidStep", "InvalidNumber", "InvalidLot", "InvalidPlan", "InvalidMoves", "InvalidOffers", "InvalidRules", "InvalidBound", "Refused", "InvalidSize", "InvalidWants", "InvalidLedger", "InvalidHouse", "InvalidSeam", "InvalidLots", "InvalidPromise", "InvalidContract", "InvalidCosts", "InvalidTools", "InvalidWaits", "InvalidCommand"] : List Str), ∀ Cn, kc.kl n = some Cn → XfC kc.K Cn ∧ PySem.W.findIn kc.K (.ref Cn) "at" = some none) {C_InvalidWants : Addr} (hc_InvalidWants : ∀ X : Cx, X.mg = mg → Gl X "InvalidWants" → HdC X (c0 kc) ["InvalidDesk", "InvalidHistory", "InvalidStruck", "InvalidText", "InvalidTry", "InvalidIndex", "InvalidSort", "InvalidStep", "InvalidNumber", "InvalidLot", "InvalidPlan", "InvalidMoves", "InvalidOffers", "InvalidRules", "InvalidBound", "Refused", "InvalidSize", "InvalidWants", "InvalidLedger", "InvalidHouse", "InvalidSeam", "InvalidLots", "InvalidPromise", "InvalidContract", "InvalidCosts", "InvalidTools", "InvalidWaits", "InvalidCommand"] "InvalidWants" C_InvalidWants) (hx_InvalidWants : ∀ n ∈ (["InvalidDesk", "InvalidHistory", "InvalidStruck", "InvalidText", "InvalidTry", "InvalidIndex", "InvalidSort", "InvalidStep", "InvalidNumber", "InvalidLot", "InvalidPlan", "InvalidMoves", "InvalidOffers", "InvalidRules", "InvalidBound", "Refused", "InvalidSize", "InvalidWants", "InvalidLedger", "InvalidHouse", "InvalidSeam", "InvalidLots", "InvalidPromise", "InvalidContract", "InvalidCosts", "InvalidTools", "InvalidWaits", "InvalidCommand"] : List Str), ∀ Cn, kc.kl n = some Cn → XfC kc.K Cn ∧ PySem.W.findIn kc.K (.ref Cn) "at" = some none) {C_InvalidSize : Addr} (hc_InvalidSize : ∀ X : Cx, X.mg = mg → Gl X "InvalidSize" → HdC X (c0 kc) ["InvalidDesk", "InvalidHistory", "InvalidStruck", "InvalidText", "InvalidTry", "InvalidIndex", "InvalidSort", "InvalidStep", "InvalidNumber", "InvalidLot", "InvalidPlan", "InvalidMoves", "InvalidOffers", "InvalidRules", "InvalidBound", "Refused", "InvalidSize", "InvalidWants", "InvalidLedger", "InvalidHouse", "InvalidSeam", "InvalidLots", "InvalidPromise", "InvalidContract", "InvalidCosts", "InvalidTools", "InvalidWaits", "InvalidCommand"] "InvalidSize" C_InvalidSize) (hx_InvalidSize : ∀ n ∈ (["InvalidDesk", "InvalidHistory", "InvalidStruck", "InvalidText", "InvalidTry", "InvalidIndex", "InvalidSort", "InvalidStep", "InvalidNumber", "InvalidLot", "InvalidPlan", "InvalidMoves", "InvalidOffers", "InvalidRules", "InvalidBound", "Refused", "InvalidSize", "InvalidWants", "InvalidLedger", "InvalidHouse", "InvalidSeam", "InvalidLots", "InvalidPromise", "InvalidContract", "InvalidCosts", "InvalidTools", "InvalidWaits", "InvalidCommand"] : List Str), ∀ Cn, kc.kl n = some Cn → XfC kc.K Cn ∧ PySem.W.findIn kc.K (.ref Cn) "word" = some none) : Body P w K mg base kc 5 ["number", "thing", "e"] "_law_caught_c" (defScope (top 41)) f (defBody (top 41)) g__law_caught_c := fun cdv A outer s H E cl =>
  have hN := (sc__law_caught_c).nd
  dss_cons (ds_tryN (xs := ["InvalidDesk", "InvalidHistory", "InvalidStruck", "InvalidText", "InvalidTry", "InvalidIndex", "InvalidSort", "InvalidStep", "InvalidNumber", "InvalidLot", "InvalidPlan", "InvalidMoves", "InvalidOffers", "InvalidRules", "InvalidBound", "Refused", "InvalidSize", "InvalidWants", "InvalidLedger", "InvalidHouse", "InvalidSeam", "InvalidLots", "InvalidPromise", "InvalidContract", "InvalidCosts", "InvalidTools", "InvalidWaits", "InvalidCommand"]) rfl rfl hN cl.tk (fun V pn xe t po => dss_one (ds_ret (de_call h__law_caught_b (Cl.tr cl t po) (by decide) rfl (das_val (de_var 0) (das_val (de_var 1) (das_nil)))))) (.named 2 rfl rfl (hc_InvalidSize _ rfl rfl) (fun a oe cls d pn hz hf => dss_one (ds_ret (de_tup (des_cons (de_int) (des_cons (de_xf (xs := ["InvalidDesk", "InvalidHistory", "InvalidStruck", "InvalidText", "InvalidTry", "InvalidIndex", "InvalidSort", "InvalidStep", "InvalidNumber", "InvalidLot", "InvalidPlan", "InvalidMoves", "InvalidOffers", "InvalidRules", "InvalidBound", "Refused", "InvalidSize", "InvalidWants", "InvalidLedger", "InvalidHouse", "InvalidSeam", "InvalidLots", "InvalidPromise", "InvalidContract", "InvalidCosts", "InvalidTools", "InvalidWaits", "InvalidCommand"]) 2 hx_InvalidSize rfl (by first | exact Or.inl rfl | exact Or.inr (Or.inl rfl)) (by decide) (by decide) (by decide) rfl a oe cls d pn hz hf) (des_nil)))))) (.named 2 rfl rfl (hc_InvalidWants _ rfl rfl) (fun a oe cls d pn hz hf => dss_one (ds_ret (de_tup (des_cons (de_int) (des_cons (de_xf (xs := ["InvalidDesk", "InvalidHistory", "InvalidStruck", "InvalidText", "InvalidTry", "InvalidIndex", "InvalidSort", "InvalidStep", "InvalidNumber", "InvalidLot", "InvalidPlan", "InvalidMoves", "InvalidOffers", "InvalidRules", "InvalidBound", "Refused", "InvalidSize", "InvalidWants", "InvalidLedger", "InvalidHouse", "InvalidSeam", "InvalidLots", "InvalidPromise", "InvalidContract", "InvalidCosts", "InvalidTools", "InvalidWaits", "InvalidCommand"]) 2 hx_InvalidWants rfl (by first | exact Or.inl rfl | exact Or.inr (Or.inl rfl)) (by decide) (by decide) (by decide) rfl a oe cls d pn hz hf) (des_nil)))))) (.named 2 rfl rfl (hc_InvalidLedger _ rfl rfl) (fun a oe cls d pn hz hf => dss_one (ds_ret (de_tup (des_cons (de_int) (des_cons (de_xf (xs := ["InvalidDesk", "InvalidHistory", "InvalidStruck", "InvalidText", "InvalidTry", "InvalidIndex", "InvalidSort", "InvalidStep", "InvalidNumber", "InvalidLot", "InvalidPlan", "InvalidMoves", "InvalidOffers", "InvalidRules", "InvalidBound", "Refused", "InvalidSize", "InvalidWants", "InvalidLedger", "InvalidHouse", "InvalidSeam", "InvalidLots", "InvalidPromise", "InvalidContract", "InvalidCosts", "InvalidTools", "InvalidWaits", "InvalidCommand"]) 2 hx_InvalidLedger rfl (by first | exact Or.inl rfl | exact Or.inr (Or.inl rfl)) (by decide) (by decide) (by decide) rfl a oe cls d pn hz hf) (des_nil)))))) (.named 2 rfl rfl (hc_InvalidHouse _ rfl rfl) (fun a oe cls d pn hz hf => dss_one (ds_ret (de_tup (des_cons (de_int) (des_cons (de_xf (xs := ["InvalidDesk", "InvalidHistory", "InvalidStruck", "InvalidText", "InvalidTry", "InvalidIndex", "InvalidSort", "InvalidStep", "InvalidNumber", "InvalidLot", "InvalidPlan", "InvalidMoves", "InvalidOffers", "InvalidRules", "InvalidBound", "Refused", "InvalidSize", "InvalidWants", "InvalidLedger", "InvalidHouse", "InvalidSeam", "InvalidLots", "InvalidPromise", "InvalidContract", "InvalidCosts", "InvalidTools", "InvalidWaits", "InvalidCommand"]) 2 hx_InvalidHouse rfl (by first | exact Or.inl rfl | exact Or.inr (Or.inl rfl)) (by decide) (by decide) (by decide) rfl a oe cls d pn hz hf) (des_nil)))))) (.named 2 rfl rfl (hc_InvalidSeam _ rfl rfl) (fun a oe cls d pn hz hf => dss_one (ds_ret (de_tup (des_cons (de_int) (des_cons (de_xf (xs := ["InvalidDesk", "InvalidHistory", "InvalidStruck", "InvalidText", "InvalidTry", "InvalidIndex", "InvalidSort", "InvalidStep", "InvalidNumber", "InvalidLot", "InvalidPlan", "InvalidMoves", "InvalidOffers", "InvalidRules", "InvalidBound", "Refused", "InvalidSize", "InvalidWants", "InvalidLedger", "InvalidHouse", "InvalidSeam", "InvalidLots", "InvalidPromise", "InvalidContract", "InvalidCosts", "InvalidTools", "InvalidWaits", "InvalidCommand"]) 2 hx_InvalidSeam rfl (by first | exact Or.inl rfl | exact Or.inr (Or.inl rfl)) (by decide) (by decide) (by decide) rfl a oe cls d pn hz hf) (des_nil)))))) (.named 2 rfl rfl (hc_InvalidLots _ rfl rfl) (fun a oe cls d pn hz hf => dss_one (ds_ret (de_tup (des_cons (de_int) (des_cons (de_xf (xs := ["InvalidDesk", "InvalidHistory", "InvalidStruck", "InvalidText", "InvalidTry", "InvalidIndex", "InvalidSort", "InvalidStep", "InvalidNumber", "InvalidLot", "InvalidPlan", "InvalidMoves", "InvalidOffers", "InvalidRules", "InvalidBound", "Refused", "InvalidSize", "InvalidWants", "InvalidLedger", "InvalidHouse", "InvalidSeam", "InvalidLots", "InvalidPromise", "InvalidContract", "InvalidCosts", "InvalidTools", "InvalidWaits", "InvalidCommand"]) 2 hx_InvalidLots rfl (by first | exact Or.inl rfl | exact Or.inr (Or.inl rfl)) (by decide) (by decide) (by decide) rfl a oe cls d pn hz hf) (des_nil)))))) (.named 2 rfl rfl (hc_InvalidPromise _ rfl rfl) (fun a oe cls d pn hz hf => dss_one (ds_ret (de_tup (des_cons (de_int) (des_cons (de_xf (xs := ["InvalidDesk", "InvalidHistory", "InvalidStruck", "InvalidText", "InvalidTry", "InvalidIndex", "InvalidSort", "InvalidStep", "InvalidNumber", "InvalidLot", "InvalidPlan", "InvalidMoves", "InvalidOffers", "InvalidRules", "InvalidBound", "Refused", "InvalidSize", "InvalidWants", "InvalidLedger", "InvalidHouse", "InvalidSeam", "InvalidLots", "InvalidPromise", "InvalidContract", "InvalidCosts", "InvalidTools", "InvalidWaits", "InvalidCommand"]) 2 hx_InvalidPromise rfl (by first | exact Or.inl rfl | exact Or.inr (Or.inl rfl)) (by decide) (by decide) (by decide) rfl a oe cls d pn hz hf) (des_nil)))))) (.named 2 rfl rfl (hc_InvalidContract _ rfl rfl) (fun a oe cls d pn hz hf => dss_one (ds_ret (de_tup (des_cons (de_int) (des_cons (de_xf (xs := ["InvalidDesk", "InvalidHistory", "InvalidStruck", "InvalidText", "InvalidTry", "InvalidIndex", "InvalidSort", "InvalidStep", "InvalidNumber", "InvalidLot", "InvalidPlan", "InvalidMoves", "InvalidOffers", "InvalidRules", "InvalidBound", "Refused", "InvalidSize", "InvalidWants", "InvalidLedger", "InvalidHouse", "InvalidSeam", "InvalidLots", "InvalidPromise", "InvalidContract", "InvalidCosts", "InvalidTools", "InvalidWaits", "InvalidCommand"]) 2 hx_InvalidContract rfl (by first | exact Or.inl rfl | exact Or.inr (Or.inl rfl)) (by decide) (by decide) (by decide) rfl a oe cls d pn hz hf) (des_nil)))))) (.nil)))))))))) (dss_one (ds_ret (de_non)))

noncomputable def g__law_caught_d : M Fl := dSeq (dTryN ["InvalidDesk", "InvalidHistory", "InvalidStruck", "InvalidText", "InvalidTry", "InvalidIndex", "InvalidSort", "InvalidStep", "InvalidNumber", "InvalidLot", "InvalidPlan", "InvalidMoves", "InvalidOffers", "InvalidRules", "InvalidBound", "Refused", "InvalidSize", "InvalidWants", "InvalidLedger", "InvalidHouse", "InvalidSeam", "InvalidLots", "InvalidPromise", "InvalidContract", "InvalidCosts", "InvalidTools", "InvalidWaits", "InvalidCommand"] (dRet (dCall F__law_caught_c (.val (dVar 0) :: .val (dVar 1) :: []))) ((some 2, "InvalidCosts", dRet (dTup (dEs (mpure (.int 24)) (dEs (dXf 2 ["InvalidDesk", "InvalidHistory", "InvalidStruck", "InvalidText", "InvalidTry", "InvalidIndex", "InvalidSort", "InvalidStep", "InvalidNumber", "InvalidLot", "InvalidPlan", "InvalidMoves", "InvalidOffers", "InvalidRules", "InvalidBound", "Refused", "InvalidSize", "InvalidWants", "InvalidLedger", "InvalidHouse", "InvalidSeam", "InvalidLots", "InvalidPromise", "InvalidContract", "InvalidCosts", "InvalidTools", "InvalidWaits", "InvalidCommand"] "at") (mpure []))))) :: (some 2, "InvalidTools", dRet (dTup (dEs (mpure (.int 25)) (dEs (dXf 2 ["InvalidDesk", "InvalidHistory", "InvalidStruck", "InvalidText", "InvalidTry", "InvalidIndex", "InvalidSort", "InvalidStep", "InvalidNumber", "InvalidLot", "InvalidPlan", "InvalidMoves", "InvalidOffers", "InvalidRules", "InvalidBound", "Refused", "InvalidSize", "InvalidWants", "InvalidLedger", "InvalidHouse", "InvalidSeam", "InvalidLots", "InvalidPromise", "InvalidContract", "InvalidCosts", "InvalidTools", "InvalidWaits", "InvalidCommand"] "at") (mpure []))))) :: (some 2, "InvalidWaits", dRet (dTup (dEs (mpure (.int 26)) (dEs (dXf 2 ["InvalidDesk", "InvalidHistory", "InvalidStruck", "InvalidText", "InvalidTry", "InvalidIndex", "InvalidSort", "InvalidStep", "InvalidNumber", "InvalidLot", "InvalidPlan", "InvalidMoves", "InvalidOffers", "InvalidRules", "InvalidBound", "Refused", "InvalidSize", "InvalidWants", "InvalidLedger", "InvalidHouse", "InvalidSeam", "InvalidLots", "InvalidPromise", "InvalidContract", "InvalidCosts", "InvalidTools", "InvalidWaits", "InvalidCommand"] "at") (mpure []))))) :: (none, "InvalidCommand", dRet (dTup (dEs (mpure (.int 27)) (dEs (dVar 1) (mpure []))))) :: [])) (dRet (mpure .none))
noncomputable def F__law_caught_d : FD := runB 3 2 g__law_caught_d
theorem sc__law_caught_d : FnScope ["number", "thing", "e"] ["number", "thing"] (defScope (top 42)) := ⟨rfl, rfl, rfl, by decide +kernel, rfl, by decide +kernel, by decide +kernel⟩
theorem b__law_caught_d (fa : Gs mg) (h__law_caught_c : Cal P w K mg base kc 6 "_law_caught_c" F__law_caught_c) {C_InvalidCommand : Addr} (hc_InvalidCommand : ∀ X : Cx, X.mg = mg → Gl X "InvalidCommand" → HdC X (c0 kc) ["InvalidDesk", "InvalidHistory", "InvalidStruck", "InvalidText", "InvalidTry", "InvalidIndex", "InvalidSort", "InvalidStep", "InvalidNumber", "InvalidLot", "InvalidPlan", "InvalidMoves", "InvalidOffers", "InvalidRules", "InvalidBound", "Refused", "InvalidSize", "InvalidWants", "InvalidLedger", "InvalidHouse", "InvalidSeam", "InvalidLots", "InvalidPromise", "InvalidContract", "InvalidCosts", "InvalidTools", "InvalidWaits", "InvalidCommand"] "InvalidCommand" C_InvalidCommand) (hx_InvalidCommand : ∀ n ∈ (["InvalidDesk", "InvalidHistory", "InvalidStruck", "InvalidText", "InvalidTry", "InvalidIndex", "InvalidSort", "InvalidStep", "InvalidNumber", "InvalidLot", "InvalidPlan", "InvalidMoves", "InvalidOffers", "InvalidRules", "InvalidBound", "Refused", "InvalidSize", "InvalidWants", "InvalidLedger", "InvalidHouse", "InvalidSeam", "InvalidLots", "InvalidPromise", "InvalidContract", "InvalidCosts", "InvalidTools", "InvalidWaits", "InvalidCommand"] : List Str), ∀ Cn, kc.kl n = some Cn → XfC kc.K Cn ∧ PySem.W.findIn kc.K (.ref Cn) "" = some none) {C_InvalidWaits : Addr} (hc_InvalidWaits : ∀ X : Cx, X.mg = mg → Gl X "InvalidWaits" → HdC X (c0 kc) ["InvalidDesk", "InvalidHistory", "InvalidStruck", "InvalidText", "InvalidTry", "InvalidIndex", "InvalidSort", "InvalidStep", "InvalidNumber", "InvalidLot", "InvalidPlan", "InvalidMoves", "InvalidOffers", "InvalidRules", "InvalidBound", "Refused", "InvalidSize", "InvalidWants", "InvalidLedger", "InvalidHouse", "InvalidSeam", "InvalidLots", "InvalidPromise", "InvalidContract", "InvalidCosts", "InvalidTools", "InvalidWaits", "InvalidCommand"] "InvalidWaits" C_InvalidWaits) (hx_InvalidWaits : ∀ n ∈ (["InvalidDesk", "InvalidHistory", "InvalidStruck", "InvalidText", "InvalidTry", "InvalidIndex", "InvalidSort", "InvalidStep", "InvalidNumber", "InvalidLot", "InvalidPlan", "InvalidMoves", "InvalidOffers", "InvalidRules", "InvalidBound", "Refused", "InvalidSize", "InvalidWants", "InvalidLedger", "InvalidHouse", "InvalidSeam", "InvalidLots", "InvalidPromise", "InvalidContract", "InvalidCosts", "InvalidTools", "InvalidWaits", "InvalidCommand"] : List Str), ∀ Cn, kc.kl n = some Cn → XfC kc.K Cn ∧ PySem.W.findIn kc.K (.ref Cn) "at" = some none) {C_InvalidTools : Addr} (hc_InvalidTools : ∀ X : Cx, X.mg = mg → Gl X "InvalidTools" → HdC X (c0 kc) ["InvalidDesk", "InvalidHistory", "InvalidStruck", "InvalidText", "InvalidTry", "InvalidIndex", "InvalidSort", "InvalidStep", "InvalidNumber", "InvalidLot", "InvalidPlan", "InvalidMoves", "InvalidOffers", "InvalidRules", "InvalidBound", "Refused", "InvalidSize", "InvalidWants", "InvalidLedger", "InvalidHouse", "InvalidSeam", "InvalidLots", "InvalidPromise", "InvalidContract", "InvalidCosts", "InvalidTools", "InvalidWaits", "InvalidCommand"] "InvalidTools" C_InvalidTools) (hx_InvalidTools : ∀ n ∈ (["InvalidDesk", "InvalidHistory", "InvalidStruck", "InvalidText", "InvalidTry", "InvalidIndex", "InvalidSort", "InvalidStep", "InvalidNumber", "InvalidLot", "InvalidPlan", "InvalidMoves", "InvalidOffers", "InvalidRules", "InvalidBound", "Refused", "InvalidSize", "InvalidWants", "InvalidLedger", "InvalidHouse", "InvalidSeam", "InvalidLots", "InvalidPromise", "InvalidContract", "InvalidCosts", "InvalidTools", "InvalidWaits", "InvalidCommand"] : List Str), ∀ Cn, kc.kl n = some Cn → XfC kc.K Cn ∧ PySem.W.findIn kc.K (.ref Cn) "at" = some none) {C_InvalidCosts : Addr} (hc_InvalidCosts : ∀ X : Cx, X.mg = mg → Gl X "InvalidCosts" → HdC X (c0 kc) ["InvalidDesk", "InvalidHistory", "InvalidStruck", "InvalidText", "InvalidTry", "InvalidIndex", "InvalidSort", "InvalidStep", "InvalidNumber", "InvalidLot", "InvalidPlan", "InvalidMoves", "InvalidOffers", "InvalidRules", "InvalidBound", "Refused", "InvalidSize", "InvalidWants", "InvalidLedger", "InvalidHouse", "InvalidSeam", "InvalidLots", "InvalidPromise", "InvalidContract", "InvalidCosts", "InvalidTools", "InvalidWaits", "InvalidCommand"] "InvalidCosts" C_InvalidCosts) (hx_InvalidCosts : ∀ n ∈ (["InvalidDesk", "InvalidHistory", "InvalidStruck", "InvalidText", "InvalidTry", "InvalidIndex", "InvalidSort", "InvalidStep", "InvalidNumber", "InvalidLot", "InvalidPlan", "InvalidMoves", "InvalidOffers", "InvalidRules", "InvalidBound", "Refused", "InvalidSize", "InvalidWants", "InvalidLedger", "InvalidHouse", "InvalidSeam", "InvalidLots", "InvalidPromise", "InvalidContract", "InvalidCosts", "InvalidTools", "InvalidWaits", "InvalidCommand"] : List Str), ∀ Cn, kc.kl n = some Cn → XfC kc.K Cn ∧ PySem.W.findIn kc.K (.ref Cn) "at" = some none) : Body P w K mg base kc 6 ["number", "thing", "e"] "_law_caught_d" (defScope (top 42)) f (defBody (top 42)) g__law_caught_d := fun cdv A outer s H E cl =>
  have hN := (sc__law_caught_d).nd
  dss_cons (ds_tryN (xs := ["InvalidDesk", "InvalidHistory", "InvalidStruck", "InvalidText", "InvalidTry", "InvalidIndex", "InvalidSort", "InvalidStep", "InvalidNumber", "InvalidLot", "InvalidPlan", "InvalidMoves", "InvalidOffers", "InvalidRules", "InvalidBound", "Refused", "InvalidSize", "InvalidWants", "InvalidLedger", "InvalidHouse", "InvalidSeam", "InvalidLots", "InvalidPromise", "InvalidContract", "InvalidCosts", "InvalidTools", "InvalidWaits", "InvalidCommand"]) rfl rfl hN cl.tk (fun V pn xe t po => dss_one (ds_ret (de_call h__law_caught_c (Cl.tr cl t po) (by decide) rfl (das_val (de_var 0) (das_val (de_var 1) (das_nil)))))) (.named 2 rfl rfl (hc_InvalidCosts _ rfl rfl) (fun a oe cls d pn hz hf => dss_one (ds_ret (de_tup (des_cons (de_int) (des_cons (de_xf (xs := ["InvalidDesk", "InvalidHistory", "InvalidStruck", "InvalidText", "InvalidTry", "InvalidIndex", "InvalidSort", "InvalidStep", "InvalidNumber", "InvalidLot", "InvalidPlan", "InvalidMoves", "InvalidOffers", "InvalidRules", "InvalidBound", "Refused", "InvalidSize", "InvalidWants", "InvalidLedger", "InvalidHouse", "InvalidSeam", "InvalidLots", "InvalidPromise", "InvalidContract", "InvalidCosts", "InvalidTools", "InvalidWaits", "InvalidCommand"]) 2 hx_InvalidCosts rfl (by first | exact Or.inl rfl | exact Or.inr (Or.inl rfl)) (by decide) (by decide) (by decide) rfl a oe cls d pn hz hf) (des_nil)))))) (.named 2 rfl rfl (hc_InvalidTools _ rfl rfl) (fun a oe cls d pn hz hf => dss_one (ds_ret (de_tup (des_cons (de_int) (des_cons (de_xf (xs := ["InvalidDesk", "InvalidHistory", "InvalidStruck", "InvalidText", "InvalidTry", "InvalidIndex", "InvalidSort", "InvalidStep", "InvalidNumber", "InvalidLot", "InvalidPlan", "InvalidMoves", "InvalidOffers", "InvalidRules", "InvalidBound", "Refused", "InvalidSize", "InvalidWants", "InvalidLedger", "InvalidHouse", "InvalidSeam", "InvalidLots", "InvalidPromise", "InvalidContract", "InvalidCosts", "InvalidTools", "InvalidWaits", "InvalidCommand"]) 2 hx_InvalidTools rfl (by first | exact Or.inl rfl | exact Or.inr (Or.inl rfl)) (by decide) (by decide) (by decide) rfl a oe cls d pn hz hf) (des_nil)))))) (.named 2 rfl rfl (hc_InvalidWaits _ rfl rfl) (fun a oe cls d pn hz hf => dss_one (ds_ret (de_tup (des_cons (de_int) (des_cons (de_xf (xs := ["InvalidDesk", "InvalidHistory", "InvalidStruck", "InvalidText", "InvalidTry", "InvalidIndex", "InvalidSort", "InvalidStep", "InvalidNumber", "InvalidLot", "InvalidPlan", "InvalidMoves", "InvalidOffers", "InvalidRules", "InvalidBound", "Refused", "InvalidSize", "InvalidWants", "InvalidLedger", "InvalidHouse", "InvalidSeam", "InvalidLots", "InvalidPromise", "InvalidContract", "InvalidCosts", "InvalidTools", "InvalidWaits", "InvalidCommand"]) 2 hx_InvalidWaits rfl (by first | exact Or.inl rfl | exact Or.inr (Or.inl rfl)) (by decide) (by decide) (by decide) rfl a oe cls d pn hz hf) (des_nil)))))) (.plain (hc_InvalidCommand _ rfl rfl) (fun a oe cls d pn hz hf => dss_one (ds_ret (de_tup (des_cons (de_int) (des_cons (de_var 1) (des_nil)))))) (.nil)))))) (dss_one (ds_ret (de_non)))

noncomputable def g__law_is_alone : M Fl := dSeq (dSetF 2 (dLst (mpure []))) (dSeq (dTryAs 3 ["InvalidDesk", "InvalidHistory", "InvalidStruck", "InvalidText", "InvalidTry", "InvalidIndex", "InvalidSort", "InvalidStep", "InvalidNumber", "InvalidLot", "InvalidPlan", "InvalidMoves", "InvalidOffers", "InvalidRules", "InvalidBound", "Refused", "InvalidSize", "InvalidWants", "InvalidLedger", "InvalidHouse", "InvalidSeam", "InvalidLots", "InvalidPromise", "InvalidContract", "InvalidCosts", "InvalidTools", "InvalidWaits", "InvalidCommand"] "LateError" (dDrop (dCall F__law_raise (.val (dVar 0) :: .val (dVar 1) :: []))) (dSetF 2 (dLst (dEs (dIsX 3 ["InvalidDesk", "InvalidHistory", "InvalidStruck", "InvalidText", "InvalidTry", "InvalidIndex", "InvalidSort", "InvalidStep", "InvalidNumber", "InvalidLot", "InvalidPlan", "InvalidMoves", "InvalidOffers", "InvalidRules", "InvalidBound", "Refused", "InvalidSize", "InvalidWants", "InvalidLedger", "InvalidHouse", "InvalidSeam", "InvalidLots", "InvalidPromise", "InvalidContract", "InvalidCosts", "InvalidTools", "InvalidWaits", "InvalidCommand"] "InvalidDesk") (dEs (dIsX 3 ["InvalidDesk", "InvalidHistory", "InvalidStruck", "InvalidText", "InvalidTry", "InvalidIndex", "InvalidSort", "InvalidStep", "InvalidNumber", "InvalidLot", "InvalidPlan", "InvalidMoves", "InvalidOffers", "InvalidRules", "InvalidBound", "Refused", "InvalidSize", "InvalidWants", "InvalidLedger", "InvalidHouse", "InvalidSeam", "InvalidLots", "InvalidPromise", "InvalidContract", "InvalidCosts", "InvalidTools", "InvalidWaits", "InvalidCommand"] "InvalidHistory") (dEs (dIsX 3 ["InvalidDesk", "InvalidHistory", "InvalidStruck", "InvalidText", "InvalidTry", "InvalidIndex", "InvalidSort", "InvalidStep", "InvalidNumber", "InvalidLot", "InvalidPlan", "InvalidMoves", "InvalidOffers", "InvalidRules", "InvalidBound", "Refused", "InvalidSize", "InvalidWants", "InvalidLedger", "InvalidHouse", "InvalidSeam", "InvalidLots", "InvalidPromise", "InvalidContract", "InvalidCosts", "InvalidTools", "InvalidWaits", "InvalidCommand"] "InvalidStruck") (dEs (dIsX 3 ["InvalidDesk", "InvalidHistory", "InvalidStruck", "InvalidText", "InvalidTry", "InvalidIndex", "InvalidSort", "InvalidStep", "InvalidNumber", "InvalidLot", "InvalidPlan", "InvalidMoves", "InvalidOffers", "InvalidRules", "InvalidBound", "Refused", "InvalidSize", "InvalidWants", "InvalidLedger", "InvalidHouse", "InvalidSeam", "InvalidLots", "InvalidPromise", "InvalidContract", "InvalidCosts", "InvalidTools", "InvalidWaits", "InvalidCommand"] "InvalidText") (dEs (dIsX 3 ["InvalidDesk", "InvalidHistory", "InvalidStruck", "InvalidText", "InvalidTry", "InvalidIndex", "InvalidSort", "InvalidStep", "InvalidNumber", "InvalidLot", "InvalidPlan", "InvalidMoves", "InvalidOffers", "InvalidRules", "InvalidBound", "Refused", "InvalidSize", "InvalidWants", "InvalidLedger", "InvalidHouse", "InvalidSeam", "InvalidLots", "InvalidPromise", "InvalidContract", "InvalidCosts", "InvalidTools", "InvalidWaits", "InvalidCommand"] "InvalidTry") (dEs (dIsX 3 ["InvalidDesk", "InvalidHistory", "InvalidStruck", "InvalidText", "InvalidTry", "InvalidIndex", "InvalidSort", "InvalidStep", "InvalidNumber", "InvalidLot", "InvalidPlan", "InvalidMoves", "InvalidOffers", "InvalidRules", "InvalidBound", "Refused", "InvalidSize", "InvalidWants", "InvalidLedger", "InvalidHouse", "InvalidSeam", "InvalidLots", "InvalidPromise", "InvalidContract", "InvalidCosts", "InvalidTools", "InvalidWaits", "InvalidCommand"] "InvalidIndex") (dEs (dIsX 3 ["InvalidDesk", "InvalidHistory", "InvalidStruck", "InvalidText", "InvalidTry", "InvalidIndex", "InvalidSort", "InvalidStep", "InvalidNumber", "InvalidLot", "InvalidPlan", "InvalidMoves", "InvalidOffers", "InvalidRules", "InvalidBound", "Refused", "InvalidSize", "InvalidWants", "InvalidLedger", "InvalidHouse", "InvalidSeam", "InvalidLots", "InvalidPromise", "InvalidContract", "InvalidCosts", "InvalidTools", "InvalidWaits", "InvalidCommand"] "InvalidSort") (dEs (dIsX 3 ["InvalidDesk", "InvalidHistory", "InvalidStruck", "InvalidText", "InvalidTry", "InvalidIndex", "InvalidSort", "InvalidStep", "InvalidNumber", "InvalidLot", "InvalidPlan", "InvalidMoves", "InvalidOffers", "InvalidRules", "InvalidBound", "Refused", "InvalidSize", "InvalidWants", "InvalidLedger", "InvalidHouse", "InvalidSeam", "InvalidLots", "InvalidPromise", "InvalidContract", "InvalidCosts", "InvalidTools", "InvalidWaits", "InvalidCommand"] "InvalidStep") (dEs (dIsX 3 ["InvalidDesk", "InvalidHistory", "InvalidStruck", "InvalidText", "InvalidTry", "InvalidIndex", "InvalidSort", "InvalidStep", "InvalidNumber", "InvalidLot", "InvalidPlan", "InvalidMoves", "InvalidOffers", "InvalidRules", "InvalidBound", "Refused", "InvalidSize", "InvalidWants", "InvalidLedger", "InvalidHouse", "InvalidSeam", "InvalidLots", "InvalidPromise", "InvalidContract", "InvalidCosts", "InvalidTools", "InvalidWaits", "InvalidCommand"] "InvalidNumber") (dEs (dIsX 3 ["InvalidDesk", "InvalidHistory", "InvalidStruck", "InvalidText", "InvalidTry", "InvalidIndex", "InvalidSort", "InvalidStep", "InvalidNumber", "InvalidLot", "InvalidPlan", "InvalidMoves", "InvalidOffers", "InvalidRules", "InvalidBound", "Refused", "InvalidSize", "InvalidWants", "InvalidLedger", "InvalidHouse", "InvalidSeam", "InvalidLots", "InvalidPromise", "InvalidContract", "InvalidCosts", "InvalidTools", "InvalidWaits", "InvalidCommand"] "InvalidLot") (dEs (dIsX 3 ["InvalidDesk", "InvalidHistory", "InvalidStruck", "InvalidText", "InvalidTry", "InvalidIndex", "InvalidSort", "InvalidStep", "InvalidNumber", "InvalidLot", "InvalidPlan", "InvalidMoves", "InvalidOffers", "InvalidRules", "InvalidBound", "Refused", "InvalidSize", "InvalidWants", "InvalidLedger", "InvalidHouse", "InvalidSeam", "InvalidLots", "InvalidPromise", "InvalidContract", "InvalidCosts", "InvalidTools", "InvalidWaits", "InvalidCommand"] "InvalidPlan") (dEs (dIsX 3 ["InvalidDesk", "InvalidHistory", "InvalidStruck", "InvalidText", "InvalidTry", "InvalidIndex", "InvalidSort", "InvalidStep", "InvalidNumber", "InvalidLot", "InvalidPlan", "InvalidMoves", "InvalidOffers", "InvalidRules", "InvalidBound", "Refused", "InvalidSize", "InvalidWants", "InvalidLedger", "InvalidHouse", "InvalidSeam", "InvalidLots", "InvalidPromise", "InvalidContract", "InvalidCosts", "InvalidTools", "InvalidWaits", "InvalidCommand"] "InvalidMoves") (dEs (dIsX 3 ["InvalidDesk", "InvalidHistory", "InvalidStruck", "InvalidText", "InvalidTry", "InvalidIndex", "InvalidSort", "InvalidStep", "InvalidNumber", "InvalidLot", "InvalidPlan", "InvalidMoves", "InvalidOffers", "InvalidRules", "InvalidBound", "Refused", "InvalidSize", "InvalidWants", "InvalidLedger", "InvalidHouse", "InvalidSeam", "InvalidLots", "InvalidPromise", "InvalidContract", "InvalidCosts", "InvalidTools", "InvalidWaits", "InvalidCommand"] "InvalidOffers") (dEs (dIsX 3 ["InvalidDesk", "InvalidHistory", "InvalidStruck", "InvalidText", "InvalidTry", "InvalidIndex", "InvalidSort", "InvalidStep", "InvalidNumber", "InvalidLot", "InvalidPlan", "InvalidMoves", "InvalidOffers", "InvalidRules", "InvalidBound", "Refused", "InvalidSize", "InvalidWants", "InvalidLedger", "InvalidHouse", "InvalidSeam", "InvalidLots", "InvalidPromise", "InvalidContract", "InvalidCosts", "InvalidTools", "InvalidWaits", "InvalidCommand"] "InvalidRules") (dEs (dIsX 3 ["InvalidDesk", "InvalidHistory", "InvalidStruck", "InvalidText", "InvalidTry", "InvalidIndex", "InvalidSort", "InvalidStep", "InvalidNumber", "InvalidLot", "InvalidPlan", "InvalidMoves", "InvalidOffers", "InvalidRules", "InvalidBound", "Refused", "InvalidSize", "InvalidWants", "InvalidLedger", "InvalidHouse", "InvalidSeam", "InvalidLots", "InvalidPromise", "InvalidContract", "InvalidCosts", "InvalidTools", "InvalidWaits", "InvalidCommand"] "InvalidBound") (dEs (dIsX 3 ["InvalidDesk", "InvalidHistory", "InvalidStruck", "InvalidText", "InvalidTry", "InvalidIndex", "InvalidSort", "InvalidStep", "InvalidNumber", "InvalidLot", "InvalidPlan", "InvalidMoves", "InvalidOffers", "InvalidRules", "InvalidBound", "Refused", "InvalidSize", "InvalidWants", "InvalidLedger", "InvalidHouse", "InvalidSeam", "InvalidLots", "InvalidPromise", "InvalidContract", "InvalidCosts", "InvalidTools", "InvalidWaits", "InvalidCommand"] "Refused") (dEs (dIsX 3 ["InvalidDesk", "InvalidHistory", "InvalidStruck", "InvalidText", "InvalidTry", "InvalidIndex", "InvalidSort", "InvalidStep", "InvalidNumber", "InvalidLot", "InvalidPlan", "InvalidMoves", "InvalidOffers", "InvalidRules", "InvalidBound", "Refused", "InvalidSize", "InvalidWants", "InvalidLedger", "InvalidHouse", "InvalidSeam", "InvalidLots", "InvalidPromise", "InvalidContract", "InvalidCosts", "InvalidTools", "InvalidWaits", "InvalidCommand"] "InvalidSize") (dEs (dIsX 3 ["InvalidDesk", "InvalidHistory", "InvalidStruck", "InvalidText", "InvalidTry", "InvalidIndex", "InvalidSort", "InvalidStep", "InvalidNumber", "InvalidLot", "InvalidPlan", "InvalidMoves", "InvalidOffers", "InvalidRules", "InvalidBound", "Refused", "InvalidSize", "InvalidWants", "InvalidLedger", "InvalidHouse", "InvalidSeam", "InvalidLots", "InvalidPromise", "InvalidContract", "InvalidCosts", "InvalidTools", "InvalidWaits", "InvalidCommand"] "InvalidWants") (dEs (dIsX 3 ["InvalidDesk", "InvalidHistory", "InvalidStruck", "InvalidText", "InvalidTry", "InvalidIndex", "InvalidSort", "InvalidStep", "InvalidNumber", "InvalidLot", "InvalidPlan", "InvalidMoves", "InvalidOffers", "InvalidRules", "InvalidBound", "Refused", "InvalidSize", "InvalidWants", "InvalidLedger", "InvalidHouse", "InvalidSeam", "InvalidLots", "InvalidPromise", "InvalidContract", "InvalidCosts", "InvalidTools", "InvalidWaits", "InvalidCommand"] "InvalidLedger") (dEs (dIsX 3 ["InvalidDesk", "InvalidHistory", "InvalidStruck", "InvalidText", "InvalidTry", "InvalidIndex", "InvalidSort", "InvalidStep", "InvalidNumber", "InvalidLot", "InvalidPlan", "InvalidMoves", "InvalidOffers", "InvalidRules", "InvalidBound", "Refused", "InvalidSize", "InvalidWants", "InvalidLedger", "InvalidHouse", "InvalidSeam", "InvalidLots", "InvalidPromise", "InvalidContract", "InvalidCosts", "InvalidTools", "InvalidWaits", "InvalidCommand"] "InvalidHouse") (dEs (dIsX 3 ["InvalidDesk", "InvalidHistory", "InvalidStruck", "InvalidText", "InvalidTry", "InvalidIndex", "InvalidSort", "InvalidStep", "InvalidNumber", "InvalidLot", "InvalidPlan", "InvalidMoves", "InvalidOffers", "InvalidRules", "InvalidBound", "Refused", "InvalidSize", "InvalidWants", "InvalidLedger", "InvalidHouse", "InvalidSeam", "InvalidLots", "InvalidPromise", "InvalidContract", "InvalidCosts", "InvalidTools", "InvalidWaits", "InvalidCommand"] "InvalidSeam") (dEs (dIsX 3 ["InvalidDesk", "InvalidHistory", "InvalidStruck", "InvalidText", "InvalidTry", "InvalidIndex", "InvalidSort", "InvalidStep", "InvalidNumber", "InvalidLot", "InvalidPlan", "InvalidMoves", "InvalidOffers", "InvalidRules", "InvalidBound", "Refused", "InvalidSize", "InvalidWants", "InvalidLedger", "InvalidHouse", "InvalidSeam", "InvalidLots", "InvalidPromise", "InvalidContract", "InvalidCosts", "InvalidTools", "InvalidWaits", "InvalidCommand"] "InvalidLots") (dEs (dIsX 3 ["InvalidDesk", "InvalidHistory", "InvalidStruck", "InvalidText", "InvalidTry", "InvalidIndex", "InvalidSort", "InvalidStep", "InvalidNumber", "InvalidLot", "InvalidPlan", "InvalidMoves", "InvalidOffers", "InvalidRules", "InvalidBound", "Refused", "InvalidSize", "InvalidWants", "InvalidLedger", "InvalidHouse", "InvalidSeam", "InvalidLots", "InvalidPromise", "InvalidContract", "InvalidCosts", "InvalidTools", "InvalidWaits", "InvalidCommand"] "InvalidPromise") (dEs (dIsX 3 ["InvalidDesk", "InvalidHistory", "InvalidStruck", "InvalidText", "InvalidTry", "InvalidIndex", "InvalidSort", "InvalidStep", "InvalidNumber", "InvalidLot", "InvalidPlan", "InvalidMoves", "InvalidOffers", "InvalidRules", "InvalidBound", "Refused", "InvalidSize", "InvalidWants", "InvalidLedger", "InvalidHouse", "InvalidSeam", "InvalidLots", "InvalidPromise", "InvalidContract", "InvalidCosts", "InvalidTools", "InvalidWaits", "InvalidCommand"] "InvalidContract") (dEs (dIsX 3 ["InvalidDesk", "InvalidHistory", "InvalidStruck", "InvalidText", "InvalidTry", "InvalidIndex", "InvalidSort", "InvalidStep", "InvalidNumber", "InvalidLot", "InvalidPlan", "InvalidMoves", "InvalidOffers", "InvalidRules", "InvalidBound", "Refused", "InvalidSize", "InvalidWants", "InvalidLedger", "InvalidHouse", "InvalidSeam", "InvalidLots", "InvalidPromise", "InvalidContract", "InvalidCosts", "InvalidTools", "InvalidWaits", "InvalidCommand"] "InvalidCosts") (dEs (dIsX 3 ["InvalidDesk", "InvalidHistory", "InvalidStruck", "InvalidText", "InvalidTry", "InvalidIndex", "InvalidSort", "InvalidStep", "InvalidNumber", "InvalidLot", "InvalidPlan", "InvalidMoves", "InvalidOffers", "InvalidRules", "InvalidBound", "Refused", "InvalidSize", "InvalidWants", "InvalidLedger", "InvalidHouse", "InvalidSeam", "InvalidLots", "InvalidPromise", "InvalidContract", "InvalidCosts", "InvalidTools", "InvalidWaits", "InvalidCommand"] "InvalidTools") (dEs (dIsX 3 ["InvalidDesk", "InvalidHistory", "InvalidStruck", "InvalidText", "InvalidTry", "InvalidIndex", "InvalidSort", "InvalidStep", "InvalidNumber", "InvalidLot", "InvalidPlan", "InvalidMoves", "InvalidOffers", "InvalidRules", "InvalidBound", "Refused", "InvalidSize", "InvalidWants", "InvalidLedger", "InvalidHouse", "InvalidSeam", "InvalidLots", "InvalidPromise", "InvalidContract", "InvalidCosts", "InvalidTools", "InvalidWaits", "InvalidCommand"] "InvalidWaits") (dEs (dIsX 3 ["InvalidDesk", "InvalidHistory", "InvalidStruck", "InvalidText", "InvalidTry", "InvalidIndex", "InvalidSort", "InvalidStep", "InvalidNumber", "InvalidLot", "InvalidPlan", "InvalidMoves", "InvalidOffers", "InvalidRules", "InvalidBound", "Refused", "InvalidSize", "InvalidWants", "InvalidLedger", "InvalidHouse", "InvalidSeam", "InvalidLots", "InvalidPromise", "InvalidContract", "InvalidCosts", "InvalidTools", "InvalidWaits", "InvalidCommand"] "InvalidCommand") (mpure [])))))))))))))))))))))))))))))))) (dRet (dOp2 pEq (dkVar 2) (dkE (mbind (dComp (.nm 4) [4] (dRange1 (dEs (mpure (.int 28)) (mpure []))) (mpure true) (dOp2 pEq (dkVar 4) (dkVar 0))) (fun xs => mpure (.list xs)))))))
noncomputable def F__law_is_alone : FD := runB 5 2 g__law_is_alone
theorem sc__law_is_alone : FnScope ["number", "thing", "found", "error", "at"] ["number", "thing"] (defScope (top 43)) := ⟨rfl, rfl, rfl, by decide +kernel, rfl, by decide +kernel, by decide +kernel⟩
theorem b__law_is_alone (fa : Gs mg) (h__law_raise : Cal P w K mg base kc 3 "_law_raise" F__law_raise) {I_InvalidCommand : Addr} (i_InvalidCommand : mg "InvalidCommand" = some (.ref I_InvalidCommand) ∧ ∀ y ∈ (["InvalidDesk", "InvalidHistory", "InvalidStruck", "InvalidText", "InvalidTry", "InvalidIndex", "InvalidSort", "InvalidStep", "InvalidNumber", "InvalidLot", "InvalidPlan", "InvalidMoves", "InvalidOffers", "InvalidRules", "InvalidBound", "Refused", "InvalidSize", "InvalidWants", "InvalidLedger", "InvalidHouse", "InvalidSeam", "InvalidLots", "InvalidPromise", "InvalidContract", "InvalidCosts", "InvalidTools", "InvalidWaits", "InvalidCommand"] : List Str), ∀ Cn, kc.kl y = some Cn → L2.ExcC kc.K Cn ∧ PySem.W.typeIn kc.K (.ref Cn) = some (.type "type") ∧ PySem.W.kitOne kc.K (.ref Cn) (.ref I_InvalidCommand) = some (y == "InvalidCommand")) {I_InvalidWaits : Addr} (i_InvalidWaits : mg "InvalidWaits" = some (.ref I_InvalidWaits) ∧ ∀ y ∈ (["InvalidDesk", "InvalidHistory", "InvalidStruck", "InvalidText", "InvalidTry", "InvalidIndex", "InvalidSort", "InvalidStep", "InvalidNumber", "InvalidLot", "InvalidPlan", "InvalidMoves", "InvalidOffers", "InvalidRules", "InvalidBound", "Refused", "InvalidSize", "InvalidWants", "InvalidLedger", "InvalidHouse", "InvalidSeam", "InvalidLots", "InvalidPromise", "InvalidContract", "InvalidCosts", "InvalidTools", "InvalidWaits", "InvalidCommand"] : List Str), ∀ Cn, kc.kl y = some Cn → L2.ExcC kc.K Cn ∧ PySem.W.typeIn kc.K (.ref Cn) = some (.type "type") ∧ PySem.W.kitOne kc.K (.ref Cn) (.ref I_InvalidWaits) = some (y == "InvalidWaits")) {I_InvalidTools : Addr} (i_InvalidTools : mg "InvalidTools" = some (.ref I_InvalidTools) ∧ ∀ y ∈ (["InvalidDesk", "InvalidHistory", "InvalidStruck", "InvalidText", "InvalidTry", "InvalidIndex", "InvalidSort", "InvalidStep", "InvalidNumber", "InvalidLot", "InvalidPlan", "InvalidMoves", "InvalidOffers", "InvalidRules", "InvalidBound", "Refused", "InvalidSize", "InvalidWants", "InvalidLedger", "InvalidHouse", "InvalidSeam", "InvalidLots", "InvalidPromise", "InvalidContract", "InvalidCosts", "InvalidTools", "InvalidWaits", "InvalidCommand"] : List Str), ∀ Cn, kc.kl y = some Cn → L2.ExcC kc.K Cn ∧ PySem.W.typeIn kc.K (.ref Cn) = some (.type "type") ∧ PySem.W.kitOne kc.K (.ref Cn) (.ref I_InvalidTools) = some (y == "InvalidTools")) {I_InvalidCosts : Addr} (i_InvalidCosts : mg "InvalidCosts" = some (.ref I_InvalidCosts) ∧ ∀ y ∈ (["InvalidDesk", "InvalidHistory", "InvalidStruck", "InvalidText", "InvalidTry", "InvalidIndex", "InvalidSort", "InvalidStep", "InvalidNumber", "InvalidLot", "InvalidPlan", "InvalidMoves", "InvalidOffers", "InvalidRules", "InvalidBound", "Refused", "InvalidSize", "InvalidWants", "InvalidLedger", "InvalidHouse", "InvalidSeam", "InvalidLots", "InvalidPromise", "InvalidContract", "InvalidCosts", "InvalidTools", "InvalidWaits", "InvalidCommand"] : List Str), ∀ Cn, kc.kl y = some Cn → L2.ExcC kc.K Cn ∧ PySem.W.typeIn kc.K (.ref Cn) = some (.type "type") ∧ PySem.W.kitOne kc.K (.ref Cn) (.ref I_InvalidCosts) = some (y == "InvalidCosts")) {I_InvalidContract : Addr} (i_InvalidContract : mg "InvalidContract" = some (.ref I_InvalidContract) ∧ ∀ y ∈ (["InvalidDesk", "InvalidHistory", "InvalidStruck", "InvalidText", "InvalidTry", "InvalidIndex", "InvalidSort", "InvalidStep", "InvalidNumber", "InvalidLot", "InvalidPlan", "InvalidMoves", "InvalidOffers", "InvalidRules", "InvalidBound", "Refused", "InvalidSize", "InvalidWants", "InvalidLedger", "InvalidHouse", "InvalidSeam", "InvalidLots", "InvalidPromise", "InvalidContract", "InvalidCosts", "InvalidTools", "InvalidWaits", "InvalidCommand"] : List Str), ∀ Cn, kc.kl y = some Cn → L2.ExcC kc.K Cn ∧ PySem.W.typeIn kc.K (.ref Cn) = some (.type "type") ∧ PySem.W.kitOne kc.K (.ref Cn) (.ref I_InvalidContract) = some (y == "InvalidContract")) {I_InvalidPromise : Addr} (i_InvalidPromise : mg "InvalidPromise" = some (.ref I_InvalidPromise) ∧ ∀ y ∈ (["InvalidDesk", "InvalidHistory", "InvalidStruck", "InvalidText", "InvalidTry", "InvalidIndex", "InvalidSort", "InvalidStep", "InvalidNumber", "InvalidLot", "InvalidPlan", "InvalidMoves", "InvalidOffers", "InvalidRules", "InvalidBound", "Refused", "InvalidSize", "InvalidWants", "InvalidLedger", "InvalidHouse", "InvalidSeam", "InvalidLots", "InvalidPromise", "InvalidContract", "InvalidCosts", "InvalidTools", "InvalidWaits", "InvalidCommand"] : List Str), ∀ Cn, kc.kl y = some Cn → L2.ExcC kc.K Cn ∧ PySem.W.typeIn kc.K (.ref Cn) = some (.type "type") ∧ PySem.W.kitOne kc.K (.ref Cn) (.ref I_InvalidPromise) = some (y == "InvalidPromise")) {I_InvalidLots : Addr} (i_InvalidLots : mg "InvalidLots" = some (.ref I_InvalidLots) ∧ ∀ y ∈ (["InvalidDesk", "InvalidHistory", "InvalidStruck", "InvalidText", "InvalidTry", "InvalidIndex", "InvalidSort", "InvalidStep", "InvalidNumber", "InvalidLot", "InvalidPlan", "InvalidMoves", "InvalidOffers", "InvalidRules", "InvalidBound", "Refused", "InvalidSize", "InvalidWants", "InvalidLedger", "InvalidHouse", "InvalidSeam", "InvalidLots", "InvalidPromise", "InvalidContract", "InvalidCosts", "InvalidTools", "InvalidWaits", "InvalidCommand"] : List Str), ∀ Cn, kc.kl y = some Cn → L2.ExcC kc.K Cn ∧ PySem.W.typeIn kc.K (.ref Cn) = some (.type "type") ∧ PySem.W.kitOne kc.K (.ref Cn) (.ref I_InvalidLots) = some (y == "InvalidLots")) {I_InvalidSeam : Addr} (i_InvalidSeam : mg "InvalidSeam" = some (.ref I_InvalidSeam) ∧ ∀ y ∈ (["InvalidDesk", "InvalidHistory", "InvalidStruck", "InvalidText", "InvalidTry", "InvalidIndex", "InvalidSort", "InvalidStep", "InvalidNumber", "InvalidLot", "InvalidPlan", "InvalidMoves", "InvalidOffers", "InvalidRules", "InvalidBound", "Refused", "InvalidSize", "InvalidWants", "InvalidLedger", "InvalidHouse", "InvalidSeam", "InvalidLots", "InvalidPromise", "InvalidContract", "InvalidCosts", "InvalidTools", "InvalidWaits", "InvalidCommand"] : List Str), ∀ Cn, kc.kl y = some Cn → L2.ExcC kc.K Cn ∧ PySem.W.typeIn kc.K (.ref Cn) = some (.type "type") ∧ PySem.W.kitOne kc.K (.ref Cn) (.ref I_InvalidSeam) = some (y == "InvalidSeam")) {I_InvalidHouse : Addr} (i_InvalidHouse : mg "InvalidHouse" = some (.ref I_InvalidHouse) ∧ ∀ y ∈ (["InvalidDesk", "InvalidHistory", "InvalidStruck", "InvalidText", "InvalidTry", "InvalidIndex", "InvalidSort", "InvalidStep", "InvalidNumber", "InvalidLot", "InvalidPlan", "InvalidMoves", "InvalidOffers", "InvalidRules", "InvalidBound", "Refused", "InvalidSize", "InvalidWants", "InvalidLedger", "InvalidHouse", "InvalidSeam", "InvalidLots", "InvalidPromise", "InvalidContract", "InvalidCosts", "InvalidTools", "InvalidWaits", "InvalidCommand"] : List Str), ∀ Cn, kc.kl y = some Cn → L2.ExcC kc.K Cn ∧ PySem.W.typeIn kc.K (.ref Cn) = some (.type "type") ∧ PySem.W.kitOne kc.K (.ref Cn) (.ref I_InvalidHouse) = some (y == "InvalidHouse")) {I_InvalidLedger : Addr} (i_InvalidLedger : mg "InvalidLedger" = some (.ref I_InvalidLedger) ∧ ∀ y ∈ (["InvalidDesk", "InvalidHistory", "InvalidStruck", "InvalidText", "InvalidTry", "InvalidIndex", "InvalidSort", "InvalidStep", "InvalidNumber", "InvalidLot", "InvalidPlan", "InvalidMoves", "InvalidOffers", "InvalidRules", "InvalidBound", "Refused", "InvalidSize", "InvalidWants", "InvalidLedger", "InvalidHouse", "InvalidSeam", "InvalidLots", "InvalidPromise", "InvalidContract", "InvalidCosts", "InvalidTools", "InvalidWaits", "InvalidCommand"] : List Str), ∀ Cn, kc.kl y = some Cn → L2.ExcC kc.K Cn ∧ PySem.W.typeIn kc.K (.ref Cn) = some (.type "type") ∧ PySem.W.kitOne kc.K (.ref Cn) (.ref I_InvalidLedger) = some (y == "InvalidLedger")) {I_InvalidWants : Addr} (i_InvalidWants : mg "InvalidWants" = some (.ref I_InvalidWants) ∧ ∀ y ∈ (["InvalidDesk", "InvalidHistory", "InvalidStruck", "InvalidText", "InvalidTry", "InvalidIndex", "InvalidSort", "InvalidStep", "InvalidNumber", "InvalidLot", "InvalidPlan", "InvalidMoves", "InvalidOffers", "InvalidRules", "InvalidBound", "Refused", "InvalidSize", "InvalidWants", "InvalidLedger", "InvalidHouse", "InvalidSeam", "InvalidLots", "InvalidPromise", "InvalidContract", "InvalidCosts", "InvalidTools", "InvalidWaits", "InvalidCommand"] : List Str), ∀ Cn, kc.kl y = some Cn → L2.ExcC kc.K Cn ∧ PySem.W.typeIn kc.K (.ref Cn) = some (.type "type") ∧ PySem.W.kitOne kc.K (.ref Cn) (.ref I_InvalidWants) = some (y == "InvalidWants")) {I_InvalidSize : Addr} (i_InvalidSize : mg "InvalidSize" = some (.ref I_InvalidSize) ∧ ∀ y ∈ (["InvalidDesk", "InvalidHistory", "InvalidStruck", "InvalidText", "InvalidTry", "InvalidIndex", "InvalidSort", "InvalidStep", "InvalidNumber", "InvalidLot", "InvalidPlan", "InvalidMoves", "InvalidOffers", "InvalidRules", "InvalidBound", "Refused", "InvalidSize", "InvalidWants", "InvalidLedger", "InvalidHouse", "InvalidSeam", "InvalidLots", "InvalidPromise", "InvalidContract", "InvalidCosts", "InvalidTools", "InvalidWaits", "InvalidCommand"] : List Str), ∀ Cn, kc.kl y = some Cn → L2.ExcC kc.K Cn ∧ PySem.W.typeIn kc.K (.ref Cn) = some (.type "type") ∧ PySem.W.kitOne kc.K (.ref Cn) (.ref I_InvalidSize) = some (y == "InvalidSize")) {I_Refused : Addr} (i_Refused : mg "Refused" = some (.ref I_Refused) ∧ ∀ y ∈ (["InvalidDesk", "InvalidHistory", "InvalidStruck", "InvalidText", "InvalidTry", "InvalidIndex", "InvalidSort", "InvalidStep", "InvalidNumber", "InvalidLot", "InvalidPlan", "InvalidMoves", "InvalidOffers", "InvalidRules", "InvalidBound", "Refused", "InvalidSize", "InvalidWants", "InvalidLedger", "InvalidHouse", "InvalidSeam", "InvalidLots", "InvalidPromise", "InvalidContract", "InvalidCosts", "InvalidTools", "InvalidWaits", "InvalidCommand"] : List Str), ∀ Cn, kc.kl y = some Cn → L2.ExcC kc.K Cn ∧ PySem.W.typeIn kc.K (.ref Cn) = some (.type "type") ∧ PySem.W.kitOne kc.K (.ref Cn) (.ref I_Refused) = some (y == "Refused")) {I_InvalidBound : Addr} (i_InvalidBound : mg "InvalidBound" = some (.ref I_InvalidBound) ∧ ∀ y ∈ (["InvalidDesk", "InvalidHistory", "InvalidStruck", "InvalidText", "InvalidTry", "InvalidIndex", "InvalidSort", "InvalidStep", "InvalidNumber", "InvalidLot", "InvalidPlan", "InvalidMoves", "InvalidOffers", "InvalidRules", "InvalidBound", "Refused", "InvalidSize", "InvalidWants", "InvalidLedger", "InvalidHouse", "InvalidSeam", "InvalidLots", "InvalidPromise", "InvalidContract", "InvalidCosts", "InvalidTools", "InvalidWaits", "InvalidCommand"] : List Str), ∀ Cn, kc.kl y = some Cn → L2.ExcC kc.K Cn ∧ PySem.W.typeIn kc.K (.ref Cn) = some (.type "type") ∧ PySem.W.kitOne kc.K (.ref Cn) (.ref I_InvalidBound) = some (y == "InvalidBound")) {I_InvalidRules : Addr} (i_InvalidRules : mg "InvalidRules" = some (.ref I_InvalidRules) ∧ ∀ y ∈ (["InvalidDesk", "InvalidHistory", "InvalidStruck", "InvalidText", "InvalidTry", "InvalidIndex", "InvalidSort", "InvalidStep", "InvalidNumber", "InvalidLot", "InvalidPlan", "InvalidMoves", "InvalidOffers", "InvalidRules", "InvalidBound", "Refused", "InvalidSize", "InvalidWants", "InvalidLedger", "InvalidHouse", "InvalidSeam", "InvalidLots", "InvalidPromise", "InvalidContract", "InvalidCosts", "InvalidTools", "InvalidWaits", "InvalidCommand"] : List Str), ∀ Cn, kc.kl y = some Cn → L2.ExcC kc.K Cn ∧ PySem.W.typeIn kc.K (.ref Cn) = some (.type "type") ∧ PySem.W.kitOne kc.K (.ref Cn) (.ref I_InvalidRules) = some (y == "InvalidRules")) {I_InvalidOffers : Addr} (i_InvalidOffers : mg "InvalidOffers" = some (.ref I_InvalidOffers) ∧ ∀ y ∈ (["InvalidDesk", "InvalidHistory", "InvalidStruck", "InvalidText", "InvalidTry", "InvalidIndex", "InvalidSort", "InvalidStep", "InvalidNumber", "InvalidLot", "InvalidPlan", "InvalidMoves", "InvalidOffers", "InvalidRules", "InvalidBound", "Refused", "InvalidSize", "InvalidWants", "InvalidLedger", "InvalidHouse", "InvalidSeam", "InvalidLots", "InvalidPromise", "InvalidContract", "InvalidCosts", "InvalidTools", "InvalidWaits", "InvalidCommand"] : List Str), ∀ Cn, kc.kl y = some Cn → L2.ExcC kc.K Cn ∧ PySem.W.typeIn kc.K (.ref Cn) = some (.type "type") ∧ PySem.W.kitOne kc.K (.ref Cn) (.ref I_InvalidOffers) = some (y == "InvalidOffers")) {I_InvalidMoves : Addr} (i_InvalidMoves : mg "InvalidMoves" = some (.ref I_InvalidMoves) ∧ ∀ y ∈ (["InvalidDesk", "InvalidHistory", "InvalidStruck", "InvalidText", "InvalidTry", "InvalidIndex", "InvalidSort", "InvalidStep", "InvalidNumber", "InvalidLot", "InvalidPlan", "InvalidMoves", "InvalidOffers", "InvalidRules", "InvalidBound", "Refused", "InvalidSize", "InvalidWants", "InvalidLedger", "InvalidHouse", "InvalidSeam", "InvalidLots", "InvalidPromise", "InvalidContract", "InvalidCosts", "InvalidTools", "InvalidWaits", "InvalidCommand"] : List Str), ∀ Cn, kc.kl y = some Cn → L2.ExcC kc.K Cn ∧ PySem.W.typeIn kc.K (.ref Cn) = some (.type "type") ∧ PySem.W.kitOne kc.K (.ref Cn) (.ref I_InvalidMoves) = some (y == "InvalidMoves")) {I_InvalidPlan : Addr} (i_InvalidPlan : mg "InvalidPlan" = some (.ref I_InvalidPlan) ∧ ∀ y ∈ (["InvalidDesk", "InvalidHistory", "InvalidStruck", "InvalidText", "InvalidTry", "InvalidIndex", "InvalidSort", "InvalidStep", "InvalidNumber", "InvalidLot", "InvalidPlan", "InvalidMoves", "InvalidOffers", "InvalidRules", "InvalidBound", "Refused", "InvalidSize", "InvalidWants", "InvalidLedger", "InvalidHouse", "InvalidSeam", "InvalidLots", "InvalidPromise", "InvalidContract", "InvalidCosts", "InvalidTools", "InvalidWaits", "InvalidCommand"] : List Str), ∀ Cn, kc.kl y = some Cn → L2.ExcC kc.K Cn ∧ PySem.W.typeIn kc.K (.ref Cn) = some (.type "type") ∧ PySem.W.kitOne kc.K (.ref Cn) (.ref I_InvalidPlan) = some (y == "InvalidPlan")) {I_InvalidLot : Addr} (i_InvalidLot : mg "InvalidLot" = some (.ref I_InvalidLot) ∧ ∀ y ∈ (["InvalidDesk", "InvalidHistory", "InvalidStruck", "InvalidText", "InvalidTry", "InvalidIndex", "InvalidSort", "InvalidStep", "InvalidNumber", "InvalidLot", "InvalidPlan", "InvalidMoves", "InvalidOffers", "InvalidRules", "InvalidBound", "Refused", "InvalidSize", "InvalidWants", "InvalidLedger", "InvalidHouse", "InvalidSeam", "InvalidLots", "InvalidPromise", "InvalidContract", "InvalidCosts", "InvalidTools", "InvalidWaits", "InvalidCommand"] : List Str), ∀ Cn, kc.kl y = some Cn → L2.ExcC kc.K Cn ∧ PySem.W.typeIn kc.K (.ref Cn) = some (.type "type") ∧ PySem.W.kitOne kc.K (.ref Cn) (.ref I_InvalidLot) = some (y == "InvalidLot")) {I_InvalidNumber : Addr} (i_InvalidNumber : mg "InvalidNumber" = some (.ref I_InvalidNumber) ∧ ∀ y ∈ (["InvalidDesk", "InvalidHistory", "InvalidStruck", "InvalidText", "InvalidTry", "InvalidIndex", "InvalidSort", "InvalidStep", "InvalidNumber", "InvalidLot", "InvalidPlan", "InvalidMoves", "InvalidOffers", "InvalidRules", "InvalidBound", "Refused", "InvalidSize", "InvalidWants", "InvalidLedger", "InvalidHouse", "InvalidSeam", "InvalidLots", "InvalidPromise", "InvalidContract", "InvalidCosts", "InvalidTools", "InvalidWaits", "InvalidCommand"] : List Str), ∀ Cn, kc.kl y = some Cn → L2.ExcC kc.K Cn ∧ PySem.W.typeIn kc.K (.ref Cn) = some (.type "type") ∧ PySem.W.kitOne kc.K (.ref Cn) (.ref I_InvalidNumber) = some (y == "InvalidNumber")) {I_InvalidStep : Addr} (i_InvalidStep : mg "InvalidStep" = some (.ref I_InvalidStep) ∧ ∀ y ∈ (["InvalidDesk", "InvalidHistory", "InvalidStruck", "InvalidText", "InvalidTry", "InvalidIndex", "InvalidSort", "InvalidStep", "InvalidNumber", "InvalidLot", "InvalidPlan", "InvalidMoves", "InvalidOffers", "InvalidRules", "InvalidBound", "Refused", "InvalidSize", "InvalidWants", "InvalidLedger", "InvalidHouse", "InvalidSeam", "InvalidLots", "InvalidPromise", "InvalidContract", "InvalidCosts", "InvalidTools", "InvalidWaits", "InvalidCommand"] : List Str), ∀ Cn, kc.kl y = some Cn → L2.ExcC kc.K Cn ∧ PySem.W.typeIn kc.K (.ref Cn) = some (.type "type") ∧ PySem.W.kitOne kc.K (.ref Cn) (.ref I_InvalidStep) = some (y == "InvalidStep")) {I_InvalidSort : Addr} (i_InvalidSort : mg "InvalidSort" = some (.ref I_InvalidSort) ∧ ∀ y ∈ (["InvalidDesk", "InvalidHistory", "InvalidStruck", "InvalidText", "InvalidTry", "InvalidIndex", "InvalidSort", "InvalidStep", "InvalidNumber", "InvalidLot", "InvalidPlan", "InvalidMoves", "InvalidOffers", "InvalidRules", "InvalidBound", "Refused", "InvalidSize", "InvalidWants", "InvalidLedger", "InvalidHouse", "InvalidSeam", "InvalidLots", "InvalidPromise", "InvalidContract", "InvalidCosts", "InvalidTools", "InvalidWaits", "InvalidCommand"] : List Str), ∀ Cn, kc.kl y = some Cn → L2.ExcC kc.K Cn ∧ PySem.W.typeIn kc.K (.ref Cn) = some (.type "type") ∧ PySem.W.kitOne kc.K (.ref Cn) (.ref I_InvalidSort) = some (y == "InvalidSort")) {I_InvalidIndex : Addr} (i_InvalidIndex : mg "InvalidIndex" = some (.ref I_InvalidIndex) ∧ ∀ y ∈ (["InvalidDesk", "InvalidHistory", "InvalidStruck", "InvalidText", "InvalidTry", "InvalidIndex", "InvalidSort", "InvalidStep", "InvalidNumber", "InvalidLot", "InvalidPlan", "InvalidMoves", "InvalidOffers", "InvalidRules", "InvalidBound", "Refused", "InvalidSize", "InvalidWants", "InvalidLedger", "InvalidHouse", "InvalidSeam", "InvalidLots", "InvalidPromise", "InvalidContract", "InvalidCosts", "InvalidTools", "InvalidWaits", "InvalidCommand"] : List Str), ∀ Cn, kc.kl y = some Cn → L2.ExcC kc.K Cn ∧ PySem.W.typeIn kc.K (.ref Cn) = some (.type "type") ∧ PySem.W.kitOne kc.K (.ref Cn) (.ref I_InvalidIndex) = some (y == "InvalidIndex")) {I_InvalidTry : Addr} (i_InvalidTry : mg "InvalidTry" = some (.ref I_InvalidTry) ∧ ∀ y ∈ (["InvalidDesk", "InvalidHistory", "InvalidStruck", "InvalidText", "InvalidTry", "InvalidIndex", "InvalidSort", "InvalidStep", "InvalidNumber", "InvalidLot", "InvalidPlan", "InvalidMoves", "InvalidOffers", "InvalidRules", "InvalidBound", "Refused", "InvalidSize", "InvalidWants", "InvalidLedger", "InvalidHouse", "InvalidSeam", "InvalidLots", "InvalidPromise", "InvalidContract", "InvalidCosts", "InvalidTools", "InvalidWaits", "InvalidCommand"] : List Str), ∀ Cn, kc.kl y = some Cn → L2.ExcC kc.K Cn ∧ PySem.W.typeIn kc.K (.ref Cn) = some (.type "type") ∧ PySem.W.kitOne kc.K (.ref Cn) (.ref I_InvalidTry) = some (y == "InvalidTry")) {I_InvalidText : Addr} (i_InvalidText : mg "InvalidText" = some (.ref I_InvalidText) ∧ ∀ y ∈ (["InvalidDesk", "InvalidHistory", "InvalidStruck", "InvalidText", "InvalidTry", "InvalidIndex", "InvalidSort", "InvalidStep", "InvalidNumber", "InvalidLot", "InvalidPlan", "InvalidMoves", "InvalidOffers", "InvalidRules", "InvalidBound", "Refused", "InvalidSize", "InvalidWants", "InvalidLedger", "InvalidHouse", "InvalidSeam", "InvalidLots", "InvalidPromise", "InvalidContract", "InvalidCosts", "InvalidTools", "InvalidWaits", "InvalidCommand"] : List Str), ∀ Cn, kc.kl y = some Cn → L2.ExcC kc.K Cn ∧ PySem.W.typeIn kc.K (.ref Cn) = some (.type "type") ∧ PySem.W.kitOne kc.K (.ref Cn) (.ref I_InvalidText) = some (y == "InvalidText")) {I_InvalidStruck : Addr} (i_InvalidStruck : mg "InvalidStruck" = some (.ref I_InvalidStruck) ∧ ∀ y ∈ (["InvalidDesk", "InvalidHistory", "InvalidStruck", "InvalidText", "InvalidTry", "InvalidIndex", "InvalidSort", "InvalidStep", "InvalidNumber", "InvalidLot", "InvalidPlan", "InvalidMoves", "InvalidOffers", "InvalidRules", "InvalidBound", "Refused", "InvalidSize", "InvalidWants", "InvalidLedger", "InvalidHouse", "InvalidSeam", "InvalidLots", "InvalidPromise", "InvalidContract", "InvalidCosts", "InvalidTools", "InvalidWaits", "InvalidCommand"] : List Str), ∀ Cn, kc.kl y = some Cn → L2.ExcC kc.K Cn ∧ PySem.W.typeIn kc.K (.ref Cn) = some (.type "type") ∧ PySem.W.kitOne kc.K (.ref Cn) (.ref I_InvalidStruck) = some (y == "InvalidStruck")) {I_InvalidHistory : Addr} (i_InvalidHistory : mg "InvalidHistory" = some (.ref I_InvalidHistory) ∧ ∀ y ∈ (["InvalidDesk", "InvalidHistory", "InvalidStruck", "InvalidText", "InvalidTry", "InvalidIndex", "InvalidSort", "InvalidStep", "InvalidNumber", "InvalidLot", "InvalidPlan", "InvalidMoves", "InvalidOffers", "InvalidRules", "InvalidBound", "Refused", "InvalidSize", "InvalidWants", "InvalidLedger", "InvalidHouse", "InvalidSeam", "InvalidLots", "InvalidPromise", "InvalidContract", "InvalidCosts", "InvalidTools", "InvalidWaits", "InvalidCommand"] : List Str), ∀ Cn, kc.kl y = some Cn → L2.ExcC kc.K Cn ∧ PySem.W.typeIn kc.K (.ref Cn) = some (.type "type") ∧ PySem.W.kitOne kc.K (.ref Cn) (.ref I_InvalidHistory) = some (y == "InvalidHistory")) {I_InvalidDesk : Addr} (i_InvalidDesk : mg "InvalidDesk" = some (.ref I_InvalidDesk) ∧ ∀ y ∈ (["InvalidDesk", "InvalidHistory", "InvalidStruck", "InvalidText", "InvalidTry", "InvalidIndex", "InvalidSort", "InvalidStep", "InvalidNumber", "InvalidLot", "InvalidPlan", "InvalidMoves", "InvalidOffers", "InvalidRules", "InvalidBound", "Refused", "InvalidSize", "InvalidWants", "InvalidLedger", "InvalidHouse", "InvalidSeam", "InvalidLots", "InvalidPromise", "InvalidContract", "InvalidCosts", "InvalidTools", "InvalidWaits", "InvalidCommand"] : List Str), ∀ Cn, kc.kl y = some Cn → L2.ExcC kc.K Cn ∧ PySem.W.typeIn kc.K (.ref Cn) = some (.type "type") ∧ PySem.W.kitOne kc.K (.ref Cn) (.ref I_InvalidDesk) = some (y == "InvalidDesk")) {C_LateError : Addr} (hc_LateError : ∀ X : Cx, X.mg = mg → Gl X "LateError" → HdC X (c0 kc) ["InvalidDesk", "InvalidHistory", "InvalidStruck", "InvalidText", "InvalidTry", "InvalidIndex", "InvalidSort", "InvalidStep", "InvalidNumber", "InvalidLot", "InvalidPlan", "InvalidMoves", "InvalidOffers", "InvalidRules", "InvalidBound", "Refused", "InvalidSize", "InvalidWants", "InvalidLedger", "InvalidHouse", "InvalidSeam", "InvalidLots", "InvalidPromise", "InvalidContract", "InvalidCosts", "InvalidTools", "InvalidWaits", "InvalidCommand"] "LateError" C_LateError) (hx_LateError : ∀ n ∈ (["InvalidDesk", "InvalidHistory", "InvalidStruck", "InvalidText", "InvalidTry", "InvalidIndex", "InvalidSort", "InvalidStep", "InvalidNumber", "InvalidLot", "InvalidPlan", "InvalidMoves", "InvalidOffers", "InvalidRules", "InvalidBound", "Refused", "InvalidSize", "InvalidWants", "InvalidLedger", "InvalidHouse", "InvalidSeam", "InvalidLots", "InvalidPromise", "InvalidContract", "InvalidCosts", "InvalidTools", "InvalidWaits", "InvalidCommand"] : List Str), ∀ Cn, kc.kl n = some Cn → XfC kc.K Cn ∧ PySem.W.findIn kc.K (.ref Cn) "at" = some none) : Body P w K mg base kc 3 ["number", "thing", "found", "error", "at"] "_law_is_alone" (defScope (top 43)) f (defBody (top 43)) g__law_is_alone := fun cdv A outer s H E cl =>
  have hN := (sc__law_is_alone).nd
  dss_cons (ds_setF 2 (df_lst (des_nil)) hN) (dss_cons (ds_tryAs (xs := ["InvalidDesk", "InvalidHistory", "InvalidStruck", "InvalidText", "InvalidTry", "InvalidIndex", "InvalidSort", "InvalidStep", "InvalidNumber", "InvalidLot", "InvalidPlan", "InvalidMoves", "InvalidOffers", "InvalidRules", "InvalidBound", "Refused", "InvalidSize", "InvalidWants", "InvalidLedger", "InvalidHouse", "InvalidSeam", "InvalidLots", "InvalidPromise", "InvalidContract", "InvalidCosts", "InvalidTools", "InvalidWaits", "InvalidCommand"]) 3 rfl rfl hN rfl rfl (hc_LateError _ rfl rfl) cl.tk (fun V pn xe t po => dss_one (ds_expr (de_call h__law_raise (Cl.tr cl t po) (by decide) rfl (das_val (de_var 0) (das_val (de_var 1) (das_nil)))))) (fun a oe cls d pn hz hf => dss_one (ds_setF 2 (df_lst (des_cons (de_isx (xs := ["InvalidDesk", "InvalidHistory", "InvalidStruck", "InvalidText", "InvalidTry", "InvalidIndex", "InvalidSort", "InvalidStep", "InvalidNumber", "InvalidLot", "InvalidPlan", "InvalidMoves", "InvalidOffers", "InvalidRules", "InvalidBound", "Refused", "InvalidSize", "InvalidWants", "InvalidLedger", "InvalidHouse", "InvalidSeam", "InvalidLots", "InvalidPromise", "InvalidContract", "InvalidCosts", "InvalidTools", "InvalidWaits", "InvalidCommand"]) 3 i_InvalidDesk.2 (by exact rfl) i_InvalidDesk.1 (by exact rfl) fa.n_isinstance (by exact rfl) (by first | exact Or.inl rfl | exact Or.inr (Or.inl rfl)) (by decide) (by decide) (by decide) (by exact rfl) (by exact rfl) (by exact rfl) a oe cls d pn hz hf) (des_cons (de_isx (xs := ["InvalidDesk", "InvalidHistory", "InvalidStruck", "InvalidText", "InvalidTry", "InvalidIndex", "InvalidSort", "InvalidStep", "InvalidNumber", "InvalidLot", "InvalidPlan", "InvalidMoves", "InvalidOffers", "InvalidRules", "InvalidBound", "Refused", "InvalidSize", "InvalidWants", "InvalidLedger", "InvalidHouse", "InvalidSeam", "InvalidLots", "InvalidPromise", "InvalidContract", "InvalidCosts", "InvalidTools", "InvalidWaits", "InvalidCommand"]) 3 i_InvalidHistory.2 (by exact rfl) i_InvalidHistory.1 (by exact rfl) fa.n_isinstance (by exact rfl) (by first | exact Or.inl rfl | exact Or.inr (Or.inl rfl)) (by decide) (by decide) (by decide) (by exact rfl) (by exact rfl) (by exact rfl) a oe cls d pn hz hf) (des_cons (de_isx (xs := ["InvalidDesk", "InvalidHistory", "InvalidStruck", "InvalidText", "InvalidTry", "InvalidIndex", "InvalidSort", "InvalidStep", "InvalidNumber", "InvalidLot", "InvalidPlan", "InvalidMoves", "InvalidOffers", "InvalidRules", "InvalidBound", "Refused", "InvalidSize", "InvalidWants", "InvalidLedger", "InvalidHouse", "InvalidSeam", "InvalidLots", "InvalidPromise", "InvalidContract", "InvalidCosts", "InvalidTools", "InvalidWaits", "InvalidCommand"]) 3 i_InvalidStruck.2 (by exact rfl) i_InvalidStruck.1 (by exact rfl) fa.n_isinstance (by exact rfl) (by first | exact Or.inl rfl | exact Or.inr (Or.inl rfl)) (by decide) (by decide) (by decide) (by exact rfl) (by exact rfl) (by exact rfl) a oe cls d pn hz hf) (des_cons (de_isx (xs := ["InvalidDesk", "InvalidHistory", "InvalidStruck", "InvalidText", "InvalidTry", "InvalidIndex", "InvalidSort", "InvalidStep", "InvalidNumber", "InvalidLot", "InvalidPlan", "InvalidMoves", "InvalidOffers", "InvalidRules", "InvalidBound", "Refused", "InvalidSize", "InvalidWants", "InvalidLedger", "InvalidHouse", "InvalidSeam", "InvalidLots", "InvalidPromise", "InvalidContract", "InvalidCosts", "InvalidTools", "InvalidWaits", "InvalidCommand"]) 3 i_InvalidText.2 (by exact rfl) i_InvalidText.1 (by exact rfl) fa.n_isinstance (by exact rfl) (by first | exact Or.inl rfl | exact Or.inr (Or.inl rfl)) (by decide) (by decide) (by decide) (by exact rfl) (by exact rfl) (by exact rfl) a oe cls d pn hz hf) (des_cons (de_isx (xs := ["InvalidDesk", "InvalidHistory", "InvalidStruck", "InvalidText", "InvalidTry", "InvalidIndex", "InvalidSort", "InvalidStep", "InvalidNumber", "InvalidLot", "InvalidPlan", "InvalidMoves", "InvalidOffers", "InvalidRules", "InvalidBound", "Refused", "InvalidSize", "InvalidWants", "InvalidLedger", "InvalidHouse", "InvalidSeam", "InvalidLots", "InvalidPromise", "InvalidContract", "InvalidCosts", "InvalidTools", "InvalidWaits", "InvalidCommand"]) 3 i_InvalidTry.2 (by exact rfl) i_InvalidTry.1 (by exact rfl) fa.n_isinstance (by exact rfl) (by first | exact Or.inl rfl | exact Or.inr (Or.inl rfl)) (by decide) (by decide) (by decide) (by exact rfl) (by exact rfl) (by exact rfl) a oe cls d pn hz hf) (des_cons (de_isx (xs := ["InvalidDesk", "InvalidHistory", "InvalidStruck", "InvalidText", "InvalidTry", "InvalidIndex", "InvalidSort", "InvalidStep", "InvalidNumber", "InvalidLot", "InvalidPlan", "InvalidMoves", "InvalidOffers", "InvalidRules", "InvalidBound", "Refused", "InvalidSize", "InvalidWants", "InvalidLedger", "InvalidHouse", "InvalidSeam", "InvalidLots", "InvalidPromise", "InvalidContract", "InvalidCosts", "InvalidTools", "InvalidWaits", "InvalidCommand"]) 3 i_InvalidIndex.2 (by exact rfl) i_InvalidIndex.1 (by exact rfl) fa.n_isinstance (by exact rfl) (by first | exact Or.inl rfl | exact Or.inr (Or.inl rfl)) (by decide) (by decide) (by decide) (by exact rfl) (by exact rfl) (by exact rfl) a oe cls d pn hz hf) (des_cons (de_isx (xs := ["InvalidDesk", "InvalidHistory", "InvalidStruck", "InvalidText", "InvalidTry", "InvalidIndex", "InvalidSort", "InvalidStep", "InvalidNumber", "InvalidLot", "InvalidPlan", "InvalidMoves", "InvalidOffers", "InvalidRules", "InvalidBound", "Refused", "InvalidSize", "InvalidWants", "InvalidLedger", "InvalidHouse", "InvalidSeam", "InvalidLots", "InvalidPromise", "InvalidContract", "InvalidCosts", "InvalidTools", "InvalidWaits", "InvalidCommand"]) 3 i_InvalidSort.2 (by exact rfl) i_InvalidSort.1 (by exact rfl) fa.n_isinstance (by exact rfl) (by first | exact Or.inl rfl | exact Or.inr (Or.inl rfl)) (by decide) (by decide) (by decide) (by exact rfl) (by exact rfl) (by exact rfl) a oe cls d pn hz hf) (des_cons (de_isx (xs := ["InvalidDesk", "InvalidHistory", "InvalidStruck", "InvalidText", "InvalidTry", "InvalidIndex", "InvalidSort", "InvalidStep", "InvalidNumber", "InvalidLot", "InvalidPlan", "InvalidMoves", "InvalidOffers", "InvalidRules", "InvalidBound", "Refused", "InvalidSize", "InvalidWants", "InvalidLedger", "InvalidHouse", "InvalidSeam", "InvalidLots", "InvalidPromise", "InvalidContract", "InvalidCosts", "InvalidTools", "InvalidWaits", "InvalidCommand"]) 3 i_InvalidStep.2 (by exact rfl) i_InvalidStep.1 (by exact rfl) fa.n_isinstance (by exact rfl) (by first | exact Or.inl rfl | exact Or.inr (Or.inl rfl)) (by decide) (by decide) (by decide) (by exact rfl) (by exact rfl) (by exact rfl) a oe cls d pn hz hf) (des_cons (de_isx (xs := ["InvalidDesk", "InvalidHistory", "InvalidStruck", "InvalidText", "InvalidTry", "InvalidIndex", "InvalidSort", "InvalidStep", "InvalidNumber", "InvalidLot", "InvalidPlan", "InvalidMoves", "InvalidOffers", "InvalidRules", "InvalidBound", "Refused", "InvalidSize", "InvalidWants", "InvalidLedger", "InvalidHouse", "InvalidSeam", "InvalidLots", "InvalidPromise", "InvalidContract", "InvalidCosts", "InvalidTools", "InvalidWaits", "InvalidCommand"]) 3 i_InvalidNumber.2 (by exact rfl) i_InvalidNumber.1 (by exact rfl) fa.n_isinstance (by exact rfl) (by first | exact Or.inl rfl | exact Or.inr (Or.inl rfl)) (by decide) (by decide) (by decide) (by exact rfl) (by exact rfl) (by exact rfl) a oe cls d pn hz hf) (des_cons (de_isx (xs := ["InvalidDesk", "InvalidHistory", "InvalidStruck", "InvalidText", "InvalidTry", "InvalidIndex", "InvalidSort", "InvalidStep", "InvalidNumber", "InvalidLot", "InvalidPlan", "InvalidMoves", "InvalidOffers", "InvalidRules", "InvalidBound", "Refused", "InvalidSize", "InvalidWants", "InvalidLedger", "InvalidHouse", "InvalidSeam", "InvalidLots", "InvalidPromise", "InvalidContract", "InvalidCosts", "InvalidTools", "InvalidWaits", "InvalidCommand"]) 3 i_InvalidLot.2 (by exact rfl) i_InvalidLot.1 (by exact rfl) fa.n_isinstance (by exact rfl) (by first | exact Or.inl rfl | exact Or.inr (Or.inl rfl)) (by decide) (by decide) (by decide) (by exact rfl) (by exact rfl) (by exact rfl) a oe cls d pn hz hf) (des_cons (de_isx (xs := ["InvalidDesk", "InvalidHistory", "InvalidStruck", "InvalidText", "InvalidTry", "InvalidIndex", "InvalidSort", "InvalidStep", "InvalidNumber", "InvalidLot", "InvalidPlan", "InvalidMoves", "InvalidOffers", "InvalidRules", "InvalidBound", "Refused", "InvalidSize", "InvalidWants", "InvalidLedger", "InvalidHouse", "InvalidSeam", "InvalidLots", "InvalidPromise", "InvalidContract", "InvalidCosts", "InvalidTools", "InvalidWaits", "InvalidCommand"]) 3 i_InvalidPlan.2 (by exact rfl) i_InvalidPlan.1 (by exact rfl) fa.n_isinstance (by exact rfl) (by first | exact Or.inl rfl | exact Or.inr (Or.inl rfl)) (by decide) (by decide) (by decide) (by exact rfl) (by exact rfl) (by exact rfl) a oe cls d pn hz hf) (des_cons (de_isx (xs := ["InvalidDesk", "InvalidHistory", "InvalidStruck", "InvalidText", "InvalidTry", "InvalidIndex", "InvalidSort", "InvalidStep", "InvalidNumber", "InvalidLot", "InvalidPlan", "InvalidMoves", "InvalidOffers", "InvalidRules", "InvalidBound", "Refused", "InvalidSize", "InvalidWants", "InvalidLedger", "InvalidHouse", "InvalidSeam", "InvalidLots", "InvalidPromise", "InvalidContract", "InvalidCosts", "InvalidTools", "InvalidWaits", "InvalidCommand"]) 3 i_InvalidMoves.2 (by exact rfl) i_InvalidMoves.1 (by exact rfl) fa.n_isinstance (by exact rfl) (by first | exact Or.inl rfl | exact Or.inr (Or.inl rfl)) (by decide) (by decide) (by decide) (by exact rfl) (by exact rfl) (by exact rfl) a oe cls d pn hz hf) (des_cons (de_isx (xs := ["InvalidDesk", "InvalidHistory", "InvalidStruck", "InvalidText", "InvalidTry", "InvalidIndex", "InvalidSort", "InvalidStep", "InvalidNumber", "InvalidLot", "InvalidPlan", "InvalidMoves", "InvalidOffers", "InvalidRules", "InvalidBound", "Refused", "InvalidSize", "InvalidWants", "InvalidLedger", "InvalidHouse", "InvalidSeam", "InvalidLots", "InvalidPromise", "InvalidContract", "InvalidCosts", "InvalidTools", "InvalidWaits", "InvalidCommand"]) 3 i_InvalidOffers.2 (by exact rfl) i_InvalidOffers.1 (by exact rfl) fa.n_isinstance (by exact rfl) (by first | exact Or.inl rfl | exact Or.inr (Or.inl rfl)) (by decide) (by decide) (by decide) (by exact rfl) (by exact rfl) (by exact rfl) a oe cls d pn hz hf) (des_cons (de_isx (xs := ["InvalidDesk", "InvalidHistory", "InvalidStruck", "InvalidText", "InvalidTry", "InvalidIndex", "InvalidSort", "InvalidStep", "InvalidNumber", "InvalidLot", "InvalidPlan", "InvalidMoves", "InvalidOffers", "InvalidRules", "InvalidBound", "Refused", "InvalidSize", "InvalidWants", "InvalidLedger", "InvalidHouse", "InvalidSeam", "InvalidLots", "InvalidPromise", "InvalidContract", "InvalidCosts", "InvalidTools", "InvalidWaits", "InvalidCommand"]) 3 i_InvalidRules.2 (by exact rfl) i_InvalidRules.1 (by exact rfl) fa.n_isinstance (by exact rfl) (by first | exact Or.inl rfl | exact Or.inr (Or.inl rfl)) (by decide) (by decide) (by decide) (by exact rfl) (by exact rfl) (by exact rfl) a oe cls d pn hz hf) (des_cons (de_isx (xs := ["InvalidDesk", "InvalidHistory", "InvalidStruck", "InvalidText", "InvalidTry", "InvalidIndex", "InvalidSort", "InvalidStep", "InvalidNumber", "InvalidLot", "InvalidPlan", "InvalidMoves", "InvalidOffers", "InvalidRules", "InvalidBound", "Refused", "InvalidSize", "InvalidWants", "InvalidLedger", "InvalidHouse", "InvalidSeam", "InvalidLots", "InvalidPromise", "InvalidContract", "InvalidCosts", "InvalidTools", "InvalidWaits", "InvalidCommand"]) 3 i_InvalidBound.2 (by exact rfl) i_InvalidBound.1 (by exact rfl) fa.n_isinstance (by exact rfl) (by first | exact Or.inl rfl | exact Or.inr (Or.inl rfl)) (by decide) (by decide) (by decide) (by exact rfl) (by exact rfl) (by exact rfl) a oe cls d pn hz hf) (des_cons (de_isx (xs := ["InvalidDesk", "InvalidHistory", "InvalidStruck", "InvalidText", "InvalidTry", "InvalidIndex", "InvalidSort", "InvalidStep", "InvalidNumber", "InvalidLot", "InvalidPlan", "InvalidMoves", "InvalidOffers", "InvalidRules", "InvalidBound", "Refused", "InvalidSize", "InvalidWants", "InvalidLedger", "InvalidHouse", "InvalidSeam", "InvalidLots", "InvalidPromise", "InvalidContract", "InvalidCosts", "InvalidTools", "InvalidWaits", "InvalidCommand"]) 3 i_Refused.2 (by exact rfl) i_Refused.1 (by exact rfl) fa.n_isinstance (by exact rfl) (by first | exact Or.inl rfl | exact Or.inr (Or.inl rfl)) (by decide) (by decide) (by decide) (by exact rfl) (by exact rfl) (by exact rfl) a oe cls d pn hz hf) (des_cons (de_isx (xs := ["InvalidDesk", "InvalidHistory", "InvalidStruck", "InvalidText", "InvalidTry", "InvalidIndex", "InvalidSort", "InvalidStep", "InvalidNumber", "InvalidLot", "InvalidPlan", "InvalidMoves", "InvalidOffers", "InvalidRules", "InvalidBound", "Refused", "InvalidSize", "InvalidWants", "InvalidLedger", "InvalidHouse", "InvalidSeam", "InvalidLots", "InvalidPromise", "InvalidContract", "InvalidCosts", "InvalidTools", "InvalidWaits", "InvalidCommand"]) 3 i_InvalidSize.2 (by exact rfl) i_InvalidSize.1 (by exact rfl) fa.n_isinstance (by exact rfl) (by first | exact Or.inl rfl | exact Or.inr (Or.inl rfl)) (by decide) (by decide) (by decide) (by exact rfl) (by exact rfl) (by exact rfl) a oe cls d pn hz hf) (des_cons (de_isx (xs := ["InvalidDesk", "InvalidHistory", "InvalidStruck", "InvalidText", "InvalidTry", "InvalidIndex", "InvalidSort", "InvalidStep", "InvalidNumber", "InvalidLot", "InvalidPlan", "InvalidMoves", "InvalidOffers", "InvalidRules", "InvalidBound", "Refused", "InvalidSize", "InvalidWants", "InvalidLedger", "InvalidHouse", "InvalidSeam", "InvalidLots", "InvalidPromise", "InvalidContract", "InvalidCosts", "InvalidTools", "InvalidWaits", "InvalidCommand"]) 3 i_InvalidWants.2 (by exact rfl) i_InvalidWants.1 (by exact rfl) fa.n_isinstance (by exact rfl) (by first | exact Or.inl rfl | exact Or.inr (Or.inl rfl)) (by decide) (by decide) (by decide) (by exact rfl) (by exact rfl) (by exact rfl) a oe cls d pn hz hf) (des_cons (de_isx (xs := ["InvalidDesk", "InvalidHistory", "InvalidStruck", "InvalidText", "InvalidTry", "InvalidIndex", "InvalidSort", "InvalidStep", "InvalidNumber", "InvalidLot", "InvalidPlan", "InvalidMoves", "InvalidOffers", "InvalidRules", "InvalidBound", "Refused", "InvalidSize", "InvalidWants", "InvalidLedger", "InvalidHouse", "InvalidSeam", "InvalidLots", "InvalidPromise", "InvalidContract", "InvalidCosts", "InvalidTools", "InvalidWaits", "InvalidCommand"]) 3 i_InvalidLedger.2 (by exact rfl) i_InvalidLedger.1 (by exact rfl) fa.n_isinstance (by exact rfl) (by first | exact Or.inl rfl | exact Or.inr (Or.inl rfl)) (by decide) (by decide) (by decide) (by exact rfl) (by exact rfl) (by exact rfl) a oe cls d pn hz hf) (des_cons (de_isx (xs := ["InvalidDesk", "InvalidHistory", "InvalidStruck", "InvalidText", "InvalidTry", "InvalidIndex", "InvalidSort", "InvalidStep", "InvalidNumber", "InvalidLot", "InvalidPlan", "InvalidMoves", "InvalidOffers", "InvalidRules", "InvalidBound", "Refused", "InvalidSize", "InvalidWants", "InvalidLedger", "InvalidHouse", "InvalidSeam", "InvalidLots", "InvalidPromise", "InvalidContract", "InvalidCosts", "InvalidTools", "InvalidWaits", "InvalidCommand"]) 3 i_InvalidHouse.2 (by exact rfl) i_InvalidHouse.1 (by exact rfl) fa.n_isinstance (by exact rfl) (by first | exact Or.inl rfl | exact Or.inr (Or.inl rfl)) (by decide) (by decide) (by decide) (by exact rfl) (by exact rfl) (by exact rfl) a oe cls d pn hz hf) (des_cons (de_isx (xs := ["InvalidDesk", "InvalidHistory", "InvalidStruck", "InvalidText", "InvalidTry", "InvalidIndex", "InvalidSort", "InvalidStep", "InvalidNumber", "InvalidLot", "InvalidPlan", "InvalidMoves", "InvalidOffers", "InvalidRules", "InvalidBound", "Refused", "InvalidSize", "InvalidWants", "InvalidLedger", "InvalidHouse", "InvalidSeam", "InvalidLots", "InvalidPromise", "InvalidContract", "InvalidCosts", "InvalidTools", "InvalidWaits", "InvalidCommand"]) 3 i_InvalidSeam.2 (by exact rfl) i_InvalidSeam.1 (by exact rfl) fa.n_isinstance (by exact rfl) (by first | exact Or.inl rfl | exact Or.inr (Or.inl rfl)) (by decide) (by decide) (by decide) (by exact rfl) (by exact rfl) (by exact rfl) a oe cls d pn hz hf) (des_cons (de_isx (xs := ["InvalidDesk", "InvalidHistory", "InvalidStruck", "InvalidText", "InvalidTry", "InvalidIndex", "InvalidSort", "InvalidStep", "InvalidNumber", "InvalidLot", "InvalidPlan", "InvalidMoves", "InvalidOffers", "InvalidRules", "InvalidBound", "Refused", "InvalidSize", "InvalidWants", "InvalidLedger", "InvalidHouse", "InvalidSeam", "InvalidLots", "InvalidPromise", "InvalidContract", "InvalidCosts", "InvalidTools", "InvalidWaits", "InvalidCommand"]) 3 i_InvalidLots.2 (by exact rfl) i_InvalidLots.1 (by exact rfl) fa.n_isinstance (by exact rfl) (by first | exact Or.inl rfl | exact Or.inr (Or.inl rfl)) (by decide) (by decide) (by decide) (by exact rfl) (by exact rfl) (by exact rfl) a oe cls d pn hz hf) (des_cons (de_isx (xs := ["InvalidDesk", "InvalidHistory", "InvalidStruck", "InvalidText", "InvalidTry", "InvalidIndex", "InvalidSort", "InvalidStep", "InvalidNumber", "InvalidLot", "InvalidPlan", "InvalidMoves", "InvalidOffers", "InvalidRules", "InvalidBound", "Refused", "InvalidSize", "InvalidWants", "InvalidLedger", "InvalidHouse", "InvalidSeam", "InvalidLots", "InvalidPromise", "InvalidContract", "InvalidCosts", "InvalidTools", "InvalidWaits", "InvalidCommand"]) 3 i_InvalidPromise.2 (by exact rfl) i_InvalidPromise.1 (by exact rfl) fa.n_isinstance (by exact rfl) (by first | exact Or.inl rfl | exact Or.inr (Or.inl rfl)) (by decide) (by decide) (by decide) (by exact rfl) (by exact rfl) (by exact rfl) a oe cls d pn hz hf) (des_cons (de_isx (xs := ["InvalidDesk", "InvalidHistory", "InvalidStruck", "InvalidText", "InvalidTry", "InvalidIndex", "InvalidSort", "InvalidStep", "InvalidNumber", "InvalidLot", "InvalidPlan", "InvalidMoves", "InvalidOffers", "InvalidRules", "InvalidBound", "Refused", "InvalidSize", "InvalidWants", "InvalidLedger", "InvalidHouse", "InvalidSeam", "InvalidLots", "InvalidPromise", "InvalidContract", "InvalidCosts", "InvalidTools", "InvalidWaits", "InvalidCommand"]) 3 i_InvalidContract.2 (by exact rfl) i_InvalidContract.1 (by exact rfl) fa.n_isinstance (by exact rfl) (by first | exact Or.inl rfl | exact Or.inr (Or.inl rfl)) (by decide) (by decide) (by decide) (by exact rfl) (by exact rfl) (by exact rfl) a oe cls d pn hz hf) (des_cons (de_isx (xs := ["InvalidDesk", "InvalidHistory", "InvalidStruck", "InvalidText", "InvalidTry", "InvalidIndex", "InvalidSort", "InvalidStep", "InvalidNumber", "InvalidLot", "InvalidPlan", "InvalidMoves", "InvalidOffers", "InvalidRules", "InvalidBound", "Refused", "InvalidSize", "InvalidWants", "InvalidLedger", "InvalidHouse", "InvalidSeam", "InvalidLots", "InvalidPromise", "InvalidContract", "InvalidCosts", "InvalidTools", "InvalidWaits", "InvalidCommand"]) 3 i_InvalidCosts.2 (by exact rfl) i_InvalidCosts.1 (by exact rfl) fa.n_isinstance (by exact rfl) (by first | exact Or.inl rfl | exact Or.inr (Or.inl rfl)) (by decide) (by decide) (by decide) (by exact rfl) (by exact rfl) (by exact rfl) a oe cls d pn hz hf) (des_cons (de_isx (xs := ["InvalidDesk", "InvalidHistory", "InvalidStruck", "InvalidText", "InvalidTry", "InvalidIndex", "InvalidSort", "InvalidStep", "InvalidNumber", "InvalidLot", "InvalidPlan", "InvalidMoves", "InvalidOffers", "InvalidRules", "InvalidBound", "Refused", "InvalidSize", "InvalidWants", "InvalidLedger", "InvalidHouse", "InvalidSeam", "InvalidLots", "InvalidPromise", "InvalidContract", "InvalidCosts", "InvalidTools", "InvalidWaits", "InvalidCommand"]) 3 i_InvalidTools.2 (by exact rfl) i_InvalidTools.1 (by exact rfl) fa.n_isinstance (by exact rfl) (by first | exact Or.inl rfl | exact Or.inr (Or.inl rfl)) (by decide) (by decide) (by decide) (by exact rfl) (by exact rfl) (by exact rfl) a oe cls d pn hz hf) (des_cons (de_isx (xs := ["InvalidDesk", "InvalidHistory", "InvalidStruck", "InvalidText", "InvalidTry", "InvalidIndex", "InvalidSort", "InvalidStep", "InvalidNumber", "InvalidLot", "InvalidPlan", "InvalidMoves", "InvalidOffers", "InvalidRules", "InvalidBound", "Refused", "InvalidSize", "InvalidWants", "InvalidLedger", "InvalidHouse", "InvalidSeam", "InvalidLots", "InvalidPromise", "InvalidContract", "InvalidCosts", "InvalidTools", "InvalidWaits", "InvalidCommand"]) 3 i_InvalidWaits.2 (by exact rfl) i_InvalidWaits.1 (by exact rfl) fa.n_isinstance (by exact rfl) (by first | exact Or.inl rfl | exact Or.inr (Or.inl rfl)) (by decide) (by decide) (by decide) (by exact rfl) (by exact rfl) (by exact rfl) a oe cls d pn hz hf) (des_cons (de_isx (xs := ["InvalidDesk", "InvalidHistory", "InvalidStruck", "InvalidText", "InvalidTry", "InvalidIndex", "InvalidSort", "InvalidStep", "InvalidNumber", "InvalidLot", "InvalidPlan", "InvalidMoves", "InvalidOffers", "InvalidRules", "InvalidBound", "Refused", "InvalidSize", "InvalidWants", "InvalidLedger", "InvalidHouse", "InvalidSeam", "InvalidLots", "InvalidPromise", "InvalidContract", "InvalidCosts", "InvalidTools", "InvalidWaits", "InvalidCommand"]) 3 i_InvalidCommand.2 (by exact rfl) i_InvalidCommand.1 (by exact rfl) fa.n_isinstance (by exact rfl) (by first | exact Or.inl rfl | exact Or.inr (Or.inl rfl)) (by decide) (by decide) (by decide) (by exact rfl) (by exact rfl) (by exact rfl) a oe cls d pn hz hf) (des_nil)))))))))))))))))))))))))))))) hN))) (dss_one (ds_ret (de_cmp o_eq (dk_var 2) (dk_e (de_f (df_lc (own := [("at", 4)]) rfl hN (di_range1 rfl fa.n_range (des_cons (de_int) (des_nil))) (blk_of ["number", "thing", "found", "error", "at"] (defScope (top 43)) rfl (by decide +kernel) (by decide +kernel) (by decide +kernel) (by decide +kernel)) (by decide) (fun _ _ _ _ _ => dg_nm 4 hN) (fun _ _ _ _ _ => dts_nil) (fun _ _ _ _ _ => de_cmp o_eq (dk_var 4) (dk_var 0) rfl)))) rfl))))

noncomputable def g_law : M Fl := dSeq (dSetF 1 (dCallF F__law_box (.val (dVar 0) :: .val (mpure (.int 0)) :: []))) (dSeq (dFor (.nm 2) [2, 4] (dRange1 (dEs (mpure (.int 28)) (mpure []))) (dSeq (dSet 4 (dCall F__law_pick (.io 1 :: .val (mbind (dLst (dEs (mpure (.int 0)) (dEs (dNeg (mpure (.int 1))) (dEs (mpure .none) (dEs (mpure (.str "words")) (dEs (dTup (dEs (mpure (.int 1)) (dEs (mpure (.int 2)) (mpure [])))) (dEs (mbind (dLst (dEs (mpure (.int 3)) (mpure []))) (fun xs => mpure (.list xs))) (dEs (mpure (.bool true)) (dEs (dTup (dEs (mpure (.str "rows")) (dEs (mpure (.int 0)) (dEs (mpure (.int 7)) (mpure []))))) (mpure [])))))))))) (fun xs => mpure (.list xs))) :: []))) (dIf (tOrB (asB (dOp2 pNe (dkE (dCall F__law_caught_d (.val (dVar 2) :: .val (dVar 4) :: []))) (dkE (dTup (dEs (dVar 2) (dEs (dVar 4) (mpure []))))))) (tNotB (dTru (dkE (dCall F__law_is_alone (.val (dVar 2) :: .val (dVar 4) :: [])))))) (dRet (mpure (.bool false))) (dNext)))) (dSeq (dSet 3 (dTup (dEs (mpure (.str "x")) (dEs (dTup (dEs (mpure (.str "rows")) (dEs (mpure (.int 0)) (dEs (mpure (.int 1)) (mpure []))))) (dEs (dNeg (mpure (.int 1))) (dEs (mpure (.int 3)) (mpure []))))))) (dRet (dOp2 pEq (dkVar 3) (dkE (dTup (dEs (mpure (.str "x")) (dEs (dTup (dEs (mpure (.str "rows")) (dEs (mpure (.int 0)) (dEs (mpure (.int 1)) (mpure []))))) (dEs (dNeg (mpure (.int 1))) (dEs (mpure (.int 3)) (mpure [])))))))))))
noncomputable def F_law : FD := runB 5 1 g_law
theorem sc_law : FnScope ["script", "box", "number", "kept", "thing"] ["script"] (defScope (top 44)) := ⟨rfl, rfl, rfl, by decide +kernel, rfl, by decide +kernel, by decide +kernel⟩
theorem b_law (fa : Gs mg) (h__law_is_alone : Cal P w K mg base kc 4 "_law_is_alone" F__law_is_alone) (h__law_caught_d : Cal P w K mg base kc 7 "_law_caught_d" F__law_caught_d) (h__law_pick : Cal P w K mg base kc 2 "_law_pick" F__law_pick) (h__law_box : Cal P w K mg base kc 1 "_law_box" F__law_box) {C_InvalidText : Addr} (m_InvalidText : MkX P K mg C_InvalidText "InvalidText" "at") {C_Refused : Addr} (m_Refused : MkX P K mg C_Refused "Refused" "at") {C_InvalidDesk : Addr} (m_InvalidDesk : MkX P K mg C_InvalidDesk "InvalidDesk" "at") {C_InvalidSize : Addr} (m_InvalidSize : MkX P K mg C_InvalidSize "InvalidSize" "word") : Body P w K mg base kc 7 ["script", "box", "number", "kept", "thing"] "law" (defScope (top 44)) f (defBody (top 44)) g_law := fun cdv A outer s H E cl =>
  have hN := (sc_law).nd
  dss_cons (ds_setF 1 (df_call h__law_box cl (by decide) rfl (das_val (de_var 0) (das_val (de_int) (das_nil)))) hN) (dss_cons (by refine ds_for ?_ ?_ ?_ [2, 4] cl.po rfl; exact di_range1 rfl fa.n_range (des_cons (de_int) (des_nil)); exact dg_nm 2 hN; exact dss_cons (ds_set 4 (de_call h__law_pick cl (by decide) rfl (das_io 1 (das_val (de_f (df_lst (des_cons (de_int) (des_cons (de_neg (de_int)) (des_cons (de_non) (des_cons (de_str) (des_cons (de_tup (des_cons (de_int) (des_cons (de_int) (des_nil)))) (des_cons (de_f (df_lst (des_cons (de_int) (des_nil)))) (des_cons (de_bl) (des_cons (de_tup (des_cons (de_str) (des_cons (de_int) (des_cons (de_int) (des_nil))))) (des_nil))))))))))) (das_nil)))) hN) (dss_one (ds_if (dt_w (dw_or (dt_cmp o_ne (dk_e (de_call h__law_caught_d cl (by decide) rfl (das_val (de_var 2) (das_val (de_var 4) (das_nil))))) (dk_e (de_tup (des_cons (de_var 2) (des_cons (de_var 4) (des_nil))))) rfl) (dw_or1 (dt_not (dt_tru (dk_e (de_call h__law_is_alone cl (by decide) rfl (das_val (de_var 2) (das_val (de_var 4) (das_nil)))))))))) (dss_one (ds_ret (de_bl))) (dss_nil)))) (dss_cons (ds_set 3 (de_tup (des_cons (de_mkf cl m_InvalidSize rfl (de_str)) (des_cons (de_mkf cl m_InvalidDesk rfl (de_tup (des_cons (de_str) (des_cons (de_int) (des_cons (de_int) (des_nil)))))) (des_cons (de_mkf cl m_Refused rfl (de_neg (de_int))) (des_cons (de_mkf cl m_InvalidText rfl (de_int)) (des_nil)))))) hN) (dss_one (ds_ret (de_cmp o_eq (dk_var 3) (dk_e (de_tup (des_cons (de_str) (des_cons (de_tup (des_cons (de_str) (des_cons (de_int) (des_cons (de_int) (des_nil))))) (des_cons (de_neg (de_int)) (des_cons (de_int) (des_nil))))))) rfl)))))

end
end K00

set_option Elab.async false
set_option linter.all false
set_option maxRecDepth 100000
set_option maxHeartbeats 4000000
namespace K00
open PySem PySem.Spec Den
open PyProof.Rows L2
/-- what is asked of the written part -/
structure Facts (P : Program) (K : PySem.W.Frag) (mg : Str → Option Value) (kc : Kc) : Prop where
  hK : kc.K = K
  gs : Gs mg
  x_InvalidBound : ∃ C, kc.kl "InvalidBound" = some C ∧ CalX P K mg C "InvalidBound" "at"
  x_InvalidContract : ∃ C, kc.kl "InvalidContract" = some C ∧ CalX P K mg C "InvalidContract" "at"
  x_InvalidCosts : ∃ C, kc.kl "InvalidCosts" = some C ∧ CalX P K mg C "InvalidCosts" "at"
  x_InvalidDesk : ∃ C, kc.kl "InvalidDesk" = some C ∧ CalX P K mg C "InvalidDesk" "at"
  x_InvalidHistory : ∃ C, kc.kl "InvalidHistory" = some C ∧ CalX P K mg C "InvalidHistory" "at"
  x_InvalidHouse : ∃ C, kc.kl "InvalidHouse" = some C ∧ CalX P K mg C "InvalidHouse" "at"
  x_InvalidIndex : ∃ C, kc.kl "InvalidIndex" = some C ∧ CalX P K mg C "InvalidIndex" "at"
  x_InvalidLedger : ∃ C, kc.kl "InvalidLedger" = some C ∧ CalX P K mg C "InvalidLedger" "at"
  x_InvalidLot : ∃ C, kc.kl "InvalidLot" = some C ∧ CalX P K mg C "InvalidLot" "at"
  x_InvalidLots : ∃ C, kc.kl "InvalidLots" = some C ∧ CalX P K mg C "InvalidLots" "at"
  x_InvalidMoves : ∃ C, kc.kl "InvalidMoves" = some C ∧ CalX P K mg C "InvalidMoves" "at"
  x_InvalidNumber : ∃ C, kc.kl "InvalidNumber" = some C ∧ CalX P K mg C "InvalidNumber" "at"
  x_InvalidOffers : ∃ C, kc.kl "InvalidOffers" = some C ∧ CalX P K mg C "InvalidOffers" "at"
  x_InvalidPlan : ∃ C, kc.kl "InvalidPlan" = some C ∧ CalX P K mg C "InvalidPlan" "at"
  x_InvalidPromise : ∃ C, kc.kl "InvalidPromise" = some C ∧ CalX P K mg C "InvalidPromise" "at"
  x_InvalidRules : ∃ C, kc.kl "InvalidRules" = some C ∧ CalX P K mg C "InvalidRules" "at"
  x_InvalidSeam : ∃ C, kc.kl "InvalidSeam" = some C ∧ CalX P K mg C "InvalidSeam" "at"
  x_InvalidSize : ∃ C, kc.kl "InvalidSize" = some C ∧ CalX P K mg C "InvalidSize" "word"
  x_InvalidSort : ∃ C, kc.kl "InvalidSort" = some C ∧ CalX P K mg C "InvalidSort" "at"
  x_InvalidStep : ∃ C, kc.kl "InvalidStep" = some C ∧ CalX P K mg C "InvalidStep" "at"
  x_InvalidStruck : ∃ C, kc.kl "InvalidStruck" = some C ∧ CalX P K mg C "InvalidStruck" "at"
  x_InvalidText : ∃ C, kc.kl "InvalidText" = some C ∧ CalX P K mg C "InvalidText" "at"
  x_InvalidTools : ∃ C, kc.kl "InvalidTools" = some C ∧ CalX P K mg C "InvalidTools" "at"
  x_InvalidTry : ∃ C, kc.kl "InvalidTry" = some C ∧ CalX P K mg C "InvalidTry" "at"
  x_InvalidWaits : ∃ C, kc.kl "InvalidWaits" = some C ∧ CalX P K mg C "InvalidWaits" "at"
  x_InvalidWants : ∃ C, kc.kl "InvalidWants" = some C ∧ CalX P K mg C "InvalidWants" "at"
  x_Refused : ∃ C, kc.kl "Refused" = some C ∧ CalX P K mg C "Refused" "at"
  x_InvalidCommand : ∃ C, kc.kl "InvalidCommand" = some C ∧ CalX0 P K mg C "InvalidCommand"
  m_InvalidDesk : ∃ C, MkX P K mg C "InvalidDesk" "at"
  m_InvalidSize : ∃ C, MkX P K mg C "InvalidSize" "word"
  m_InvalidText : ∃ C, MkX P K mg C "InvalidText" "at"
  m_Refused : ∃ C, MkX P K mg C "Refused" "at"
  i_InvalidCommand : ∃ C, mg "InvalidCommand" = some (.ref C) ∧ ∀ y ∈ (["InvalidDesk", "InvalidHistory", "InvalidStruck", "InvalidText", "InvalidTry", "InvalidIndex", "InvalidSort", "InvalidStep", "InvalidNumber", "InvalidLot", "InvalidPlan", "InvalidMoves", "InvalidOffers", "InvalidRules", "InvalidBound", "Refused", "InvalidSize", "InvalidWants", "InvalidLedger", "InvalidHouse", "InvalidSeam", "InvalidLots", "InvalidPromise", "InvalidContract", "InvalidCosts", "InvalidTools", "InvalidWaits", "InvalidCommand"] : List Str), ∀ Cn, kc.kl y = some Cn → L2.ExcC kc.K Cn ∧ PySem.W.typeIn kc.K (.ref Cn) = some (.type "type") ∧ PySem.W.kitOne kc.K (.ref Cn) (.ref C) = some (y == "InvalidCommand")
  i_InvalidWaits : ∃ C, mg "InvalidWaits" = some (.ref C) ∧ ∀ y ∈ (["InvalidDesk", "InvalidHistory", "InvalidStruck", "InvalidText", "InvalidTry", "InvalidIndex", "InvalidSort", "InvalidStep", "InvalidNumber", "InvalidLot", "InvalidPlan", "InvalidMoves", "InvalidOffers", "InvalidRules", "InvalidBound", "Refused", "InvalidSize", "InvalidWants", "InvalidLedger", "InvalidHouse", "InvalidSeam", "InvalidLots", "InvalidPromise", "InvalidContract", "InvalidCosts", "InvalidTools", "InvalidWaits", "InvalidCommand"] : List Str), ∀ Cn, kc.kl y = some Cn → L2.ExcC kc.K Cn ∧ PySem.W.typeIn kc.K (.ref Cn) = some (.type "type") ∧ PySem.W.kitOne kc.K (.ref Cn) (.ref C) = some (y == "InvalidWaits")
  i_InvalidTools : ∃ C, mg "InvalidTools" = some (.ref C) ∧ ∀ y ∈ (["InvalidDesk", "InvalidHistory", "InvalidStruck", "InvalidText", "InvalidTry", "InvalidIndex", "InvalidSort", "InvalidStep", "InvalidNumber", "InvalidLot", "InvalidPlan", "InvalidMoves", "InvalidOffers", "InvalidRules", "InvalidBound", "Refused", "InvalidSize", "InvalidWants", "InvalidLedger", "InvalidHouse", "InvalidSeam", "InvalidLots", "InvalidPromise", "InvalidContract", "InvalidCosts", "InvalidTools", "InvalidWaits", "InvalidCommand"] : List Str), ∀ Cn, kc.kl y = some Cn → L2.ExcC kc.K Cn ∧ PySem.W.typeIn kc.K (.ref Cn) = some (.type "type") ∧ PySem.W.kitOne kc.K (.ref Cn) (.ref C) = some (y == "InvalidTools")
  i_InvalidCosts : ∃ C, mg "InvalidCosts" = some (.ref C) ∧ ∀ y ∈ (["InvalidDesk", "InvalidHistory", "InvalidStruck", "InvalidText", "InvalidTry", "InvalidIndex", "InvalidSort", "InvalidStep", "InvalidNumber", "InvalidLot", "InvalidPlan", "InvalidMoves", "InvalidOffers", "InvalidRules", "InvalidBound", "Refused", "InvalidSize", "InvalidWants", "InvalidLedger", "InvalidHouse", "InvalidSeam", "InvalidLots", "InvalidPromise", "InvalidContract", "InvalidCosts", "InvalidTools", "InvalidWaits", "InvalidCommand"] : List Str), ∀ Cn, kc.kl y = some Cn → L2.ExcC kc.K Cn ∧ PySem.W.typeIn kc.K (.ref Cn) = some (.type "type") ∧ PySem.W.kitOne kc.K (.ref Cn) (.ref C) = some (y == "InvalidCosts")
  i_InvalidContract : ∃ C, mg "InvalidContract" = some (.ref C) ∧ ∀ y ∈ (["InvalidDesk", "InvalidHistory", "InvalidStruck", "InvalidText", "InvalidTry", "InvalidIndex", "InvalidSort", "InvalidStep", "InvalidNumber", "InvalidLot", "InvalidPlan", "InvalidMoves", "InvalidOffers", "InvalidRules", "InvalidBound", "Refused", "InvalidSize", "InvalidWants", "InvalidLedger", "InvalidHouse", "InvalidSeam", "InvalidLots", "InvalidPromise", "InvalidContract", "InvalidCosts", "InvalidTools", "InvalidWaits", "InvalidCommand"] : List Str), ∀ Cn, kc.kl y = some Cn → L2.ExcC kc.K Cn ∧ PySem.W.typeIn kc.K (.ref Cn) = some (.type "type") ∧ PySem.W.kitOne kc.K (.ref Cn) (.ref C) = some (y == "InvalidContract")
  i_InvalidPromise : ∃ C, mg "InvalidPromise" = some (.ref C) ∧ ∀ y ∈ (["InvalidDesk", "InvalidHistory", "InvalidStruck", "InvalidText", "InvalidTry", "InvalidIndex", "InvalidSort", "InvalidStep", "InvalidNumber", "InvalidLot", "InvalidPlan", "InvalidMoves", "InvalidOffers", "InvalidRules", "InvalidBound", "Refused", "InvalidSize", "InvalidWants", "InvalidLedger", "InvalidHouse", "InvalidSeam", "InvalidLots", "InvalidPromise", "InvalidContract", "InvalidCosts", "InvalidTools", "InvalidWaits", "InvalidCommand"] : List Str), ∀ Cn, kc.kl y = some Cn → L2.ExcC kc.K Cn ∧ PySem.W.typeIn kc.K (.ref Cn) = some (.type "type") ∧ PySem.W.kitOne kc.K (.ref Cn) (.ref C) = some (y == "InvalidPromise")
  i_InvalidLots : ∃ C, mg "InvalidLots" = some (.ref C) ∧ ∀ y ∈ (["InvalidDesk", "InvalidHistory", "InvalidStruck", "InvalidText", "InvalidTry", "InvalidIndex", "InvalidSort", "InvalidStep", "InvalidNumber", "InvalidLot", "InvalidPlan", "InvalidMoves", "InvalidOffers", "InvalidRules", "InvalidBound", "Refused", "InvalidSize", "InvalidWants", "InvalidLedger", "InvalidHouse", "InvalidSeam", "InvalidLots", "InvalidPromise", "InvalidContract", "InvalidCosts", "InvalidTools", "InvalidWaits", "InvalidCommand"] : List Str), ∀ Cn, kc.kl y = some Cn → L2.ExcC kc.K Cn ∧ PySem.W.typeIn kc.K (.ref Cn) = some (.type "type") ∧ PySem.W.kitOne kc.K (.ref Cn) (.ref C) = some (y == "InvalidLots")
  i_InvalidSeam : ∃ C, mg "InvalidSeam" = some (.ref C) ∧ ∀ y ∈ (["InvalidDesk", "InvalidHistory", "InvalidStruck", "InvalidText", "InvalidTry", "InvalidIndex", "InvalidSort", "InvalidStep", "InvalidNumber", "InvalidLot", "InvalidPlan", "InvalidMoves", "InvalidOffers", "InvalidRules", "InvalidBound", "Refused", "InvalidSize", "InvalidWants", "InvalidLedger", "InvalidHouse", "InvalidSeam", "InvalidLots", "InvalidPromise", "InvalidContract", "InvalidCosts", "InvalidTools", "InvalidWaits", "InvalidCommand"] : List Str), ∀ Cn, kc.kl y = some Cn → L2.ExcC kc.K Cn ∧ PySem.W.typeIn kc.K (.ref Cn) = some (.type "type") ∧ PySem.W.kitOne kc.K (.ref Cn) (.ref C) = some (y == "InvalidSeam")
  i_InvalidHouse : ∃ C, mg "InvalidHouse" = some (.ref C) ∧ ∀ y ∈ (["InvalidDesk", "InvalidHistory", "InvalidStruck", "InvalidText", "InvalidTry", "InvalidIndex", "InvalidSort", "InvalidStep", "InvalidNumber", "InvalidLot", "InvalidPlan", "InvalidMoves", "InvalidOffers", "InvalidRules", "InvalidBound", "Refused", "InvalidSize", "InvalidWants", "InvalidLedger", "InvalidHouse", "InvalidSeam", "InvalidLots", "InvalidPromise", "InvalidContract", "InvalidCosts", "InvalidTools", "InvalidWaits", "InvalidCommand"] : List Str), ∀ Cn, kc.kl y = some Cn → L2.ExcC kc.K Cn ∧ PySem.W.typeIn kc.K (.ref Cn) = some (.type "type") ∧ PySem.W.kitOne kc.K (.ref Cn) (.ref C) = some (y == "InvalidHouse")
  i_InvalidLedger : ∃ C, mg "InvalidLedger" = some (.ref C) ∧ ∀ y ∈ (["InvalidDesk", "InvalidHistory", "InvalidStruck", "InvalidText", "InvalidTry", "InvalidIndex", "InvalidSort", "InvalidStep", "InvalidNumber", "InvalidLot", "InvalidPlan", "InvalidMoves", "InvalidOffers", "InvalidRules", "InvalidBound", "Refused", "InvalidSize", "InvalidWants", "InvalidLedger", "InvalidHouse", "InvalidSeam", "InvalidLots", "InvalidPromise", "InvalidContract", "InvalidCosts", "InvalidTools", "InvalidWaits", "InvalidCommand"] : List Str), ∀ Cn, kc.kl y = some Cn → L2.ExcC kc.K Cn ∧ PySem.W.typeIn kc.K (.ref Cn) = some (.type "type") ∧ PySem.W.kitOne kc.K (.ref Cn) (.ref C) = some (y == "InvalidLedger")
  i_InvalidWants : ∃ C, mg "InvalidWants" = some (.ref C) ∧ ∀ y ∈ (["InvalidDesk", "InvalidHistory", "InvalidStruck", "InvalidText", "InvalidTry", "InvalidIndex", "InvalidSort", "InvalidStep", "InvalidNumber", "InvalidLot", "InvalidPlan", "InvalidMoves", "InvalidOffers", "InvalidRules", "InvalidBound", "Refused", "InvalidSize", "InvalidWants", "InvalidLedger", "InvalidHouse", "InvalidSeam", "InvalidLots", "InvalidPromise", "InvalidContract", "InvalidCosts", "InvalidTools", "InvalidWaits", "InvalidCommand"] : List Str), ∀ Cn, kc.kl y = some Cn → L2.ExcC kc.K Cn ∧ PySem.W.typeIn kc.K (.ref Cn) = some (.type "type") ∧ PySem.W.kitOne kc.K (.ref Cn) (.ref C) = some (y == "InvalidWants")
  i_InvalidSize : ∃ C, mg "InvalidSize" = some (.ref C) ∧ ∀ y ∈ (["InvalidDesk", "InvalidHistory", "InvalidStruck", "InvalidText", "InvalidTry", "InvalidIndex", "InvalidSort", "InvalidStep", "InvalidNumber", "InvalidLot", "InvalidPlan", "InvalidMoves", "InvalidOffers", "InvalidRules", "InvalidBound", "Refused", "InvalidSize", "InvalidWants", "InvalidLedger", "InvalidHouse", "InvalidSeam", "InvalidLots", "InvalidPromise", "InvalidContract", "InvalidCosts", "InvalidTools", "InvalidWaits", "InvalidCommand"] : List Str), ∀ Cn, kc.kl y = some Cn → L2.ExcC kc.K Cn ∧ PySem.W.typeIn kc.K (.ref Cn) = some (.type "type") ∧ PySem.W.kitOne kc.K (.ref Cn) (.ref C) = some (y == "InvalidSize")
  i_Refused : ∃ C, mg "Refused" = some (.ref C) ∧ ∀ y ∈ (["InvalidDesk", "InvalidHistory", "InvalidStruck", "InvalidText", "InvalidTry", "InvalidIndex", "InvalidSort", "InvalidStep", "InvalidNumber", "InvalidLot", "InvalidPlan", "InvalidMoves", "InvalidOffers", "InvalidRules", "InvalidBound", "Refused", "InvalidSize", "InvalidWants", "InvalidLedger", "InvalidHouse", "InvalidSeam", "InvalidLots", "InvalidPromise", "InvalidContract", "InvalidCosts", "InvalidTools", "InvalidWaits", "InvalidCommand"] : List Str), ∀ Cn, kc.kl y = some Cn → L2.ExcC kc.K Cn ∧ PySem.W.typeIn kc.K (.ref Cn) = some (.type "type") ∧ PySem.W.kitOne kc.K (.ref Cn) (.ref C) = some (y == "Refused")
  i_InvalidBound : ∃ C, mg "InvalidBound" = some (.ref C) ∧ ∀ y ∈ (["InvalidDesk", "InvalidHistory", "InvalidStruck", "InvalidText", "InvalidTry", "InvalidIndex", "InvalidSort", "InvalidStep", "InvalidNumber", "InvalidLot", "InvalidPlan", "InvalidMoves", "InvalidOffers", "InvalidRules", "InvalidBound", "Refused", "InvalidSize", "InvalidWants", "InvalidLedger", "InvalidHouse", "InvalidSeam", "InvalidLots", "InvalidPromise", "InvalidContract", "InvalidCosts", "InvalidTools", "InvalidWaits", "InvalidCommand"] : List Str), ∀ Cn, kc.kl y = some Cn → L2.ExcC kc.K Cn ∧ PySem.W.typeIn kc.K (.ref Cn) = some (.type "type") ∧ PySem.W.kitOne kc.K (.ref Cn) (.ref C) = some (y == "InvalidBound")
  i_InvalidRules : ∃ C, mg "InvalidRules" = some (.ref C) ∧ ∀ y ∈ (["InvalidDesk", "InvalidHistory", "InvalidStruck", "InvalidText", "InvalidTry", "InvalidIndex", "InvalidSort", "InvalidStep", "InvalidNumber", "InvalidLot", "InvalidPlan", "InvalidMoves", "InvalidOffers", "InvalidRules", "InvalidBound", "Refused", "InvalidSize", "InvalidWants", "InvalidLedger", "InvalidHouse", "InvalidSeam", "InvalidLots", "InvalidPromise", "InvalidContract", "InvalidCosts", "InvalidTools", "InvalidWaits", "InvalidCommand"] : List Str), ∀ Cn, kc.kl y = some Cn → L2.ExcC kc.K Cn ∧ PySem.W.typeIn kc.K (.ref Cn) = some (.type "type") ∧ PySem.W.kitOne kc.K (.ref Cn) (.ref C) = some (y == "InvalidRules")
  i_InvalidOffers : ∃ C, mg "InvalidOffers" = some (.ref C) ∧ ∀ y ∈ (["InvalidDesk", "InvalidHistory", "InvalidStruck", "InvalidText", "InvalidTry", "InvalidIndex", "InvalidSort", "InvalidStep", "InvalidNumber", "InvalidLot", "InvalidPlan", "InvalidMoves", "InvalidOffers", "InvalidRules", "InvalidBound", "Refused", "InvalidSize", "InvalidWants", "InvalidLedger", "InvalidHouse", "InvalidSeam", "InvalidLots", "InvalidPromise", "InvalidContract", "InvalidCosts", "InvalidTools", "InvalidWaits", "InvalidCommand"] : List Str), ∀ Cn, kc.kl y = some Cn → L2.ExcC kc.K Cn ∧ PySem.W.typeIn kc.K (.ref Cn) = some (.type "type") ∧ PySem.W.kitOne kc.K (.ref Cn) (.ref C) = some (y == "InvalidOffers")
  i_InvalidMoves : ∃ C, mg "InvalidMoves" = some (.ref C) ∧ ∀ y ∈ (["InvalidDesk", "InvalidHistory", "InvalidStruck", "InvalidText", "InvalidTry", "InvalidIndex", "InvalidSort", "InvalidStep", "InvalidNumber", "InvalidLot", "InvalidPlan", "InvalidMoves", "InvalidOffers", "InvalidRules", "InvalidBound", "Refused", "InvalidSize", "InvalidWants", "InvalidLedger", "InvalidHouse", "InvalidSeam", "InvalidLots", "InvalidPromise", "InvalidContract", "InvalidCosts", "InvalidTools", "InvalidWaits", "InvalidCommand"] : List Str), ∀ Cn, kc.kl y = some Cn → L2.ExcC kc.K Cn ∧ PySem.W.typeIn kc.K (.ref Cn) = some (.type "type") ∧ PySem.W.kitOne kc.K (.ref Cn) (.ref C) = some (y == "InvalidMoves")
  i_InvalidPlan : ∃ C, mg "InvalidPlan" = some (.ref C) ∧ ∀ y ∈ (["InvalidDesk", "InvalidHistory", "InvalidStruck", "InvalidText", "InvalidTry", "InvalidIndex", "InvalidSort", "InvalidStep", "InvalidNumber", "InvalidLot", "InvalidPlan", "InvalidMoves", "InvalidOffers", "InvalidRules", "InvalidBound", "Refused", "InvalidSize", "InvalidWants", "InvalidLedger", "InvalidHouse", "InvalidSeam", "InvalidLots", "InvalidPromise", "InvalidContract", "InvalidCosts", "InvalidTools", "InvalidWaits", "InvalidCommand"] : List Str), ∀ Cn, kc.kl y = some Cn → L2.ExcC kc.K Cn ∧ PySem.W.typeIn kc.K (.ref Cn) = some (.type "type") ∧ PySem.W.kitOne kc.K (.ref Cn) (.ref C) = some (y == "InvalidPlan")
  i_InvalidLot : ∃ C, mg "InvalidLot" = some (.ref C) ∧ ∀ y ∈ (["InvalidDesk", "InvalidHistory", "InvalidStruck", "InvalidText", "InvalidTry", "InvalidIndex", "InvalidSort", "InvalidStep", "InvalidNumber", "InvalidLot", "InvalidPlan", "InvalidMoves", "InvalidOffers", "InvalidRules", "InvalidBound", "Refused", "InvalidSize", "InvalidWants", "InvalidLedger", "InvalidHouse", "InvalidSeam", "InvalidLots", "InvalidPromise", "InvalidContract", "InvalidCosts", "InvalidTools", "InvalidWaits", "InvalidCommand"] : List Str), ∀ Cn, kc.kl y = some Cn → L2.ExcC kc.K Cn ∧ PySem.W.typeIn kc.K (.ref Cn) = some (.type "type") ∧ PySem.W.kitOne kc.K (.ref Cn) (.ref C) = some (y == "InvalidLot")
  i_InvalidNumber : ∃ C, mg "InvalidNumber" = some (.ref C) ∧ ∀ y ∈ (["InvalidDesk", "InvalidHistory", "InvalidStruck", "InvalidText", "InvalidTry", "InvalidIndex", "InvalidSort", "InvalidStep", "InvalidNumber", "InvalidLot", "InvalidPlan", "InvalidMoves", "InvalidOffers", "InvalidRules", "InvalidBound", "Refused", "InvalidSize", "InvalidWants", "InvalidLedger", "InvalidHouse", "InvalidSeam", "InvalidLots", "InvalidPromise", "InvalidContract", "InvalidCosts", "InvalidTools", "InvalidWaits", "InvalidCommand"] : List Str), ∀ Cn, kc.kl y = some Cn → L2.ExcC kc.K Cn ∧ PySem.W.typeIn kc.K (.ref Cn) = some (.type "type") ∧ PySem.W.kitOne kc.K (.ref Cn) (.ref C) = some (y == "InvalidNumber")
  i_InvalidStep : ∃ C, mg "InvalidStep" = some (.ref C) ∧ ∀ y ∈ (["InvalidDesk", "InvalidHistory", "InvalidStruck", "InvalidText", "InvalidTry", "InvalidIndex", "InvalidSort", "InvalidStep", "InvalidNumber", "InvalidLot", "InvalidPlan", "InvalidMoves", "InvalidOffers", "InvalidRules", "InvalidBound", "Refused", "InvalidSize", "InvalidWants", "InvalidLedger", "InvalidHouse", "InvalidSeam", "InvalidLots", "InvalidPromise", "InvalidContract", "InvalidCosts", "InvalidTools", "InvalidWaits", "InvalidCommand"] : List Str), ∀ Cn, kc.kl y = some Cn → L2.ExcC kc.K Cn ∧ PySem.W.typeIn kc.K (.ref Cn) = some (.type "type") ∧ PySem.W.kitOne kc.K (.ref Cn) (.ref C) = some (y == "InvalidStep")
  i_InvalidSort : ∃ C, mg "InvalidSort" = some (.ref C) ∧ ∀ y ∈ (["InvalidDesk", "InvalidHistory", "InvalidStruck", "InvalidText", "InvalidTry", "InvalidIndex", "InvalidSort", "InvalidStep", "InvalidNumber", "InvalidLot", "InvalidPlan", "InvalidMoves", "InvalidOffers", "InvalidRules", "InvalidBound", "Refused", "InvalidSize", "InvalidWants", "InvalidLedger", "InvalidHouse", "InvalidSeam", "InvalidLots", "InvalidPromise", "InvalidContract", "InvalidCosts", "InvalidTools", "InvalidWaits", "InvalidCommand"] : List Str), ∀ Cn, kc.kl y = some Cn → L2.ExcC kc.K Cn ∧ PySem.W.typeIn kc.K (.ref Cn) = some (.type "type") ∧ PySem.W.kitOne kc.K (.ref Cn) (.ref C) = some (y == "InvalidSort")
  i_InvalidIndex : ∃ C, mg "InvalidIndex" = some (.ref C) ∧ ∀ y ∈ (["InvalidDesk", "InvalidHistory", "InvalidStruck", "InvalidText", "InvalidTry", "InvalidIndex", "InvalidSort", "InvalidStep", "InvalidNumber", "InvalidLot", "InvalidPlan", "InvalidMoves", "InvalidOffers", "InvalidRules", "InvalidBound", "Refused", "InvalidSize", "InvalidWants", "InvalidLedger", "InvalidHouse", "InvalidSeam", "InvalidLots", "InvalidPromise", "InvalidContract", "InvalidCosts", "InvalidTools", "InvalidWaits", "InvalidCommand"] : List Str), ∀ Cn, kc.kl y = some Cn → L2.ExcC kc.K Cn ∧ PySem.W.typeIn kc.K (.ref Cn) = some (.type "type") ∧ PySem.W.kitOne kc.K (.ref Cn) (.ref C) = some (y == "InvalidIndex")
  i_InvalidTry : ∃ C, mg "InvalidTry" = some (.ref C) ∧ ∀ y ∈ (["InvalidDesk", "InvalidHistory", "InvalidStruck", "InvalidText", "InvalidTry", "InvalidIndex", "InvalidSort", "InvalidStep", "InvalidNumber", "InvalidLot", "InvalidPlan", "InvalidMoves", "InvalidOffers", "InvalidRules", "InvalidBound", "Refused", "InvalidSize", "InvalidWants", "InvalidLedger", "InvalidHouse", "InvalidSeam", "InvalidLots", "InvalidPromise", "InvalidContract", "InvalidCosts", "InvalidTools", "InvalidWaits", "InvalidCommand"] : List Str), ∀ Cn, kc.kl y = some Cn → L2.ExcC kc.K Cn ∧ PySem.W.typeIn kc.K (.ref Cn) = some (.type "type") ∧ PySem.W.kitOne kc.K (.ref Cn) (.ref C) = some (y == "InvalidTry")
  i_InvalidText : ∃ C, mg "InvalidText" = some (.ref C) ∧ ∀ y ∈ (["InvalidDesk", "InvalidHistory", "InvalidStruck", "InvalidText", "InvalidTry", "InvalidIndex", "InvalidSort", "InvalidStep", "InvalidNumber", "InvalidLot", "InvalidPlan", "InvalidMoves", "InvalidOffers", "InvalidRules", "InvalidBound", "Refused", "InvalidSize", "InvalidWants", "InvalidLedger", "InvalidHouse", "InvalidSeam", "InvalidLots", "InvalidPromise", "InvalidContract", "InvalidCosts", "InvalidTools", "InvalidWaits", "InvalidCommand"] : List Str), ∀ Cn, kc.kl y = some Cn → L2.ExcC kc.K Cn ∧ PySem.W.typeIn kc.K (.ref Cn) = some (.type "type") ∧ PySem.W.kitOne kc.K (.ref Cn) (.ref C) = some (y == "InvalidText")
  i_InvalidStruck : ∃ C, mg "InvalidStruck" = some (.ref C) ∧ ∀ y ∈ (["InvalidDesk", "InvalidHistory", "InvalidStruck", "InvalidText", "InvalidTry", "InvalidIndex", "InvalidSort", "InvalidStep", "InvalidNumber", "InvalidLot", "InvalidPlan", "InvalidMoves", "InvalidOffers", "InvalidRules", "InvalidBound", "Refused", "InvalidSize", "InvalidWants", "InvalidLedger", "InvalidHouse", "InvalidSeam", "InvalidLots", "InvalidPromise", "InvalidContract", "InvalidCosts", "InvalidTools", "InvalidWaits", "InvalidCommand"] : List Str), ∀ Cn, kc.kl y = some Cn → L2.ExcC kc.K Cn ∧ PySem.W.typeIn kc.K (.ref Cn) = some (.type "type") ∧ PySem.W.kitOne kc.K (.ref Cn) (.ref C) = some (y == "InvalidStruck")
  i_InvalidHistory : ∃ C, mg "InvalidHistory" = some (.ref C) ∧ ∀ y ∈ (["InvalidDesk", "InvalidHistory", "InvalidStruck", "InvalidText", "InvalidTry", "InvalidIndex", "InvalidSort", "InvalidStep", "InvalidNumber", "InvalidLot", "InvalidPlan", "InvalidMoves", "InvalidOffers", "InvalidRules", "InvalidBound", "Refused", "InvalidSize", "InvalidWants", "InvalidLedger", "InvalidHouse", "InvalidSeam", "InvalidLots", "InvalidPromise", "InvalidContract", "InvalidCosts", "InvalidTools", "InvalidWaits", "InvalidCommand"] : List Str), ∀ Cn, kc.kl y = some Cn → L2.ExcC kc.K Cn ∧ PySem.W.typeIn kc.K (.ref Cn) = some (.type "type") ∧ PySem.W.kitOne kc.K (.ref Cn) (.ref C) = some (y == "InvalidHistory")
  i_InvalidDesk : ∃ C, mg "InvalidDesk" = some (.ref C) ∧ ∀ y ∈ (["InvalidDesk", "InvalidHistory", "InvalidStruck", "InvalidText", "InvalidTry", "InvalidIndex", "InvalidSort", "InvalidStep", "InvalidNumber", "InvalidLot", "InvalidPlan", "InvalidMoves", "InvalidOffers", "InvalidRules", "InvalidBound", "Refused", "InvalidSize", "InvalidWants", "InvalidLedger", "InvalidHouse", "InvalidSeam", "InvalidLots", "InvalidPromise", "InvalidContract", "InvalidCosts", "InvalidTools", "InvalidWaits", "InvalidCommand"] : List Str), ∀ Cn, kc.kl y = some Cn → L2.ExcC kc.K Cn ∧ PySem.W.typeIn kc.K (.ref Cn) = some (.type "type") ∧ PySem.W.kitOne kc.K (.ref Cn) (.ref C) = some (y == "InvalidDesk")
  h_InvalidBound : ∃ C, (∀ X : Cx, X.mg = mg → Gl X "InvalidBound" → HdC X (c0 kc) ["InvalidDesk", "InvalidHistory", "InvalidStruck", "InvalidText", "InvalidTry", "InvalidIndex", "InvalidSort", "InvalidStep", "InvalidNumber", "InvalidLot", "InvalidPlan", "InvalidMoves", "InvalidOffers", "InvalidRules", "InvalidBound", "Refused", "InvalidSize", "InvalidWants", "InvalidLedger", "InvalidHouse", "InvalidSeam", "InvalidLots", "InvalidPromise", "InvalidContract", "InvalidCosts", "InvalidTools", "InvalidWaits", "InvalidCommand"] "InvalidBound" C)
  f_InvalidBound : ∀ n ∈ (["InvalidDesk", "InvalidHistory", "InvalidStruck", "InvalidText", "InvalidTry", "InvalidIndex", "InvalidSort", "InvalidStep", "InvalidNumber", "InvalidLot", "InvalidPlan", "InvalidMoves", "InvalidOffers", "InvalidRules", "InvalidBound", "Refused", "InvalidSize", "InvalidWants", "InvalidLedger", "InvalidHouse", "InvalidSeam", "InvalidLots", "InvalidPromise", "InvalidContract", "InvalidCosts", "InvalidTools", "InvalidWaits", "InvalidCommand"] : List Str), ∀ Cn, kc.kl n = some Cn → XfC kc.K Cn ∧ PySem.W.findIn kc.K (.ref Cn) "at" = some none
  h_InvalidCommand : ∃ C, (∀ X : Cx, X.mg = mg → Gl X "InvalidCommand" → HdC X (c0 kc) ["InvalidDesk", "InvalidHistory", "InvalidStruck", "InvalidText", "InvalidTry", "InvalidIndex", "InvalidSort", "InvalidStep", "InvalidNumber", "InvalidLot", "InvalidPlan", "InvalidMoves", "InvalidOffers", "InvalidRules", "InvalidBound", "Refused", "InvalidSize", "InvalidWants", "InvalidLedger", "InvalidHouse", "InvalidSeam", "InvalidLots", "InvalidPromise", "InvalidContract", "InvalidCosts", "InvalidTools", "InvalidWaits", "InvalidCommand"] "InvalidCommand" C)
  f_InvalidCommand : ∀ n ∈ (["InvalidDesk", "InvalidHistory", "InvalidStruck", "InvalidText", "InvalidTry", "InvalidIndex", "InvalidSort", "InvalidStep", "InvalidNumber", "InvalidLot", "InvalidPlan", "InvalidMoves", "InvalidOffers", "InvalidRules", "InvalidBound", "Refused", "InvalidSize", "InvalidWants", "InvalidLedger", "InvalidHouse", "InvalidSeam", "InvalidLots", "InvalidPromise", "InvalidContract", "InvalidCosts", "InvalidTools", "InvalidWaits", "InvalidCommand"] : List Str), ∀ Cn, kc.kl n = some Cn → XfC kc.K Cn ∧ PySem.W.findIn kc.K (.ref Cn) "" = some none
  h_InvalidContract : ∃ C, (∀ X : Cx, X.mg = mg → Gl X "InvalidContract" → HdC X (c0 kc) ["InvalidDesk", "InvalidHistory", "InvalidStruck", "InvalidText", "InvalidTry", "InvalidIndex", "InvalidSort", "InvalidStep", "InvalidNumber", "InvalidLot", "InvalidPlan", "InvalidMoves", "InvalidOffers", "InvalidRules", "InvalidBound", "Refused", "InvalidSize", "InvalidWants", "InvalidLedger", "InvalidHouse", "InvalidSeam", "InvalidLots", "InvalidPromise", "InvalidContract", "InvalidCosts", "InvalidTools", "InvalidWaits", "InvalidCommand"] "InvalidContract" C)
  f_InvalidContract : ∀ n ∈ (["InvalidDesk", "InvalidHistory", "InvalidStruck", "InvalidText", "InvalidTry", "InvalidIndex", "InvalidSort", "InvalidStep", "InvalidNumber", "InvalidLot", "InvalidPlan", "InvalidMoves", "InvalidOffers", "InvalidRules", "InvalidBound", "Refused", "InvalidSize", "InvalidWants", "InvalidLedger", "InvalidHouse", "InvalidSeam", "InvalidLots", "InvalidPromise", "InvalidContract", "InvalidCosts", "InvalidTools", "InvalidWaits", "InvalidCommand"] : List Str), ∀ Cn, kc.kl n = some Cn → XfC kc.K Cn ∧ PySem.W.findIn kc.K (.ref Cn) "at" = some none
  h_InvalidCosts : ∃ C, (∀ X : Cx, X.mg = mg → Gl X "InvalidCosts" → HdC X (c0 kc) ["InvalidDesk", "InvalidHistory", "InvalidStruck", "InvalidText", "InvalidTry", "InvalidIndex", "InvalidSort", "InvalidStep", "InvalidNumber", "InvalidLot", "InvalidPlan", "InvalidMoves", "InvalidOffers", "InvalidRules", "InvalidBound", "Refused", "InvalidSize", "InvalidWants", "InvalidLedger", "InvalidHouse", "InvalidSeam", "InvalidLots", "InvalidPromise", "InvalidContract", "InvalidCosts", "InvalidTools", "InvalidWaits", "InvalidCommand"] "InvalidCosts" C)
  f_InvalidCosts : ∀ n ∈ (["InvalidDesk", "InvalidHistory", "InvalidStruck", "InvalidText", "InvalidTry", "InvalidIndex", "InvalidSort", "InvalidStep", "InvalidNumber", "InvalidLot", "InvalidPlan", "InvalidMoves", "InvalidOffers", "InvalidRules", "InvalidBound", "Refused", "InvalidSize", "InvalidWants", "InvalidLedger", "InvalidHouse", "InvalidSeam", "InvalidLots", "InvalidPromise", "InvalidContract", "InvalidCosts", "InvalidTools", "InvalidWaits", "InvalidCommand"] : List Str), ∀ Cn, kc.kl n = some Cn → XfC kc.K Cn ∧ PySem.W.findIn kc.K (.ref Cn) "at" = some none
  h_InvalidDesk : ∃ C, (∀ X : Cx, X.mg = mg → Gl X "InvalidDesk" → HdC X (c0 kc) ["InvalidDesk", "InvalidHistory", "InvalidStruck", "InvalidText", "InvalidTry", "InvalidIndex", "InvalidSort", "InvalidStep", "InvalidNumber", "InvalidLot", "InvalidPlan", "InvalidMoves", "InvalidOffers", "InvalidRules", "InvalidBound", "Refused", "InvalidSize", "InvalidWants", "InvalidLedger", "InvalidHouse", "InvalidSeam", "InvalidLots", "InvalidPromise", "InvalidContract", "InvalidCosts", "InvalidTools", "InvalidWaits", "InvalidCommand"] "InvalidDesk" C)
  f_InvalidDesk : ∀ n ∈ (["InvalidDesk", "InvalidHistory", "InvalidStruck", "InvalidText", "InvalidTry", "InvalidIndex", "InvalidSort", "InvalidStep", "InvalidNumber", "InvalidLot", "InvalidPlan", "InvalidMoves", "InvalidOffers", "InvalidRules", "InvalidBound", "Refused", "InvalidSize", "InvalidWants", "InvalidLedger", "InvalidHouse", "InvalidSeam", "InvalidLots", "InvalidPromise", "InvalidContract", "InvalidCosts", "InvalidTools", "InvalidWaits", "InvalidCommand"] : List Str), ∀ Cn, kc.kl n = some Cn → XfC kc.K Cn ∧ PySem.W.findIn kc.K (.ref Cn) "at" = some none
  h_InvalidHistory : ∃ C, (∀ X : Cx, X.mg = mg → Gl X "InvalidHistory" → HdC X (c0 kc) ["InvalidDesk", "InvalidHistory", "InvalidStruck", "InvalidText", "InvalidTry", "InvalidIndex", "InvalidSort", "InvalidStep", "InvalidNumber", "InvalidLot", "InvalidPlan", "InvalidMoves", "InvalidOffers", "InvalidRules", "InvalidBound", "Refused", "InvalidSize", "InvalidWants", "InvalidLedger", "InvalidHouse", "InvalidSeam", "InvalidLots", "InvalidPromise", "InvalidContract", "InvalidCosts", "InvalidTools", "InvalidWaits", "InvalidCommand"] "InvalidHistory" C)
  f_InvalidHistory : ∀ n ∈ (["InvalidDesk", "InvalidHistory", "InvalidStruck", "InvalidText", "InvalidTry", "InvalidIndex", "InvalidSort", "InvalidStep", "InvalidNumber", "InvalidLot", "InvalidPlan", "InvalidMoves", "InvalidOffers", "InvalidRules", "InvalidBound", "Refused", "InvalidSize", "InvalidWants", "InvalidLedger", "InvalidHouse", "InvalidSeam", "InvalidLots", "InvalidPromise", "InvalidContract", "InvalidCosts", "InvalidTools", "InvalidWaits", "InvalidCommand"] : List Str), ∀ Cn, kc.kl n = some Cn → XfC kc.K Cn ∧ PySem.W.findIn kc.K (.ref Cn) "at" = some none
  h_InvalidHouse : ∃ C, (∀ X : Cx, X.mg = mg → Gl X "InvalidHouse" → HdC X (c0 kc) ["InvalidDesk", "InvalidHistory", "InvalidStruck", "InvalidText", "InvalidTry", "InvalidIndex", "InvalidSort", "InvalidStep", "InvalidNumber", "InvalidLot", "InvalidPlan", "InvalidMoves", "InvalidOffers", "InvalidRules", "InvalidBound", "Refused", "InvalidSize", "InvalidWants", "InvalidLedger", "InvalidHouse", "InvalidSeam", "InvalidLots", "InvalidPromise", "InvalidContract", "InvalidCosts", "InvalidTools", "InvalidWaits", "InvalidCommand"] "InvalidHouse" C)
  f_InvalidHouse : ∀ n ∈ (["InvalidDesk", "InvalidHistory", "InvalidStruck", "InvalidText", "InvalidTry", "InvalidIndex", "InvalidSort", "InvalidStep", "InvalidNumber", "InvalidLot", "InvalidPlan", "InvalidMoves", "InvalidOffers", "InvalidRules", "InvalidBound", "Refused", "InvalidSize", "InvalidWants", "InvalidLedger", "InvalidHouse", "InvalidSeam", "InvalidLots", "InvalidPromise", "InvalidContract", "InvalidCosts", "InvalidTools", "InvalidWaits", "InvalidCommand"] : List Str), ∀ Cn, kc.kl n = some Cn → XfC kc.K Cn ∧ PySem.W.findIn kc.K (.ref Cn) "at" = some none
  h_InvalidIndex : ∃ C, (∀ X : Cx, X.mg = mg → Gl X "InvalidIndex" → HdC X (c0 kc) ["InvalidDesk", "InvalidHistory", "InvalidStruck", "InvalidText", "InvalidTry", "InvalidIndex", "InvalidSort", "InvalidStep", "InvalidNumber", "InvalidLot", "InvalidPlan", "InvalidMoves", "InvalidOffers", "InvalidRules", "InvalidBound", "Refused", "InvalidSize", "InvalidWants", "InvalidLedger", "InvalidHouse", "InvalidSeam", "InvalidLots", "InvalidPromise", "InvalidContract", "InvalidCosts", "InvalidTools", "InvalidWaits", "InvalidCommand"] "InvalidIndex" C)
  f_InvalidIndex : ∀ n ∈ (["InvalidDesk", "InvalidHistory", "InvalidStruck", "InvalidText", "InvalidTry", "InvalidIndex", "InvalidSort", "InvalidStep", "InvalidNumber", "InvalidLot", "InvalidPlan", "InvalidMoves", "InvalidOffers", "InvalidRules", "InvalidBound", "Refused", "InvalidSize", "InvalidWants", "InvalidLedger", "InvalidHouse", "InvalidSeam", "InvalidLots", "InvalidPromise", "InvalidContract", "InvalidCosts", "InvalidTools", "InvalidWaits", "InvalidCommand"] : List Str), ∀ Cn, kc.kl n = some Cn → XfC kc.K Cn ∧ PySem.W.findIn kc.K (.ref Cn) "at" = some none
  h_InvalidLedger : ∃ C, (∀ X : Cx, X.mg = mg → Gl X "InvalidLedger" → HdC X (c0 kc) ["InvalidDesk", "InvalidHistory", "InvalidStruck", "InvalidText", "InvalidTry", "InvalidIndex", "InvalidSort", "InvalidStep", "InvalidNumber", "InvalidLot", "InvalidPlan", "InvalidMoves", "InvalidOffers", "InvalidRules", "InvalidBound", "Refused", "InvalidSize", "InvalidWants", "InvalidLedger", "InvalidHouse", "InvalidSeam", "InvalidLots", "InvalidPromise", "InvalidContract", "InvalidCosts", "InvalidTools", "InvalidWaits", "InvalidCommand"] "InvalidLedger" C)
  f_InvalidLedger : ∀ n ∈ (["InvalidDesk", "InvalidHistory", "InvalidStruck", "InvalidText", "InvalidTry", "InvalidIndex", "InvalidSort", "InvalidStep", "InvalidNumber", "InvalidLot", "InvalidPlan", "InvalidMoves", "InvalidOffers", "InvalidRules", "InvalidBound", "Refused", "InvalidSize", "InvalidWants", "InvalidLedger", "InvalidHouse", "InvalidSeam", "InvalidLots", "InvalidPromise", "InvalidContract", "InvalidCosts", "InvalidTools", "InvalidWaits", "InvalidCommand"] : List Str), ∀ Cn, kc.kl n = some Cn → XfC kc.K Cn ∧ PySem.W.findIn kc.K (.ref Cn) "at" = some none
  h_InvalidLot : ∃ C, (∀ X : Cx, X.mg = mg → Gl X "InvalidLot" → HdC X (c0 kc) ["InvalidDesk", "InvalidHistory", "InvalidStruck", "InvalidText", "InvalidTry", "InvalidIndex", "InvalidSort", "InvalidStep", "InvalidNumber", "InvalidLot", "InvalidPlan", "InvalidMoves", "InvalidOffers", "InvalidRules", "InvalidBound", "Refused", "InvalidSize", "InvalidWants", "InvalidLedger", "InvalidHouse", "InvalidSeam", "InvalidLots", "InvalidPromise", "InvalidContract", "InvalidCosts", "InvalidTools", "InvalidWaits", "InvalidCommand"] "InvalidLot" C)
  f_InvalidLot : ∀ n ∈ (["InvalidDesk", "InvalidHistory", "InvalidStruck", "InvalidText", "InvalidTry", "InvalidIndex", "InvalidSort", "InvalidStep", "InvalidNumber", "InvalidLot", "InvalidPlan", "InvalidMoves", "InvalidOffers", "InvalidRules", "InvalidBound", "Refused", "InvalidSize", "InvalidWants", "InvalidLedger", "InvalidHouse", "InvalidSeam", "InvalidLots", "InvalidPromise", "InvalidContract", "InvalidCosts", "InvalidTools", "InvalidWaits", "InvalidCommand"] : List Str), ∀ Cn, kc.kl n = some Cn → XfC kc.K Cn ∧ PySem.W.findIn kc.K (.ref Cn) "at" = some none
  h_InvalidLots : ∃ C, (∀ X : Cx, X.mg = mg → Gl X "InvalidLots" → HdC X (c0 kc) ["InvalidDesk", "InvalidHistory", "InvalidStruck", "InvalidText", "InvalidTry", "InvalidIndex", "InvalidSort", "InvalidStep", "InvalidNumber", "InvalidLot", "InvalidPlan", "InvalidMoves", "InvalidOffers", "InvalidRules", "InvalidBound", "Refused", "InvalidSize", "InvalidWants", "InvalidLedger", "InvalidHouse", "InvalidSeam", "InvalidLots", "InvalidPromise", "InvalidContract", "InvalidCosts", "InvalidTools", "InvalidWaits", "InvalidCommand"] "InvalidLots" C)
  f_InvalidLots : ∀ n ∈ (["InvalidDesk", "InvalidHistory", "InvalidStruck", "InvalidText", "InvalidTry", "InvalidIndex", "InvalidSort", "InvalidStep", "InvalidNumber", "InvalidLot", "InvalidPlan", "InvalidMoves", "InvalidOffers", "InvalidRules", "InvalidBound", "Refused", "InvalidSize", "InvalidWants", "InvalidLedger", "InvalidHouse", "InvalidSeam", "InvalidLots", "InvalidPromise", "InvalidContract", "InvalidCosts", "InvalidTools", "InvalidWaits", "InvalidCommand"] : List Str), ∀ Cn, kc.kl n = some Cn → XfC kc.K Cn ∧ PySem.W.findIn kc.K (.ref Cn) "at" = some none
  h_InvalidMoves : ∃ C, (∀ X : Cx, X.mg = mg → Gl X "InvalidMoves" → HdC X (c0 kc) ["InvalidDesk", "InvalidHistory", "InvalidStruck", "InvalidText", "InvalidTry", "InvalidIndex", "InvalidSort", "InvalidStep", "InvalidNumber", "InvalidLot", "InvalidPlan", "InvalidMoves", "InvalidOffers", "InvalidRules", "InvalidBound", "Refused", "InvalidSize", "InvalidWants", "InvalidLedger", "InvalidHouse", "InvalidSeam", "InvalidLots", "InvalidPromise", "InvalidContract", "InvalidCosts", "InvalidTools", "InvalidWaits", "InvalidCommand"] "InvalidMoves" C)
  f_InvalidMoves : ∀ n ∈ (["InvalidDesk", "InvalidHistory", "InvalidStruck", "InvalidText", "InvalidTry", "InvalidIndex", "InvalidSort", "InvalidStep", "InvalidNumber", "InvalidLot", "InvalidPlan", "InvalidMoves", "InvalidOffers", "InvalidRules", "InvalidBound", "Refused", "InvalidSize", "InvalidWants", "InvalidLedger", "InvalidHouse", "InvalidSeam", "InvalidLots", "InvalidPromise", "InvalidContract", "InvalidCosts", "InvalidTools", "InvalidWaits", "InvalidCommand"] : List Str), ∀ Cn, kc.kl n = some Cn → XfC kc.K Cn ∧ PySem.W.findIn kc.K (.ref Cn) "at" = some none
  h_InvalidNumber : ∃ C, (∀ X : Cx, X.mg = mg → Gl X "InvalidNumber" → HdC X (c0 kc) ["InvalidDesk", "InvalidHistory", "InvalidStruck", "InvalidText", "InvalidTry", "InvalidIndex", "InvalidSort", "InvalidStep", "InvalidNumber", "InvalidLot", "InvalidPlan", "InvalidMoves", "InvalidOffers", "InvalidRules", "InvalidBound", "Refused", "InvalidSize", "InvalidWants", "InvalidLedger", "InvalidHouse", "InvalidSeam", "InvalidLots", "InvalidPromise", "InvalidContract", "InvalidCosts", "InvalidTools", "InvalidWaits", "InvalidCommand"] "InvalidNumber" C)
  f_InvalidNumber : ∀ n ∈ (["InvalidDesk", "InvalidHistory", "InvalidStruck", "InvalidText", "InvalidTry", "InvalidIndex", "InvalidSort", "InvalidStep", "InvalidNumber", "InvalidLot", "InvalidPlan", "InvalidMoves", "InvalidOffers", "InvalidRules", "InvalidBound", "Refused", "InvalidSize", "InvalidWants", "InvalidLedger", "InvalidHouse", "InvalidSeam", "InvalidLots", "InvalidPromise", "InvalidContract", "InvalidCosts", "InvalidTools", "InvalidWaits", "InvalidCommand"] : List Str), ∀ Cn, kc.kl n = some Cn → XfC kc.K Cn ∧ PySem.W.findIn kc.K (.ref Cn) "at" = some none
  h_InvalidOffers : ∃ C, (∀ X : Cx, X.mg = mg → Gl X "InvalidOffers" → HdC X (c0 kc) ["InvalidDesk", "InvalidHistory", "InvalidStruck", "InvalidText", "InvalidTry", "InvalidIndex", "InvalidSort", "InvalidStep", "InvalidNumber", "InvalidLot", "InvalidPlan", "InvalidMoves", "InvalidOffers", "InvalidRules", "InvalidBound", "Refused", "InvalidSize", "InvalidWants", "InvalidLedger", "InvalidHouse", "InvalidSeam", "InvalidLots", "InvalidPromise", "InvalidContract", "InvalidCosts", "InvalidTools", "InvalidWaits", "InvalidCommand"] "InvalidOffers" C)
  f_InvalidOffers : ∀ n ∈ (["InvalidDesk", "InvalidHistory", "InvalidStruck", "InvalidText", "InvalidTry", "InvalidIndex", "InvalidSort", "InvalidStep", "InvalidNumber", "InvalidLot", "InvalidPlan", "InvalidMoves", "InvalidOffers", "InvalidRules", "InvalidBound", "Refused", "InvalidSize", "InvalidWants", "InvalidLedger", "InvalidHouse", "InvalidSeam", "InvalidLots", "InvalidPromise", "InvalidContract", "InvalidCosts", "InvalidTools", "InvalidWaits", "InvalidCommand"] : List Str), ∀ Cn, kc.kl n = some Cn → XfC kc.K Cn ∧ PySem.W.findIn kc.K (.ref Cn) "at" = some none
  h_InvalidPlan : ∃ C, (∀ X : Cx, X.mg = mg → Gl X "InvalidPlan" → HdC X (c0 kc) ["InvalidDesk", "InvalidHistory", "InvalidStruck", "InvalidText", "InvalidTry", "InvalidIndex", "InvalidSort", "InvalidStep", "InvalidNumber", "InvalidLot", "InvalidPlan", "InvalidMoves", "InvalidOffers", "InvalidRules", "InvalidBound", "Refused", "InvalidSize", "InvalidWants", "InvalidLedger", "InvalidHouse", "InvalidSeam", "InvalidLots", "InvalidPromise", "InvalidContract", "InvalidCosts", "InvalidTools", "InvalidWaits", "InvalidCommand"] "InvalidPlan" C)
  f_InvalidPlan : ∀ n ∈ (["InvalidDesk", "InvalidHistory", "InvalidStruck", "InvalidText", "InvalidTry", "InvalidIndex", "InvalidSort", "InvalidStep", "InvalidNumber", "InvalidLot", "InvalidPlan", "InvalidMoves", "InvalidOffers", "InvalidRules", "InvalidBound", "Refused", "InvalidSize", "InvalidWants", "InvalidLedger", "InvalidHouse", "InvalidSeam", "InvalidLots", "InvalidPromise", "InvalidContract", "InvalidCosts", "InvalidTools", "InvalidWaits", "InvalidCommand"] : List Str), ∀ Cn, kc.kl n = some Cn → XfC kc.K Cn ∧ PySem.W.findIn kc.K (.ref Cn) "at" = some none
  h_InvalidPromise : ∃ C, (∀ X : Cx, X.mg = mg → Gl X "InvalidPromise" → HdC X (c0 kc) ["InvalidDesk", "InvalidHistory", "InvalidStruck", "InvalidText", "InvalidTry", "InvalidIndex", "InvalidSort", "InvalidStep", "InvalidNumber", "InvalidLot", "InvalidPlan", "InvalidMoves", "InvalidOffers", "InvalidRules", "InvalidBound", "Refused", "InvalidSize", "InvalidWants", "InvalidLedger", "InvalidHouse", "InvalidSeam", "InvalidLots", "InvalidPromise", "InvalidContract", "InvalidCosts", "InvalidTools", "InvalidWaits", "InvalidCommand"] "InvalidPromise" C)
  f_InvalidPromise : ∀ n ∈ (["InvalidDesk", "InvalidHistory", "InvalidStruck", "InvalidText", "InvalidTry", "InvalidIndex", "InvalidSort", "InvalidStep", "InvalidNumber", "InvalidLot", "InvalidPlan", "InvalidMoves", "InvalidOffers", "InvalidRules", "InvalidBound", "Refused", "InvalidSize", "InvalidWants", "InvalidLedger", "InvalidHouse", "InvalidSeam", "InvalidLots", "InvalidPromise", "InvalidContract", "InvalidCosts", "InvalidTools", "InvalidWaits", "InvalidCommand"] : List Str), ∀ Cn, kc.kl n = some Cn → XfC kc.K Cn ∧ PySem.W.findIn kc.K (.ref Cn) "at" = some none
  h_InvalidRules : ∃ C, (∀ X : Cx, X.mg = mg → Gl X "InvalidRules" → HdC X (c0 kc) ["InvalidDesk", "InvalidHistory", "InvalidStruck", "InvalidText", "InvalidTry", "InvalidIndex", "InvalidSort", "InvalidStep", "InvalidNumber", "InvalidLot", "InvalidPlan", "InvalidMoves", "InvalidOffers", "InvalidRules", "InvalidBound", "Refused", "InvalidSize", "InvalidWants", "InvalidLedger", "InvalidHouse", "InvalidSeam", "InvalidLots", "InvalidPromise", "InvalidContract", "InvalidCosts", "InvalidTools", "InvalidWaits", "InvalidCommand"] "InvalidRules" C)
  f_InvalidRules : ∀ n ∈ (["InvalidDesk", "InvalidHistory", "InvalidStruck", "InvalidText", "InvalidTry", "InvalidIndex", "InvalidSort", "InvalidStep", "InvalidNumber", "InvalidLot", "InvalidPlan", "InvalidMoves", "InvalidOffers", "InvalidRules", "InvalidBound", "Refused", "InvalidSize", "InvalidWants", "InvalidLedger", "InvalidHouse", "InvalidSeam", "InvalidLots", "InvalidPromise", "InvalidContract", "InvalidCosts", "InvalidTools", "InvalidWaits", "InvalidCommand"] : List Str), ∀ Cn, kc.kl n = some Cn → XfC kc.K Cn ∧ PySem.W.findIn kc.K (.ref Cn) "at" = some none
  h_InvalidSeam : ∃ C, (∀ X : Cx, X.mg = mg → Gl X "InvalidSeam" → HdC X (c0 kc) ["InvalidDesk", "InvalidHistory", "InvalidStruck", "InvalidText", "InvalidTry", "InvalidIndex", "InvalidSort", "InvalidStep", "InvalidNumber", "InvalidLot", "InvalidPlan", "InvalidMoves", "InvalidOffers", "InvalidRules", "InvalidBound", "Refused", "InvalidSize", "InvalidWants", "InvalidLedger", "InvalidHouse", "InvalidSeam", "InvalidLots", "InvalidPromise", "InvalidContract", "InvalidCosts", "InvalidTools", "InvalidWaits", "InvalidCommand"] "InvalidSeam" C)
  f_InvalidSeam : ∀ n ∈ (["InvalidDesk", "InvalidHistory", "InvalidStruck", "InvalidText", "InvalidTry", "InvalidIndex", "InvalidSort", "InvalidStep", "InvalidNumber", "InvalidLot", "InvalidPlan", "InvalidMoves", "InvalidOffers", "InvalidRules", "InvalidBound", "Refused", "InvalidSize", "InvalidWants", "InvalidLedger", "InvalidHouse", "InvalidSeam", "InvalidLots", "InvalidPromise", "InvalidContract", "InvalidCosts", "InvalidTools", "InvalidWaits", "InvalidCommand"] : List Str), ∀ Cn, kc.kl n = some Cn → XfC kc.K Cn ∧ PySem.W.findIn kc.K (.ref Cn) "at" = some none
  h_InvalidSize : ∃ C, (∀ X : Cx, X.mg = mg → Gl X "InvalidSize" → HdC X (c0 kc) ["InvalidDesk", "InvalidHistory", "InvalidStruck", "InvalidText", "InvalidTry", "InvalidIndex", "InvalidSort", "InvalidStep", "InvalidNumber", "InvalidLot", "InvalidPlan", "InvalidMoves", "InvalidOffers", "InvalidRules", "InvalidBound", "Refused", "InvalidSize", "InvalidWants", "InvalidLedger", "InvalidHouse", "InvalidSeam", "InvalidLots", "InvalidPromise", "InvalidContract", "InvalidCosts", "InvalidTools", "InvalidWaits", "InvalidCommand"] "InvalidSize" C)
  f_InvalidSize : ∀ n ∈ (["InvalidDesk", "InvalidHistory", "InvalidStruck", "InvalidText", "InvalidTry", "InvalidIndex", "InvalidSort", "InvalidStep", "InvalidNumber", "InvalidLot", "InvalidPlan", "InvalidMoves", "InvalidOffers", "InvalidRules", "InvalidBound", "Refused", "InvalidSize", "InvalidWants", "InvalidLedger", "InvalidHouse", "InvalidSeam", "InvalidLots", "InvalidPromise", "InvalidContract", "InvalidCosts", "InvalidTools", "InvalidWaits", "InvalidCommand"] : List Str), ∀ Cn, kc.kl n = some Cn → XfC kc.K Cn ∧ PySem.W.findIn kc.K (.ref Cn) "word" = some none
  h_InvalidSort : ∃ C, (∀ X : Cx, X.mg = mg → Gl X "InvalidSort" → HdC X (c0 kc) ["InvalidDesk", "InvalidHistory", "InvalidStruck", "InvalidText", "InvalidTry", "InvalidIndex", "InvalidSort", "InvalidStep", "InvalidNumber", "InvalidLot", "InvalidPlan", "InvalidMoves", "InvalidOffers", "InvalidRules", "InvalidBound", "Refused", "InvalidSize", "InvalidWants", "InvalidLedger", "InvalidHouse", "InvalidSeam", "InvalidLots", "InvalidPromise", "InvalidContract", "InvalidCosts", "InvalidTools", "InvalidWaits", "InvalidCommand"] "InvalidSort" C)
  f_InvalidSort : ∀ n ∈ (["InvalidDesk", "InvalidHistory", "InvalidStruck", "InvalidText", "InvalidTry", "InvalidIndex", "InvalidSort", "InvalidStep", "InvalidNumber", "InvalidLot", "InvalidPlan", "InvalidMoves", "InvalidOffers", "InvalidRules", "InvalidBound", "Refused", "InvalidSize", "InvalidWants", "InvalidLedger", "InvalidHouse", "InvalidSeam", "InvalidLots", "InvalidPromise", "InvalidContract", "InvalidCosts", "InvalidTools", "InvalidWaits", "InvalidCommand"] : List Str), ∀ Cn, kc.kl n = some Cn → XfC kc.K Cn ∧ PySem.W.findIn kc.K (.ref Cn) "at" = some none
  h_InvalidStep : ∃ C, (∀ X : Cx, X.mg = mg → Gl X "InvalidStep" → HdC X (c0 kc) ["InvalidDesk", "InvalidHistory", "InvalidStruck", "InvalidText", "InvalidTry", "InvalidIndex", "InvalidSort", "InvalidStep", "InvalidNumber", "InvalidLot", "InvalidPlan", "InvalidMoves", "InvalidOffers", "InvalidRules", "InvalidBound", "Refused", "InvalidSize", "InvalidWants", "InvalidLedger", "InvalidHouse", "InvalidSeam", "InvalidLots", "InvalidPromise", "InvalidContract", "InvalidCosts", "InvalidTools", "InvalidWaits", "InvalidCommand"] "InvalidStep" C)
  f_InvalidStep : ∀ n ∈ (["InvalidDesk", "InvalidHistory", "InvalidStruck", "InvalidText", "InvalidTry", "InvalidIndex", "InvalidSort", "InvalidStep", "InvalidNumber", "InvalidLot", "InvalidPlan", "InvalidMoves", "InvalidOffers", "InvalidRules", "InvalidBound", "Refused", "InvalidSize", "InvalidWants", "InvalidLedger", "InvalidHouse", "InvalidSeam", "InvalidLots", "InvalidPromise", "InvalidContract", "InvalidCosts", "InvalidTools", "InvalidWaits", "InvalidCommand"] : List Str), ∀ Cn, kc.kl n = some Cn → XfC kc.K Cn ∧ PySem.W.findIn kc.K (.ref Cn) "at" = some none
  h_InvalidStruck : ∃ C, (∀ X : Cx, X.mg = mg → Gl X "InvalidStruck" → HdC X (c0 kc) ["InvalidDesk", "InvalidHistory", "InvalidStruck", "InvalidText", "InvalidTry", "InvalidIndex", "InvalidSort", "InvalidStep", "InvalidNumber", "InvalidLot", "InvalidPlan", "InvalidMoves", "InvalidOffers", "InvalidRules", "InvalidBound", "Refused", "InvalidSize", "InvalidWants", "InvalidLedger", "InvalidHouse", "InvalidSeam", "InvalidLots", "InvalidPromise", "InvalidContract", "InvalidCosts", "InvalidTools", "InvalidWaits", "InvalidCommand"] "InvalidStruck" C)
  f_InvalidStruck : ∀ n ∈ (["InvalidDesk", "InvalidHistory", "InvalidStruck", "InvalidText", "InvalidTry", "InvalidIndex", "InvalidSort", "InvalidStep", "InvalidNumber", "InvalidLot", "InvalidPlan", "InvalidMoves", "InvalidOffers", "InvalidRules", "InvalidBound", "Refused", "InvalidSize", "InvalidWants", "InvalidLedger", "InvalidHouse", "InvalidSeam", "InvalidLots", "InvalidPromise", "InvalidContract", "InvalidCosts", "InvalidTools", "InvalidWaits", "InvalidCommand"] : List Str), ∀ Cn, kc.kl n = some Cn → XfC kc.K Cn ∧ PySem.W.findIn kc.K (.ref Cn) "at" = some none
  h_InvalidText : ∃ C, (∀ X : Cx, X.mg = mg → Gl X "InvalidText" → HdC X (c0 kc) ["InvalidDesk", "InvalidHistory", "InvalidStruck", "InvalidText", "InvalidTry", "InvalidIndex", "InvalidSort", "InvalidStep", "InvalidNumber", "InvalidLot", "InvalidPlan", "InvalidMoves", "InvalidOffers", "InvalidRules", "InvalidBound", "Refused", "InvalidSize", "InvalidWants", "InvalidLedger", "InvalidHouse", "InvalidSeam", "InvalidLots", "InvalidPromise", "InvalidContract", "InvalidCosts", "InvalidTools", "InvalidWaits", "InvalidCommand"] "InvalidText" C)
  f_InvalidText : ∀ n ∈ (["InvalidDesk", "InvalidHistory", "InvalidStruck", "InvalidText", "InvalidTry", "InvalidIndex", "InvalidSort", "InvalidStep", "InvalidNumber", "InvalidLot", "InvalidPlan", "InvalidMoves", "InvalidOffers", "InvalidRules", "InvalidBound", "Refused", "InvalidSize", "InvalidWants", "InvalidLedger", "InvalidHouse", "InvalidSeam", "InvalidLots", "InvalidPromise", "InvalidContract", "InvalidCosts", "InvalidTools", "InvalidWaits", "InvalidCommand"] : List Str), ∀ Cn, kc.kl n = some Cn → XfC kc.K Cn ∧ PySem.W.findIn kc.K (.ref Cn) "at" = some none
  h_InvalidTools : ∃ C, (∀ X : Cx, X.mg = mg → Gl X "InvalidTools" → HdC X (c0 kc) ["InvalidDesk", "InvalidHistory", "InvalidStruck", "InvalidText", "InvalidTry", "InvalidIndex", "InvalidSort", "InvalidStep", "InvalidNumber", "InvalidLot", "InvalidPlan", "InvalidMoves", "InvalidOffers", "InvalidRules", "InvalidBound", "Refused", "InvalidSize", "InvalidWants", "InvalidLedger", "InvalidHouse", "InvalidSeam", "InvalidLots", "InvalidPromise", "InvalidContract", "InvalidCosts", "InvalidTools", "InvalidWaits", "InvalidCommand"] "InvalidTools" C)
  f_InvalidTools : ∀ n ∈ (["InvalidDesk", "InvalidHistory", "InvalidStruck", "InvalidText", "InvalidTry", "InvalidIndex", "InvalidSort", "InvalidStep", "InvalidNumber", "InvalidLot", "InvalidPlan", "InvalidMoves", "InvalidOffers", "InvalidRules", "InvalidBound", "Refused", "InvalidSize", "InvalidWants", "InvalidLedger", "InvalidHouse", "InvalidSeam", "InvalidLots", "InvalidPromise", "InvalidContract", "InvalidCosts", "InvalidTools", "InvalidWaits", "InvalidCommand"] : List Str), ∀ Cn, kc.kl n = some Cn → XfC kc.K Cn ∧ PySem.W.findIn kc.K (.ref Cn) "at" = some none
  h_InvalidTry : ∃ C, (∀ X : Cx, X.mg = mg → Gl X "InvalidTry" → HdC X (c0 kc) ["InvalidDesk", "InvalidHistory", "InvalidStruck", "InvalidText", "InvalidTry", "InvalidIndex", "InvalidSort", "InvalidStep", "InvalidNumber", "InvalidLot", "InvalidPlan", "InvalidMoves", "InvalidOffers", "InvalidRules", "InvalidBound", "Refused", "InvalidSize", "InvalidWants", "InvalidLedger", "InvalidHouse", "InvalidSeam", "InvalidLots", "InvalidPromise", "InvalidContract", "InvalidCosts", "InvalidTools", "InvalidWaits", "InvalidCommand"] "InvalidTry" C)
  f_InvalidTry : ∀ n ∈ (["InvalidDesk", "InvalidHistory", "InvalidStruck", "InvalidText", "InvalidTry", "InvalidIndex", "InvalidSort", "InvalidStep", "InvalidNumber", "InvalidLot", "InvalidPlan", "InvalidMoves", "InvalidOffers", "InvalidRules", "InvalidBound", "Refused", "InvalidSize", "InvalidWants", "InvalidLedger", "InvalidHouse", "InvalidSeam", "InvalidLots", "InvalidPromise", "InvalidContract", "InvalidCosts", "InvalidTools", "InvalidWaits", "InvalidCommand"] : List Str), ∀ Cn, kc.kl n = some Cn → XfC kc.K Cn ∧ PySem.W.findIn kc.K (.ref Cn) "at" = some none
  h_InvalidWaits : ∃ C, (∀ X : Cx, X.mg = mg → Gl X "InvalidWaits" → HdC X (c0 kc) ["InvalidDesk", "InvalidHistory", "InvalidStruck", "InvalidText", "InvalidTry", "InvalidIndex", "InvalidSort", "InvalidStep", "InvalidNumber", "InvalidLot", "InvalidPlan", "InvalidMoves", "InvalidOffers", "InvalidRules", "InvalidBound", "Refused", "InvalidSize", "InvalidWants", "InvalidLedger", "InvalidHouse", "InvalidSeam", "InvalidLots", "InvalidPromise", "InvalidContract", "InvalidCosts", "InvalidTools", "InvalidWaits", "InvalidCommand"] "InvalidWaits" C)
  f_InvalidWaits : ∀ n ∈ (["InvalidDesk", "InvalidHistory", "InvalidStruck", "InvalidText", "InvalidTry", "InvalidIndex", "InvalidSort", "InvalidStep", "InvalidNumber", "InvalidLot", "InvalidPlan", "InvalidMoves", "InvalidOffers", "InvalidRules", "InvalidBound", "Refused", "InvalidSize", "InvalidWants", "InvalidLedger", "InvalidHouse", "InvalidSeam", "InvalidLots", "InvalidPromise", "InvalidContract", "InvalidCosts", "InvalidTools", "InvalidWaits", "InvalidCommand"] : List Str), ∀ Cn, kc.kl n = some Cn → XfC kc.K Cn ∧ PySem.W.findIn kc.K (.ref Cn) "at" = some none
  h_InvalidWants : ∃ C, (∀ X : Cx, X.mg = mg → Gl X "InvalidWants" → HdC X (c0 kc) ["InvalidDesk", "InvalidHistory", "InvalidStruck", "InvalidText", "InvalidTry", "InvalidIndex", "InvalidSort", "InvalidStep", "InvalidNumber", "InvalidLot", "InvalidPlan", "InvalidMoves", "InvalidOffers", "InvalidRules", "InvalidBound", "Refused", "InvalidSize", "InvalidWants", "InvalidLedger", "InvalidHouse", "InvalidSeam", "InvalidLots", "InvalidPromise", "InvalidContract", "InvalidCosts", "InvalidTools", "InvalidWaits", "InvalidCommand"] "InvalidWants" C)
  f_InvalidWants : ∀ n ∈ (["InvalidDesk", "InvalidHistory", "InvalidStruck", "InvalidText", "InvalidTry", "InvalidIndex", "InvalidSort", "InvalidStep", "InvalidNumber", "InvalidLot", "InvalidPlan", "InvalidMoves", "InvalidOffers", "InvalidRules", "InvalidBound", "Refused", "InvalidSize", "InvalidWants", "InvalidLedger", "InvalidHouse", "InvalidSeam", "InvalidLots", "InvalidPromise", "InvalidContract", "InvalidCosts", "InvalidTools", "InvalidWaits", "InvalidCommand"] : List Str), ∀ Cn, kc.kl n = some Cn → XfC kc.K Cn ∧ PySem.W.findIn kc.K (.ref Cn) "at" = some none
  h_LateError : ∃ C, (∀ X : Cx, X.mg = mg → Gl X "LateError" → HdC X (c0 kc) ["InvalidDesk", "InvalidHistory", "InvalidStruck", "InvalidText", "InvalidTry", "InvalidIndex", "InvalidSort", "InvalidStep", "InvalidNumber", "InvalidLot", "InvalidPlan", "InvalidMoves", "InvalidOffers", "InvalidRules", "InvalidBound", "Refused", "InvalidSize", "InvalidWants", "InvalidLedger", "InvalidHouse", "InvalidSeam", "InvalidLots", "InvalidPromise", "InvalidContract", "InvalidCosts", "InvalidTools", "InvalidWaits", "InvalidCommand"] "LateError" C)
  f_LateError : ∀ n ∈ (["InvalidDesk", "InvalidHistory", "InvalidStruck", "InvalidText", "InvalidTry", "InvalidIndex", "InvalidSort", "InvalidStep", "InvalidNumber", "InvalidLot", "InvalidPlan", "InvalidMoves", "InvalidOffers", "InvalidRules", "InvalidBound", "Refused", "InvalidSize", "InvalidWants", "InvalidLedger", "InvalidHouse", "InvalidSeam", "InvalidLots", "InvalidPromise", "InvalidContract", "InvalidCosts", "InvalidTools", "InvalidWaits", "InvalidCommand"] : List Str), ∀ Cn, kc.kl n = some Cn → XfC kc.K Cn ∧ PySem.W.findIn kc.K (.ref Cn) "at" = some none
  h_Refused : ∃ C, (∀ X : Cx, X.mg = mg → Gl X "Refused" → HdC X (c0 kc) ["InvalidDesk", "InvalidHistory", "InvalidStruck", "InvalidText", "InvalidTry", "InvalidIndex", "InvalidSort", "InvalidStep", "InvalidNumber", "InvalidLot", "InvalidPlan", "InvalidMoves", "InvalidOffers", "InvalidRules", "InvalidBound", "Refused", "InvalidSize", "InvalidWants", "InvalidLedger", "InvalidHouse", "InvalidSeam", "InvalidLots", "InvalidPromise", "InvalidContract", "InvalidCosts", "InvalidTools", "InvalidWaits", "InvalidCommand"] "Refused" C)
  f_Refused : ∀ n ∈ (["InvalidDesk", "InvalidHistory", "InvalidStruck", "InvalidText", "InvalidTry", "InvalidIndex", "InvalidSort", "InvalidStep", "InvalidNumber", "InvalidLot", "InvalidPlan", "InvalidMoves", "InvalidOffers", "InvalidRules", "InvalidBound", "Refused", "InvalidSize", "InvalidWants", "InvalidLedger", "InvalidHouse", "InvalidSeam", "InvalidLots", "InvalidPromise", "InvalidContract", "InvalidCosts", "InvalidTools", "InvalidWaits", "InvalidCommand"] : List Str), ∀ Cn, kc.kl n = some Cn → XfC kc.K Cn ∧ PySem.W.findIn kc.K (.ref Cn) "at" = some none
  d__law_box : ∃ f fd, mg "_law_box" = some (.ref f) ∧ FunD K "_law_box" "_law_box" (defArgs (top 31)) (defBody (top 31)) (defScope (top 31)) [] [] f fd
  d__law_take : ∃ f fd, mg "_law_take" = some (.ref f) ∧ FunD K "_law_take" "_law_take" (defArgs (top 32)) (defBody (top 32)) (defScope (top 32)) [] [] f fd
  d__law_pick : ∃ f fd, mg "_law_pick" = some (.ref f) ∧ FunD K "_law_pick" "_law_pick" (defArgs (top 33)) (defBody (top 33)) (defScope (top 33)) [] [] f fd
  d__law_raise_a : ∃ f fd, mg "_law_raise_a" = some (.ref f) ∧ FunD K "_law_raise_a" "_law_raise_a" (defArgs (top 34)) (defBody (top 34)) (defScope (top 34)) [] [] f fd
  d__law_raise_b : ∃ f fd, mg "_law_raise_b" = some (.ref f) ∧ FunD K "_law_raise_b" "_law_raise_b" (defArgs (top 35)) (defBody (top 35)) (defScope (top 35)) [] [] f fd
  d__law_raise_c : ∃ f fd, mg "_law_raise_c" = some (.ref f) ∧ FunD K "_law_raise_c" "_law_raise_c" (defArgs (top 36)) (defBody (top 36)) (defScope (top 36)) [] [] f fd
  d__law_raise_d : ∃ f fd, mg "_law_raise_d" = some (.ref f) ∧ FunD K "_law_raise_d" "_law_raise_d" (defArgs (top 37)) (defBody (top 37)) (defScope (top 37)) [] [] f fd
  d__law_raise : ∃ f fd, mg "_law_raise" = some (.ref f) ∧ FunD K "_law_raise" "_law_raise" (defArgs (top 38)) (defBody (top 38)) (defScope (top 38)) [] [] f fd
  d__law_caught_a : ∃ f fd, mg "_law_caught_a" = some (.ref f) ∧ FunD K "_law_caught_a" "_law_caught_a" (defArgs (top 39)) (defBody (top 39)) (defScope (top 39)) [] [] f fd
  d__law_caught_b : ∃ f fd, mg "_law_caught_b" = some (.ref f) ∧ FunD K "_law_caught_b" "_law_caught_b" (defArgs (top 40)) (defBody (top 40)) (defScope (top 40)) [] [] f fd
  d__law_caught_c : ∃ f fd, mg "_law_caught_c" = some (.ref f) ∧ FunD K "_law_caught_c" "_law_caught_c" (defArgs (top 41)) (defBody (top 41)) (defScope (top 41)) [] [] f fd
  d__law_caught_d : ∃ f fd, mg "_law_caught_d" = some (.ref f) ∧ FunD K "_law_caught_d" "_law_caught_d" (defArgs (top 42)) (defBody (top 42)) (defScope (top 42)) [] [] f fd
  d__law_is_alone : ∃ f fd, mg "_law_is_alone" = some (.ref f) ∧ FunD K "_law_is_alone" "_law_is_alone" (defArgs (top 43)) (defBody (top 43)) (defScope (top 43)) [] [] f fd
  d_law : ∃ f fd, mg "law" = some (.ref f) ∧ FunD K "law" "law" (defArgs (top 44)) (defBody (top 44)) (defScope (top 44)) [] [] f fd
section
variable {P : Program} {w : World} {K : PySem.W.Frag} {mg : Str → Option Value} {base : PySem.Heap} {kc : Kc}
theorem l__law_box (F : Facts P K mg kc) : Cal P w K mg base kc 1 "_law_box" F__law_box := by
  obtain ⟨_, _, hm, hd⟩ := F.d__law_box
  exact cal_of hm F.hK hd sc__law_box (fun _ _ _ _ _ _ us hl => match us, hl with | [_, _], _ => rfl) (b__law_box F.gs)
theorem l__law_take (F : Facts P K mg kc) : Cal P w K mg base kc 1 "_law_take" F__law_take := by
  obtain ⟨_, _, hm, hd⟩ := F.d__law_take
  exact cal_of hm F.hK hd sc__law_take (fun _ _ _ _ _ _ us hl => match us, hl with | [_, _], _ => rfl) (b__law_take F.gs)
theorem l__law_pick (F : Facts P K mg kc) : Cal P w K mg base kc 2 "_law_pick" F__law_pick := by
  obtain ⟨_, _, hm, hd⟩ := F.d__law_pick
  exact cal_of hm F.hK hd sc__law_pick (fun _ _ _ _ _ _ us hl => match us, hl with | [_, _], _ => rfl) (b__law_pick F.gs (l__law_take F))
theorem l__law_raise_a (F : Facts P K mg kc) : Cal P w K mg base kc 2 "_law_raise_a" F__law_raise_a := by
  obtain ⟨_, _, hm, hd⟩ := F.d__law_raise_a
  obtain ⟨_, k_InvalidDesk, x_InvalidDesk⟩ := F.x_InvalidDesk
  obtain ⟨_, k_InvalidHistory, x_InvalidHistory⟩ := F.x_InvalidHistory
  obtain ⟨_, k_InvalidStruck, x_InvalidStruck⟩ := F.x_InvalidStruck
  obtain ⟨_, k_InvalidText, x_InvalidText⟩ := F.x_InvalidText
  obtain ⟨_, k_InvalidTry, x_InvalidTry⟩ := F.x_InvalidTry
  obtain ⟨_, k_InvalidIndex, x_InvalidIndex⟩ := F.x_InvalidIndex
  obtain ⟨_, k_InvalidSort, x_InvalidSort⟩ := F.x_InvalidSort
  obtain ⟨_, k_InvalidStep, x_InvalidStep⟩ := F.x_InvalidStep
  exact cal_of hm F.hK hd sc__law_raise_a (fun _ _ _ _ _ _ us hl => match us, hl with | [_, _], _ => rfl) (b__law_raise_a F.gs k_InvalidDesk x_InvalidDesk k_InvalidHistory x_InvalidHistory k_InvalidStruck x_InvalidStruck k_InvalidText x_InvalidText k_InvalidTry x_InvalidTry k_InvalidIndex x_InvalidIndex k_InvalidSort x_InvalidSort k_InvalidStep x_InvalidStep)
theorem l__law_raise_b (F : Facts P K mg kc) : Cal P w K mg base kc 2 "_law_raise_b" F__law_raise_b := by
  obtain ⟨_, _, hm, hd⟩ := F.d__law_raise_b
  obtain ⟨_, k_InvalidNumber, x_InvalidNumber⟩ := F.x_InvalidNumber
  obtain ⟨_, k_InvalidLot, x_InvalidLot⟩ := F.x_InvalidLot
  obtain ⟨_, k_InvalidPlan, x_InvalidPlan⟩ := F.x_InvalidPlan
  obtain ⟨_, k_InvalidMoves, x_InvalidMoves⟩ := F.x_InvalidMoves
  obtain ⟨_, k_InvalidOffers, x_InvalidOffers⟩ := F.x_InvalidOffers
  obtain ⟨_, k_InvalidRules, x_InvalidRules⟩ := F.x_InvalidRules
  obtain ⟨_, k_InvalidBound, x_InvalidBound⟩ := F.x_InvalidBound
  obtain ⟨_, k_Refused, x_Refused⟩ := F.x_Refused
  exact cal_of hm F.hK hd sc__law_raise_b (fun _ _ _ _ _ _ us hl => match us, hl with | [_, _], _ => rfl) (b__law_raise_b F.gs k_InvalidNumber x_InvalidNumber k_InvalidLot x_InvalidLot k_InvalidPlan x_InvalidPlan k_InvalidMoves x_InvalidMoves k_InvalidOffers x_InvalidOffers k_InvalidRules x_InvalidRules k_InvalidBound x_InvalidBound k_Refused x_Refused)
theorem l__law_raise_c (F : Facts P K mg kc) : Cal P w K mg base kc 2 "_law_raise_c" F__law_raise_c := by
  obtain ⟨_, _, hm, hd⟩ := F.d__law_raise_c
  obtain ⟨_, k_InvalidSize, x_InvalidSize⟩ := F.x_InvalidSize
  obtain ⟨_, k_InvalidWants, x_InvalidWants⟩ := F.x_InvalidWants
  obtain ⟨_, k_InvalidLedger, x_InvalidLedger⟩ := F.x_InvalidLedger
  obtain ⟨_, k_InvalidHouse, x_InvalidHouse⟩ := F.x_InvalidHouse
  obtain ⟨_, k_InvalidSeam, x_InvalidSeam⟩ := F.x_InvalidSeam
  obtain ⟨_, k_InvalidLots, x_InvalidLots⟩ := F.x_InvalidLots
  obtain ⟨_, k_InvalidPromise, x_InvalidPromise⟩ := F.x_InvalidPromise
  obtain ⟨_, k_InvalidContract, x_InvalidContract⟩ := F.x_InvalidContract
  exact cal_of hm F.hK hd sc__law_raise_c (fun _ _ _ _ _ _ us hl => match us, hl with | [_, _], _ => rfl) (b__law_raise_c F.gs k_InvalidSize x_InvalidSize k_InvalidWants x_InvalidWants k_InvalidLedger x_InvalidLedger k_InvalidHouse x_InvalidHouse k_InvalidSeam x_InvalidSeam k_InvalidLots x_InvalidLots k_InvalidPromise x_InvalidPromise k_InvalidContract x_InvalidContract)
theorem l__law_raise_d (F : Facts P K mg kc) : Cal P w K mg base kc 2 "_law_raise_d" F__law_raise_d := by
  obtain ⟨_, _, hm, hd⟩ := F.d__law_raise_d
  obtain ⟨_, k_InvalidCosts, x_InvalidCosts⟩ := F.x_InvalidCosts
  obtain ⟨_, k_InvalidTools, x_InvalidTools⟩ := F.x_InvalidTools
  obtain ⟨_, k_InvalidWaits, x_InvalidWaits⟩ := F.x_InvalidWaits
  obtain ⟨_, k_InvalidCommand, x_InvalidCommand⟩ := F.x_InvalidCommand
  exact cal_of hm F.hK hd sc__law_raise_d (fun _ _ _ _ _ _ us hl => match us, hl with | [_, _], _ => rfl) (b__law_raise_d F.gs k_InvalidCosts x_InvalidCosts k_InvalidTools x_InvalidTools k_InvalidWaits x_InvalidWaits k_InvalidCommand x_InvalidCommand)
theorem l__law_raise (F : Facts P K mg kc) : Cal P w K mg base kc 3 "_law_raise" F__law_raise := by
  obtain ⟨_, _, hm, hd⟩ := F.d__law_raise
  exact cal_of hm F.hK hd sc__law_raise (fun _ _ _ _ _ _ us hl => match us, hl with | [_, _], _ => rfl) (b__law_raise F.gs (l__law_raise_a F) (l__law_raise_b F) (l__law_raise_c F) (l__law_raise_d F))
theorem l__law_caught_a (F : Facts P K mg kc) : Cal P w K mg base kc 4 "_law_caught_a" F__law_caught_a := by
  obtain ⟨_, _, hm, hd⟩ := F.d__law_caught_a
  obtain ⟨_, hc_InvalidStep⟩ := F.h_InvalidStep
  obtain ⟨_, hc_InvalidSort⟩ := F.h_InvalidSort
  obtain ⟨_, hc_InvalidIndex⟩ := F.h_InvalidIndex
  obtain ⟨_, hc_InvalidTry⟩ := F.h_InvalidTry
  obtain ⟨_, hc_InvalidText⟩ := F.h_InvalidText
  obtain ⟨_, hc_InvalidStruck⟩ := F.h_InvalidStruck
  obtain ⟨_, hc_InvalidHistory⟩ := F.h_InvalidHistory
  obtain ⟨_, hc_InvalidDesk⟩ := F.h_InvalidDesk
  exact cal_of hm F.hK hd sc__law_caught_a (fun _ _ _ _ _ _ us hl => match us, hl with | [_, _], _ => rfl) (b__law_caught_a F.gs (l__law_raise F) hc_InvalidStep F.f_InvalidStep hc_InvalidSort F.f_InvalidSort hc_InvalidIndex F.f_InvalidIndex hc_InvalidTry F.f_InvalidTry hc_InvalidText F.f_InvalidText hc_InvalidStruck F.f_InvalidStruck hc_InvalidHistory F.f_InvalidHistory hc_InvalidDesk F.f_InvalidDesk)
theorem l__law_caught_b (F : Facts P K mg kc) : Cal P w K mg base kc 5 "_law_caught_b" F__law_caught_b := by
  obtain ⟨_, _, hm, hd⟩ := F.d__law_caught_b
  obtain ⟨_, hc_Refused⟩ := F.h_Refused
  obtain ⟨_, hc_InvalidBound⟩ := F.h_InvalidBound
  obtain ⟨_, hc_InvalidRules⟩ := F.h_InvalidRules
  obtain ⟨_, hc_InvalidOffers⟩ := F.h_InvalidOffers
  obtain ⟨_, hc_InvalidMoves⟩ := F.h_InvalidMoves
  obtain ⟨_, hc_InvalidPlan⟩ := F.h_InvalidPlan
  obtain ⟨_, hc_InvalidLot⟩ := F.h_InvalidLot
  obtain ⟨_, hc_InvalidNumber⟩ := F.h_InvalidNumber
  exact cal_of hm F.hK hd sc__law_caught_b (fun _ _ _ _ _ _ us hl => match us, hl with | [_, _], _ => rfl) (b__law_caught_b F.gs (l__law_caught_a F) hc_Refused F.f_Refused hc_InvalidBound F.f_InvalidBound hc_InvalidRules F.f_InvalidRules hc_InvalidOffers F.f_InvalidOffers hc_InvalidMoves F.f_InvalidMoves hc_InvalidPlan F.f_InvalidPlan hc_InvalidLot F.f_InvalidLot hc_InvalidNumber F.f_InvalidNumber)
theorem l__law_caught_c (F : Facts P K mg kc) : Cal P w K mg base kc 6 "_law_caught_c" F__law_caught_c := by
  obtain ⟨_, _, hm, hd⟩ := F.d__law_caught_c
  obtain ⟨_, hc_InvalidContract⟩ := F.h_InvalidContract
  obtain ⟨_, hc_InvalidPromise⟩ := F.h_InvalidPromise
  obtain ⟨_, hc_InvalidLots⟩ := F.h_InvalidLots
  obtain ⟨_, hc_InvalidSeam⟩ := F.h_InvalidSeam
  obtain ⟨_, hc_InvalidHouse⟩ := F.h_InvalidHouse
  obtain ⟨_, hc_InvalidLedger⟩ := F.h_InvalidLedger
  obtain ⟨_, hc_InvalidWants⟩ := F.h_InvalidWants
  obtain ⟨_, hc_InvalidSize⟩ := F.h_InvalidSize
  exact cal_of hm F.hK hd sc__law_caught_c (fun _ _ _ _ _ _ us hl => match us, hl with | [_, _], _ => rfl) (b__law_caught_c F.gs (l__law_caught_b F) hc_InvalidContract F.f_InvalidContract hc_InvalidPromise F.f_InvalidPromise hc_InvalidLots F.f_InvalidLots hc_InvalidSeam F.f_InvalidSeam hc_InvalidHouse F.f_InvalidHouse hc_InvalidLedger F.f_InvalidLedger hc_InvalidWants F.f_InvalidWants hc_InvalidSize F.f_InvalidSize)
theorem l__law_caught_d (F : Facts P K mg kc) : Cal P w K mg base kc 7 "_law_caught_d" F__law_caught_d := by
  obtain ⟨_, _, hm, hd⟩ := F.d__law_caught_d
  obtain ⟨_, hc_InvalidCommand⟩ := F.h_InvalidCommand
  obtain ⟨_, hc_InvalidWaits⟩ := F.h_InvalidWaits
  obtain ⟨_, hc_InvalidTools⟩ := F.h_InvalidTools
  obtain ⟨_, hc_InvalidCosts⟩ := F.h_InvalidCosts
  exact cal_of hm F.hK hd sc__law_caught_d (fun _ _ _ _ _ _ us hl => match us, hl with | [_, _], _ => rfl) (b__law_caught_d F.gs (l__law_caught_c F) hc_InvalidCommand F.f_InvalidCommand hc_InvalidWaits F.f_InvalidWaits hc_InvalidTools F.f_InvalidTools hc_InvalidCosts F.f_InvalidCosts)
theorem l__law_is_alone (F : Facts P K mg kc) : Cal P w K mg base kc 4 "_law_is_alone" F__law_is_alone := by
  obtain ⟨_, _, hm, hd⟩ := F.d__law_is_alone
  obtain ⟨_, i_InvalidCommand⟩ := F.i_InvalidCommand
  obtain ⟨_, i_InvalidWaits⟩ := F.i_InvalidWaits
  obtain ⟨_, i_InvalidTools⟩ := F.i_InvalidTools
  obtain ⟨_, i_InvalidCosts⟩ := F.i_InvalidCosts
  obtain ⟨_, i_InvalidContract⟩ := F.i_InvalidContract
  obtain ⟨_, i_InvalidPromise⟩ := F.i_InvalidPromise
  obtain ⟨_, i_InvalidLots⟩ := F.i_InvalidLots
  obtain ⟨_, i_InvalidSeam⟩ := F.i_InvalidSeam
  obtain ⟨_, i_InvalidHouse⟩ := F.i_InvalidHouse
  obtain ⟨_, i_InvalidLedger⟩ := F.i_InvalidLedger
  obtain ⟨_, i_InvalidWants⟩ := F.i_InvalidWants
  obtain ⟨_, i_InvalidSize⟩ := F.i_InvalidSize
  obtain ⟨_, i_Refused⟩ := F.i_Refused
  obtain ⟨_, i_InvalidBound⟩ := F.i_InvalidBound
  obtain ⟨_, i_InvalidRules⟩ := F.i_InvalidRules
  obtain ⟨_, i_InvalidOffers⟩ := F.i_InvalidOffers
  obtain ⟨_, i_InvalidMoves⟩ := F.i_InvalidMoves
  obtain ⟨_, i_InvalidPlan⟩ := F.i_InvalidPlan
  obtain ⟨_, i_InvalidLot⟩ := F.i_InvalidLot
  obtain ⟨_, i_InvalidNumber⟩ := F.i_InvalidNumber
  obtain ⟨_, i_InvalidStep⟩ := F.i_InvalidStep
  obtain ⟨_, i_InvalidSort⟩ := F.i_InvalidSort
  obtain ⟨_, i_InvalidIndex⟩ := F.i_InvalidIndex
  obtain ⟨_, i_InvalidTry⟩ := F.i_InvalidTry
  obtain ⟨_, i_InvalidText⟩ := F.i_InvalidText
  obtain ⟨_, i_InvalidStruck⟩ := F.i_InvalidStruck
  obtain ⟨_, i_InvalidHistory⟩ := F.i_InvalidHistory
  obtain ⟨_, i_InvalidDesk⟩ := F.i_InvalidDesk
  obtain ⟨_, hc_LateError⟩ := F.h_LateError
  exact cal_of hm F.hK hd sc__law_is_alone (fun _ _ _ _ _ _ us hl => match us, hl with | [_, _], _ => rfl) (b__law_is_alone F.gs (l__law_raise F) i_InvalidCommand i_InvalidWaits i_InvalidTools i_InvalidCosts i_InvalidContract i_InvalidPromise i_InvalidLots i_InvalidSeam i_InvalidHouse i_InvalidLedger i_InvalidWants i_InvalidSize i_Refused i_InvalidBound i_InvalidRules i_InvalidOffers i_InvalidMoves i_InvalidPlan i_InvalidLot i_InvalidNumber i_InvalidStep i_InvalidSort i_InvalidIndex i_InvalidTry i_InvalidText i_InvalidStruck i_InvalidHistory i_InvalidDesk hc_LateError F.f_LateError)
theorem whole (F : Facts P K mg kc) : ∃ fa fd, mg "law" = some (.ref fa) ∧ Binds K fd ["script"] [] ∧ FnG P w K mg base 8 fa fd ["script"] (spOf kc F_law) := by
  obtain ⟨fa, fd, hm, hd⟩ := F.d_law
  obtain ⟨_, m_InvalidText⟩ := F.m_InvalidText
  obtain ⟨_, m_Refused⟩ := F.m_Refused
  obtain ⟨_, m_InvalidDesk⟩ := F.m_InvalidDesk
  obtain ⟨_, m_InvalidSize⟩ := F.m_InvalidSize
  exact ⟨fa, fd, hm, hd.bindsN (fun _ _ _ _ _ _ us hl => match us, hl with | [_], _ => rfl), fn_body F.hK hd sc_law (b_law F.gs (l__law_is_alone F) (l__law_caught_d F) (l__law_pick F) (l__law_box F) m_InvalidText m_Refused m_InvalidDesk m_InvalidSize)⟩
end
theorem answers {P : Program} {w : World} {K : PySem.W.Frag} {mg : Str → Option Value} {kc : Kc} {s : Shared} {a fa : Addr} {vs : List Value} {ns : List Int} (F : Facts P K mg kc) (En : Entry K mg s a vs ns) (hm : mg "law" = some (.ref fa)) (yes : F_law [.val (scrD ns)] [] = (.ret (.bool true), [])) :
    codeAny (model P w) callerA (.call (.ref fa) ⟨[.ref a], []⟩) (fun r s' => r = .ok (.ret (.bool true)) ∧ OldK s.heap s'.heap ∧ s'.os = s.os ∧ AllBare s'.gens) s := by
  obtain ⟨f, fd, h1, h2, h3⟩ := whole (P := P) (w := w) (base := ground K s a vs ns) F
  rw [hm] at h1
  cases h1
  exact law_answers En F.hK ⟨rfl, by decide, by decide⟩ h3 (h2 s [.ref a] En.kin rfl) yes
end K00

set_option Elab.async false
set_option linter.all false
set_option maxRecDepth 100000
set_option maxHeartbeats 0
namespace K00
open PySem PySem.Spec Den
open PyProof.Rows L2
theorem t_InvalidBound : TxtX "InvalidBound.__init__" (defArgs (inCls (top 16) 0)) (defBody (inCls (top 16) 0)) (defScope (inCls (top 16) 0)) "at" "at" "self" where
  ex := by
    refine ⟨_, _, _, _, _, _, _, _, _, _, _, _, _, rfl, fun env he => ⟨_, rfl⟩, fun env he => ⟨?_, ?_, ?_⟩, rfl, rfl⟩
    · unfold interactive; rw [he]; rfl
    · rfl
    · rfl
  bind := fun _ _ _ _ _ _ _ _ _ _ => rfl
  bindK := fun _ _ _ _ _ _ _ _ _ _ => rfl
  hks := rfl
  hkc := rfl
  hka := rfl
  hkf := rfl
  hne := by decide
  hk := rfl
  hco := rfl
  hgen := rfl
  hnc := by decide +kernel
  hda := by decide
  hds := by decide
def e_InvalidBound : ExI := ⟨"InvalidBound", "at", "InvalidBound.__init__", defArgs (inCls (top 16) 0), defBody (inCls (top 16) 0), defScope (inCls (top 16) 0)⟩
theorem t_InvalidCommand : TxtX0 "InvalidCommand.__init__" (defArgs (inCls (top 29) 0)) (defBody (inCls (top 29) 0)) (defScope (inCls (top 29) 0)) "self" where
  ex := by
    refine ⟨_, _, _, _, _, _, _, _, _, rfl, fun env he => ⟨_, rfl⟩, fun env he => ⟨?_, ?_⟩, rfl, rfl⟩
    · unfold interactive; rw [he]; rfl
    · rfl
  bind := fun _ _ _ _ _ _ _ _ _ => rfl
  hks := rfl
  hkc := rfl
  hkf := rfl
  hk := rfl
  hco := rfl
  hgen := rfl
  hnc := by decide +kernel
  hds := by decide
def e_InvalidCommand : ExI := ⟨"InvalidCommand", "", "InvalidCommand.__init__", defArgs (inCls (top 29) 0), defBody (inCls (top 29) 0), defScope (inCls (top 29) 0)⟩
theorem t_InvalidContract : TxtX "InvalidContract.__init__" (defArgs (inCls (top 25) 0)) (defBody (inCls (top 25) 0)) (defScope (inCls (top 25) 0)) "at" "at" "self" where
  ex := by
    refine ⟨_, _, _, _, _, _, _, _, _, _, _, _, _, rfl, fun env he => ⟨_, rfl⟩, fun env he => ⟨?_, ?_, ?_⟩, rfl, rfl⟩
    · unfold interactive; rw [he]; rfl
    · rfl
    · rfl
  bind := fun _ _ _ _ _ _ _ _ _ _ => rfl
  bindK := fun _ _ _ _ _ _ _ _ _ _ => rfl
  hks := rfl
  hkc := rfl
  hka := rfl
  hkf := rfl
  hne := by decide
  hk := rfl
  hco := rfl
  hgen := rfl
  hnc := by decide +kernel
  hda := by decide
  hds := by decide
def e_InvalidContract : ExI := ⟨"InvalidContract", "at", "InvalidContract.__init__", defArgs (inCls (top 25) 0), defBody (inCls (top 25) 0), defScope (inCls (top 25) 0)⟩
theorem t_InvalidCosts : TxtX "InvalidCosts.__init__" (defArgs (inCls (top 26) 0)) (defBody (inCls (top 26) 0)) (defScope (inCls (top 26) 0)) "at" "at" "self" where
  ex := by
    refine ⟨_, _, _, _, _, _, _, _, _, _, _, _, _, rfl, fun env he => ⟨_, rfl⟩, fun env he => ⟨?_, ?_, ?_⟩, rfl, rfl⟩
    · unfold interactive; rw [he]; rfl
    · rfl
    · rfl
  bind := fun _ _ _ _ _ _ _ _ _ _ => rfl
  bindK := fun _ _ _ _ _ _ _ _ _ _ => rfl
  hks := rfl
  hkc := rfl
  hka := rfl
  hkf := rfl
  hne := by decide
  hk := rfl
  hco := rfl
  hgen := rfl
  hnc := by decide +kernel
  hda := by decide
  hds := by decide
def e_InvalidCosts : ExI := ⟨"InvalidCosts", "at", "InvalidCosts.__init__", defArgs (inCls (top 26) 0), defBody (inCls (top 26) 0), defScope (inCls (top 26) 0)⟩
theorem t_InvalidDesk : TxtX "InvalidDesk.__init__" (defArgs (inCls (top 2) 0)) (defBody (inCls (top 2) 0)) (defScope (inCls (top 2) 0)) "at" "at" "self" where
  ex := by
    refine ⟨_, _, _, _, _, _, _, _, _, _, _, _, _, rfl, fun env he => ⟨_, rfl⟩, fun env he => ⟨?_, ?_, ?_⟩, rfl, rfl⟩
    · unfold interactive; rw [he]; rfl
    · rfl
    · rfl
  bind := fun _ _ _ _ _ _ _ _ _ _ => rfl
  bindK := fun _ _ _ _ _ _ _ _ _ _ => rfl
  hks := rfl
  hkc := rfl
  hka := rfl
  hkf := rfl
  hne := by decide
  hk := rfl
  hco := rfl
  hgen := rfl
  hnc := by decide +kernel
  hda := by decide
  hds := by decide
def e_InvalidDesk : ExI := ⟨"InvalidDesk", "at", "InvalidDesk.__init__", defArgs (inCls (top 2) 0), defBody (inCls (top 2) 0), defScope (inCls (top 2) 0)⟩
theorem t_InvalidHistory : TxtX "InvalidHistory.__init__" (defArgs (inCls (top 3) 0)) (defBody (inCls (top 3) 0)) (defScope (inCls (top 3) 0)) "at" "at" "self" where
  ex := by
    refine ⟨_, _, _, _, _, _, _, _, _, _, _, _, _, rfl, fun env he => ⟨_, rfl⟩, fun env he => ⟨?_, ?_, ?_⟩, rfl, rfl⟩
    · unfold interactive; rw [he]; rfl
    · rfl
    · rfl
  bind := fun _ _ _ _ _ _ _ _ _ _ => rfl
  bindK := fun _ _ _ _ _ _ _ _ _ _ => rfl
  hks := rfl
  hkc := rfl
  hka := rfl
  hkf := rfl
  hne := by decide
  hk := rfl
  hco := rfl
  hgen := rfl
  hnc := by decide +kernel
  hda := by decide
  hds := by decide
def e_InvalidHistory : ExI := ⟨"InvalidHistory", "at", "InvalidHistory.__init__", defArgs (inCls (top 3) 0), defBody (inCls (top 3) 0), defScope (inCls (top 3) 0)⟩
theorem t_InvalidHouse : TxtX "InvalidHouse.__init__" (defArgs (inCls (top 21) 0)) (defBody (inCls (top 21) 0)) (defScope (inCls (top 21) 0)) "at" "at" "self" where
  ex := by
    refine ⟨_, _, _, _, _, _, _, _, _, _, _, _, _, rfl, fun env he => ⟨_, rfl⟩, fun env he => ⟨?_, ?_, ?_⟩, rfl, rfl⟩
    · unfold interactive; rw [he]; rfl
    · rfl
    · rfl
  bind := fun _ _ _ _ _ _ _ _ _ _ => rfl
  bindK := fun _ _ _ _ _ _ _ _ _ _ => rfl
  hks := rfl
  hkc := rfl
  hka := rfl
  hkf := rfl
  hne := by decide
  hk := rfl
  hco := rfl
  hgen := rfl
  hnc := by decide +kernel
  hda := by decide
  hds := by decide
def e_InvalidHouse : ExI := ⟨"InvalidHouse", "at", "InvalidHouse.__init__", defArgs (inCls (top 21) 0), defBody (inCls (top 21) 0), defScope (inCls (top 21) 0)⟩
theorem t_InvalidIndex : TxtX "InvalidIndex.__init__" (defArgs (inCls (top 7) 0)) (defBody (inCls (top 7) 0)) (defScope (inCls (top 7) 0)) "at" "at" "self" where
  ex := by
    refine ⟨_, _, _, _, _, _, _, _, _, _, _, _, _, rfl, fun env he => ⟨_, rfl⟩, fun env he => ⟨?_, ?_, ?_⟩, rfl, rfl⟩
    · unfold interactive; rw [he]; rfl
    · rfl
    · rfl
  bind := fun _ _ _ _ _ _ _ _ _ _ => rfl
  bindK := fun _ _ _ _ _ _ _ _ _ _ => rfl
  hks := rfl
  hkc := rfl
  hka := rfl
  hkf := rfl
  hne := by decide
  hk := rfl
  hco := rfl
  hgen := rfl
  hnc := by decide +kernel
  hda := by decide
  hds := by decide
def e_InvalidIndex : ExI := ⟨"InvalidIndex", "at", "InvalidIndex.__init__", defArgs (inCls (top 7) 0), defBody (inCls (top 7) 0), defScope (inCls (top 7) 0)⟩
theorem t_InvalidLedger : TxtX "InvalidLedger.__init__" (defArgs (inCls (top 20) 0)) (defBody (inCls (top 20) 0)) (defScope (inCls (top 20) 0)) "at" "at" "self" where
  ex := by
    refine ⟨_, _, _, _, _, _, _, _, _, _, _, _, _, rfl, fun env he => ⟨_, rfl⟩, fun env he => ⟨?_, ?_, ?_⟩, rfl, rfl⟩
    · unfold interactive; rw [he]; rfl
    · rfl
    · rfl
  bind := fun _ _ _ _ _ _ _ _ _ _ => rfl
  bindK := fun _ _ _ _ _ _ _ _ _ _ => rfl
  hks := rfl
  hkc := rfl
  hka := rfl
  hkf := rfl
  hne := by decide
  hk := rfl
  hco := rfl
  hgen := rfl
  hnc := by decide +kernel
  hda := by decide
  hds := by decide
def e_InvalidLedger : ExI := ⟨"InvalidLedger", "at", "InvalidLedger.__init__", defArgs (inCls (top 20) 0), defBody (inCls (top 20) 0), defScope (inCls (top 20) 0)⟩
theorem t_InvalidLot : TxtX "InvalidLot.__init__" (defArgs (inCls (top 11) 0)) (defBody (inCls (top 11) 0)) (defScope (inCls (top 11) 0)) "at" "at" "self" where
  ex := by
    refine ⟨_, _, _, _, _, _, _, _, _, _, _, _, _, rfl, fun env he => ⟨_, rfl⟩, fun env he => ⟨?_, ?_, ?_⟩, rfl, rfl⟩
    · unfold interactive; rw [he]; rfl
    · rfl
    · rfl
  bind := fun _ _ _ _ _ _ _ _ _ _ => rfl
  bindK := fun _ _ _ _ _ _ _ _ _ _ => rfl
  hks := rfl
  hkc := rfl
  hka := rfl
  hkf := rfl
  hne := by decide
  hk := rfl
  hco := rfl
  hgen := rfl
  hnc := by decide +kernel
  hda := by decide
  hds := by decide
def e_InvalidLot : ExI := ⟨"InvalidLot", "at", "InvalidLot.__init__", defArgs (inCls (top 11) 0), defBody (inCls (top 11) 0), defScope (inCls (top 11) 0)⟩
theorem t_InvalidLots : TxtX "InvalidLots.__init__" (defArgs (inCls (top 23) 0)) (defBody (inCls (top 23) 0)) (defScope (inCls (top 23) 0)) "at" "at" "self" where
  ex := by
    refine ⟨_, _, _, _, _, _, _, _, _, _, _, _, _, rfl, fun env he => ⟨_, rfl⟩, fun env he => ⟨?_, ?_, ?_⟩, rfl, rfl⟩
    · unfold interactive; rw [he]; rfl
    · rfl
    · rfl
  bind := fun _ _ _ _ _ _ _ _ _ _ => rfl
  bindK := fun _ _ _ _ _ _ _ _ _ _ => rfl
  hks := rfl
  hkc := rfl
  hka := rfl
  hkf := rfl
  hne := by decide
  hk := rfl
  hco := rfl
  hgen := rfl
  hnc := by decide +kernel
  hda := by decide
  hds := by decide
def e_InvalidLots : ExI := ⟨"InvalidLots", "at", "InvalidLots.__init__", defArgs (inCls (top 23) 0), defBody (inCls (top 23) 0), defScope (inCls (top 23) 0)⟩
theorem t_InvalidMoves : TxtX "InvalidMoves.__init__" (defArgs (inCls (top 13) 0)) (defBody (inCls (top 13) 0)) (defScope (inCls (top 13) 0)) "at" "at" "self" where
  ex := by
    refine ⟨_, _, _, _, _, _, _, _, _, _, _, _, _, rfl, fun env he => ⟨_, rfl⟩, fun env he => ⟨?_, ?_, ?_⟩, rfl, rfl⟩
    · unfold interactive; rw [he]; rfl
    · rfl
    · rfl
  bind := fun _ _ _ _ _ _ _ _ _ _ => rfl
  bindK := fun _ _ _ _ _ _ _ _ _ _ => rfl
  hks := rfl
  hkc := rfl
  hka := rfl
  hkf := rfl
  hne := by decide
  hk := rfl
  hco := rfl
  hgen := rfl
  hnc := by decide +kernel
  hda := by decide
  hds := by decide
def e_InvalidMoves : ExI := ⟨"InvalidMoves", "at", "InvalidMoves.__init__", defArgs (inCls (top 13) 0), defBody (inCls (top 13) 0), defScope (inCls (top 13) 0)⟩
theorem t_InvalidNumber : TxtX "InvalidNumber.__init__" (defArgs (inCls (top 10) 0)) (defBody (inCls (top 10) 0)) (defScope (inCls (top 10) 0)) "at" "at" "self" where
  ex := by
    refine ⟨_, _, _, _, _, _, _, _, _, _, _, _, _, rfl, fun env he => ⟨_, rfl⟩, fun env he => ⟨?_, ?_, ?_⟩, rfl, rfl⟩
    · unfold interactive; rw [he]; rfl
    · rfl
    · rfl
  bind := fun _ _ _ _ _ _ _ _ _ _ => rfl
  bindK := fun _ _ _ _ _ _ _ _ _ _ => rfl
  hks := rfl
  hkc := rfl
  hka := rfl
  hkf := rfl
  hne := by decide
  hk := rfl
  hco := rfl
  hgen := rfl
  hnc := by decide +kernel
  hda := by decide
  hds := by decide
def e_InvalidNumber : ExI := ⟨"InvalidNumber", "at", "InvalidNumber.__init__", defArgs (inCls (top 10) 0), defBody (inCls (top 10) 0), defScope (inCls (top 10) 0)⟩
theorem t_InvalidOffers : TxtX "InvalidOffers.__init__" (defArgs (inCls (top 14) 0)) (defBody (inCls (top 14) 0)) (defScope (inCls (top 14) 0)) "at" "at" "self" where
  ex := by
    refine ⟨_, _, _, _, _, _, _, _, _, _, _, _, _, rfl, fun env he => ⟨_, rfl⟩, fun env he => ⟨?_, ?_, ?_⟩, rfl, rfl⟩
    · unfold interactive; rw [he]; rfl
    · rfl
    · rfl
  bind := fun _ _ _ _ _ _ _ _ _ _ => rfl
  bindK := fun _ _ _ _ _ _ _ _ _ _ => rfl
  hks := rfl
  hkc := rfl
  hka := rfl
  hkf := rfl
  hne := by decide
  hk := rfl
  hco := rfl
  hgen := rfl
  hnc := by decide +kernel
  hda := by decide
  hds := by decide
def e_InvalidOffers : ExI := ⟨"InvalidOffers", "at", "InvalidOffers.__init__", defArgs (inCls (top 14) 0), defBody (inCls (top 14) 0), defScope (inCls (top 14) 0)⟩
theorem t_InvalidPlan : TxtX "InvalidPlan.__init__" (defArgs (inCls (top 12) 0)) (defBody (inCls (top 12) 0)) (defScope (inCls (top 12) 0)) "at" "at" "self" where
  ex := by
    refine ⟨_, _, _, _, _, _, _, _, _, _, _, _, _, rfl, fun env he => ⟨_, rfl⟩, fun env he => ⟨?_, ?_, ?_⟩, rfl, rfl⟩
    · unfold interactive; rw [he]; rfl
    · rfl
    · rfl
  bind := fun _ _ _ _ _ _ _ _ _ _ => rfl
  bindK := fun _ _ _ _ _ _ _ _ _ _ => rfl
  hks := rfl
  hkc := rfl
  hka := rfl
  hkf := rfl
  hne := by decide
  hk := rfl
  hco := rfl
  hgen := rfl
  hnc := by decide +kernel
  hda := by decide
  hds := by decide
def e_InvalidPlan : ExI := ⟨"InvalidPlan", "at", "InvalidPlan.__init__", defArgs (inCls (top 12) 0), defBody (inCls (top 12) 0), defScope (inCls (top 12) 0)⟩
theorem t_InvalidPromise : TxtX "InvalidPromise.__init__" (defArgs (inCls (top 24) 0)) (defBody (inCls (top 24) 0)) (defScope (inCls (top 24) 0)) "at" "at" "self" where
  ex := by
    refine ⟨_, _, _, _, _, _, _, _, _, _, _, _, _, rfl, fun env he => ⟨_, rfl⟩, fun env he => ⟨?_, ?_, ?_⟩, rfl, rfl⟩
    · unfold interactive; rw [he]; rfl
    · rfl
    · rfl
  bind := fun _ _ _ _ _ _ _ _ _ _ => rfl
  bindK := fun _ _ _ _ _ _ _ _ _ _ => rfl
  hks := rfl
  hkc := rfl
  hka := rfl
  hkf := rfl
  hne := by decide
  hk := rfl
  hco := rfl
  hgen := rfl
  hnc := by decide +kernel
  hda := by decide
  hds := by decide
def e_InvalidPromise : ExI := ⟨"InvalidPromise", "at", "InvalidPromise.__init__", defArgs (inCls (top 24) 0), defBody (inCls (top 24) 0), defScope (inCls (top 24) 0)⟩
theorem t_InvalidRules : TxtX "InvalidRules.__init__" (defArgs (inCls (top 15) 0)) (defBody (inCls (top 15) 0)) (defScope (inCls (top 15) 0)) "at" "at" "self" where
  ex := by
    refine ⟨_, _, _, _, _, _, _, _, _, _, _, _, _, rfl, fun env he => ⟨_, rfl⟩, fun env he => ⟨?_, ?_, ?_⟩, rfl, rfl⟩
    · unfold interactive; rw [he]; rfl
    · rfl
    · rfl
  bind := fun _ _ _ _ _ _ _ _ _ _ => rfl
  bindK := fun _ _ _ _ _ _ _ _ _ _ => rfl
  hks := rfl
  hkc := rfl
  hka := rfl
  hkf := rfl
  hne := by decide
  hk := rfl
  hco := rfl
  hgen := rfl
  hnc := by decide +kernel
  hda := by decide
  hds := by decide
def e_InvalidRules : ExI := ⟨"InvalidRules", "at", "InvalidRules.__init__", defArgs (inCls (top 15) 0), defBody (inCls (top 15) 0), defScope (inCls (top 15) 0)⟩
theorem t_InvalidSeam : TxtX "InvalidSeam.__init__" (defArgs (inCls (top 22) 0)) (defBody (inCls (top 22) 0)) (defScope (inCls (top 22) 0)) "at" "at" "self" where
  ex := by
    refine ⟨_, _, _, _, _, _, _, _, _, _, _, _, _, rfl, fun env he => ⟨_, rfl⟩, fun env he => ⟨?_, ?_, ?_⟩, rfl, rfl⟩
    · unfold interactive; rw [he]; rfl
    · rfl
    · rfl
  bind := fun _ _ _ _ _ _ _ _ _ _ => rfl
  bindK := fun _ _ _ _ _ _ _ _ _ _ => rfl
  hks := rfl
  hkc := rfl
  hka := rfl
  hkf := rfl
  hne := by decide
  hk := rfl
  hco := rfl
  hgen := rfl
  hnc := by decide +kernel
  hda := by decide
  hds := by decide
def e_InvalidSeam : ExI := ⟨"InvalidSeam", "at", "InvalidSeam.__init__", defArgs (inCls (top 22) 0), defBody (inCls (top 22) 0), defScope (inCls (top 22) 0)⟩
theorem t_InvalidSize : TxtX "InvalidSize.__init__" (defArgs (inCls (top 18) 0)) (defBody (inCls (top 18) 0)) (defScope (inCls (top 18) 0)) "word" "word" "self" where
  ex := by
    refine ⟨_, _, _, _, _, _, _, _, _, _, _, _, _, rfl, fun env he => ⟨_, rfl⟩, fun env he => ⟨?_, ?_, ?_⟩, rfl, rfl⟩
    · unfold interactive; rw [he]; rfl
    · rfl
    · rfl
  bind := fun _ _ _ _ _ _ _ _ _ _ => rfl
  bindK := fun _ _ _ _ _ _ _ _ _ _ => rfl
  hks := rfl
  hkc := rfl
  hka := rfl
  hkf := rfl
  hne := by decide
  hk := rfl
  hco := rfl
  hgen := rfl
  hnc := by decide +kernel
  hda := by decide
  hds := by decide
def e_InvalidSize : ExI := ⟨"InvalidSize", "word", "InvalidSize.__init__", defArgs (inCls (top 18) 0), defBody (inCls (top 18) 0), defScope (inCls (top 18) 0)⟩
theorem t_InvalidSort : TxtX "InvalidSort.__init__" (defArgs (inCls (top 8) 0)) (defBody (inCls (top 8) 0)) (defScope (inCls (top 8) 0)) "at" "at" "self" where
  ex := by
    refine ⟨_, _, _, _, _, _, _, _, _, _, _, _, _, rfl, fun env he => ⟨_, rfl⟩, fun env he => ⟨?_, ?_, ?_⟩, rfl, rfl⟩
    · unfold interactive; rw [he]; rfl
    · rfl
    · rfl
  bind := fun _ _ _ _ _ _ _ _ _ _ => rfl
  bindK := fun _ _ _ _ _ _ _ _ _ _ => rfl
  hks := rfl
  hkc := rfl
  hka := rfl
  hkf := rfl
  hne := by decide
  hk := rfl
  hco := rfl
  hgen := rfl
  hnc := by decide +kernel
  hda := by decide
  hds := by decide
def e_InvalidSort : ExI := ⟨"InvalidSort", "at", "InvalidSort.__init__", defArgs (inCls (top 8) 0), defBody (inCls (top 8) 0), defScope (inCls (top 8) 0)⟩
theorem t_InvalidStep : TxtX "InvalidStep.__init__" (defArgs (inCls (top 9) 0)) (defBody (inCls (top 9) 0)) (defScope (inCls (top 9) 0)) "at" "at" "self" where
  ex := by
    refine ⟨_, _, _, _, _, _, _, _, _, _, _, _, _, rfl, fun env he => ⟨_, rfl⟩, fun env he => ⟨?_, ?_, ?_⟩, rfl, rfl⟩
    · unfold interactive; rw [he]; rfl
    · rfl
    · rfl
  bind := fun _ _ _ _ _ _ _ _ _ _ => rfl
  bindK := fun _ _ _ _ _ _ _ _ _ _ => rfl
  hks := rfl
  hkc := rfl
  hka := rfl
  hkf := rfl
  hne := by decide
  hk := rfl
  hco := rfl
  hgen := rfl
  hnc := by decide +kernel
  hda := by decide
  hds := by decide
def e_InvalidStep : ExI := ⟨"InvalidStep", "at", "InvalidStep.__init__", defArgs (inCls (top 9) 0), defBody (inCls (top 9) 0), defScope (inCls (top 9) 0)⟩
theorem t_InvalidStruck : TxtX "InvalidStruck.__init__" (defArgs (inCls (top 4) 0)) (defBody (inCls (top 4) 0)) (defScope (inCls (top 4) 0)) "at" "at" "self" where
  ex := by
    refine ⟨_, _, _, _, _, _, _, _, _, _, _, _, _, rfl, fun env he => ⟨_, rfl⟩, fun env he => ⟨?_, ?_, ?_⟩, rfl, rfl⟩
    · unfold interactive; rw [he]; rfl
    · rfl
    · rfl
  bind := fun _ _ _ _ _ _ _ _ _ _ => rfl
  bindK := fun _ _ _ _ _ _ _ _ _ _ => rfl
  hks := rfl
  hkc := rfl
  hka := rfl
  hkf := rfl
  hne := by decide
  hk := rfl
  hco := rfl
  hgen := rfl
  hnc := by decide +kernel
  hda := by decide
  hds := by decide
def e_InvalidStruck : ExI := ⟨"InvalidStruck", "at", "InvalidStruck.__init__", defArgs (inCls (top 4) 0), defBody (inCls (top 4) 0), defScope (inCls (top 4) 0)⟩
theorem t_InvalidText : TxtX "InvalidText.__init__" (defArgs (inCls (top 5) 0)) (defBody (inCls (top 5) 0)) (defScope (inCls (top 5) 0)) "at" "at" "self" where
  ex := by
    refine ⟨_, _, _, _, _, _, _, _, _, _, _, _, _, rfl, fun env he => ⟨_, rfl⟩, fun env he => ⟨?_, ?_, ?_⟩, rfl, rfl⟩
    · unfold interactive; rw [he]; rfl
    · rfl
    · rfl
  bind := fun _ _ _ _ _ _ _ _ _ _ => rfl
  bindK := fun _ _ _ _ _ _ _ _ _ _ => rfl
  hks := rfl
  hkc := rfl
  hka := rfl
  hkf := rfl
  hne := by decide
  hk := rfl
  hco := rfl
  hgen := rfl
  hnc := by decide +kernel
  hda := by decide
  hds := by decide
def e_InvalidText : ExI := ⟨"InvalidText", "at", "InvalidText.__init__", defArgs (inCls (top 5) 0), defBody (inCls (top 5) 0), defScope (inCls (top 5) 0)⟩
theorem t_InvalidTools : TxtX "InvalidTools.__init__" (defArgs (inCls (top 27) 0)) (defBody (inCls (top 27) 0)) (defScope (inCls (top 27) 0)) "at" "at" "self" where
  ex := by
    refine ⟨_, _, _, _, _, _, _, _, _, _, _, _, _, rfl, fun env he => ⟨_, rfl⟩, fun env he => ⟨?_, ?_, ?_⟩, rfl, rfl⟩
    · unfold interactive; rw [he]; rfl
    · rfl
    · rfl
  bind := fun _ _ _ _ _ _ _ _ _ _ => rfl
  bindK := fun _ _ _ _ _ _ _ _ _ _ => rfl
  hks := rfl
  hkc := rfl
  hka := rfl
  hkf := rfl
  hne := by decide
  hk := rfl
  hco := rfl
  hgen := rfl
  hnc := by decide +kernel
  hda := by decide
  hds := by decide
def e_InvalidTools : ExI := ⟨"InvalidTools", "at", "InvalidTools.__init__", defArgs (inCls (top 27) 0), defBody (inCls (top 27) 0), defScope (inCls (top 27) 0)⟩
theorem t_InvalidTry : TxtX "InvalidTry.__init__" (defArgs (inCls (top 6) 0)) (defBody (inCls (top 6) 0)) (defScope (inCls (top 6) 0)) "at" "at" "self" where
  ex := by
    refine ⟨_, _, _, _, _, _, _, _, _, _, _, _, _, rfl, fun env he => ⟨_, rfl⟩, fun env he => ⟨?_, ?_, ?_⟩, rfl, rfl⟩
    · unfold interactive; rw [he]; rfl
    · rfl
    · rfl
  bind := fun _ _ _ _ _ _ _ _ _ _ => rfl
  bindK := fun _ _ _ _ _ _ _ _ _ _ => rfl
  hks := rfl
  hkc := rfl
  hka := rfl
  hkf := rfl
  hne := by decide
  hk := rfl
  hco := rfl
  hgen := rfl
  hnc := by decide +kernel
  hda := by decide
  hds := by decide
def e_InvalidTry : ExI := ⟨"InvalidTry", "at", "InvalidTry.__init__", defArgs (inCls (top 6) 0), defBody (inCls (top 6) 0), defScope (inCls (top 6) 0)⟩
theorem t_InvalidWaits : TxtX "InvalidWaits.__init__" (defArgs (inCls (top 28) 0)) (defBody (inCls (top 28) 0)) (defScope (inCls (top 28) 0)) "at" "at" "self" where
  ex := by
    refine ⟨_, _, _, _, _, _, _, _, _, _, _, _, _, rfl, fun env he => ⟨_, rfl⟩, fun env he => ⟨?_, ?_, ?_⟩, rfl, rfl⟩
    · unfold interactive; rw [he]; rfl
    · rfl
    · rfl
  bind := fun _ _ _ _ _ _ _ _ _ _ => rfl
  bindK := fun _ _ _ _ _ _ _ _ _ _ => rfl
  hks := rfl
  hkc := rfl
  hka := rfl
  hkf := rfl
  hne := by decide
  hk := rfl
  hco := rfl
  hgen := rfl
  hnc := by decide +kernel
  hda := by decide
  hds := by decide
def e_InvalidWaits : ExI := ⟨"InvalidWaits", "at", "InvalidWaits.__init__", defArgs (inCls (top 28) 0), defBody (inCls (top 28) 0), defScope (inCls (top 28) 0)⟩
theorem t_InvalidWants : TxtX "InvalidWants.__init__" (defArgs (inCls (top 19) 0)) (defBody (inCls (top 19) 0)) (defScope (inCls (top 19) 0)) "at" "at" "self" where
  ex := by
    refine ⟨_, _, _, _, _, _, _, _, _, _, _, _, _, rfl, fun env he => ⟨_, rfl⟩, fun env he => ⟨?_, ?_, ?_⟩, rfl, rfl⟩
    · unfold interactive; rw [he]; rfl
    · rfl
    · rfl
  bind := fun _ _ _ _ _ _ _ _ _ _ => rfl
  bindK := fun _ _ _ _ _ _ _ _ _ _ => rfl
  hks := rfl
  hkc := rfl
  hka := rfl
  hkf := rfl
  hne := by decide
  hk := rfl
  hco := rfl
  hgen := rfl
  hnc := by decide +kernel
  hda := by decide
  hds := by decide
def e_InvalidWants : ExI := ⟨"InvalidWants", "at", "InvalidWants.__init__", defArgs (inCls (top 19) 0), defBody (inCls (top 19) 0), defScope (inCls (top 19) 0)⟩
theorem t_Refused : TxtX "Refused.__init__" (defArgs (inCls (top 17) 0)) (defBody (inCls (top 17) 0)) (defScope (inCls (top 17) 0)) "at" "at" "self" where
  ex := by
    refine ⟨_, _, _, _, _, _, _, _, _, _, _, _, _, rfl, fun env he => ⟨_, rfl⟩, fun env he => ⟨?_, ?_, ?_⟩, rfl, rfl⟩
    · unfold interactive; rw [he]; rfl
    · rfl
    · rfl
  bind := fun _ _ _ _ _ _ _ _ _ _ => rfl
  bindK := fun _ _ _ _ _ _ _ _ _ _ => rfl
  hks := rfl
  hkc := rfl
  hka := rfl
  hkf := rfl
  hne := by decide
  hk := rfl
  hco := rfl
  hgen := rfl
  hnc := by decide +kernel
  hda := by decide
  hds := by decide
def e_Refused : ExI := ⟨"Refused", "at", "Refused.__init__", defArgs (inCls (top 17) 0), defBody (inCls (top 17) 0), defScope (inCls (top 17) 0)⟩
def gN : List Str := ["InvalidBound", "InvalidCommand", "InvalidContract", "InvalidCosts", "InvalidDesk", "InvalidHistory", "InvalidHouse", "InvalidIndex", "InvalidLedger", "InvalidLot", "InvalidLots", "InvalidMoves", "InvalidNumber", "InvalidOffers", "InvalidPlan", "InvalidPromise", "InvalidRules", "InvalidSeam", "InvalidSize", "InvalidSort", "InvalidStep", "InvalidStruck", "InvalidText", "InvalidTools", "InvalidTry", "InvalidWaits", "InvalidWants", "Refused"]
def gH : List Str := ["InvalidBound", "InvalidCommand", "InvalidContract", "InvalidCosts", "InvalidDesk", "InvalidHistory", "InvalidHouse", "InvalidIndex", "InvalidLedger", "InvalidLot", "InvalidLots", "InvalidMoves", "InvalidNumber", "InvalidOffers", "InvalidPlan", "InvalidPromise", "InvalidRules", "InvalidSeam", "InvalidSize", "InvalidSort", "InvalidStep", "InvalidStruck", "InvalidText", "InvalidTools", "InvalidTry", "InvalidWaits", "InvalidWants", "LateError", "Refused"]
def gF : List Str := ["", "at", "word"]
def gI : List Str := ["InvalidCommand", "InvalidWaits", "InvalidTools", "InvalidCosts", "InvalidContract", "InvalidPromise", "InvalidLots", "InvalidSeam", "InvalidHouse", "InvalidLedger", "InvalidWants", "InvalidSize", "Refused", "InvalidBound", "InvalidRules", "InvalidOffers", "InvalidMoves", "InvalidPlan", "InvalidLot", "InvalidNumber", "InvalidStep", "InvalidSort", "InvalidIndex", "InvalidTry", "InvalidText", "InvalidStruck", "InvalidHistory", "InvalidDesk"]
def ins : List ExI := [e_InvalidBound, e_InvalidCommand, e_InvalidContract, e_InvalidCosts, e_InvalidDesk, e_InvalidHistory, e_InvalidHouse, e_InvalidIndex, e_InvalidLedger, e_InvalidLot, e_InvalidLots, e_InvalidMoves, e_InvalidNumber, e_InvalidOffers, e_InvalidPlan, e_InvalidPromise, e_InvalidRules, e_InvalidSeam, e_InvalidSize, e_InvalidSort, e_InvalidStep, e_InvalidStruck, e_InvalidText, e_InvalidTools, e_InvalidTry, e_InvalidWaits, e_InvalidWants, e_Refused]
def own (K : PySem.W.Frag) : Bool := (ins.all fun e => e.ok PySem.Challenge.pw_lateno_k00_whole_errors_and_what_they_ke K) && (grpB K gN gH gF && (isB K gN gI))
def fa : List He.Fa := [.free "abs", .free "int", .free "isinstance", .free "len", .free "range", .glo "InvalidBound", .free "super", .noat "InvalidBound" "at", .glo "InvalidContract", .noat "InvalidContract" "at", .glo "InvalidCosts", .noat "InvalidCosts" "at", .glo "InvalidDesk", .noat "InvalidDesk" "at", .glo "InvalidHistory", .noat "InvalidHistory" "at", .glo "InvalidHouse", .noat "InvalidHouse" "at", .glo "InvalidIndex", .noat "InvalidIndex" "at", .glo "InvalidLedger", .noat "InvalidLedger" "at", .glo "InvalidLot", .noat "InvalidLot" "at", .glo "InvalidLots", .noat "InvalidLots" "at", .glo "InvalidMoves", .noat "InvalidMoves" "at", .glo "InvalidNumber", .noat "InvalidNumber" "at", .glo "InvalidOffers", .noat "InvalidOffers" "at", .glo "InvalidPlan", .noat "InvalidPlan" "at", .glo "InvalidPromise", .noat "InvalidPromise" "at", .glo "InvalidRules", .noat "InvalidRules" "at", .glo "InvalidSeam", .noat "InvalidSeam" "at", .glo "InvalidSize", .noat "InvalidSize" "word", .glo "InvalidSort", .noat "InvalidSort" "at", .glo "InvalidStep", .noat "InvalidStep" "at", .glo "InvalidStruck", .noat "InvalidStruck" "at", .glo "InvalidText", .noat "InvalidText" "at", .glo "InvalidTools", .noat "InvalidTools" "at", .glo "InvalidTry", .noat "InvalidTry" "at", .glo "InvalidWaits", .noat "InvalidWaits" "at", .glo "InvalidWants", .noat "InvalidWants" "at", .glo "Refused", .noat "Refused" "at", .glo "InvalidCommand", .glo "LateError", .glo "_law_box", .glo "_law_take", .glo "_law_pick", .glo "_law_raise_a", .glo "_law_raise_b", .glo "_law_raise_c", .glo "_law_raise_d", .glo "_law_raise", .glo "_law_caught_a", .glo "_law_caught_b", .glo "_law_caught_c", .glo "_law_caught_d", .glo "_law_is_alone", .glo "law"]
def fn : List He.DefD := [⟨("_law_box", none), "_law_box", "_law_box", defArgs (top 31), defBody (top 31), defScope (top 31), [], []⟩, ⟨("_law_take", none), "_law_take", "_law_take", defArgs (top 32), defBody (top 32), defScope (top 32), [], []⟩, ⟨("_law_pick", none), "_law_pick", "_law_pick", defArgs (top 33), defBody (top 33), defScope (top 33), [], []⟩, ⟨("_law_raise_a", none), "_law_raise_a", "_law_raise_a", defArgs (top 34), defBody (top 34), defScope (top 34), [], []⟩, ⟨("_law_raise_b", none), "_law_raise_b", "_law_raise_b", defArgs (top 35), defBody (top 35), defScope (top 35), [], []⟩, ⟨("_law_raise_c", none), "_law_raise_c", "_law_raise_c", defArgs (top 36), defBody (top 36), defScope (top 36), [], []⟩, ⟨("_law_raise_d", none), "_law_raise_d", "_law_raise_d", defArgs (top 37), defBody (top 37), defScope (top 37), [], []⟩, ⟨("_law_raise", none), "_law_raise", "_law_raise", defArgs (top 38), defBody (top 38), defScope (top 38), [], []⟩, ⟨("_law_caught_a", none), "_law_caught_a", "_law_caught_a", defArgs (top 39), defBody (top 39), defScope (top 39), [], []⟩, ⟨("_law_caught_b", none), "_law_caught_b", "_law_caught_b", defArgs (top 40), defBody (top 40), defScope (top 40), [], []⟩, ⟨("_law_caught_c", none), "_law_caught_c", "_law_caught_c", defArgs (top 41), defBody (top 41), defScope (top 41), [], []⟩, ⟨("_law_caught_d", none), "_law_caught_d", "_law_caught_d", defArgs (top 42), defBody (top 42), defScope (top 42), [], []⟩, ⟨("_law_is_alone", none), "_law_is_alone", "_law_is_alone", defArgs (top 43), defBody (top 43), defScope (top 43), [], []⟩, ⟨("law", none), "law", "law", defArgs (top 44), defBody (top 44), defScope (top 44), [], []⟩]
def klN : List Str := ["InvalidBound", "InvalidCommand", "InvalidContract", "InvalidCosts", "InvalidDesk", "InvalidHistory", "InvalidHouse", "InvalidIndex", "InvalidLedger", "InvalidLot", "InvalidLots", "InvalidMoves", "InvalidNumber", "InvalidOffers", "InvalidPlan", "InvalidPromise", "InvalidRules", "InvalidSeam", "InvalidSize", "InvalidSort", "InvalidStep", "InvalidStruck", "InvalidText", "InvalidTools", "InvalidTry", "InvalidWaits", "InvalidWants", "Refused"]
theorem own_ok {K : PySem.W.Frag} {h : PySem.Heap} (S : Says fa fn ins own K h) (e : ExI) (he : e ∈ ins) : e.ok PySem.Challenge.pw_lateno_k00_whole_errors_and_what_they_ke K = true := List.all_eq_true.mp (Bool.and_eq_true_iff.mp S.own).1 e he
theorem own_g {K : PySem.W.Frag} {h : PySem.Heap} (S : Says fa fn ins own K h) : grpB K gN gH gF = true := (Bool.and_eq_true_iff.mp (Bool.and_eq_true_iff.mp S.own).2).1
theorem own_i {K : PySem.W.Frag} {h : PySem.Heap} (S : Says fa fn ins own K h) : isB K gN gI = true := (Bool.and_eq_true_iff.mp (Bool.and_eq_true_iff.mp S.own).2).2
theorem facts {K : PySem.W.Frag} {h : PySem.Heap} {mg : Str → Option Value} (S : Says fa fn ins own K h) (G : h.Ns mainGlobals mg) : Facts PySem.Challenge.pw_lateno_k00_whole_errors_and_what_they_ke K mg (kcOf klN K) := by
  have X := S.kin
  have c := S.facts
  exact {
  hK := rfl,
  gs := { n_abs := He.free_ok X G (c.fact 0), n_int := He.free_ok X G (c.fact 1), n_isinstance := He.free_ok X G (c.fact 2), n_len := He.free_ok X G (c.fact 3), n_range := He.free_ok X G (c.fact 4) },
  x_InvalidBound := ⟨_, kcOf_kl (by decide), ExI.calX (own_ok S e_InvalidBound (by simp [ins])) (S.ini 0) (He.glo_ok X G (c.fact 5)) (He.free_ok X G (c.fact 6)) (He.noat_ok (c.fact 7)) t_InvalidBound⟩,
  x_InvalidContract := ⟨_, kcOf_kl (by decide), ExI.calX (own_ok S e_InvalidContract (by simp [ins])) (S.ini 2) (He.glo_ok X G (c.fact 8)) (He.free_ok X G (c.fact 6)) (He.noat_ok (c.fact 9)) t_InvalidContract⟩,
  x_InvalidCosts := ⟨_, kcOf_kl (by decide), ExI.calX (own_ok S e_InvalidCosts (by simp [ins])) (S.ini 3) (He.glo_ok X G (c.fact 10)) (He.free_ok X G (c.fact 6)) (He.noat_ok (c.fact 11)) t_InvalidCosts⟩,
  x_InvalidDesk := ⟨_, kcOf_kl (by decide), ExI.calX (own_ok S e_InvalidDesk (by simp [ins])) (S.ini 4) (He.glo_ok X G (c.fact 12)) (He.free_ok X G (c.fact 6)) (He.noat_ok (c.fact 13)) t_InvalidDesk⟩,
  x_InvalidHistory := ⟨_, kcOf_kl (by decide), ExI.calX (own_ok S e_InvalidHistory (by simp [ins])) (S.ini 5) (He.glo_ok X G (c.fact 14)) (He.free_ok X G (c.fact 6)) (He.noat_ok (c.fact 15)) t_InvalidHistory⟩,
  x_InvalidHouse := ⟨_, kcOf_kl (by decide), ExI.calX (own_ok S e_InvalidHouse (by simp [ins])) (S.ini 6) (He.glo_ok X G (c.fact 16)) (He.free_ok X G (c.fact 6)) (He.noat_ok (c.fact 17)) t_InvalidHouse⟩,
  x_InvalidIndex := ⟨_, kcOf_kl (by decide), ExI.calX (own_ok S e_InvalidIndex (by simp [ins])) (S.ini 7) (He.glo_ok X G (c.fact 18)) (He.free_ok X G (c.fact 6)) (He.noat_ok (c.fact 19)) t_InvalidIndex⟩,
  x_InvalidLedger := ⟨_, kcOf_kl (by decide), ExI.calX (own_ok S e_InvalidLedger (by simp [ins])) (S.ini 8) (He.glo_ok X G (c.fact 20)) (He.free_ok X G (c.fact 6)) (He.noat_ok (c.fact 21)) t_InvalidLedger⟩,
  x_InvalidLot := ⟨_, kcOf_kl (by decide), ExI.calX (own_ok S e_InvalidLot (by simp [ins])) (S.ini 9) (He.glo_ok X G (c.fact 22)) (He.free_ok X G (c.fact 6)) (He.noat_ok (c.fact 23)) t_InvalidLot⟩,
  x_InvalidLots := ⟨_, kcOf_kl (by decide), ExI.calX (own_ok S e_InvalidLots (by simp [ins])) (S.ini 10) (He.glo_ok X G (c.fact 24)) (He.free_ok X G (c.fact 6)) (He.noat_ok (c.fact 25)) t_InvalidLots⟩,
  x_InvalidMoves := ⟨_, kcOf_kl (by decide), ExI.calX (own_ok S e_InvalidMoves (by simp [ins])) (S.ini 11) (He.glo_ok X G (c.fact 26)) (He.free_ok X G (c.fact 6)) (He.noat_ok (c.fact 27)) t_InvalidMoves⟩,
  x_InvalidNumber := ⟨_, kcOf_kl (by decide), ExI.calX (own_ok S e_InvalidNumber (by simp [ins])) (S.ini 12) (He.glo_ok X G (c.fact 28)) (He.free_ok X G (c.fact 6)) (He.noat_ok (c.fact 29)) t_InvalidNumber⟩,
  x_InvalidOffers := ⟨_, kcOf_kl (by decide), ExI.calX (own_ok S e_InvalidOffers (by simp [ins])) (S.ini 13) (He.glo_ok X G (c.fact 30)) (He.free_ok X G (c.fact 6)) (He.noat_ok (c.fact 31)) t_InvalidOffers⟩,
  x_InvalidPlan := ⟨_, kcOf_kl (by decide), ExI.calX (own_ok S e_InvalidPlan (by simp [ins])) (S.ini 14) (He.glo_ok X G (c.fact 32)) (He.free_ok X G (c.fact 6)) (He.noat_ok (c.fact 33)) t_InvalidPlan⟩,
  x_InvalidPromise := ⟨_, kcOf_kl (by decide), ExI.calX (own_ok S e_InvalidPromise (by simp [ins])) (S.ini 15) (He.glo_ok X G (c.fact 34)) (He.free_ok X G (c.fact 6)) (He.noat_ok (c.fact 35)) t_InvalidPromise⟩,
  x_InvalidRules := ⟨_, kcOf_kl (by decide), ExI.calX (own_ok S e_InvalidRules (by simp [ins])) (S.ini 16) (He.glo_ok X G (c.fact 36)) (He.free_ok X G (c.fact 6)) (He.noat_ok (c.fact 37)) t_InvalidRules⟩,
  x_InvalidSeam := ⟨_, kcOf_kl (by decide), ExI.calX (own_ok S e_InvalidSeam (by simp [ins])) (S.ini 17) (He.glo_ok X G (c.fact 38)) (He.free_ok X G (c.fact 6)) (He.noat_ok (c.fact 39)) t_InvalidSeam⟩,
  x_InvalidSize := ⟨_, kcOf_kl (by decide), ExI.calX (own_ok S e_InvalidSize (by simp [ins])) (S.ini 18) (He.glo_ok X G (c.fact 40)) (He.free_ok X G (c.fact 6)) (He.noat_ok (c.fact 41)) t_InvalidSize⟩,
  x_InvalidSort := ⟨_, kcOf_kl (by decide), ExI.calX (own_ok S e_InvalidSort (by simp [ins])) (S.ini 19) (He.glo_ok X G (c.fact 42)) (He.free_ok X G (c.fact 6)) (He.noat_ok (c.fact 43)) t_InvalidSort⟩,
  x_InvalidStep := ⟨_, kcOf_kl (by decide), ExI.calX (own_ok S e_InvalidStep (by simp [ins])) (S.ini 20) (He.glo_ok X G (c.fact 44)) (He.free_ok X G (c.fact 6)) (He.noat_ok (c.fact 45)) t_InvalidStep⟩,
  x_InvalidStruck := ⟨_, kcOf_kl (by decide), ExI.calX (own_ok S e_InvalidStruck (by simp [ins])) (S.ini 21) (He.glo_ok X G (c.fact 46)) (He.free_ok X G (c.fact 6)) (He.noat_ok (c.fact 47)) t_InvalidStruck⟩,
  x_InvalidText := ⟨_, kcOf_kl (by decide), ExI.calX (own_ok S e_InvalidText (by simp [ins])) (S.ini 22) (He.glo_ok X G (c.fact 48)) (He.free_ok X G (c.fact 6)) (He.noat_ok (c.fact 49)) t_InvalidText⟩,
  x_InvalidTools := ⟨_, kcOf_kl (by decide), ExI.calX (own_ok S e_InvalidTools (by simp [ins])) (S.ini 23) (He.glo_ok X G (c.fact 50)) (He.free_ok X G (c.fact 6)) (He.noat_ok (c.fact 51)) t_InvalidTools⟩,
  x_InvalidTry := ⟨_, kcOf_kl (by decide), ExI.calX (own_ok S e_InvalidTry (by simp [ins])) (S.ini 24) (He.glo_ok X G (c.fact 52)) (He.free_ok X G (c.fact 6)) (He.noat_ok (c.fact 53)) t_InvalidTry⟩,
  x_InvalidWaits := ⟨_, kcOf_kl (by decide), ExI.calX (own_ok S e_InvalidWaits (by simp [ins])) (S.ini 25) (He.glo_ok X G (c.fact 54)) (He.free_ok X G (c.fact 6)) (He.noat_ok (c.fact 55)) t_InvalidWaits⟩,
  x_InvalidWants := ⟨_, kcOf_kl (by decide), ExI.calX (own_ok S e_InvalidWants (by simp [ins])) (S.ini 26) (He.glo_ok X G (c.fact 56)) (He.free_ok X G (c.fact 6)) (He.noat_ok (c.fact 57)) t_InvalidWants⟩,
  x_Refused := ⟨_, kcOf_kl (by decide), ExI.calX (own_ok S e_Refused (by simp [ins])) (S.ini 27) (He.glo_ok X G (c.fact 58)) (He.free_ok X G (c.fact 6)) (He.noat_ok (c.fact 59)) t_Refused⟩,
  x_InvalidCommand := ⟨_, kcOf_kl (by decide), ExI.calX0 (own_ok S e_InvalidCommand (by simp [ins])) (S.ini 1) (He.glo_ok X G (c.fact 60)) (He.free_ok X G (c.fact 6)) t_InvalidCommand⟩,
  m_InvalidDesk := ⟨_, ExI.mkX (own_ok S e_InvalidDesk (by simp [ins])) (S.ini 4) (He.glo_ok X G (c.fact 12)) (He.free_ok X G (c.fact 6)) (He.noat_ok (c.fact 13)) t_InvalidDesk⟩,
  m_InvalidSize := ⟨_, ExI.mkX (own_ok S e_InvalidSize (by simp [ins])) (S.ini 18) (He.glo_ok X G (c.fact 40)) (He.free_ok X G (c.fact 6)) (He.noat_ok (c.fact 41)) t_InvalidSize⟩,
  m_InvalidText := ⟨_, ExI.mkX (own_ok S e_InvalidText (by simp [ins])) (S.ini 22) (He.glo_ok X G (c.fact 48)) (He.free_ok X G (c.fact 6)) (He.noat_ok (c.fact 49)) t_InvalidText⟩,
  m_Refused := ⟨_, ExI.mkX (own_ok S e_Refused (by simp [ins])) (S.ini 27) (He.glo_ok X G (c.fact 58)) (He.free_ok X G (c.fact 6)) (He.noat_ok (c.fact 59)) t_Refused⟩,
  i_InvalidCommand := ⟨_, (He.glo_ok X G (c.fact 60)), fun n hn Cn e => by
    cases kcOf_eq e
    exact isB_ok (own_i S) ((by decide : ∀ n ∈ (["InvalidDesk", "InvalidHistory", "InvalidStruck", "InvalidText", "InvalidTry", "InvalidIndex", "InvalidSort", "InvalidStep", "InvalidNumber", "InvalidLot", "InvalidPlan", "InvalidMoves", "InvalidOffers", "InvalidRules", "InvalidBound", "Refused", "InvalidSize", "InvalidWants", "InvalidLedger", "InvalidHouse", "InvalidSeam", "InvalidLots", "InvalidPromise", "InvalidContract", "InvalidCosts", "InvalidTools", "InvalidWaits", "InvalidCommand"] : List Str), n ∈ gN) n hn) (by decide)⟩,
  i_InvalidWaits := ⟨_, (He.glo_ok X G (c.fact 54)), fun n hn Cn e => by
    cases kcOf_eq e
    exact isB_ok (own_i S) ((by decide : ∀ n ∈ (["InvalidDesk", "InvalidHistory", "InvalidStruck", "InvalidText", "InvalidTry", "InvalidIndex", "InvalidSort", "InvalidStep", "InvalidNumber", "InvalidLot", "InvalidPlan", "InvalidMoves", "InvalidOffers", "InvalidRules", "InvalidBound", "Refused", "InvalidSize", "InvalidWants", "InvalidLedger", "InvalidHouse", "InvalidSeam", "InvalidLots", "InvalidPromise", "InvalidContract", "InvalidCosts", "InvalidTools", "InvalidWaits", "InvalidCommand"] : List Str), n ∈ gN) n hn) (by decide)⟩,
  i_InvalidTools := ⟨_, (He.glo_ok X G (c.fact 50)), fun n hn Cn e => by
    cases kcOf_eq e
    exact isB_ok (own_i S) ((by decide : ∀ n ∈ (["InvalidDesk", "InvalidHistory", "InvalidStruck", "InvalidText", "InvalidTry", "InvalidIndex", "InvalidSort", "InvalidStep", "InvalidNumber", "InvalidLot", "InvalidPlan", "InvalidMoves", "InvalidOffers", "InvalidRules", "InvalidBound", "Refused", "InvalidSize", "InvalidWants", "InvalidLedger", "InvalidHouse", "InvalidSeam", "InvalidLots", "InvalidPromise", "InvalidContract", "InvalidCosts", "InvalidTools", "InvalidWaits", "InvalidCommand"] : List Str), n ∈ gN) n hn) (by decide)⟩,
  i_InvalidCosts := ⟨_, (He.glo_ok X G (c.fact 10)), fun n hn Cn e => by
    cases kcOf_eq e
    exact isB_ok (own_i S) ((by decide : ∀ n ∈ (["InvalidDesk", "InvalidHistory", "InvalidStruck", "InvalidText", "InvalidTry", "InvalidIndex", "InvalidSort", "InvalidStep", "InvalidNumber", "InvalidLot", "InvalidPlan", "InvalidMoves", "InvalidOffers", "InvalidRules", "InvalidBound", "Refused", "InvalidSize", "InvalidWants", "InvalidLedger", "InvalidHouse", "InvalidSeam", "InvalidLots", "InvalidPromise", "InvalidContract", "InvalidCosts", "InvalidTools", "InvalidWaits", "InvalidCommand"] : List Str), n ∈ gN) n hn) (by decide)⟩,
  i_InvalidContract := ⟨_, (He.glo_ok X G (c.fact 8)), fun n hn Cn e => by
    cases kcOf_eq e
    exact isB_ok (own_i S) ((by decide : ∀ n ∈ (["InvalidDesk", "InvalidHistory", "InvalidStruck", "InvalidText", "InvalidTry", "InvalidIndex", "InvalidSort", "InvalidStep", "InvalidNumber", "InvalidLot", "InvalidPlan", "InvalidMoves", "InvalidOffers", "InvalidRules", "InvalidBound", "Refused", "InvalidSize", "InvalidWants", "InvalidLedger", "InvalidHouse", "InvalidSeam", "InvalidLots", "InvalidPromise", "InvalidContract", "InvalidCosts", "InvalidTools", "InvalidWaits", "InvalidCommand"] : List Str), n ∈ gN) n hn) (by decide)⟩,
  i_InvalidPromise := ⟨_, (He.glo_ok X G (c.fact 34)), fun n hn Cn e => by
    cases kcOf_eq e
    exact isB_ok (own_i S) ((by decide : ∀ n ∈ (["InvalidDesk", "InvalidHistory", "InvalidStruck", "InvalidText", "InvalidTry", "InvalidIndex", "InvalidSort", "InvalidStep", "InvalidNumber", "InvalidLot", "InvalidPlan", "InvalidMoves", "InvalidOffers", "InvalidRules", "InvalidBound", "Refused", "InvalidSize", "InvalidWants", "InvalidLedger", "InvalidHouse", "InvalidSeam", "InvalidLots", "InvalidPromise", "InvalidContract", "InvalidCosts", "InvalidTools", "InvalidWaits", "InvalidCommand"] : List Str), n ∈ gN) n hn) (by decide)⟩,
  i_InvalidLots := ⟨_, (He.glo_ok X G (c.fact 24)), fun n hn Cn e => by
    cases kcOf_eq e
    exact isB_ok (own_i S) ((by decide : ∀ n ∈ (["InvalidDesk", "InvalidHistory", "InvalidStruck", "InvalidText", "InvalidTry", "InvalidIndex", "InvalidSort", "InvalidStep", "InvalidNumber", "InvalidLot", "InvalidPlan", "InvalidMoves", "InvalidOffers", "InvalidRules", "InvalidBound", "Refused", "InvalidSize", "InvalidWants", "InvalidLedger", "InvalidHouse", "InvalidSeam", "InvalidLots", "InvalidPromise", "InvalidContract", "InvalidCosts", "InvalidTools", "InvalidWaits", "InvalidCommand"] : List Str), n ∈ gN) n hn) (by decide)⟩,
  i_InvalidSeam := ⟨_, (He.glo_ok X G (c.fact 38)), fun n hn Cn e => by
    cases kcOf_eq e
    exact isB_ok (own_i S) ((by decide : ∀ n ∈ (["InvalidDesk", "InvalidHistory", "InvalidStruck", "InvalidText", "InvalidTry", "InvalidIndex", "InvalidSort", "InvalidStep", "InvalidNumber", "InvalidLot", "InvalidPlan", "InvalidMoves", "InvalidOffers", "InvalidRules", "InvalidBound", "Refused", "InvalidSize", "InvalidWants", "InvalidLedger", "InvalidHouse", "InvalidSeam", "InvalidLots", "InvalidPromise", "InvalidContract", "InvalidCosts", "InvalidTools", "InvalidWaits", "InvalidCommand"] : List Str), n ∈ gN) n hn) (by decide)⟩,
  i_InvalidHouse := ⟨_, (He.glo_ok X G (c.fact 16)), fun n hn Cn e => by
    cases kcOf_eq e
    exact isB_ok (own_i S) ((by decide : ∀ n ∈ (["InvalidDesk", "InvalidHistory", "InvalidStruck", "InvalidText", "InvalidTry", "InvalidIndex", "InvalidSort", "InvalidStep", "InvalidNumber", "InvalidLot", "InvalidPlan", "InvalidMoves", "InvalidOffers", "InvalidRules", "InvalidBound", "Refused", "InvalidSize", "InvalidWants", "InvalidLedger", "InvalidHouse", "InvalidSeam", "InvalidLots", "InvalidPromise", "InvalidContract", "InvalidCosts", "InvalidTools", "InvalidWaits", "InvalidCommand"] : List Str), n ∈ gN) n hn) (by decide)⟩,
  i_InvalidLedger := ⟨_, (He.glo_ok X G (c.fact 20)), fun n hn Cn e => by
    cases kcOf_eq e
    exact isB_ok (own_i S) ((by decide : ∀ n ∈ (["InvalidDesk", "InvalidHistory", "InvalidStruck", "InvalidText", "InvalidTry", "InvalidIndex", "InvalidSort", "InvalidStep", "InvalidNumber", "InvalidLot", "InvalidPlan", "InvalidMoves", "InvalidOffers", "InvalidRules", "InvalidBound", "Refused", "InvalidSize", "InvalidWants", "InvalidLedger", "InvalidHouse", "InvalidSeam", "InvalidLots", "InvalidPromise", "InvalidContract", "InvalidCosts", "InvalidTools", "InvalidWaits", "InvalidCommand"] : List Str), n ∈ gN) n hn) (by decide)⟩,
  i_InvalidWants := ⟨_, (He.glo_ok X G (c.fact 56)), fun n hn Cn e => by
    cases kcOf_eq e
    exact isB_ok (own_i S) ((by decide : ∀ n ∈ (["InvalidDesk", "InvalidHistory", "InvalidStruck", "InvalidText", "InvalidTry", "InvalidIndex", "InvalidSort", "InvalidStep", "InvalidNumber", "InvalidLot", "InvalidPlan", "InvalidMoves", "InvalidOffers", "InvalidRules", "InvalidBound", "Refused", "InvalidSize", "InvalidWants", "InvalidLedger", "InvalidHouse", "InvalidSeam", "InvalidLots", "InvalidPromise", "InvalidContract", "InvalidCosts", "InvalidTools", "InvalidWaits", "InvalidCommand"] : List Str), n ∈ gN) n hn) (by decide)⟩,
  i_InvalidSize := ⟨_, (He.glo_ok X G (c.fact 40)), fun n hn Cn e => by
    cases kcOf_eq e
    exact isB_ok (own_i S) ((by decide : ∀ n ∈ (["InvalidDesk", "InvalidHistory", "InvalidStruck", "InvalidText", "InvalidTry", "InvalidIndex", "InvalidSort", "InvalidStep", "InvalidNumber", "InvalidLot", "InvalidPlan", "InvalidMoves", "InvalidOffers", "InvalidRules", "InvalidBound", "Refused", "InvalidSize", "InvalidWants", "InvalidLedger", "InvalidHouse", "InvalidSeam", "InvalidLots", "InvalidPromise", "InvalidContract", "InvalidCosts", "InvalidTools", "InvalidWaits", "InvalidCommand"] : List Str), n ∈ gN) n hn) (by decide)⟩,
  i_Refused := ⟨_, (He.glo_ok X G (c.fact 58)), fun n hn Cn e => by
    cases kcOf_eq e
    exact isB_ok (own_i S) ((by decide : ∀ n ∈ (["InvalidDesk", "InvalidHistory", "InvalidStruck", "InvalidText", "InvalidTry", "InvalidIndex", "InvalidSort", "InvalidStep", "InvalidNumber", "InvalidLot", "InvalidPlan", "InvalidMoves", "InvalidOffers", "InvalidRules", "InvalidBound", "Refused", "InvalidSize", "InvalidWants", "InvalidLedger", "InvalidHouse", "InvalidSeam", "InvalidLots", "InvalidPromise", "InvalidContract", "InvalidCosts", "InvalidTools", "InvalidWaits", "InvalidCommand"] : List Str), n ∈ gN) n hn) (by decide)⟩,
  i_InvalidBound := ⟨_, (He.glo_ok X G (c.fact 5)), fun n hn Cn e => by
    cases kcOf_eq e
    exact isB_ok (own_i S) ((by decide : ∀ n ∈ (["InvalidDesk", "InvalidHistory", "InvalidStruck", "InvalidText", "InvalidTry", "InvalidIndex", "InvalidSort", "InvalidStep", "InvalidNumber", "InvalidLot", "InvalidPlan", "InvalidMoves", "InvalidOffers", "InvalidRules", "InvalidBound", "Refused", "InvalidSize", "InvalidWants", "InvalidLedger", "InvalidHouse", "InvalidSeam", "InvalidLots", "InvalidPromise", "InvalidContract", "InvalidCosts", "InvalidTools", "InvalidWaits", "InvalidCommand"] : List Str), n ∈ gN) n hn) (by decide)⟩,
  i_InvalidRules := ⟨_, (He.glo_ok X G (c.fact 36)), fun n hn Cn e => by
    cases kcOf_eq e
    exact isB_ok (own_i S) ((by decide : ∀ n ∈ (["InvalidDesk", "InvalidHistory", "InvalidStruck", "InvalidText", "InvalidTry", "InvalidIndex", "InvalidSort", "InvalidStep", "InvalidNumber", "InvalidLot", "InvalidPlan", "InvalidMoves", "InvalidOffers", "InvalidRules", "InvalidBound", "Refused", "InvalidSize", "InvalidWants", "InvalidLedger", "InvalidHouse", "InvalidSeam", "InvalidLots", "InvalidPromise", "InvalidContract", "InvalidCosts", "InvalidTools", "InvalidWaits", "InvalidCommand"] : List Str), n ∈ gN) n hn) (by decide)⟩,
  i_InvalidOffers := ⟨_, (He.glo_ok X G (c.fact 30)), fun n hn Cn e => by
    cases kcOf_eq e
    exact isB_ok (own_i S) ((by decide : ∀ n ∈ (["InvalidDesk", "InvalidHistory", "InvalidStruck", "InvalidText", "InvalidTry", "InvalidIndex", "InvalidSort", "InvalidStep", "InvalidNumber", "InvalidLot", "InvalidPlan", "InvalidMoves", "InvalidOffers", "InvalidRules", "InvalidBound", "Refused", "InvalidSize", "InvalidWants", "InvalidLedger", "InvalidHouse", "InvalidSeam", "InvalidLots", "InvalidPromise", "InvalidContract", "InvalidCosts", "InvalidTools", "InvalidWaits", "InvalidCommand"] : List Str), n ∈ gN) n hn) (by decide)⟩,
  i_InvalidMoves := ⟨_, (He.glo_ok X G (c.fact 26)), fun n hn Cn e => by
    cases kcOf_eq e
    exact isB_ok (own_i S) ((by decide : ∀ n ∈ (["InvalidDesk", "InvalidHistory", "InvalidStruck", "InvalidText", "InvalidTry", "InvalidIndex", "InvalidSort", "InvalidStep", "InvalidNumber", "InvalidLot", "InvalidPlan", "InvalidMoves", "InvalidOffers", "InvalidRules", "InvalidBound", "Refused", "InvalidSize", "InvalidWants", "InvalidLedger", "InvalidHouse", "InvalidSeam", "InvalidLots", "InvalidPromise", "InvalidContract", "InvalidCosts", "InvalidTools", "InvalidWaits", "InvalidCommand"] : List Str), n ∈ gN) n hn) (by decide)⟩,
  i_InvalidPlan := ⟨_, (He.glo_ok X G (c.fact 32)), fun n hn Cn e => by
    cases kcOf_eq e
    exact isB_ok (own_i S) ((by decide : ∀ n ∈ (["InvalidDesk", "InvalidHistory", "InvalidStruck", "InvalidText", "InvalidTry", "InvalidIndex", "InvalidSort", "InvalidStep", "InvalidNumber", "InvalidLot", "InvalidPlan", "InvalidMoves", "InvalidOffers", "InvalidRules", "InvalidBound", "Refused", "InvalidSize", "InvalidWants", "InvalidLedger", "InvalidHouse", "InvalidSeam", "InvalidLots", "InvalidPromise", "InvalidContract", "InvalidCosts", "InvalidTools", "InvalidWaits", "InvalidCommand"] : List Str), n ∈ gN) n hn) (by decide)⟩,
  i_InvalidLot := ⟨_, (He.glo_ok X G (c.fact 22)), fun n hn Cn e => by
    cases kcOf_eq e
    exact isB_ok (own_i S) ((by decide : ∀ n ∈ (["InvalidDesk", "InvalidHistory", "InvalidStruck", "InvalidText", "InvalidTry", "InvalidIndex", "InvalidSort", "InvalidStep", "InvalidNumber", "InvalidLot", "InvalidPlan", "InvalidMoves", "InvalidOffers", "InvalidRules", "InvalidBound", "Refused", "InvalidSize", "InvalidWants", "InvalidLedger", "InvalidHouse", "InvalidSeam", "InvalidLots", "InvalidPromise", "InvalidContract", "InvalidCosts", "InvalidTools", "InvalidWaits", "InvalidCommand"] : List Str), n ∈ gN) n hn) (by decide)⟩,
  i_InvalidNumber := ⟨_, (He.glo_ok X G (c.fact 28)), fun n hn Cn e => by
    cases kcOf_eq e
    exact isB_ok (own_i S) ((by decide : ∀ n ∈ (["InvalidDesk", "InvalidHistory", "InvalidStruck", "InvalidText", "InvalidTry", "InvalidIndex", "InvalidSort", "InvalidStep", "InvalidNumber", "InvalidLot", "InvalidPlan", "InvalidMoves", "InvalidOffers", "InvalidRules", "InvalidBound", "Refused", "InvalidSize", "InvalidWants", "InvalidLedger", "InvalidHouse", "InvalidSeam", "InvalidLots", "InvalidPromise", "InvalidContract", "InvalidCosts", "InvalidTools", "InvalidWaits", "InvalidCommand"] : List Str), n ∈ gN) n hn) (by decide)⟩,
  i_InvalidStep := ⟨_, (He.glo_ok X G (c.fact 44)), fun n hn Cn e => by
    cases kcOf_eq e
    exact isB_ok (own_i S) ((by decide : ∀ n ∈ (["InvalidDesk", "InvalidHistory", "InvalidStruck", "InvalidText", "InvalidTry", "InvalidIndex", "InvalidSort", "InvalidStep", "InvalidNumber", "InvalidLot", "InvalidPlan", "InvalidMoves", "InvalidOffers", "InvalidRules", "InvalidBound", "Refused", "InvalidSize", "InvalidWants", "InvalidLedger", "InvalidHouse", "InvalidSeam", "InvalidLots", "InvalidPromise", "InvalidContract", "InvalidCosts", "InvalidTools", "InvalidWaits", "InvalidCommand"] : List Str), n ∈ gN) n hn) (by decide)⟩,
  i_InvalidSort := ⟨_, (He.glo_ok X G (c.fact 42)), fun n hn Cn e => by
    cases kcOf_eq e
    exact isB_ok (own_i S) ((by decide : ∀ n ∈ (["InvalidDesk", "InvalidHistory", "InvalidStruck", "InvalidText", "InvalidTry", "InvalidIndex", "InvalidSort", "InvalidStep", "InvalidNumber", "InvalidLot", "InvalidPlan", "InvalidMoves", "InvalidOffers", "InvalidRules", "InvalidBound", "Refused", "InvalidSize", "InvalidWants", "InvalidLedger", "InvalidHouse", "InvalidSeam", "InvalidLots", "InvalidPromise", "InvalidContract", "InvalidCosts", "InvalidTools", "InvalidWaits", "InvalidCommand"] : List Str), n ∈ gN) n hn) (by decide)⟩,
  i_InvalidIndex := ⟨_, (He.glo_ok X G (c.fact 18)), fun n hn Cn e => by
    cases kcOf_eq e
    exact isB_ok (own_i S) ((by decide : ∀ n ∈ (["InvalidDesk", "InvalidHistory", "InvalidStruck", "InvalidText", "InvalidTry", "InvalidIndex", "InvalidSort", "InvalidStep", "InvalidNumber", "InvalidLot", "InvalidPlan", "InvalidMoves", "InvalidOffers", "InvalidRules", "InvalidBound", "Refused", "InvalidSize", "InvalidWants", "InvalidLedger", "InvalidHouse", "InvalidSeam", "InvalidLots", "InvalidPromise", "InvalidContract", "InvalidCosts", "InvalidTools", "InvalidWaits", "InvalidCommand"] : List Str), n ∈ gN) n hn) (by decide)⟩,
  i_InvalidTry := ⟨_, (He.glo_ok X G (c.fact 52)), fun n hn Cn e => by
    cases kcOf_eq e
    exact isB_ok (own_i S) ((by decide : ∀ n ∈ (["InvalidDesk", "InvalidHistory", "InvalidStruck", "InvalidText", "InvalidTry", "InvalidIndex", "InvalidSort", "InvalidStep", "InvalidNumber", "InvalidLot", "InvalidPlan", "InvalidMoves", "InvalidOffers", "InvalidRules", "InvalidBound", "Refused", "InvalidSize", "InvalidWants", "InvalidLedger", "InvalidHouse", "InvalidSeam", "InvalidLots", "InvalidPromise", "InvalidContract", "InvalidCosts", "InvalidTools", "InvalidWaits", "InvalidCommand"] : List Str), n ∈ gN) n hn) (by decide)⟩,
  i_InvalidText := ⟨_, (He.glo_ok X G (c.fact 48)), fun n hn Cn e => by
    cases kcOf_eq e
    exact isB_ok (own_i S) ((by decide : ∀ n ∈ (["InvalidDesk", "InvalidHistory", "InvalidStruck", "InvalidText", "InvalidTry", "InvalidIndex", "InvalidSort", "InvalidStep", "InvalidNumber", "InvalidLot", "InvalidPlan", "InvalidMoves", "InvalidOffers", "InvalidRules", "InvalidBound", "Refused", "InvalidSize", "InvalidWants", "InvalidLedger", "InvalidHouse", "InvalidSeam", "InvalidLots", "InvalidPromise", "InvalidContract", "InvalidCosts", "InvalidTools", "InvalidWaits", "InvalidCommand"] : List Str), n ∈ gN) n hn) (by decide)⟩,
  i_InvalidStruck := ⟨_, (He.glo_ok X G (c.fact 46)), fun n hn Cn e => by
    cases kcOf_eq e
    exact isB_ok (own_i S) ((by decide : ∀ n ∈ (["InvalidDesk", "InvalidHistory", "InvalidStruck", "InvalidText", "InvalidTry", "InvalidIndex", "InvalidSort", "InvalidStep", "InvalidNumber", "InvalidLot", "InvalidPlan", "InvalidMoves", "InvalidOffers", "InvalidRules", "InvalidBound", "Refused", "InvalidSize", "InvalidWants", "InvalidLedger", "InvalidHouse", "InvalidSeam", "InvalidLots", "InvalidPromise", "InvalidContract", "InvalidCosts", "InvalidTools", "InvalidWaits", "InvalidCommand"] : List Str), n ∈ gN) n hn) (by decide)⟩,
  i_InvalidHistory := ⟨_, (He.glo_ok X G (c.fact 14)), fun n hn Cn e => by
    cases kcOf_eq e
    exact isB_ok (own_i S) ((by decide : ∀ n ∈ (["InvalidDesk", "InvalidHistory", "InvalidStruck", "InvalidText", "InvalidTry", "InvalidIndex", "InvalidSort", "InvalidStep", "InvalidNumber", "InvalidLot", "InvalidPlan", "InvalidMoves", "InvalidOffers", "InvalidRules", "InvalidBound", "Refused", "InvalidSize", "InvalidWants", "InvalidLedger", "InvalidHouse", "InvalidSeam", "InvalidLots", "InvalidPromise", "InvalidContract", "InvalidCosts", "InvalidTools", "InvalidWaits", "InvalidCommand"] : List Str), n ∈ gN) n hn) (by decide)⟩,
  i_InvalidDesk := ⟨_, (He.glo_ok X G (c.fact 12)), fun n hn Cn e => by
    cases kcOf_eq e
    exact isB_ok (own_i S) ((by decide : ∀ n ∈ (["InvalidDesk", "InvalidHistory", "InvalidStruck", "InvalidText", "InvalidTry", "InvalidIndex", "InvalidSort", "InvalidStep", "InvalidNumber", "InvalidLot", "InvalidPlan", "InvalidMoves", "InvalidOffers", "InvalidRules", "InvalidBound", "Refused", "InvalidSize", "InvalidWants", "InvalidLedger", "InvalidHouse", "InvalidSeam", "InvalidLots", "InvalidPromise", "InvalidContract", "InvalidCosts", "InvalidTools", "InvalidWaits", "InvalidCommand"] : List Str), n ∈ gN) n hn) (by decide)⟩,
  h_InvalidBound := ⟨_, fun Y hm hg => ⟨⟨hg, by decide, .inl (by rw [hm]; exact (He.glo_ok X G (c.fact 5)))⟩, fun n hn Cn e => by
    cases kcOf_eq e
    exact (grpB_ok (own_g S) ((by decide : ∀ n ∈ (["InvalidDesk", "InvalidHistory", "InvalidStruck", "InvalidText", "InvalidTry", "InvalidIndex", "InvalidSort", "InvalidStep", "InvalidNumber", "InvalidLot", "InvalidPlan", "InvalidMoves", "InvalidOffers", "InvalidRules", "InvalidBound", "Refused", "InvalidSize", "InvalidWants", "InvalidLedger", "InvalidHouse", "InvalidSeam", "InvalidLots", "InvalidPromise", "InvalidContract", "InvalidCosts", "InvalidTools", "InvalidWaits", "InvalidCommand"] : List Str), n ∈ gN) n hn)).2.1 _ (by decide)⟩⟩,
  f_InvalidBound := fun n hn Cn e => by
    cases kcOf_eq e
    have z := grpB_ok (own_g S) ((by decide : ∀ n ∈ (["InvalidDesk", "InvalidHistory", "InvalidStruck", "InvalidText", "InvalidTry", "InvalidIndex", "InvalidSort", "InvalidStep", "InvalidNumber", "InvalidLot", "InvalidPlan", "InvalidMoves", "InvalidOffers", "InvalidRules", "InvalidBound", "Refused", "InvalidSize", "InvalidWants", "InvalidLedger", "InvalidHouse", "InvalidSeam", "InvalidLots", "InvalidPromise", "InvalidContract", "InvalidCosts", "InvalidTools", "InvalidWaits", "InvalidCommand"] : List Str), n ∈ gN) n hn)
    exact ⟨z.1, z.2.2 _ (by decide)⟩,
  h_InvalidCommand := ⟨_, fun Y hm hg => ⟨⟨hg, by decide, .inl (by rw [hm]; exact (He.glo_ok X G (c.fact 60)))⟩, fun n hn Cn e => by
    cases kcOf_eq e
    exact (grpB_ok (own_g S) ((by decide : ∀ n ∈ (["InvalidDesk", "InvalidHistory", "InvalidStruck", "InvalidText", "InvalidTry", "InvalidIndex", "InvalidSort", "InvalidStep", "InvalidNumber", "InvalidLot", "InvalidPlan", "InvalidMoves", "InvalidOffers", "InvalidRules", "InvalidBound", "Refused", "InvalidSize", "InvalidWants", "InvalidLedger", "InvalidHouse", "InvalidSeam", "InvalidLots", "InvalidPromise", "InvalidContract", "InvalidCosts", "InvalidTools", "InvalidWaits", "InvalidCommand"] : List Str), n ∈ gN) n hn)).2.1 _ (by decide)⟩⟩,
  f_InvalidCommand := fun n hn Cn e => by
    cases kcOf_eq e
    have z := grpB_ok (own_g S) ((by decide : ∀ n ∈ (["InvalidDesk", "InvalidHistory", "InvalidStruck", "InvalidText", "InvalidTry", "InvalidIndex", "InvalidSort", "InvalidStep", "InvalidNumber", "InvalidLot", "InvalidPlan", "InvalidMoves", "InvalidOffers", "InvalidRules", "InvalidBound", "Refused", "InvalidSize", "InvalidWants", "InvalidLedger", "InvalidHouse", "InvalidSeam", "InvalidLots", "InvalidPromise", "InvalidContract", "InvalidCosts", "InvalidTools", "InvalidWaits", "InvalidCommand"] : List Str), n ∈ gN) n hn)
    exact ⟨z.1, z.2.2 _ (by decide)⟩,
  h_InvalidContract := ⟨_, fun Y hm hg => ⟨⟨hg, by decide, .inl (by rw [hm]; exact (He.glo_ok X G (c.fact 8)))⟩, fun n hn Cn e => by
    cases kcOf_eq e
    exact (grpB_ok (own_g S) ((by decide : ∀ n ∈ (["InvalidDesk", "InvalidHistory", "InvalidStruck", "InvalidText", "InvalidTry", "InvalidIndex", "InvalidSort", "InvalidStep", "InvalidNumber", "InvalidLot", "InvalidPlan", "InvalidMoves", "InvalidOffers", "InvalidRules", "InvalidBound", "Refused", "InvalidSize", "InvalidWants", "InvalidLedger", "InvalidHouse", "InvalidSeam", "InvalidLots", "InvalidPromise", "InvalidContract", "InvalidCosts", "InvalidTools", "InvalidWaits", "InvalidCommand"] : List Str), n ∈ gN) n hn)).2.1 _ (by decide)⟩⟩,
  f_InvalidContract := fun n hn Cn e => by
    cases kcOf_eq e
    have z := grpB_ok (own_g S) ((by decide : ∀ n ∈ (["InvalidDesk", "InvalidHistory", "InvalidStruck", "InvalidText", "InvalidTry", "InvalidIndex", "InvalidSort", "InvalidStep", "InvalidNumber", "InvalidLot", "InvalidPlan", "InvalidMoves", "InvalidOffers", "InvalidRules", "InvalidBound", "Refused", "InvalidSize", "InvalidWants", "InvalidLedger", "InvalidHouse", "InvalidSeam", "InvalidLots", "InvalidPromise", "InvalidContract", "InvalidCosts", "InvalidTools", "InvalidWaits", "InvalidCommand"] : List Str), n ∈ gN) n hn)
    exact ⟨z.1, z.2.2 _ (by decide)⟩,
  h_InvalidCosts := ⟨_, fun Y hm hg => ⟨⟨hg, by decide, .inl (by rw [hm]; exact (He.glo_ok X G (c.fact 10)))⟩, fun n hn Cn e => by
    cases kcOf_eq e
    exact (grpB_ok (own_g S) ((by decide : ∀ n ∈ (["InvalidDesk", "InvalidHistory", "InvalidStruck", "InvalidText", "InvalidTry", "InvalidIndex", "InvalidSort", "InvalidStep", "InvalidNumber", "InvalidLot", "InvalidPlan", "InvalidMoves", "InvalidOffers", "InvalidRules", "InvalidBound", "Refused", "InvalidSize", "InvalidWants", "InvalidLedger", "InvalidHouse", "InvalidSeam", "InvalidLots", "InvalidPromise", "InvalidContract", "InvalidCosts", "InvalidTools", "InvalidWaits", "InvalidCommand"] : List Str), n ∈ gN) n hn)).2.1 _ (by decide)⟩⟩,
  f_InvalidCosts := fun n hn Cn e => by
    cases kcOf_eq e
    have z := grpB_ok (own_g S) ((by decide : ∀ n ∈ (["InvalidDesk", "InvalidHistory", "InvalidStruck", "InvalidText", "InvalidTry", "InvalidIndex", "InvalidSort", "InvalidStep", "InvalidNumber", "InvalidLot", "InvalidPlan", "InvalidMoves", "InvalidOffers", "InvalidRules", "InvalidBound", "Refused", "InvalidSize", "InvalidWants", "InvalidLedger", "InvalidHouse", "InvalidSeam", "InvalidLots", "InvalidPromise", "InvalidContract", "InvalidCosts", "InvalidTools", "InvalidWaits", "InvalidCommand"] : List Str), n ∈ gN) n hn)
    exact ⟨z.1, z.2.2 _ (by decide)⟩,
  h_InvalidDesk := ⟨_, fun Y hm hg => ⟨⟨hg, by decide, .inl (by rw [hm]; exact (He.glo_ok X G (c.fact 12)))⟩, fun n hn Cn e => by
    cases kcOf_eq e
    exact (grpB_ok (own_g S) ((by decide : ∀ n ∈ (["InvalidDesk", "InvalidHistory", "InvalidStruck", "InvalidText", "InvalidTry", "InvalidIndex", "InvalidSort", "InvalidStep", "InvalidNumber", "InvalidLot", "InvalidPlan", "InvalidMoves", "InvalidOffers", "InvalidRules", "InvalidBound", "Refused", "InvalidSize", "InvalidWants", "InvalidLedger", "InvalidHouse", "InvalidSeam", "InvalidLots", "InvalidPromise", "InvalidContract", "InvalidCosts", "InvalidTools", "InvalidWaits", "InvalidCommand"] : List Str), n ∈ gN) n hn)).2.1 _ (by decide)⟩⟩,
  f_InvalidDesk := fun n hn Cn e => by
    cases kcOf_eq e
    have z := grpB_ok (own_g S) ((by decide : ∀ n ∈ (["InvalidDesk", "InvalidHistory", "InvalidStruck", "InvalidText", "InvalidTry", "InvalidIndex", "InvalidSort", "InvalidStep", "InvalidNumber", "InvalidLot", "InvalidPlan", "InvalidMoves", "InvalidOffers", "InvalidRules", "InvalidBound", "Refused", "InvalidSize", "InvalidWants", "InvalidLedger", "InvalidHouse", "InvalidSeam", "InvalidLots", "InvalidPromise", "InvalidContract", "InvalidCosts", "InvalidTools", "InvalidWaits", "InvalidCommand"] : List Str), n ∈ gN) n hn)
    exact ⟨z.1, z.2.2 _ (by decide)⟩,
  h_InvalidHistory := ⟨_, fun Y hm hg => ⟨⟨hg, by decide, .inl (by rw [hm]; exact (He.glo_ok X G (c.fact 14)))⟩, fun n hn Cn e => by
    cases kcOf_eq e
    exact (grpB_ok (own_g S) ((by decide : ∀ n ∈ (["InvalidDesk", "InvalidHistory", "InvalidStruck", "InvalidText", "InvalidTry", "InvalidIndex", "InvalidSort", "InvalidStep", "InvalidNumber", "InvalidLot", "InvalidPlan", "InvalidMoves", "InvalidOffers", "InvalidRules", "InvalidBound", "Refused", "InvalidSize", "InvalidWants", "InvalidLedger", "InvalidHouse", "InvalidSeam", "InvalidLots", "InvalidPromise", "InvalidContract", "InvalidCosts", "InvalidTools", "InvalidWaits", "InvalidCommand"] : List Str), n ∈ gN) n hn)).2.1 _ (by decide)⟩⟩,
  f_InvalidHistory := fun n hn Cn e => by
    cases kcOf_eq e
    have z := grpB_ok (own_g S) ((by decide : ∀ n ∈ (["InvalidDesk", "InvalidHistory", "InvalidStruck", "InvalidText", "InvalidTry", "InvalidIndex", "InvalidSort", "InvalidStep", "InvalidNumber", "InvalidLot", "InvalidPlan", "InvalidMoves", "InvalidOffers", "InvalidRules", "InvalidBound", "Refused", "InvalidSize", "InvalidWants", "InvalidLedger", "InvalidHouse", "InvalidSeam", "InvalidLots", "InvalidPromise", "InvalidContract", "InvalidCosts", "InvalidTools", "InvalidWaits", "InvalidCommand"] : List Str), n ∈ gN) n hn)
    exact ⟨z.1, z.2.2 _ (by decide)⟩,
  h_InvalidHouse := ⟨_, fun Y hm hg => ⟨⟨hg, by decide, .inl (by rw [hm]; exact (He.glo_ok X G (c.fact 16)))⟩, fun n hn Cn e => by
    cases kcOf_eq e
    exact (grpB_ok (own_g S) ((by decide : ∀ n ∈ (["InvalidDesk", "InvalidHistory", "InvalidStruck", "InvalidText", "InvalidTry", "InvalidIndex", "InvalidSort", "InvalidStep", "InvalidNumber", "InvalidLot", "InvalidPlan", "InvalidMoves", "InvalidOffers", "InvalidRules", "InvalidBound", "Refused", "InvalidSize", "InvalidWants", "InvalidLedger", "InvalidHouse", "InvalidSeam", "InvalidLots", "InvalidPromise", "InvalidContract", "InvalidCosts", "InvalidTools", "InvalidWaits", "InvalidCommand"] : List Str), n ∈ gN) n hn)).2.1 _ (by decide)⟩⟩,
  f_InvalidHouse := fun n hn Cn e => by
    cases kcOf_eq e
    have z := grpB_ok (own_g S) ((by decide : ∀ n ∈ (["InvalidDesk", "InvalidHistory", "InvalidStruck", "InvalidText", "InvalidTry", "InvalidIndex", "InvalidSort", "InvalidStep", "InvalidNumber", "InvalidLot", "InvalidPlan", "InvalidMoves", "InvalidOffers", "InvalidRules", "InvalidBound", "Refused", "InvalidSize", "InvalidWants", "InvalidLedger", "InvalidHouse", "InvalidSeam", "InvalidLots", "InvalidPromise", "InvalidContract", "InvalidCosts", "InvalidTools", "InvalidWaits", "InvalidCommand"] : List Str), n ∈ gN) n hn)
    exact ⟨z.1, z.2.2 _ (by decide)⟩,
  h_InvalidIndex := ⟨_, fun Y hm hg => ⟨⟨hg, by decide, .inl (by rw [hm]; exact (He.glo_ok X G (c.fact 18)))⟩, fun n hn Cn e => by
    cases kcOf_eq e
    exact (grpB_ok (own_g S) ((by decide : ∀ n ∈ (["InvalidDesk", "InvalidHistory", "InvalidStruck", "InvalidText", "InvalidTry", "InvalidIndex", "InvalidSort", "InvalidStep", "InvalidNumber", "InvalidLot", "InvalidPlan", "InvalidMoves", "InvalidOffers", "InvalidRules", "InvalidBound", "Refused", "InvalidSize", "InvalidWants", "InvalidLedger", "InvalidHouse", "InvalidSeam", "InvalidLots", "InvalidPromise", "InvalidContract", "InvalidCosts", "InvalidTools", "InvalidWaits", "InvalidCommand"] : List Str), n ∈ gN) n hn)).2.1 _ (by decide)⟩⟩,
  f_InvalidIndex := fun n hn Cn e => by
    cases kcOf_eq e
    have z := grpB_ok (own_g S) ((by decide : ∀ n ∈ (["InvalidDesk", "InvalidHistory", "InvalidStruck", "InvalidText", "InvalidTry", "InvalidIndex", "InvalidSort", "InvalidStep", "InvalidNumber", "InvalidLot", "InvalidPlan", "InvalidMoves", "InvalidOffers", "InvalidRules", "InvalidBound", "Refused", "InvalidSize", "InvalidWants", "InvalidLedger", "InvalidHouse", "InvalidSeam", "InvalidLots", "InvalidPromise", "InvalidContract", "InvalidCosts", "InvalidTools", "InvalidWaits", "InvalidCommand"] : List Str), n ∈ gN) n hn)
    exact ⟨z.1, z.2.2 _ (by decide)⟩,
  h_InvalidLedger := ⟨_, fun Y hm hg => ⟨⟨hg, by decide, .inl (by rw [hm]; exact (He.glo_ok X G (c.fact 20)))⟩, fun n hn Cn e => by
    cases kcOf_eq e
    exact (grpB_ok (own_g S) ((by decide : ∀ n ∈ (["InvalidDesk", "InvalidHistory", "InvalidStruck", "InvalidText", "InvalidTry", "InvalidIndex", "InvalidSort", "InvalidStep", "InvalidNumber", "InvalidLot", "InvalidPlan", "InvalidMoves", "InvalidOffers", "InvalidRules", "InvalidBound", "Refused", "InvalidSize", "InvalidWants", "InvalidLedger", "InvalidHouse", "InvalidSeam", "InvalidLots", "InvalidPromise", "InvalidContract", "InvalidCosts", "InvalidTools", "InvalidWaits", "InvalidCommand"] : List Str), n ∈ gN) n hn)).2.1 _ (by decide)⟩⟩,
  f_InvalidLedger := fun n hn Cn e => by
    cases kcOf_eq e
    have z := grpB_ok (own_g S) ((by decide : ∀ n ∈ (["InvalidDesk", "InvalidHistory", "InvalidStruck", "InvalidText", "InvalidTry", "InvalidIndex", "InvalidSort", "InvalidStep", "InvalidNumber", "InvalidLot", "InvalidPlan", "InvalidMoves", "InvalidOffers", "InvalidRules", "InvalidBound", "Refused", "InvalidSize", "InvalidWants", "InvalidLedger", "InvalidHouse", "InvalidSeam", "InvalidLots", "InvalidPromise", "InvalidContract", "InvalidCosts", "InvalidTools", "InvalidWaits", "InvalidCommand"] : List Str), n ∈ gN) n hn)
    exact ⟨z.1, z.2.2 _ (by decide)⟩,
  h_InvalidLot := ⟨_, fun Y hm hg => ⟨⟨hg, by decide, .inl (by rw [hm]; exact (He.glo_ok X G (c.fact 22)))⟩, fun n hn Cn e => by
    cases kcOf_eq e
    exact (grpB_ok (own_g S) ((by decide : ∀ n ∈ (["InvalidDesk", "InvalidHistory", "InvalidStruck", "InvalidText", "InvalidTry", "InvalidIndex", "InvalidSort", "InvalidStep", "InvalidNumber", "InvalidLot", "InvalidPlan", "InvalidMoves", "InvalidOffers", "InvalidRules", "InvalidBound", "Refused", "InvalidSize", "InvalidWants", "InvalidLedger", "InvalidHouse", "InvalidSeam", "InvalidLots", "InvalidPromise", "InvalidContract", "InvalidCosts", "InvalidTools", "InvalidWaits", "InvalidCommand"] : List Str), n ∈ gN) n hn)).2.1 _ (by decide)⟩⟩,
  f_InvalidLot := fun n hn Cn e => by
    cases kcOf_eq e
    have z := grpB_ok (own_g S) ((by decide : ∀ n ∈ (["InvalidDesk", "InvalidHistory", "InvalidStruck", "InvalidText", "InvalidTry", "InvalidIndex", "InvalidSort", "InvalidStep", "InvalidNumber", "InvalidLot", "InvalidPlan", "InvalidMoves", "InvalidOffers", "InvalidRules", "InvalidBound", "Refused", "InvalidSize", "InvalidWants", "InvalidLedger", "InvalidHouse", "InvalidSeam", "InvalidLots", "InvalidPromise", "InvalidContract", "InvalidCosts", "InvalidTools", "InvalidWaits", "InvalidCommand"] : List Str), n ∈ gN) n hn)
    exact ⟨z.1, z.2.2 _ (by decide)⟩,
  h_InvalidLots := ⟨_, fun Y hm hg => ⟨⟨hg, by decide, .inl (by rw [hm]; exact (He.glo_ok X G (c.fact 24)))⟩, fun n hn Cn e => by
    cases kcOf_eq e
    exact (grpB_ok (own_g S) ((by decide : ∀ n ∈ (["InvalidDesk", "InvalidHistory", "InvalidStruck", "InvalidText", "InvalidTry", "InvalidIndex", "InvalidSort", "InvalidStep", "InvalidNumber", "InvalidLot", "InvalidPlan", "InvalidMoves", "InvalidOffers", "InvalidRules", "InvalidBound", "Refused", "InvalidSize", "InvalidWants", "InvalidLedger", "InvalidHouse", "InvalidSeam", "InvalidLots", "InvalidPromise", "InvalidContract", "InvalidCosts", "InvalidTools", "InvalidWaits", "InvalidCommand"] : List Str), n ∈ gN) n hn)).2.1 _ (by decide)⟩⟩,
  f_InvalidLots := fun n hn Cn e => by
    cases kcOf_eq e
    have z := grpB_ok (own_g S) ((by decide : ∀ n ∈ (["InvalidDesk", "InvalidHistory", "InvalidStruck", "InvalidText", "InvalidTry", "InvalidIndex", "InvalidSort", "InvalidStep", "InvalidNumber", "InvalidLot", "InvalidPlan", "InvalidMoves", "InvalidOffers", "InvalidRules", "InvalidBound", "Refused", "InvalidSize", "InvalidWants", "InvalidLedger", "InvalidHouse", "InvalidSeam", "InvalidLots", "InvalidPromise", "InvalidContract", "InvalidCosts", "InvalidTools", "InvalidWaits", "InvalidCommand"] : List Str), n ∈ gN) n hn)
    exact ⟨z.1, z.2.2 _ (by decide)⟩,
  h_InvalidMoves := ⟨_, fun Y hm hg => ⟨⟨hg, by decide, .inl (by rw [hm]; exact (He.glo_ok X G (c.fact 26)))⟩, fun n hn Cn e => by
    cases kcOf_eq e
    exact (grpB_ok (own_g S) ((by decide : ∀ n ∈ (["InvalidDesk", "InvalidHistory", "InvalidStruck", "InvalidText", "InvalidTry", "InvalidIndex", "InvalidSort", "InvalidStep", "InvalidNumber", "InvalidLot", "InvalidPlan", "InvalidMoves", "InvalidOffers", "InvalidRules", "InvalidBound", "Refused", "InvalidSize", "InvalidWants", "InvalidLedger", "InvalidHouse", "InvalidSeam", "InvalidLots", "InvalidPromise", "InvalidContract", "InvalidCosts", "InvalidTools", "InvalidWaits", "InvalidCommand"] : List Str), n ∈ gN) n hn)).2.1 _ (by decide)⟩⟩,
  f_InvalidMoves := fun n hn Cn e => by
    cases kcOf_eq e
    have z := grpB_ok (own_g S) ((by decide : ∀ n ∈ (["InvalidDesk", "InvalidHistory", "InvalidStruck", "InvalidText", "InvalidTry", "InvalidIndex", "InvalidSort", "InvalidStep", "InvalidNumber", "InvalidLot", "InvalidPlan", "InvalidMoves", "InvalidOffers", "InvalidRules", "InvalidBound", "Refused", "InvalidSize", "InvalidWants", "InvalidLedger", "InvalidHouse", "InvalidSeam", "InvalidLots", "InvalidPromise", "InvalidContract", "InvalidCosts", "InvalidTools", "InvalidWaits", "InvalidCommand"] : List Str), n ∈ gN) n hn)
    exact ⟨z.1, z.2.2 _ (by decide)⟩,
  h_InvalidNumber := ⟨_, fun Y hm hg => ⟨⟨hg, by decide, .inl (by rw [hm]; exact (He.glo_ok X G (c.fact 28)))⟩, fun n hn Cn e => by
    cases kcOf_eq e
    exact (grpB_ok (own_g S) ((by decide : ∀ n ∈ (["InvalidDesk", "InvalidHistory", "InvalidStruck", "InvalidText", "InvalidTry", "InvalidIndex", "InvalidSort", "InvalidStep", "InvalidNumber", "InvalidLot", "InvalidPlan", "InvalidMoves", "InvalidOffers", "InvalidRules", "InvalidBound", "Refused", "InvalidSize", "InvalidWants", "InvalidLedger", "InvalidHouse", "InvalidSeam", "InvalidLots", "InvalidPromise", "InvalidContract", "InvalidCosts", "InvalidTools", "InvalidWaits", "InvalidCommand"] : List Str), n ∈ gN) n hn)).2.1 _ (by decide)⟩⟩,
  f_InvalidNumber := fun n hn Cn e => by
    cases kcOf_eq e
    have z := grpB_ok (own_g S) ((by decide : ∀ n ∈ (["InvalidDesk", "InvalidHistory", "InvalidStruck", "InvalidText", "InvalidTry", "InvalidIndex", "InvalidSort", "InvalidStep", "InvalidNumber", "InvalidLot", "InvalidPlan", "InvalidMoves", "InvalidOffers", "InvalidRules", "InvalidBound", "Refused", "InvalidSize", "InvalidWants", "InvalidLedger", "InvalidHouse", "InvalidSeam", "InvalidLots", "InvalidPromise", "InvalidContract", "InvalidCosts", "InvalidTools", "InvalidWaits", "InvalidCommand"] : List Str), n ∈ gN) n hn)
    exact ⟨z.1, z.2.2 _ (by decide)⟩,
  h_InvalidOffers := ⟨_, fun Y hm hg => ⟨⟨hg, by decide, .inl (by rw [hm]; exact (He.glo_ok X G (c.fact 30)))⟩, fun n hn Cn e => by
    cases kcOf_eq e
    exact (grpB_ok (own_g S) ((by decide : ∀ n ∈ (["InvalidDesk", "InvalidHistory", "InvalidStruck", "InvalidText", "InvalidTry", "InvalidIndex", "InvalidSort", "InvalidStep", "InvalidNumber", "InvalidLot", "InvalidPlan", "InvalidMoves", "InvalidOffers", "InvalidRules", "InvalidBound", "Refused", "InvalidSize", "InvalidWants", "InvalidLedger", "InvalidHouse", "InvalidSeam", "InvalidLots", "InvalidPromise", "InvalidContract", "InvalidCosts", "InvalidTools", "InvalidWaits", "InvalidCommand"] : List Str), n ∈ gN) n hn)).2.1 _ (by decide)⟩⟩,
  f_InvalidOffers := fun n hn Cn e => by
    cases kcOf_eq e
    have z := grpB_ok (own_g S) ((by decide : ∀ n ∈ (["InvalidDesk", "InvalidHistory", "InvalidStruck", "InvalidText", "InvalidTry", "InvalidIndex", "InvalidSort", "InvalidStep", "InvalidNumber", "InvalidLot", "InvalidPlan", "InvalidMoves", "InvalidOffers", "InvalidRules", "InvalidBound", "Refused", "InvalidSize", "InvalidWants", "InvalidLedger", "InvalidHouse", "InvalidSeam", "InvalidLots", "InvalidPromise", "InvalidContract", "InvalidCosts", "InvalidTools", "InvalidWaits", "InvalidCommand"] : List Str), n ∈ gN) n hn)
    exact ⟨z.1, z.2.2 _ (by decide)⟩,
  h_InvalidPlan := ⟨_, fun Y hm hg => ⟨⟨hg, by decide, .inl (by rw [hm]; exact (He.glo_ok X G (c.fact 32)))⟩, fun n hn Cn e => by
    cases kcOf_eq e
    exact (grpB_ok (own_g S) ((by decide : ∀ n ∈ (["InvalidDesk", "InvalidHistory", "InvalidStruck", "InvalidText", "InvalidTry", "InvalidIndex", "InvalidSort", "InvalidStep", "InvalidNumber", "InvalidLot", "InvalidPlan", "InvalidMoves", "InvalidOffers", "InvalidRules", "InvalidBound", "Refused", "InvalidSize", "InvalidWants", "InvalidLedger", "InvalidHouse", "InvalidSeam", "InvalidLots", "InvalidPromise", "InvalidContract", "InvalidCosts", "InvalidTools", "InvalidWaits", "InvalidCommand"] : List Str), n ∈ gN) n hn)).2.1 _ (by decide)⟩⟩,
  f_InvalidPlan := fun n hn Cn e => by
    cases kcOf_eq e
    have z := grpB_ok (own_g S) ((by decide : ∀ n ∈ (["InvalidDesk", "InvalidHistory", "InvalidStruck", "InvalidText", "InvalidTry", "InvalidIndex", "InvalidSort", "InvalidStep", "InvalidNumber", "InvalidLot", "InvalidPlan", "InvalidMoves", "InvalidOffers", "InvalidRules", "InvalidBound", "Refused", "InvalidSize", "InvalidWants", "InvalidLedger", "InvalidHouse", "InvalidSeam", "InvalidLots", "InvalidPromise", "InvalidContract", "InvalidCosts", "InvalidTools", "InvalidWaits", "InvalidCommand"] : List Str), n ∈ gN) n hn)
    exact ⟨z.1, z.2.2 _ (by decide)⟩,
  h_InvalidPromise := ⟨_, fun Y hm hg => ⟨⟨hg, by decide, .inl (by rw [hm]; exact (He.glo_ok X G (c.fact 34)))⟩, fun n hn Cn e => by
    cases kcOf_eq e
    exact (grpB_ok (own_g S) ((by decide : ∀ n ∈ (["InvalidDesk", "InvalidHistory", "InvalidStruck", "InvalidText", "InvalidTry", "InvalidIndex", "InvalidSort", "InvalidStep", "InvalidNumber", "InvalidLot", "InvalidPlan", "InvalidMoves", "InvalidOffers", "InvalidRules", "InvalidBound", "Refused", "InvalidSize", "InvalidWants", "InvalidLedger", "InvalidHouse", "InvalidSeam", "InvalidLots", "InvalidPromise", "InvalidContract", "InvalidCosts", "InvalidTools", "InvalidWaits", "InvalidCommand"] : List Str), n ∈ gN) n hn)).2.1 _ (by decide)⟩⟩,
  f_InvalidPromise := fun n hn Cn e => by
    cases kcOf_eq e
    have z := grpB_ok (own_g S) ((by decide : ∀ n ∈ (["InvalidDesk", "InvalidHistory", "InvalidStruck", "InvalidText", "InvalidTry", "InvalidIndex", "InvalidSort", "InvalidStep", "InvalidNumber", "InvalidLot", "InvalidPlan", "InvalidMoves", "InvalidOffers", "InvalidRules", "InvalidBound", "Refused", "InvalidSize", "InvalidWants", "InvalidLedger", "InvalidHouse", "InvalidSeam", "InvalidLots", "InvalidPromise", "InvalidContract", "InvalidCosts", "InvalidTools", "InvalidWaits", "InvalidCommand"] : List Str), n ∈ gN) n hn)
    exact ⟨z.1, z.2.2 _ (by decide)⟩,
  h_InvalidRules := ⟨_, fun Y hm hg => ⟨⟨hg, by decide, .inl (by rw [hm]; exact (He.glo_ok X G (c.fact 36)))⟩, fun n hn Cn e => by
    cases kcOf_eq e
    exact (grpB_ok (own_g S) ((by decide : ∀ n ∈ (["InvalidDesk", "InvalidHistory", "InvalidStruck", "InvalidText", "InvalidTry", "InvalidIndex", "InvalidSort", "InvalidStep", "InvalidNumber", "InvalidLot", "InvalidPlan", "InvalidMoves", "InvalidOffers", "InvalidRules", "InvalidBound", "Refused", "InvalidSize", "InvalidWants", "InvalidLedger", "InvalidHouse", "InvalidSeam", "InvalidLots", "InvalidPromise", "InvalidContract", "InvalidCosts", "InvalidTools", "InvalidWaits", "InvalidCommand"] : List Str), n ∈ gN) n hn)).2.1 _ (by decide)⟩⟩,
  f_InvalidRules := fun n hn Cn e => by
    cases kcOf_eq e
    have z := grpB_ok (own_g S) ((by decide : ∀ n ∈ (["InvalidDesk", "InvalidHistory", "InvalidStruck", "InvalidText", "InvalidTry", "InvalidIndex", "InvalidSort", "InvalidStep", "InvalidNumber", "InvalidLot", "InvalidPlan", "InvalidMoves", "InvalidOffers", "InvalidRules", "InvalidBound", "Refused", "InvalidSize", "InvalidWants", "InvalidLedger", "InvalidHouse", "InvalidSeam", "InvalidLots", "InvalidPromise", "InvalidContract", "InvalidCosts", "InvalidTools", "InvalidWaits", "InvalidCommand"] : List Str), n ∈ gN) n hn)
    exact ⟨z.1, z.2.2 _ (by decide)⟩,
  h_InvalidSeam := ⟨_, fun Y hm hg => ⟨⟨hg, by decide, .inl (by rw [hm]; exact (He.glo_ok X G (c.fact 38)))⟩, fun n hn Cn e => by
    cases kcOf_eq e
    exact (grpB_ok (own_g S) ((by decide : ∀ n ∈ (["InvalidDesk", "InvalidHistory", "InvalidStruck", "InvalidText", "InvalidTry", "InvalidIndex", "InvalidSort", "InvalidStep", "InvalidNumber", "InvalidLot", "InvalidPlan", "InvalidMoves", "InvalidOffers", "InvalidRules", "InvalidBound", "Refused", "InvalidSize", "InvalidWants", "InvalidLedger", "InvalidHouse", "InvalidSeam", "InvalidLots", "InvalidPromise", "InvalidContract", "InvalidCosts", "InvalidTools", "InvalidWaits", "InvalidCommand"] : List Str), n ∈ gN) n hn)).2.1 _ (by decide)⟩⟩,
  f_InvalidSeam := fun n hn Cn e => by
    cases kcOf_eq e
    have z := grpB_ok (own_g S) ((by decide : ∀ n ∈ (["InvalidDesk", "InvalidHistory", "InvalidStruck", "InvalidText", "InvalidTry", "InvalidIndex", "InvalidSort", "InvalidStep", "InvalidNumber", "InvalidLot", "InvalidPlan", "InvalidMoves", "InvalidOffers", "InvalidRules", "InvalidBound", "Refused", "InvalidSize", "InvalidWants", "InvalidLedger", "InvalidHouse", "InvalidSeam", "InvalidLots", "InvalidPromise", "InvalidContract", "InvalidCosts", "InvalidTools", "InvalidWaits", "InvalidCommand"] : List Str), n ∈ gN) n hn)
    exact ⟨z.1, z.2.2 _ (by decide)⟩,
  h_InvalidSize := ⟨_, fun Y hm hg => ⟨⟨hg, by decide, .inl (by rw [hm]; exact (He.glo_ok X G (c.fact 40)))⟩, fun n hn Cn e => by
    cases kcOf_eq e
    exact (grpB_ok (own_g S) ((by decide : ∀ n ∈ (["InvalidDesk", "InvalidHistory", "InvalidStruck", "InvalidText", "InvalidTry", "InvalidIndex", "InvalidSort", "InvalidStep", "InvalidNumber", "InvalidLot", "InvalidPlan", "InvalidMoves", "InvalidOffers", "InvalidRules", "InvalidBound", "Refused", "InvalidSize", "InvalidWants", "InvalidLedger", "InvalidHouse", "InvalidSeam", "InvalidLots", "InvalidPromise", "InvalidContract", "InvalidCosts", "InvalidTools", "InvalidWaits", "InvalidCommand"] : List Str), n ∈ gN) n hn)).2.1 _ (by decide)⟩⟩,
  f_InvalidSize := fun n hn Cn e => by
    cases kcOf_eq e
    have z := grpB_ok (own_g S) ((by decide : ∀ n ∈ (["InvalidDesk", "InvalidHistory", "InvalidStruck", "InvalidText", "InvalidTry", "InvalidIndex", "InvalidSort", "InvalidStep", "InvalidNumber", "InvalidLot", "InvalidPlan", "InvalidMoves", "InvalidOffers", "InvalidRules", "InvalidBound", "Refused", "InvalidSize", "InvalidWants", "InvalidLedger", "InvalidHouse", "InvalidSeam", "InvalidLots", "InvalidPromise", "InvalidContract", "InvalidCosts", "InvalidTools", "InvalidWaits", "InvalidCommand"] : List Str), n ∈ gN) n hn)
    exact ⟨z.1, z.2.2 _ (by decide)⟩,
  h_InvalidSort := ⟨_, fun Y hm hg => ⟨⟨hg, by decide, .inl (by rw [hm]; exact (He.glo_ok X G (c.fact 42)))⟩, fun n hn Cn e => by
    cases kcOf_eq e
    exact (grpB_ok (own_g S) ((by decide : ∀ n ∈ (["InvalidDesk", "InvalidHistory", "InvalidStruck", "InvalidText", "InvalidTry", "InvalidIndex", "InvalidSort", "InvalidStep", "InvalidNumber", "InvalidLot", "InvalidPlan", "InvalidMoves", "InvalidOffers", "InvalidRules", "InvalidBound", "Refused", "InvalidSize", "InvalidWants", "InvalidLedger", "InvalidHouse", "InvalidSeam", "InvalidLots", "InvalidPromise", "InvalidContract", "InvalidCosts", "InvalidTools", "InvalidWaits", "InvalidCommand"] : List Str), n ∈ gN) n hn)).2.1 _ (by decide)⟩⟩,
  f_InvalidSort := fun n hn Cn e => by
    cases kcOf_eq e
    have z := grpB_ok (own_g S) ((by decide : ∀ n ∈ (["InvalidDesk", "InvalidHistory", "InvalidStruck", "InvalidText", "InvalidTry", "InvalidIndex", "InvalidSort", "InvalidStep", "InvalidNumber", "InvalidLot", "InvalidPlan", "InvalidMoves", "InvalidOffers", "InvalidRules", "InvalidBound", "Refused", "InvalidSize", "InvalidWants", "InvalidLedger", "InvalidHouse", "InvalidSeam", "InvalidLots", "InvalidPromise", "InvalidContract", "InvalidCosts", "InvalidTools", "InvalidWaits", "InvalidCommand"] : List Str), n ∈ gN) n hn)
    exact ⟨z.1, z.2.2 _ (by decide)⟩,
  h_InvalidStep := ⟨_, fun Y hm hg => ⟨⟨hg, by decide, .inl (by rw [hm]; exact (He.glo_ok X G (c.fact 44)))⟩, fun n hn Cn e => by
    cases kcOf_eq e
    exact (grpB_ok (own_g S) ((by decide : ∀ n ∈ (["InvalidDesk", "InvalidHistory", "InvalidStruck", "InvalidText", "InvalidTry", "InvalidIndex", "InvalidSort", "InvalidStep", "InvalidNumber", "InvalidLot", "InvalidPlan", "InvalidMoves", "InvalidOffers", "InvalidRules", "InvalidBound", "Refused", "InvalidSize", "InvalidWants", "InvalidLedger", "InvalidHouse", "InvalidSeam", "InvalidLots", "InvalidPromise", "InvalidContract", "InvalidCosts", "InvalidTools", "InvalidWaits", "InvalidCommand"] : List Str), n ∈ gN) n hn)).2.1 _ (by decide)⟩⟩,
  f_InvalidStep := fun n hn Cn e => by
    cases kcOf_eq e
    have z := grpB_ok (own_g S) ((by decide : ∀ n ∈ (["InvalidDesk", "InvalidHistory", "InvalidStruck", "InvalidText", "InvalidTry", "InvalidIndex", "InvalidSort", "InvalidStep", "InvalidNumber", "InvalidLot", "InvalidPlan", "InvalidMoves", "InvalidOffers", "InvalidRules", "InvalidBound", "Refused", "InvalidSize", "InvalidWants", "InvalidLedger", "InvalidHouse", "InvalidSeam", "InvalidLots", "InvalidPromise", "InvalidContract", "InvalidCosts", "InvalidTools", "InvalidWaits", "InvalidCommand"] : List Str), n ∈ gN) n hn)
    exact ⟨z.1, z.2.2 _ (by decide)⟩,
  h_InvalidStruck := ⟨_, fun Y hm hg => ⟨⟨hg, by decide, .inl (by rw [hm]; exact (He.glo_ok X G (c.fact 46)))⟩, fun n hn Cn e => by
    cases kcOf_eq e
    exact (grpB_ok (own_g S) ((by decide : ∀ n ∈ (["InvalidDesk", "InvalidHistory", "InvalidStruck", "InvalidText", "InvalidTry", "InvalidIndex", "InvalidSort", "InvalidStep", "InvalidNumber", "InvalidLot", "InvalidPlan", "InvalidMoves", "InvalidOffers", "InvalidRules", "InvalidBound", "Refused", "InvalidSize", "InvalidWants", "InvalidLedger", "InvalidHouse", "InvalidSeam", "InvalidLots", "InvalidPromise", "InvalidContract", "InvalidCosts", "InvalidTools", "InvalidWaits", "InvalidCommand"] : List Str), n ∈ gN) n hn)).2.1 _ (by decide)⟩⟩,
  f_InvalidStruck := fun n hn Cn e => by
    cases kcOf_eq e
    have z := grpB_ok (own_g S) ((by decide : ∀ n ∈ (["InvalidDesk", "InvalidHistory", "InvalidStruck", "InvalidText", "InvalidTry", "InvalidIndex", "InvalidSort", "InvalidStep", "InvalidNumber", "InvalidLot", "InvalidPlan", "InvalidMoves", "InvalidOffers", "InvalidRules", "InvalidBound", "Refused", "InvalidSize", "InvalidWants", "InvalidLedger", "InvalidHouse", "InvalidSeam", "InvalidLots", "InvalidPromise", "InvalidContract", "InvalidCosts", "InvalidTools", "InvalidWaits", "InvalidCommand"] : List Str), n ∈ gN) n hn)
    exact ⟨z.1, z.2.2 _ (by decide)⟩,
  h_InvalidText := ⟨_, fun Y hm hg => ⟨⟨hg, by decide, .inl (by rw [hm]; exact (He.glo_ok X G (c.fact 48)))⟩, fun n hn Cn e => by
    cases kcOf_eq e
    exact (grpB_ok (own_g S) ((by decide : ∀ n ∈ (["InvalidDesk", "InvalidHistory", "InvalidStruck", "InvalidText", "InvalidTry", "InvalidIndex", "InvalidSort", "InvalidStep", "InvalidNumber", "InvalidLot", "InvalidPlan", "InvalidMoves", "InvalidOffers", "InvalidRules", "InvalidBound", "Refused", "InvalidSize", "InvalidWants", "InvalidLedger", "InvalidHouse", "InvalidSeam", "InvalidLots", "InvalidPromise", "InvalidContract", "InvalidCosts", "InvalidTools", "InvalidWaits", "InvalidCommand"] : List Str), n ∈ gN) n hn)).2.1 _ (by decide)⟩⟩,
  f_InvalidText := fun n hn Cn e => by
    cases kcOf_eq e
    have z := grpB_ok (own_g S) ((by decide : ∀ n ∈ (["InvalidDesk", "InvalidHistory", "InvalidStruck", "InvalidText", "InvalidTry", "InvalidIndex", "InvalidSort", "InvalidStep", "InvalidNumber", "InvalidLot", "InvalidPlan", "InvalidMoves", "InvalidOffers", "InvalidRules", "InvalidBound", "Refused", "InvalidSize", "InvalidWants", "InvalidLedger", "InvalidHouse", "InvalidSeam", "InvalidLots", "InvalidPromise", "InvalidContract", "InvalidCosts", "InvalidTools", "InvalidWaits", "InvalidCommand"] : List Str), n ∈ gN) n hn)
    exact ⟨z.1, z.2.2 _ (by decide)⟩,
  h_InvalidTools := ⟨_, fun Y hm hg => ⟨⟨hg, by decide, .inl (by rw [hm]; exact (He.glo_ok X G (c.fact 50)))⟩, fun n hn Cn e => by
    cases kcOf_eq e
    exact (grpB_ok (own_g S) ((by decide : ∀ n ∈ (["InvalidDesk", "InvalidHistory", "InvalidStruck", "InvalidText", "InvalidTry", "InvalidIndex", "InvalidSort", "InvalidStep", "InvalidNumber", "InvalidLot", "InvalidPlan", "InvalidMoves", "InvalidOffers", "InvalidRules", "InvalidBound", "Refused", "InvalidSize", "InvalidWants", "InvalidLedger", "InvalidHouse", "InvalidSeam", "InvalidLots", "InvalidPromise", "InvalidContract", "InvalidCosts", "InvalidTools", "InvalidWaits", "InvalidCommand"] : List Str), n ∈ gN) n hn)).2.1 _ (by decide)⟩⟩,
  f_InvalidTools := fun n hn Cn e => by
    cases kcOf_eq e
    have z := grpB_ok (own_g S) ((by decide : ∀ n ∈ (["InvalidDesk", "InvalidHistory", "InvalidStruck", "InvalidText", "InvalidTry", "InvalidIndex", "InvalidSort", "InvalidStep", "InvalidNumber", "InvalidLot", "InvalidPlan", "InvalidMoves", "InvalidOffers", "InvalidRules", "InvalidBound", "Refused", "InvalidSize", "InvalidWants", "InvalidLedger", "InvalidHouse", "InvalidSeam", "InvalidLots", "InvalidPromise", "InvalidContract", "InvalidCosts", "InvalidTools", "InvalidWaits", "InvalidCommand"] : List Str), n ∈ gN) n hn)
    exact ⟨z.1, z.2.2 _ (by decide)⟩,
  h_InvalidTry := ⟨_, fun Y hm hg => ⟨⟨hg, by decide, .inl (by rw [hm]; exact (He.glo_ok X G (c.fact 52)))⟩, fun n hn Cn e => by
    cases kcOf_eq e
    exact (grpB_ok (own_g S) ((by decide : ∀ n ∈ (["InvalidDesk", "InvalidHistory", "InvalidStruck", "InvalidText", "InvalidTry", "InvalidIndex", "InvalidSort", "InvalidStep", "InvalidNumber", "InvalidLot", "InvalidPlan", "InvalidMoves", "InvalidOffers", "InvalidRules", "InvalidBound", "Refused", "InvalidSize", "InvalidWants", "InvalidLedger", "InvalidHouse", "InvalidSeam", "InvalidLots", "InvalidPromise", "InvalidContract", "InvalidCosts", "InvalidTools", "InvalidWaits", "InvalidCommand"] : List Str), n ∈ gN) n hn)).2.1 _ (by decide)⟩⟩,
  f_InvalidTry := fun n hn Cn e => by
    cases kcOf_eq e
    have z := grpB_ok (own_g S) ((by decide : ∀ n ∈ (["InvalidDesk", "InvalidHistory", "InvalidStruck", "InvalidText", "InvalidTry", "InvalidIndex", "InvalidSort", "InvalidStep", "InvalidNumber", "InvalidLot", "InvalidPlan", "InvalidMoves", "InvalidOffers", "InvalidRules", "InvalidBound", "Refused", "InvalidSize", "InvalidWants", "InvalidLedger", "InvalidHouse", "InvalidSeam", "InvalidLots", "InvalidPromise", "InvalidContract", "InvalidCosts", "InvalidTools", "InvalidWaits", "InvalidCommand"] : List Str), n ∈ gN) n hn)
    exact ⟨z.1, z.2.2 _ (by decide)⟩,
  h_InvalidWaits := ⟨_, fun Y hm hg => ⟨⟨hg, by decide, .inl (by rw [hm]; exact (He.glo_ok X G (c.fact 54)))⟩, fun n hn Cn e => by
    cases kcOf_eq e
    exact (grpB_ok (own_g S) ((by decide : ∀ n ∈ (["InvalidDesk", "InvalidHistory", "InvalidStruck", "InvalidText", "InvalidTry", "InvalidIndex", "InvalidSort", "InvalidStep", "InvalidNumber", "InvalidLot", "InvalidPlan", "InvalidMoves", "InvalidOffers", "InvalidRules", "InvalidBound", "Refused", "InvalidSize", "InvalidWants", "InvalidLedger", "InvalidHouse", "InvalidSeam", "InvalidLots", "InvalidPromise", "InvalidContract", "InvalidCosts", "InvalidTools", "InvalidWaits", "InvalidCommand"] : List Str), n ∈ gN) n hn)).2.1 _ (by decide)⟩⟩,
  f_InvalidWaits := fun n hn Cn e => by
    cases kcOf_eq e
    have z := grpB_ok (own_g S) ((by decide : ∀ n ∈ (["InvalidDesk", "InvalidHistory", "InvalidStruck", "InvalidText", "InvalidTry", "InvalidIndex", "InvalidSort", "InvalidStep", "InvalidNumber", "InvalidLot", "InvalidPlan", "InvalidMoves", "InvalidOffers", "InvalidRules", "InvalidBound", "Refused", "InvalidSize", "InvalidWants", "InvalidLedger", "InvalidHouse", "InvalidSeam", "InvalidLots", "InvalidPromise", "InvalidContract", "InvalidCosts", "InvalidTools", "InvalidWaits", "InvalidCommand"] : List Str), n ∈ gN) n hn)
    exact ⟨z.1, z.2.2 _ (by decide)⟩,
  h_InvalidWants := ⟨_, fun Y hm hg => ⟨⟨hg, by decide, .inl (by rw [hm]; exact (He.glo_ok X G (c.fact 56)))⟩, fun n hn Cn e => by
    cases kcOf_eq e
    exact (grpB_ok (own_g S) ((by decide : ∀ n ∈ (["InvalidDesk", "InvalidHistory", "InvalidStruck", "InvalidText", "InvalidTry", "InvalidIndex", "InvalidSort", "InvalidStep", "InvalidNumber", "InvalidLot", "InvalidPlan", "InvalidMoves", "InvalidOffers", "InvalidRules", "InvalidBound", "Refused", "InvalidSize", "InvalidWants", "InvalidLedger", "InvalidHouse", "InvalidSeam", "InvalidLots", "InvalidPromise", "InvalidContract", "InvalidCosts", "InvalidTools", "InvalidWaits", "InvalidCommand"] : List Str), n ∈ gN) n hn)).2.1 _ (by decide)⟩⟩,
  f_InvalidWants := fun n hn Cn e => by
    cases kcOf_eq e
    have z := grpB_ok (own_g S) ((by decide : ∀ n ∈ (["InvalidDesk", "InvalidHistory", "InvalidStruck", "InvalidText", "InvalidTry", "InvalidIndex", "InvalidSort", "InvalidStep", "InvalidNumber", "InvalidLot", "InvalidPlan", "InvalidMoves", "InvalidOffers", "InvalidRules", "InvalidBound", "Refused", "InvalidSize", "InvalidWants", "InvalidLedger", "InvalidHouse", "InvalidSeam", "InvalidLots", "InvalidPromise", "InvalidContract", "InvalidCosts", "InvalidTools", "InvalidWaits", "InvalidCommand"] : List Str), n ∈ gN) n hn)
    exact ⟨z.1, z.2.2 _ (by decide)⟩,
  h_LateError := ⟨_, fun Y hm hg => ⟨⟨hg, by decide, .inl (by rw [hm]; exact (He.glo_ok X G (c.fact 61)))⟩, fun n hn Cn e => by
    cases kcOf_eq e
    exact (grpB_ok (own_g S) ((by decide : ∀ n ∈ (["InvalidDesk", "InvalidHistory", "InvalidStruck", "InvalidText", "InvalidTry", "InvalidIndex", "InvalidSort", "InvalidStep", "InvalidNumber", "InvalidLot", "InvalidPlan", "InvalidMoves", "InvalidOffers", "InvalidRules", "InvalidBound", "Refused", "InvalidSize", "InvalidWants", "InvalidLedger", "InvalidHouse", "InvalidSeam", "InvalidLots", "InvalidPromise", "InvalidContract", "InvalidCosts", "InvalidTools", "InvalidWaits", "InvalidCommand"] : List Str), n ∈ gN) n hn)).2.1 _ (by decide)⟩⟩,
  f_LateError := fun n hn Cn e => by
    cases kcOf_eq e
    have z := grpB_ok (own_g S) ((by decide : ∀ n ∈ (["InvalidDesk", "InvalidHistory", "InvalidStruck", "InvalidText", "InvalidTry", "InvalidIndex", "InvalidSort", "InvalidStep", "InvalidNumber", "InvalidLot", "InvalidPlan", "InvalidMoves", "InvalidOffers", "InvalidRules", "InvalidBound", "Refused", "InvalidSize", "InvalidWants", "InvalidLedger", "InvalidHouse", "InvalidSeam", "InvalidLots", "InvalidPromise", "InvalidContract", "InvalidCosts", "InvalidTools", "InvalidWaits", "InvalidCommand"] : List Str), n ∈ gN) n hn)
    exact ⟨z.1, z.2.2 _ (by decide)⟩,
  h_Refused := ⟨_, fun Y hm hg => ⟨⟨hg, by decide, .inl (by rw [hm]; exact (He.glo_ok X G (c.fact 58)))⟩, fun n hn Cn e => by
    cases kcOf_eq e
    exact (grpB_ok (own_g S) ((by decide : ∀ n ∈ (["InvalidDesk", "InvalidHistory", "InvalidStruck", "InvalidText", "InvalidTry", "InvalidIndex", "InvalidSort", "InvalidStep", "InvalidNumber", "InvalidLot", "InvalidPlan", "InvalidMoves", "InvalidOffers", "InvalidRules", "InvalidBound", "Refused", "InvalidSize", "InvalidWants", "InvalidLedger", "InvalidHouse", "InvalidSeam", "InvalidLots", "InvalidPromise", "InvalidContract", "InvalidCosts", "InvalidTools", "InvalidWaits", "InvalidCommand"] : List Str), n ∈ gN) n hn)).2.1 _ (by decide)⟩⟩,
  f_Refused := fun n hn Cn e => by
    cases kcOf_eq e
    have z := grpB_ok (own_g S) ((by decide : ∀ n ∈ (["InvalidDesk", "InvalidHistory", "InvalidStruck", "InvalidText", "InvalidTry", "InvalidIndex", "InvalidSort", "InvalidStep", "InvalidNumber", "InvalidLot", "InvalidPlan", "InvalidMoves", "InvalidOffers", "InvalidRules", "InvalidBound", "Refused", "InvalidSize", "InvalidWants", "InvalidLedger", "InvalidHouse", "InvalidSeam", "InvalidLots", "InvalidPromise", "InvalidContract", "InvalidCosts", "InvalidTools", "InvalidWaits", "InvalidCommand"] : List Str), n ∈ gN) n hn)
    exact ⟨z.1, z.2.2 _ (by decide)⟩,
  d__law_box := by
    obtain ⟨f1, h1⟩ := (c.def_ 0 rfl)
    exact ⟨_, f1, (He.glo_ok X G (c.fact 62)), h1⟩,
  d__law_take := by
    obtain ⟨f1, h1⟩ := (c.def_ 1 rfl)
    exact ⟨_, f1, (He.glo_ok X G (c.fact 63)), h1⟩,
  d__law_pick := by
    obtain ⟨f1, h1⟩ := (c.def_ 2 rfl)
    exact ⟨_, f1, (He.glo_ok X G (c.fact 64)), h1⟩,
  d__law_raise_a := by
    obtain ⟨f1, h1⟩ := (c.def_ 3 rfl)
    exact ⟨_, f1, (He.glo_ok X G (c.fact 65)), h1⟩,
  d__law_raise_b := by
    obtain ⟨f1, h1⟩ := (c.def_ 4 rfl)
    exact ⟨_, f1, (He.glo_ok X G (c.fact 66)), h1⟩,
  d__law_raise_c := by
    obtain ⟨f1, h1⟩ := (c.def_ 5 rfl)
    exact ⟨_, f1, (He.glo_ok X G (c.fact 67)), h1⟩,
  d__law_raise_d := by
    obtain ⟨f1, h1⟩ := (c.def_ 6 rfl)
    exact ⟨_, f1, (He.glo_ok X G (c.fact 68)), h1⟩,
  d__law_raise := by
    obtain ⟨f1, h1⟩ := (c.def_ 7 rfl)
    exact ⟨_, f1, (He.glo_ok X G (c.fact 69)), h1⟩,
  d__law_caught_a := by
    obtain ⟨f1, h1⟩ := (c.def_ 8 rfl)
    exact ⟨_, f1, (He.glo_ok X G (c.fact 70)), h1⟩,
  d__law_caught_b := by
    obtain ⟨f1, h1⟩ := (c.def_ 9 rfl)
    exact ⟨_, f1, (He.glo_ok X G (c.fact 71)), h1⟩,
  d__law_caught_c := by
    obtain ⟨f1, h1⟩ := (c.def_ 10 rfl)
    exact ⟨_, f1, (He.glo_ok X G (c.fact 72)), h1⟩,
  d__law_caught_d := by
    obtain ⟨f1, h1⟩ := (c.def_ 11 rfl)
    exact ⟨_, f1, (He.glo_ok X G (c.fact 73)), h1⟩,
  d__law_is_alone := by
    obtain ⟨f1, h1⟩ := (c.def_ 12 rfl)
    exact ⟨_, f1, (He.glo_ok X G (c.fact 74)), h1⟩,
  d_law := by
    obtain ⟨f1, h1⟩ := (c.def_ 13 rfl)
    exact ⟨_, f1, (He.glo_ok X G (c.fact 75)), h1⟩ }
def loose0 : List PySem.Str := ["__name__", "LateError", "InvalidDesk", "InvalidHistory", "InvalidStruck", "InvalidText", "InvalidTry", "InvalidIndex", "InvalidSort", "InvalidStep", "InvalidNumber", "InvalidLot", "InvalidPlan", "InvalidMoves", "InvalidOffers", "InvalidRules", "InvalidBound", "Refused", "InvalidSize", "InvalidWants", "InvalidLedger", "InvalidHouse", "InvalidSeam", "InvalidLots", "InvalidPromise", "InvalidContract", "InvalidCosts", "InvalidTools", "InvalidWaits", "InvalidCommand"]
def loose1 : List PySem.Str := ["_law_box", "_law_take", "_law_pick", "_law_raise_a", "_law_raise_b", "_law_raise_c", "_law_raise_d", "_law_raise", "_law_caught_a", "_law_caught_b", "_law_caught_c", "_law_caught_d", "_law_is_alone"]
def loose : List PySem.Str := loose0 ++ loose1
abbrev R : PySem.W.OpenRow := PySem.W.OpenLaw.row PySem.Challenge.rw_lateno_k00_whole_errors_and_what_they_ke
abbrev hk : PySem.W.Hook := hookO 5 fa fn ins own
def ob (s : PySem.W.SharedT) : Den.Seen := seen 5 fa fn ins own (HandSHeadRun.getT s)
theorem ob_eq (s : PySem.W.SharedT) : ob s = hk.obs s.abs := seen_eq (HandSHeadRun.getT_eq s)
theorem run (w : World) : HandSHeadRun.RunEq R (PySem.W.view R.prog [44]) hk ob 20000 loose w := by
  intro os
  kernel_rfl
/-- the row, from what the law's def does -/
theorem holds (yes : ∀ ns : List Int, ns.length ≤ 63 → F_law [.val (scrD ns)] [] = (.ret (.bool true), [])) : PySem.Challenge.rw_lateno_k00_whole_errors_and_what_they_ke.Holds := by
  w_on; o_law
  refine HandSHeadRun.head_any (r := R) (q := PySem.W.view R.prog [44]) (H := hk) (ob := ob) (M := 20000) (loose := loose) (d := HandSHeadRun.topDef R.prog 44) (kwd := []) ob_eq
    (by kernel_rfl) (fun s => by kernel_rfl) run (by kernel_rfl) (by kernel_rfl) (by kernel_rfl) (by rfl) (by first | assumption | decide +kernel) (by decide +kernel) ⟨rfl, rfl, rfl, rfl, rfl, by decide +kernel⟩ ?hw ?hc
  case hw => w_witness2
  case hc =>
    refine walk_den (l := PySem.Challenge.rw_lateno_k00_whole_errors_and_what_they_ke) (n := 63) rfl (by decide) (by kernel_rfl) fun w mg s fa a vs ns Y G hmg En hlen hbits => ?_
    obtain ⟨K, S⟩ := Y
    have hm : mg ("law" : PySem.Str) = some (.ref fa) := by
      have e : (HandSHeadRun.topDef R.prog 44).name = ("law" : PySem.Str) := by kernel_rfl
      rw [← e]
      exact hmg
    exact answers (facts S G) (En K S.kin) hm (yes ns hlen)
end K00

set_option Elab.async false
set_option linter.all false
set_option maxRecDepth 100000
set_option maxHeartbeats 4000000
namespace K00
open PySem PySem.Spec Den
open PyProof.Rows L2
/-! ### words -/
/-! ### rows of so many things -/
/-! ### kinds -/
/-! ### numbers below limits -/
/-! ### roles -/
/-! ### states of roles -/
/-! ### rows of numbers, their order -/
/-! ### rows of a tool -/
/-! ### tools -/
/-! ### repairs -/
/-! ### rows ascend -/
/-! ### the desk -/
/-! ### tries -/
/-! ### the source of draws -/
theorem take_ok {b : List PD} (hb : Box b) {n : Int} (h : 0 < n) (h2 : n < 2 ^ 62) : ∃ r : Nat, (r : Int) < n ∧ ∃ b', Box b' ∧ F__law_take [.io 0, .val (.int n)] [.lst b] = (.ret (nP r), [.lst b']) := by
  obtain ⟨x, y, z, rfl⟩ := hb
  have key : (fun r : Rt × List MC => ∃ k : Nat, (k : Int) < n ∧ ∃ b', Box b' ∧ r = (.ret (nP k), [.lst b'])) (F__law_take [.io 0, .val (.int n)] [.lst [.int x, .int y, .int z]]) := by
    refine runB_post (T := fun r : Rt × List MC => ∃ k : Nat, (k : Int) < n ∧ ∃ b', Box b' ∧ r = (.ret (nP k), [.lst b'])) rfl ?_
    unfold g__law_take
    have fin : ∀ i : Int, ∃ k : Nat, (k : Int) < n ∧ PyData.int (i % n) = nP k := fun i => by
      have p1 := Int.emod_nonneg i (show n ≠ 0 by omega)
      have p2 := Int.emod_lt_of_pos i h
      exact ⟨(i % n).toNat, by omega, by unfold nP; congr 1; omega⟩
    have h3 : n < 2 ^ 64 := by omega
    have et : (asB (dOp2 pGt (dkE (dOp2 pGet (dkVar 0) (dkE (mpure (.int 0))))) (dkE (mpure (.int 0))))) (rho0 4 [.io 0, .val (.int n)] [.lst [.int x, .int y, .int z]]) = .ok (decide (0 < x)) (rho0 4 [.io 0, .val (.int n)] [.lst [.int x, .int y, .int z]]) := ok_of_wp (by simp [rho0, slotOf, look, ixOf, getC, setC, getM, setM, getL, MC.look, MC.pd, killS, turnQ, lkOf, outB, iosOf, arsOf, wp_tail, mAppend, mExtend, mPop, wp_dFor, wp_dComp, wp_dIterV, wp_dSeqs, slOkN, lendR, lendB, unS, compEnd, enumD_eq])
    rw [wp_ifT et]
    by_cases hx : 0 < x
    · rw [if_pos (by simpa using hx), wp_assoc]
      refine wp_seq (ρ1 := ⟨[.io 0, .val (.int n), .no, .val (.int (x % n))], [.lst [.int x, .int y, .int z]]⟩) (by simp [rho0, slotOf, look, ixOf, getC, setC, getM, setM, getL, MC.look, MC.pd, killS, turnQ, lkOf, outB, iosOf, arsOf, wp_tail, mAppend, mExtend, mPop, wp_dFor, wp_dComp, wp_dIterV, wp_dSeqs, slOkN, lendR, lendB, unS, compEnd, enumD_eq, pMod_ii _ _ h]) ?_
      rw [wp_assoc]
      refine wp_seq (ρ1 := ⟨[.io 0, .val (.int n), .no, .val (.int (x % n))], [.lst [.int (x / n), .int y, .int z]]⟩) (by simp [rho0, slotOf, look, ixOf, getC, setC, getM, setM, getL, MC.look, MC.pd, killS, turnQ, lkOf, outB, iosOf, arsOf, wp_tail, mAppend, mExtend, mPop, wp_dFor, wp_dComp, wp_dIterV, wp_dSeqs, slOkN, lendR, lendB, unS, compEnd, enumD_eq, pFdiv_ii _ _ h h3]) ?_
      rw [wp_retseq]
      obtain ⟨k, k1, k2⟩ := fin x
      refine wp_at (a1 := .ret (nP k)) (ρ1 := ⟨[.io 0, .val (.int n), .no, .val (nP k)], [.lst [.int (x / n), .int y, .int z]]⟩) (by simp [rho0, slotOf, look, ixOf, getC, setC, getM, setM, getL, MC.look, MC.pd, killS, turnQ, lkOf, outB, iosOf, arsOf, wp_tail, mAppend, mExtend, mPop, wp_dFor, wp_dComp, wp_dIterV, wp_dSeqs, slOkN, lendR, lendB, unS, compEnd, enumD_eq, k2]) ?_
      exact ⟨k, k1, _, ⟨_, _, _, rfl⟩, rfl⟩
    · rw [if_neg (by simpa using hx), wp_skip]
      refine wp_seq (ρ1 := ⟨[.io 0, .val (.int n), .no, .no], [.lst [.int x, .int y, .int (z + 1)]]⟩) (by simp [rho0, slotOf, look, ixOf, getC, setC, getM, setM, getL, MC.look, MC.pd, killS, turnQ, lkOf, outB, iosOf, arsOf, wp_tail, mAppend, mExtend, mPop, wp_dFor, wp_dComp, wp_dIterV, wp_dSeqs, slOkN, lendR, lendB, unS, compEnd, enumD_eq]) ?_
      refine wp_seq (ρ1 := ⟨[.io 0, .val (.int n), .val (.int (((y + 70001 * (z + 1)) * 61211 + 37) % 2147483563)), .no], [.lst [.int x, .int y, .int (z + 1)]]⟩) (by simp [rho0, slotOf, look, ixOf, getC, setC, getM, setM, getL, MC.look, MC.pd, killS, turnQ, lkOf, outB, iosOf, arsOf, wp_tail, mAppend, mExtend, mPop, wp_dFor, wp_dComp, wp_dIterV, wp_dSeqs, slOkN, lendR, lendB, unS, compEnd, enumD_eq, pMod_ii, pMul_r, pMul_l]) ?_
      generalize ((y + 70001 * (z + 1)) * 61211 + 37) % 2147483563 = q
      refine wp_seq (ρ1 := ⟨[.io 0, .val (.int n), .val (.int q), .no], [.lst [.int x, .int ((q * 38011 + 23057) % 2147483629 + 1), .int (z + 1)]]⟩) (by simp [rho0, slotOf, look, ixOf, getC, setC, getM, setM, getL, MC.look, MC.pd, killS, turnQ, lkOf, outB, iosOf, arsOf, wp_tail, mAppend, mExtend, mPop, wp_dFor, wp_dComp, wp_dIterV, wp_dSeqs, slOkN, lendR, lendB, unS, compEnd, enumD_eq, pMod_ii, pMul_r, pMul_l]) ?_
      obtain ⟨k, k1, k2⟩ := fin ((q * 2147483647 + ((q * 38011 + 23057) % 2147483629 + 1)) / 8191)
      refine wp_at (a1 := .ret (nP k)) (ρ1 := ⟨[.io 0, .val (.int n), .val (.int q), .no], [.lst [.int x, .int ((q * 38011 + 23057) % 2147483629 + 1), .int (z + 1)]]⟩) (by simp [rho0, slotOf, look, ixOf, getC, setC, getM, setM, getL, MC.look, MC.pd, killS, turnQ, lkOf, outB, iosOf, arsOf, wp_tail, mAppend, mExtend, mPop, wp_dFor, wp_dComp, wp_dIterV, wp_dSeqs, slOkN, lendR, lendB, unS, compEnd, enumD_eq, pMod_ii _ _ h, pMul_r, pMul_l, pFdiv_ii, k2]) ?_
      exact ⟨k, k1, _, ⟨_, _, _, rfl⟩, rfl⟩
  obtain ⟨k, k1, b', k2, k3⟩ := key
  exact ⟨k, k1, b', k2, k3⟩
theorem pick_ok {b : List PD} (hb : Box b) {v : PD} {ds : List PD} (hv : seqOf v = some ds) (h : ds ≠ []) (h2 : ds.length ≤ 1000000) : ∃ d ∈ ds, ∃ b', Box b' ∧ F__law_pick [.io 0, .val v] [.lst b] = (.ret d, [.lst b']) := by
  have hpos : 0 < ds.length := List.length_pos_iff.mpr h
  obtain ⟨r, hr, b', hb', e⟩ := take_ok hb (n := ds.length) (by omega) (by omega)
  have hrl : r < ds.length := by omega
  refine ⟨ds[r], List.getElem_mem hrl, b', hb', ?_⟩
  refine runB_eq rfl ?_
  have e1 : ds[r]? = some ds[r] := by simp [hrl]
  simp [rho0, slotOf, look, ixOf, getC, setC, getM, setM, getL, MC.look, MC.pd, killS, turnQ, lkOf, outB, iosOf, arsOf, wp_tail, mAppend, mExtend, mPop, wp_dFor, wp_dComp, wp_dIterV, wp_dSeqs, slOkN, lendR, lendB, unS, compEnd, enumD_eq, g__law_pick, gLen_seq hv, e, pGet_seq hv, nP, e1]
/-! ### names -/
/-! ### all rows of states -/
/-! ### all rows of states: within their limits, ascending -/
/-! ### drawn numbers in a row -/
/-! ### several names at once -/
section
variable {ρ : Rho} {E : Xc → Rho → Prop} {n : Nat} {r : List El}
end
/-! ### a drawn tool -/
/-! ### what was drawn is taken -/
/-! ### names, one after another from the end -/
/-! ### drawn repairs -/
section
variable {states : Nat} {ns : List Str} {ks : List Kd} {ts : List Tl} {few : Nat}
end
/-! ### the source of a cell -/
theorem box_ok (ns : List Int) {k : Nat} (hk : k ≤ 100) : ∃ b, Box b ∧ F__law_box [.val (scrD ns), .val (nP k)] [] = (.fre b, []) := by
  have key : (fun r : Rt × List MC => ∃ b, Box b ∧ r = (.fre b, [])) (F__law_box [.val (scrD ns), .val (nP k)] []) := by
    refine runB_post (T := fun r : Rt × List MC => ∃ b, Box b ∧ r = (.fre b, [])) rfl ?_
    unfold g__law_box
    have gl : gLen [scrD ns] = some (.int ns.length) := by simp [scrD, gLen]
    have pg : ∀ i : Int, pGet (scrD ns) (.int i) = atI (ns.map PyData.int) i := fun _ => rfl
    refine wp_seq (ρ1 := ⟨[.val (scrD ns), .val (nP k), .val (.int (6007 * (k : Int) + 281))], []⟩) (by simp [rho0, slotOf, look, ixOf, getC, setC, getM, setM, getL, MC.look, MC.pd, killS, turnQ, lkOf, outB, iosOf, arsOf, wp_tail, mAppend, mExtend, mPop, wp_dFor, wp_dComp, wp_dIterV, wp_dSeqs, slOkN, lendR, lendB, unS, compEnd, enumD_eq, nP, pMul_l]) ?_
    refine wp_seqP (fun ρ => ∃ c : Int, ρ = ⟨[.val (scrD ns), .val (nP k), .val (.int c)], []⟩) ?_ ?_
    · rw [wp_dIf]
      refine wp_at (a1 := decide ((k : Int) < ns.length)) (ρ1 := ⟨[.val (scrD ns), .val (nP k), .val (.int (6007 * (k : Int) + 281))], []⟩) (by simp [rho0, slotOf, look, ixOf, getC, setC, getM, setM, getL, MC.look, MC.pd, killS, turnQ, lkOf, outB, iosOf, arsOf, wp_tail, mAppend, mExtend, mPop, wp_dFor, wp_dComp, wp_dIterV, wp_dSeqs, slOkN, lendR, lendB, unS, compEnd, enumD_eq, gl, nP]) ?_
      by_cases h1 : (k : Int) < ns.length
      · rw [if_pos (by simpa using h1)]
        have hkl : k < ns.length := by omega
        have e : pGet (scrD ns) (nP k) = some (.int ns[k]) := by
          show pGet (scrD ns) (.int k) = _
          rw [pg]
          simp [hkl]
        exact wp_at (a1 := Fl.nx) (ρ1 := ⟨[.val (scrD ns), .val (nP k), .val (.int (if ns[k] < 0 then -ns[k] else ns[k]))], []⟩) (by simp [rho0, slotOf, look, ixOf, getC, setC, getM, setM, getL, MC.look, MC.pd, killS, turnQ, lkOf, outB, iosOf, arsOf, wp_tail, mAppend, mExtend, mPop, wp_dFor, wp_dComp, wp_dIterV, wp_dSeqs, slOkN, lendR, lendB, unS, compEnd, enumD_eq, e]) ⟨rfl, _, rfl⟩
      · rw [if_neg (by simpa using h1), wp_dIf]
        refine wp_at (a1 := decide ((0 : Int) < ns.length)) (ρ1 := ⟨[.val (scrD ns), .val (nP k), .val (.int (6007 * (k : Int) + 281))], []⟩) (by simp [rho0, slotOf, look, ixOf, getC, setC, getM, setM, getL, MC.look, MC.pd, killS, turnQ, lkOf, outB, iosOf, arsOf, wp_tail, mAppend, mExtend, mPop, wp_dFor, wp_dComp, wp_dIterV, wp_dSeqs, slOkN, lendR, lendB, unS, compEnd, enumD_eq, gl]) ?_
        by_cases h2 : (0 : Int) < ns.length
        · rw [if_pos (by simpa using h2)]
          have hj : ∃ j : Nat, (k : Int) % (ns.length : Int) = j ∧ j < ns.length := ⟨((k : Int) % (ns.length : Int)).toNat, by have := Int.emod_nonneg (k : Int) (show (ns.length : Int) ≠ 0 by omega); omega, by have := Int.emod_lt_of_pos (k : Int) h2; have := Int.emod_nonneg (k : Int) (show (ns.length : Int) ≠ 0 by omega); omega⟩
          obtain ⟨j, j1, j2⟩ := hj
          have e : pGet (scrD ns) (.int j) = some (.int ns[j]) := by
            rw [pg]
            simp [j2]
          exact wp_at (a1 := Fl.nx) (ρ1 := ⟨[.val (scrD ns), .val (nP k), .val (.int (6007 * (k : Int) + 281 + (if ns[j] < 0 then -ns[j] else ns[j]) % 2147483629 * 70009))], []⟩) (by simp [rho0, slotOf, look, ixOf, getC, setC, getM, setM, getL, MC.look, MC.pd, killS, turnQ, lkOf, outB, iosOf, arsOf, wp_tail, mAppend, mExtend, mPop, wp_dFor, wp_dComp, wp_dIterV, wp_dSeqs, slOkN, lendR, lendB, unS, compEnd, enumD_eq, gl, nP, pMod_ii _ _ h2, j1, e, pMod_ii, pMul_r]) ⟨rfl, _, rfl⟩
        · rw [if_neg (by simpa using h2), wp_dNext]
          exact ⟨rfl, _, rfl⟩
    · rintro ρ ⟨c, rfl⟩
      have p18 : pPow (.int 10) (.int 18) = some (.int (10 ^ 18)) := by
        have h : CPow 10 18 := by unfold CPow; decide
        simp [pPow, h]
      refine wp_at (a1 := Fl.fre [.int (if (10 : Int) ^ 18 ≤ c then c else 0), .int ((c % 2147483629 * 44017 + 53089 * (k : Int)) % 2147483629 + 1), .int 0]) (ρ1 := ⟨[.val (scrD ns), .val (nP k), .val (.int c)], []⟩) ?_ ⟨_, ⟨_, _, _, rfl⟩, rfl⟩
      by_cases hc : (10 : Int) ^ 18 ≤ c
      · have hc' : (1000000000000000000 : Int) ≤ c := by simpa using hc
        simp [rho0, slotOf, look, ixOf, getC, setC, getM, setM, getL, MC.look, MC.pd, killS, turnQ, lkOf, outB, iosOf, arsOf, wp_tail, mAppend, mExtend, mPop, wp_dFor, wp_dComp, wp_dIterV, wp_dSeqs, slOkN, lendR, lendB, unS, compEnd, enumD_eq, p18, nP, pMod_ii, pMul_r, pMul_l, hc']
      · have hc' : ¬ (1000000000000000000 : Int) ≤ c := by simpa using hc
        simp [rho0, slotOf, look, ixOf, getC, setC, getM, setM, getL, MC.look, MC.pd, killS, turnQ, lkOf, outB, iosOf, arsOf, wp_tail, mAppend, mExtend, mPop, wp_dFor, wp_dComp, wp_dIterV, wp_dSeqs, slOkN, lendR, lendB, unS, compEnd, enumD_eq, p18, nP, pMod_ii, pMul_r, pMul_l, hc']
  exact key
/-! ### what is shown -/
end K00

set_option Elab.async false
set_option linter.all false
set_option maxRecDepth 100000
set_option maxHeartbeats 4000000
namespace K00
open PySem PySem.Spec Den
open PyProof.Rows L2
/-- which of the 28 a number is -/
def bsP (n : Nat) : List PD := (List.range 28).map fun k => .bool (decide (k = n))
theorem caught (d : PD) : ∀ n : Nat, n < 28 → F__law_caught_d [.val (nP n), .val d] [] = (.ret (.tuple [nP n, d]), [])
  | 0, _ => by kernel_rfl
  | 1, _ => by kernel_rfl
  | 2, _ => by kernel_rfl
  | 3, _ => by kernel_rfl
  | 4, _ => by kernel_rfl
  | 5, _ => by kernel_rfl
  | 6, _ => by kernel_rfl
  | 7, _ => by kernel_rfl
  | 8, _ => by kernel_rfl
  | 9, _ => by kernel_rfl
  | 10, _ => by kernel_rfl
  | 11, _ => by kernel_rfl
  | 12, _ => by kernel_rfl
  | 13, _ => by kernel_rfl
  | 14, _ => by kernel_rfl
  | 15, _ => by kernel_rfl
  | 16, _ => by kernel_rfl
  | 17, _ => by kernel_rfl
  | 18, _ => by kernel_rfl
  | 19, _ => by kernel_rfl
  | 20, _ => by kernel_rfl
  | 21, _ => by kernel_rfl
  | 22, _ => by kernel_rfl
  | 23, _ => by kernel_rfl
  | 24, _ => by kernel_rfl
  | 25, _ => by kernel_rfl
  | 26, _ => by kernel_rfl
  | 27, _ => by kernel_rfl
  | n + 28, h => absurd h (by omega)
def st2 (n : Nat) (d : PD) (xs : List PD) : Rho := ⟨[.val (nP n), .val d, .own (.lst xs), .no, .no], []⟩
noncomputable def tryB : M Fl := (dTryAs 3 ["InvalidDesk", "InvalidHistory", "InvalidStruck", "InvalidText", "InvalidTry", "InvalidIndex", "InvalidSort", "InvalidStep", "InvalidNumber", "InvalidLot", "InvalidPlan", "InvalidMoves", "InvalidOffers", "InvalidRules", "InvalidBound", "Refused", "InvalidSize", "InvalidWants", "InvalidLedger", "InvalidHouse", "InvalidSeam", "InvalidLots", "InvalidPromise", "InvalidContract", "InvalidCosts", "InvalidTools", "InvalidWaits", "InvalidCommand"] "LateError" (dDrop (dCall F__law_raise (.val (dVar 0) :: .val (dVar 1) :: []))) (dSetF 2 (dLst (dEs (dIsX 3 ["InvalidDesk", "InvalidHistory", "InvalidStruck", "InvalidText", "InvalidTry", "InvalidIndex", "InvalidSort", "InvalidStep", "InvalidNumber", "InvalidLot", "InvalidPlan", "InvalidMoves", "InvalidOffers", "InvalidRules", "InvalidBound", "Refused", "InvalidSize", "InvalidWants", "InvalidLedger", "InvalidHouse", "InvalidSeam", "InvalidLots", "InvalidPromise", "InvalidContract", "InvalidCosts", "InvalidTools", "InvalidWaits", "InvalidCommand"] "InvalidDesk") (dEs (dIsX 3 ["InvalidDesk", "InvalidHistory", "InvalidStruck", "InvalidText", "InvalidTry", "InvalidIndex", "InvalidSort", "InvalidStep", "InvalidNumber", "InvalidLot", "InvalidPlan", "InvalidMoves", "InvalidOffers", "InvalidRules", "InvalidBound", "Refused", "InvalidSize", "InvalidWants", "InvalidLedger", "InvalidHouse", "InvalidSeam", "InvalidLots", "InvalidPromise", "InvalidContract", "InvalidCosts", "InvalidTools", "InvalidWaits", "InvalidCommand"] "InvalidHistory") (dEs (dIsX 3 ["InvalidDesk", "InvalidHistory", "InvalidStruck", "InvalidText", "InvalidTry", "InvalidIndex", "InvalidSort", "InvalidStep", "InvalidNumber", "InvalidLot", "InvalidPlan", "InvalidMoves", "InvalidOffers", "InvalidRules", "InvalidBound", "Refused", "InvalidSize", "InvalidWants", "InvalidLedger", "InvalidHouse", "InvalidSeam", "InvalidLots", "InvalidPromise", "InvalidContract", "InvalidCosts", "InvalidTools", "InvalidWaits", "InvalidCommand"] "InvalidStruck") (dEs (dIsX 3 ["InvalidDesk", "InvalidHistory", "InvalidStruck", "InvalidText", "InvalidTry", "InvalidIndex", "InvalidSort", "InvalidStep", "InvalidNumber", "InvalidLot", "InvalidPlan", "InvalidMoves", "InvalidOffers", "InvalidRules", "InvalidBound", "Refused", "InvalidSize", "InvalidWants", "InvalidLedger", "InvalidHouse", "InvalidSeam", "InvalidLots", "InvalidPromise", "InvalidContract", "InvalidCosts", "InvalidTools", "InvalidWaits", "InvalidCommand"] "InvalidText") (dEs (dIsX 3 ["InvalidDesk", "InvalidHistory", "InvalidStruck", "InvalidText", "InvalidTry", "InvalidIndex", "InvalidSort", "InvalidStep", "InvalidNumber", "InvalidLot", "InvalidPlan", "InvalidMoves", "InvalidOffers", "InvalidRules", "InvalidBound", "Refused", "InvalidSize", "InvalidWants", "InvalidLedger", "InvalidHouse", "InvalidSeam", "InvalidLots", "InvalidPromise", "InvalidContract", "InvalidCosts", "InvalidTools", "InvalidWaits", "InvalidCommand"] "InvalidTry") (dEs (dIsX 3 ["InvalidDesk", "InvalidHistory", "InvalidStruck", "InvalidText", "InvalidTry", "InvalidIndex", "InvalidSort", "InvalidStep", "InvalidNumber", "InvalidLot", "InvalidPlan", "InvalidMoves", "InvalidOffers", "InvalidRules", "InvalidBound", "Refused", "InvalidSize", "InvalidWants", "InvalidLedger", "InvalidHouse", "InvalidSeam", "InvalidLots", "InvalidPromise", "InvalidContract", "InvalidCosts", "InvalidTools", "InvalidWaits", "InvalidCommand"] "InvalidIndex") (dEs (dIsX 3 ["InvalidDesk", "InvalidHistory", "InvalidStruck", "InvalidText", "InvalidTry", "InvalidIndex", "InvalidSort", "InvalidStep", "InvalidNumber", "InvalidLot", "InvalidPlan", "InvalidMoves", "InvalidOffers", "InvalidRules", "InvalidBound", "Refused", "InvalidSize", "InvalidWants", "InvalidLedger", "InvalidHouse", "InvalidSeam", "InvalidLots", "InvalidPromise", "InvalidContract", "InvalidCosts", "InvalidTools", "InvalidWaits", "InvalidCommand"] "InvalidSort") (dEs (dIsX 3 ["InvalidDesk", "InvalidHistory", "InvalidStruck", "InvalidText", "InvalidTry", "InvalidIndex", "InvalidSort", "InvalidStep", "InvalidNumber", "InvalidLot", "InvalidPlan", "InvalidMoves", "InvalidOffers", "InvalidRules", "InvalidBound", "Refused", "InvalidSize", "InvalidWants", "InvalidLedger", "InvalidHouse", "InvalidSeam", "InvalidLots", "InvalidPromise", "InvalidContract", "InvalidCosts", "InvalidTools", "InvalidWaits", "InvalidCommand"] "InvalidStep") (dEs (dIsX 3 ["InvalidDesk", "InvalidHistory", "InvalidStruck", "InvalidText", "InvalidTry", "InvalidIndex", "InvalidSort", "InvalidStep", "InvalidNumber", "InvalidLot", "InvalidPlan", "InvalidMoves", "InvalidOffers", "InvalidRules", "InvalidBound", "Refused", "InvalidSize", "InvalidWants", "InvalidLedger", "InvalidHouse", "InvalidSeam", "InvalidLots", "InvalidPromise", "InvalidContract", "InvalidCosts", "InvalidTools", "InvalidWaits", "InvalidCommand"] "InvalidNumber") (dEs (dIsX 3 ["InvalidDesk", "InvalidHistory", "InvalidStruck", "InvalidText", "InvalidTry", "InvalidIndex", "InvalidSort", "InvalidStep", "InvalidNumber", "InvalidLot", "InvalidPlan", "InvalidMoves", "InvalidOffers", "InvalidRules", "InvalidBound", "Refused", "InvalidSize", "InvalidWants", "InvalidLedger", "InvalidHouse", "InvalidSeam", "InvalidLots", "InvalidPromise", "InvalidContract", "InvalidCosts", "InvalidTools", "InvalidWaits", "InvalidCommand"] "InvalidLot") (dEs (dIsX 3 ["InvalidDesk", "InvalidHistory", "InvalidStruck", "InvalidText", "InvalidTry", "InvalidIndex", "InvalidSort", "InvalidStep", "InvalidNumber", "InvalidLot", "InvalidPlan", "InvalidMoves", "InvalidOffers", "InvalidRules", "InvalidBound", "Refused", "InvalidSize", "InvalidWants", "InvalidLedger", "InvalidHouse", "InvalidSeam", "InvalidLots", "InvalidPromise", "InvalidContract", "InvalidCosts", "InvalidTools", "InvalidWaits", "InvalidCommand"] "InvalidPlan") (dEs (dIsX 3 ["InvalidDesk", "InvalidHistory", "InvalidStruck", "InvalidText", "InvalidTry", "InvalidIndex", "InvalidSort", "InvalidStep", "InvalidNumber", "InvalidLot", "InvalidPlan", "InvalidMoves", "InvalidOffers", "InvalidRules", "InvalidBound", "Refused", "InvalidSize", "InvalidWants", "InvalidLedger", "InvalidHouse", "InvalidSeam", "InvalidLots", "InvalidPromise", "InvalidContract", "InvalidCosts", "InvalidTools", "InvalidWaits", "InvalidCommand"] "InvalidMoves") (dEs (dIsX 3 ["InvalidDesk", "InvalidHistory", "InvalidStruck", "InvalidText", "InvalidTry", "InvalidIndex", "InvalidSort", "InvalidStep", "InvalidNumber", "InvalidLot", "InvalidPlan", "InvalidMoves", "InvalidOffers", "InvalidRules", "InvalidBound", "Refused", "InvalidSize", "InvalidWants", "InvalidLedger", "InvalidHouse", "InvalidSeam", "InvalidLots", "InvalidPromise", "InvalidContract", "InvalidCosts", "InvalidTools", "InvalidWaits", "InvalidCommand"] "InvalidOffers") (dEs (dIsX 3 ["InvalidDesk", "InvalidHistory", "InvalidStruck", "InvalidText", "InvalidTry", "InvalidIndex", "InvalidSort", "InvalidStep", "InvalidNumber", "InvalidLot", "InvalidPlan", "InvalidMoves", "InvalidOffers", "InvalidRules", "InvalidBound", "Refused", "InvalidSize", "InvalidWants", "InvalidLedger", "InvalidHouse", "InvalidSeam", "InvalidLots", "InvalidPromise", "InvalidContract", "InvalidCosts", "InvalidTools", "InvalidWaits", "InvalidCommand"] "InvalidRules") (dEs (dIsX 3 ["InvalidDesk", "InvalidHistory", "InvalidStruck", "InvalidText", "InvalidTry", "InvalidIndex", "InvalidSort", "InvalidStep", "InvalidNumber", "InvalidLot", "InvalidPlan", "InvalidMoves", "InvalidOffers", "InvalidRules", "InvalidBound", "Refused", "InvalidSize", "InvalidWants", "InvalidLedger", "InvalidHouse", "InvalidSeam", "InvalidLots", "InvalidPromise", "InvalidContract", "InvalidCosts", "InvalidTools", "InvalidWaits", "InvalidCommand"] "InvalidBound") (dEs (dIsX 3 ["InvalidDesk", "InvalidHistory", "InvalidStruck", "InvalidText", "InvalidTry", "InvalidIndex", "InvalidSort", "InvalidStep", "InvalidNumber", "InvalidLot", "InvalidPlan", "InvalidMoves", "InvalidOffers", "InvalidRules", "InvalidBound", "Refused", "InvalidSize", "InvalidWants", "InvalidLedger", "InvalidHouse", "InvalidSeam", "InvalidLots", "InvalidPromise", "InvalidContract", "InvalidCosts", "InvalidTools", "InvalidWaits", "InvalidCommand"] "Refused") (dEs (dIsX 3 ["InvalidDesk", "InvalidHistory", "InvalidStruck", "InvalidText", "InvalidTry", "InvalidIndex", "InvalidSort", "InvalidStep", "InvalidNumber", "InvalidLot", "InvalidPlan", "InvalidMoves", "InvalidOffers", "InvalidRules", "InvalidBound", "Refused", "InvalidSize", "InvalidWants", "InvalidLedger", "InvalidHouse", "InvalidSeam", "InvalidLots", "InvalidPromise", "InvalidContract", "InvalidCosts", "InvalidTools", "InvalidWaits", "InvalidCommand"] "InvalidSize") (dEs (dIsX 3 ["InvalidDesk", "InvalidHistory", "InvalidStruck", "InvalidText", "InvalidTry", "InvalidIndex", "InvalidSort", "InvalidStep", "InvalidNumber", "InvalidLot", "InvalidPlan", "InvalidMoves", "InvalidOffers", "InvalidRules", "InvalidBound", "Refused", "InvalidSize", "InvalidWants", "InvalidLedger", "InvalidHouse", "InvalidSeam", "InvalidLots", "InvalidPromise", "InvalidContract", "InvalidCosts", "InvalidTools", "InvalidWaits", "InvalidCommand"] "InvalidWants") (dEs (dIsX 3 ["InvalidDesk", "InvalidHistory", "InvalidStruck", "InvalidText", "InvalidTry", "InvalidIndex", "InvalidSort", "InvalidStep", "InvalidNumber", "InvalidLot", "InvalidPlan", "InvalidMoves", "InvalidOffers", "InvalidRules", "InvalidBound", "Refused", "InvalidSize", "InvalidWants", "InvalidLedger", "InvalidHouse", "InvalidSeam", "InvalidLots", "InvalidPromise", "InvalidContract", "InvalidCosts", "InvalidTools", "InvalidWaits", "InvalidCommand"] "InvalidLedger") (dEs (dIsX 3 ["InvalidDesk", "InvalidHistory", "InvalidStruck", "InvalidText", "InvalidTry", "InvalidIndex", "InvalidSort", "InvalidStep", "InvalidNumber", "InvalidLot", "InvalidPlan", "InvalidMoves", "InvalidOffers", "InvalidRules", "InvalidBound", "Refused", "InvalidSize", "InvalidWants", "InvalidLedger", "InvalidHouse", "InvalidSeam", "InvalidLots", "InvalidPromise", "InvalidContract", "InvalidCosts", "InvalidTools", "InvalidWaits", "InvalidCommand"] "InvalidHouse") (dEs (dIsX 3 ["InvalidDesk", "InvalidHistory", "InvalidStruck", "InvalidText", "InvalidTry", "InvalidIndex", "InvalidSort", "InvalidStep", "InvalidNumber", "InvalidLot", "InvalidPlan", "InvalidMoves", "InvalidOffers", "InvalidRules", "InvalidBound", "Refused", "InvalidSize", "InvalidWants", "InvalidLedger", "InvalidHouse", "InvalidSeam", "InvalidLots", "InvalidPromise", "InvalidContract", "InvalidCosts", "InvalidTools", "InvalidWaits", "InvalidCommand"] "InvalidSeam") (dEs (dIsX 3 ["InvalidDesk", "InvalidHistory", "InvalidStruck", "InvalidText", "InvalidTry", "InvalidIndex", "InvalidSort", "InvalidStep", "InvalidNumber", "InvalidLot", "InvalidPlan", "InvalidMoves", "InvalidOffers", "InvalidRules", "InvalidBound", "Refused", "InvalidSize", "InvalidWants", "InvalidLedger", "InvalidHouse", "InvalidSeam", "InvalidLots", "InvalidPromise", "InvalidContract", "InvalidCosts", "InvalidTools", "InvalidWaits", "InvalidCommand"] "InvalidLots") (dEs (dIsX 3 ["InvalidDesk", "InvalidHistory", "InvalidStruck", "InvalidText", "InvalidTry", "InvalidIndex", "InvalidSort", "InvalidStep", "InvalidNumber", "InvalidLot", "InvalidPlan", "InvalidMoves", "InvalidOffers", "InvalidRules", "InvalidBound", "Refused", "InvalidSize", "InvalidWants", "InvalidLedger", "InvalidHouse", "InvalidSeam", "InvalidLots", "InvalidPromise", "InvalidContract", "InvalidCosts", "InvalidTools", "InvalidWaits", "InvalidCommand"] "InvalidPromise") (dEs (dIsX 3 ["InvalidDesk", "InvalidHistory", "InvalidStruck", "InvalidText", "InvalidTry", "InvalidIndex", "InvalidSort", "InvalidStep", "InvalidNumber", "InvalidLot", "InvalidPlan", "InvalidMoves", "InvalidOffers", "InvalidRules", "InvalidBound", "Refused", "InvalidSize", "InvalidWants", "InvalidLedger", "InvalidHouse", "InvalidSeam", "InvalidLots", "InvalidPromise", "InvalidContract", "InvalidCosts", "InvalidTools", "InvalidWaits", "InvalidCommand"] "InvalidContract") (dEs (dIsX 3 ["InvalidDesk", "InvalidHistory", "InvalidStruck", "InvalidText", "InvalidTry", "InvalidIndex", "InvalidSort", "InvalidStep", "InvalidNumber", "InvalidLot", "InvalidPlan", "InvalidMoves", "InvalidOffers", "InvalidRules", "InvalidBound", "Refused", "InvalidSize", "InvalidWants", "InvalidLedger", "InvalidHouse", "InvalidSeam", "InvalidLots", "InvalidPromise", "InvalidContract", "InvalidCosts", "InvalidTools", "InvalidWaits", "InvalidCommand"] "InvalidCosts") (dEs (dIsX 3 ["InvalidDesk", "InvalidHistory", "InvalidStruck", "InvalidText", "InvalidTry", "InvalidIndex", "InvalidSort", "InvalidStep", "InvalidNumber", "InvalidLot", "InvalidPlan", "InvalidMoves", "InvalidOffers", "InvalidRules", "InvalidBound", "Refused", "InvalidSize", "InvalidWants", "InvalidLedger", "InvalidHouse", "InvalidSeam", "InvalidLots", "InvalidPromise", "InvalidContract", "InvalidCosts", "InvalidTools", "InvalidWaits", "InvalidCommand"] "InvalidTools") (dEs (dIsX 3 ["InvalidDesk", "InvalidHistory", "InvalidStruck", "InvalidText", "InvalidTry", "InvalidIndex", "InvalidSort", "InvalidStep", "InvalidNumber", "InvalidLot", "InvalidPlan", "InvalidMoves", "InvalidOffers", "InvalidRules", "InvalidBound", "Refused", "InvalidSize", "InvalidWants", "InvalidLedger", "InvalidHouse", "InvalidSeam", "InvalidLots", "InvalidPromise", "InvalidContract", "InvalidCosts", "InvalidTools", "InvalidWaits", "InvalidCommand"] "InvalidWaits") (dEs (dIsX 3 ["InvalidDesk", "InvalidHistory", "InvalidStruck", "InvalidText", "InvalidTry", "InvalidIndex", "InvalidSort", "InvalidStep", "InvalidNumber", "InvalidLot", "InvalidPlan", "InvalidMoves", "InvalidOffers", "InvalidRules", "InvalidBound", "Refused", "InvalidSize", "InvalidWants", "InvalidLedger", "InvalidHouse", "InvalidSeam", "InvalidLots", "InvalidPromise", "InvalidContract", "InvalidCosts", "InvalidTools", "InvalidWaits", "InvalidCommand"] "InvalidCommand") (mpure []))))))))))))))))))))))))))))))))
theorem told (d : PD) : ∀ n : Nat, n < 28 → tryB (st2 n d []) = .ok .nx (st2 n d (bsP n))
  | 0, _ => by kernel_rfl
  | 1, _ => by kernel_rfl
  | 2, _ => by kernel_rfl
  | 3, _ => by kernel_rfl
  | 4, _ => by kernel_rfl
  | 5, _ => by kernel_rfl
  | 6, _ => by kernel_rfl
  | 7, _ => by kernel_rfl
  | 8, _ => by kernel_rfl
  | 9, _ => by kernel_rfl
  | 10, _ => by kernel_rfl
  | 11, _ => by kernel_rfl
  | 12, _ => by kernel_rfl
  | 13, _ => by kernel_rfl
  | 14, _ => by kernel_rfl
  | 15, _ => by kernel_rfl
  | 16, _ => by kernel_rfl
  | 17, _ => by kernel_rfl
  | 18, _ => by kernel_rfl
  | 19, _ => by kernel_rfl
  | 20, _ => by kernel_rfl
  | 21, _ => by kernel_rfl
  | 22, _ => by kernel_rfl
  | 23, _ => by kernel_rfl
  | 24, _ => by kernel_rfl
  | 25, _ => by kernel_rfl
  | 26, _ => by kernel_rfl
  | 27, _ => by kernel_rfl
  | n + 28, h => absurd h (by omega)
def isT : Option PD → Bool
  | some (.bool true) => true
  | _ => false
theorem isT_ok {o : Option PD} (h : isT o = true) : o = some (.bool true) := by
  unfold isT at h
  split at h
  · rfl
  · cases h
theorem bs_same : ∀ n : _root_.Fin 28, isT (pEq (.list (bsP n)) (.list (bsP n))) = true := by decide +kernel
theorem alone (d : PD) {n : Nat} (h : n < 28) : F__law_is_alone [.val (nP n), .val d] [] = (.ret (.bool true), []) := by
  refine runB_eq rfl ?_
  unfold g__law_is_alone
  refine wp_seq (ρ1 := st2 n d []) (by simp [rho0, slotOf, look, ixOf, getC, setC, getM, setM, getL, MC.look, MC.pd, killS, turnQ, lkOf, outB, iosOf, arsOf, wp_tail, mAppend, mExtend, mPop, wp_dFor, wp_dComp, wp_dIterV, wp_dSeqs, slOkN, lendR, lendB, unS, compEnd, enumD_eq, st2]) ?_
  refine wp_seq (ρ1 := st2 n d (bsP n)) (by have e := told d n h; unfold tryB at e; rw [wp_of e]; exact ⟨rfl, rfl⟩) ?_
  have sm : smallI 28 = true := by decide
  rw [wp_dRet]
  refine wp_at (a1 := .bool true) (ρ1 := st2 n d (bsP n)) ?_ rfl
  simp only [wp_op2, wp_dkVar, wp_dkE, wp_bind, wp_dComp, wp_dRange1]
  simp [rho0, slotOf, look, ixOf, getC, setC, getM, setM, getL, MC.look, MC.pd, killS, turnQ, lkOf, outB, iosOf, arsOf, wp_tail, mAppend, mExtend, mPop, wp_dFor, wp_dComp, wp_dIterV, wp_dSeqs, slOkN, lendR, lendB, unS, compEnd, enumD_eq, st2, sm]
  refine ⟨by decide, wp_compMap (fun p => match p with
    | .int i => .bool (decide (i = n))
    | _ => .none) _ trivial (fun p hp => ?_) ?_⟩
  · obtain ⟨k, hk, rfl⟩ := List.mem_map.mp hp
    have o1 : okD (nP k) = true := rfl
    have o2 : okD (nP n) = true := rfl
    simp [rho0, slotOf, look, ixOf, getC, setC, getM, setM, getL, MC.look, MC.pd, killS, turnQ, lkOf, outB, iosOf, arsOf, wp_tail, mAppend, mExtend, mPop, wp_dFor, wp_dComp, wp_dIterV, wp_dSeqs, slOkN, lendR, lendB, unS, compEnd, enumD_eq, nP, pEq_ii, killS]
  · have e : (List.map nP (List.range 28)).map (fun p => match p with
      | .int i => PyData.bool (decide (i = (n : Int)))
      | _ => .none) = bsP n := by
      unfold bsP
      rw [List.map_map]
      refine List.map_congr_left fun k _ => ?_
      simp [nP, Int.ofNat_inj]
    rw [e]
    have := isT_ok (bs_same ⟨n, h⟩)
    simp [this, MC.pd]
end K00

set_option Elab.async false
set_option linter.all false
set_option maxRecDepth 100000
set_option maxHeartbeats 4000000
namespace K00
open PySem PySem.Spec Den
open PyProof.Rows L2
def things : List PD := [.int 0, .int (-1), .none, .str "words", .tuple [.int 1, .int 2], .list [.int 3], .bool true, .tuple [.str "rows", .int 0, .int 7]]
def isF : Option PD → Bool
  | some (.bool false) => true
  | _ => false
theorem isF_ok {o : Option PD} (h : isF o = true) : o = some (.bool false) := by
  unfold isF at h
  split at h
  · rfl
  · cases h
theorem ne_same : ∀ n : _root_.Fin 28, ∀ d ∈ things, isF (pNe (.tuple [nP n, d]) (.tuple [nP n, d])) = true := by decide +kernel
def stN (scr : PD) (b : List PD) : Rho := ⟨[.val scr, .own (.lst b), .no, .no, .no], []⟩
def stM (scr : PD) (b : List PD) (k : Nat) (d : Slot) : Rho := ⟨[.val scr, .own (.lst b), .val (nP k), .no, d], []⟩
section
variable {FB FP FC FA : FD} {scr d : PD} {b b1 : List PD} {k : Nat}
theorem step_box (e : FB [.val scr, .val (nP 0)] [] = (.fre b, [])) : Wp (dSetF 1 (dCallF FB (.val (dVar 0) :: .val (mpure (.int 0)) :: []))) ⟨[.val scr, .no, .no, .no, .no], []⟩ (fun fl ρ => fl = .nx ∧ ρ = stN scr b) (fun _ _ => False) := by
  have e' : FB [.val scr, .val (.int 0)] [] = (.fre b, []) := e
  simp [rho0, slotOf, look, ixOf, getC, setC, getM, setM, getL, MC.look, MC.pd, killS, turnQ, lkOf, outB, iosOf, arsOf, wp_tail, mAppend, mExtend, mPop, wp_dFor, wp_dComp, wp_dIterV, wp_dSeqs, slOkN, lendR, lendB, unS, compEnd, enumD_eq, stN, e']
theorem step_pick (e : FP [.io 0, .val (.list things)] [.lst b] = (.ret d, [.lst b1])) : Wp (dSet 4 (dCall FP (.io 1 :: .val (mbind (dLst (dEs (mpure (.int 0)) (dEs (dNeg (mpure (.int 1))) (dEs (mpure .none) (dEs (mpure (.str "words")) (dEs (dTup (dEs (mpure (.int 1)) (dEs (mpure (.int 2)) (mpure [])))) (dEs (mbind (dLst (dEs (mpure (.int 3)) (mpure []))) (fun xs => mpure (.list xs))) (dEs (mpure (.bool true)) (dEs (dTup (dEs (mpure (.str "rows")) (dEs (mpure (.int 0)) (dEs (mpure (.int 7)) (mpure []))))) (mpure [])))))))))) (fun xs => mpure (.list xs))) :: []))) (stM scr b k .no) (fun fl ρ => fl = .nx ∧ ρ = stM scr b1 k (.val d)) (fun _ _ => False) := by
  unfold things at e
  simp [rho0, slotOf, look, ixOf, getC, setC, getM, setM, getL, MC.look, MC.pd, killS, turnQ, lkOf, outB, iosOf, arsOf, wp_tail, mAppend, mExtend, mPop, wp_dFor, wp_dComp, wp_dIterV, wp_dSeqs, slOkN, lendR, lendB, unS, compEnd, enumD_eq, stM, e]
theorem step_if (e1 : FC [.val (nP k), .val d] [] = (.ret (.tuple [nP k, d]), [])) (e2 : pNe (.tuple [nP k, d]) (.tuple [nP k, d]) = some (.bool false)) (e3 : FA [.val (nP k), .val d] [] = (.ret (.bool true), [])) :
    Wp (dIf (tOrB (asB (dOp2 pNe (dkE (dCall FC (.val (dVar 2) :: .val (dVar 4) :: []))) (dkE (dTup (dEs (dVar 2) (dEs (dVar 4) (mpure []))))))) (tNotB (dTru (dkE (dCall FA (.val (dVar 2) :: .val (dVar 4) :: [])))))) (dRet (mpure (.bool false))) (dNext)) (stM scr b k (.val d)) (fun fl ρ => fl = .nx ∧ ρ = stM scr b k (.val d)) (fun _ _ => False) := by
  simp [rho0, slotOf, look, ixOf, getC, setC, getM, setM, getL, MC.look, MC.pd, killS, turnQ, lkOf, outB, iosOf, arsOf, wp_tail, mAppend, mExtend, mPop, wp_dFor, wp_dComp, wp_dIterV, wp_dSeqs, slOkN, lendR, lendB, unS, compEnd, enumD_eq, stM, e1, e2, e3]
end
theorem kept_same : isT (pEq (.tuple [.str "x", .tuple [.str "rows", .int 0, .int 1], .int (-1), .int 3]) (.tuple [.str "x", .tuple [.str "rows", .int 0, .int 1], .int (-1), .int 3])) = true := by decide +kernel
theorem law_yes (ns : List Int) : F_law [.val (scrD ns)] [] = (.ret (.bool true), []) := by
  refine runB_eq rfl ?_
  unfold g_law
  obtain ⟨b0, hb0, e0⟩ := box_ok ns (k := 0) (by decide)
  refine wp_seq (step_box e0) ?_
  generalize scrD ns = scr
  refine wp_seqP (fun ρ => ∃ b, Box b ∧ ρ = stN scr b) ?_ ?_
  · rw [wp_dFor]
    have sm : smallI 28 = true := by decide
    refine wp_at (a1 := ((List.range 28).map nP, fun _ => True)) (ρ1 := stN scr b0) (by simp [rho0, slotOf, look, ixOf, getC, setC, getM, setM, getL, MC.look, MC.pd, killS, turnQ, lkOf, outB, iosOf, arsOf, wp_tail, mAppend, mExtend, mPop, wp_dFor, wp_dComp, wp_dIterV, wp_dSeqs, slOkN, lendR, lendB, unS, compEnd, enumD_eq, stN, sm]) ?_
    refine wp_forGo (I := fun i ρ => ∃ b, Box b ∧ ρ = stN scr b) _ (fun _ _ _ => trivial) (fun ρ e => ⟨rfl, e⟩) ?_ ⟨b0, hb0, rfl⟩
    rintro i ρ x hx ⟨b, hb, rfl⟩
    obtain ⟨rfl, hk⟩ := mem_range_nP hx
    refine ⟨_, rfl, ?_⟩
    obtain ⟨d, hd, b1, hb1, e1⟩ := pick_ok hb (v := .list things) (ds := things) rfl (by unfold things; simp) (by decide)
    refine wp_seq (step_pick e1) ?_
    refine Wp.mono (step_if (caught d i hk) (isF_ok (ne_same ⟨i, hk⟩ d hd)) (alone d hk)) ?_ (fun _ _ z => z.elim)
    rintro fl ρ ⟨rfl, rfl⟩
    exact ⟨b1, hb1, rfl⟩
  · rintro ρ ⟨b, hb, rfl⟩
    have ks := isT_ok kept_same
    simp [rho0, slotOf, look, ixOf, getC, setC, getM, setM, getL, MC.look, MC.pd, killS, turnQ, lkOf, outB, iosOf, arsOf, wp_tail, mAppend, mExtend, mPop, wp_dFor, wp_dComp, wp_dIterV, wp_dSeqs, slOkN, lendR, lendB, unS, compEnd, enumD_eq, stN, ks]
end K00

open PySem PySem.W PyProof.Rows
set_option maxRecDepth 100000 in
set_option maxHeartbeats 0 in
theorem PySem.Challenge.cw_lateno_k00_whole_errors_and_what_they_ke_holds : PySem.Challenge.rw_lateno_k00_whole_errors_and_what_they_ke.Holds := by
  exact K00.holds fun ns _ => K00.law_yes ns
