import PyProof.Rows.All
import Wide.All
import OpenK.AllK
import Wide.FinOn
import HandS.ForMost
import HandS.Walk
import HandS.Exc
import HandS.ExcOwn
import HandS.ExcField
import HandS.TryOnly
import HandS.TryMany
import HandS.WordsExc
import HandS.IsInst
import HandS.Flow
import HandS.TupAny
import HandS.TupLe
import HandS.Deep
import HandS.Wide
import KE.LtData
import HandS.Defaults
import HandS.Style
import HandS.Zip
import HandS.Conv
import KE.GoesNew
import HandS.Comp
import HandS.TupLen
import HandS.WordsDict
import KE.DataAny
import HandS.TupSets
import HandS.More
import HandS.ExcInit
import HandS.ExcSuper
import KE.KExcSuper
import KE.KSuper
import HandS.Ends
import HandS.SetFor
import HandS.Strs
import KE.KDictPairs
import KE.KDictCopyH
import PyProof.ReprRoads
import PyProof.CallFns
import PyProof.ReprLen
import HandS.Head0
import HandS.Head1
import HandS.Head2
import HandS.HeadEnd
import HandS.HeadHook1
import HandS.HeadHook2
import HandS.EndBits
import PySem.Challenge.RW_lateno_k11_whole_worlds_for_all_lots_tha
set_option Elab.async false
set_option linter.all false
set_option maxRecDepth 100000
/-! DenA: values by value semantics: what stands for a datum (Rp), the heap in pieces (Pc), slots and mutables (RepW), what a piece of Python does to them (M, tM, tS). -/
namespace Den
open PySem PySem.Spec
open PyProof.Rows L2
abbrev St := L2.St

abbrev PD := PyData

/-- class names to addresses -/
structure Kc where
  K : PySem.W.Frag
  kl : Str → Option Addr

def kD : Key → PD
  | .inl i => .int i
  | .inr x => .str x
/-- an instance, as a datum -/
def insD (n : Str) (fs : List (Str × PD)) : PD := .dict ((.none, .str n) :: fs.map fun p => (.str p.1, p.2))

/-- a tuple that may be a dict's key: it is followed as such; of any other tuple the object itself is known -/
def keyish : List V → Bool
  | [] => false
  | xs => xs.all fun x => match x with
    | .int _ => true
    | .str _ => true
    | _ => false
def tupO (o : Obj) (xs : List V) : HO := if keyish xs = true then .tup xs else .frz o (.tup xs)
def TupR (G : Hp) (a : Addr) (xs : List V) : Prop := ∃ o : Obj, o.dict = none ∧ G a = some (tupO o xs)
mutual
inductive Rp (k : Kc) (G : Hp) : V → PD → Prop
  | non : Rp k G .non .none
  | bl (b : Bool) : Rp k G (.bl b) (.bool b)
  | int (i : Int) : Rp k G (.int i) (.int i)
  | str (x : Str) : Rp k G (.str x) (.str x)
  | lst {a : Addr} {xs : List V} {ds : List PD} : G a = some (.lst xs) → RpAll k G xs ds → Rp k G (.ref a) (.list ds)
  /-- a list that may stand in the written part (the law's script): a datum of its own kind -/
  | scr {a : Addr} {xs : List V} {ds : List PD} : SqL k.K G a xs → RpAll k G xs ds → Rp k G (.ref a) (.dict [(.none, .list ds)])
  | tup {a : Addr} {xs : List V} {ds : List PD} : TupR G a xs → RpAll k G xs ds → Rp k G (.ref a) (.tuple ds)
  | ins {a C dx : Addr} {fs : List (Str × V)} {n : Str} {ds : List (PD × PD)} : G a = some (.ins C dx fs) → k.kl n = some C → RpFs k G fs ds → Rp k G (.ref a) (.dict ((.none, .str n) :: ds))
  | dK {a : Addr} {kvs : List (Key × V)} {ds : List (PD × PD)} : G a = some (.dK kvs) → RpKs k G kvs ds → Rp k G (.ref a) (.dict ds)
  | dT {a : Addr} {kvs : List (List Key × V)} {ds : List (PD × PD)} : G a = some (.dT kvs) → RpTs k G kvs ds → Rp k G (.ref a) (.dict ds)
inductive RpAll (k : Kc) (G : Hp) : List V → List PD → Prop
  | nil : RpAll k G [] []
  | cons {v : V} {vs : List V} {d : PD} {ds : List PD} : Rp k G v d → RpAll k G vs ds → RpAll k G (v :: vs) (d :: ds)
inductive RpFs (k : Kc) (G : Hp) : List (Str × V) → List (PD × PD) → Prop
  | nil : RpFs k G [] []
  | cons {f : Str} {v : V} {vs : List (Str × V)} {d : PD} {ds : List (PD × PD)} : Rp k G v d → RpFs k G vs ds → RpFs k G ((f, v) :: vs) ((.str f, d) :: ds)
inductive RpKs (k : Kc) (G : Hp) : List (Key × V) → List (PD × PD) → Prop
  | nil : RpKs k G [] []
  | cons {f : Key} {v : V} {vs : List (Key × V)} {d : PD} {ds : List (PD × PD)} : Rp k G v d → RpKs k G vs ds → RpKs k G ((f, v) :: vs) ((kD f, d) :: ds)
inductive RpTs (k : Kc) (G : Hp) : List (List Key × V) → List (PD × PD) → Prop
  /-- the mark at its end: a dict of tuples as keys -/
  | nil : RpTs k G [] [(.bool true, .none)]
  | cons {f : List Key} {v : V} {vs : List (List Key × V)} {d : PD} {ds : List (PD × PD)} : Rp k G v d → RpTs k G vs ds → RpTs k G ((f, v) :: vs) ((.tuple (f.map kD), d) :: ds)
end

theorem Same.rd {G G' : Hp} {a : Addr} {u : HO} (s : Same G G') (r : Rd G a u) : Rd G' a u := by
  rcases r with r | ⟨o, r⟩
  · exact .inl (s _ _ r)
  · exact .inr ⟨o, s _ _ r⟩
theorem Same.seqL {K : PySem.W.Frag} {G G' : Hp} {a : Addr} {xs : List V} (s : Same G G') (h : SqL K G a xs) : SqL K G' a xs := h.imp (fun r => Same.rd s r) id
theorem TupR.seqT {K : PySem.W.Frag} {G H : Hp} {a : Addr} {xs : List V} (s : Same G H) (h : TupR G a xs) : SqT K H a xs := by
  obtain ⟨o, _, e⟩ := h
  unfold tupO at e
  split at e
  · exact .inl (.inl (s _ _ e))
  · exact .inl (.inr ⟨o, s _ _ e⟩)
theorem Same.seqT {K : PySem.W.Frag} {G G' : Hp} {a : Addr} {xs : List V} (s : Same G G') (h : SqT K G a xs) : SqT K G' a xs := by
  rcases h with h | h
  · exact .inl (Same.rd s h)
  · exact .inr h

section
variable {k : Kc} {G G' : Hp}
mutual
theorem Rp.mono (s : Same G G') : ∀ {v : V} {d : PD}, Rp k G v d → Rp k G' v d
  | _, _, .non => .non
  | _, _, .bl b => .bl b
  | _, _, .int i => .int i
  | _, _, .str x => .str x
  | _, _, .lst h r => .lst (s _ _ h) (RpAll.mono s r)
  | _, _, .scr h r => .scr (Same.seqL s h) (RpAll.mono s r)
  | _, _, .tup h r => .tup (h.imp fun _ z => ⟨z.1, s _ _ z.2⟩) (RpAll.mono s r)
  | _, _, .ins h e r => .ins (s _ _ h) e (RpFs.mono s r)
  | _, _, .dK h r => .dK (s _ _ h) (RpKs.mono s r)
  | _, _, .dT h r => .dT (s _ _ h) (RpTs.mono s r)
theorem RpAll.mono (s : Same G G') : ∀ {vs : List V} {ds : List PD}, RpAll k G vs ds → RpAll k G' vs ds
  | _, _, .nil => .nil
  | _, _, .cons h r => .cons (Rp.mono s h) (RpAll.mono s r)
theorem RpFs.mono (s : Same G G') : ∀ {vs : List (Str × V)} {ds : List (PD × PD)}, RpFs k G vs ds → RpFs k G' vs ds
  | _, _, .nil => .nil
  | _, _, .cons h r => .cons (Rp.mono s h) (RpFs.mono s r)
theorem RpKs.mono (s : Same G G') : ∀ {vs : List (Key × V)} {ds : List (PD × PD)}, RpKs k G vs ds → RpKs k G' vs ds
  | _, _, .nil => .nil
  | _, _, .cons h r => .cons (Rp.mono s h) (RpKs.mono s r)
theorem RpTs.mono (s : Same G G') : ∀ {vs : List (List Key × V)} {ds : List (PD × PD)}, RpTs k G vs ds → RpTs k G' vs ds
  | _, _, .nil => .nil
  | _, _, .cons h r => .cons (Rp.mono s h) (RpTs.mono s r)
end
theorem RpAll.length : ∀ {vs : List V} {ds : List PD}, RpAll k G vs ds → vs.length = ds.length
  | _, _, .nil => rfl
  | _, _, .cons _ r => by simp [RpAll.length r]
theorem RpAll.get : ∀ {vs : List V} {ds : List PD} {i : Nat} {d : PD}, RpAll k G vs ds → ds[i]? = some d → ∃ v, vs[i]? = some v ∧ Rp k G v d
  | _, _, _, _, .nil, e => nomatch (List.getElem?_nil.symm.trans e)
  | _, _, 0, _, .cons h _, e => by simp at e; subst e; exact ⟨_, rfl, h⟩
  | _, _, i + 1, _, .cons _ r, e => by
    obtain ⟨v, h1, h2⟩ := RpAll.get (i := i) r (by simpa using e)
    exact ⟨v, by simpa using h1, h2⟩
theorem RpAll.getV : ∀ {vs : List V} {ds : List PD} {i : Nat} {v : V}, RpAll k G vs ds → vs[i]? = some v → ∃ d, ds[i]? = some d ∧ Rp k G v d
  | _, _, _, _, .nil, e => nomatch (List.getElem?_nil.symm.trans e)
  | _, _, 0, _, .cons h _, e => by simp at e; subst e; exact ⟨_, rfl, h⟩
  | _, _, i + 1, _, .cons _ r, e => by
    obtain ⟨v, h1, h2⟩ := RpAll.getV (i := i) r (by simpa using e)
    exact ⟨v, by simpa using h1, h2⟩
theorem RpAll.append : ∀ {vs ws : List V} {ds es : List PD}, RpAll k G vs ds → RpAll k G ws es → RpAll k G (vs ++ ws) (ds ++ es)
  | _, _, _, _, .nil, s => s
  | _, _, _, _, .cons h r, s => .cons h (RpAll.append r s)
theorem RpAll.set : ∀ {vs : List V} {ds : List PD} {v : V} {d : PD} (i : Nat), RpAll k G vs ds → Rp k G v d → RpAll k G (vs.set i v) (ds.set i d)
  | _, _, _, _, _, .nil, _ => .nil
  | _, _, _, _, 0, .cons _ r, q => .cons q r
  | _, _, _, _, i + 1, .cons h r, q => .cons h (RpAll.set i r q)
theorem RpAll.take : ∀ {vs : List V} {ds : List PD} (n : Nat), RpAll k G vs ds → RpAll k G (vs.take n) (ds.take n)
  | _, _, 0, _ => .nil
  | _, _, _ + 1, .nil => .nil
  | _, _, n + 1, .cons h r => .cons h (RpAll.take n r)
theorem RpAll.drop : ∀ {vs : List V} {ds : List PD} (n : Nat), RpAll k G vs ds → RpAll k G (vs.drop n) (ds.drop n)
  | _, _, 0, r => r
  | _, _, _ + 1, .nil => .nil
  | _, _, n + 1, .cons _ r => RpAll.drop n r
theorem RpAll.eraseIdx : ∀ {vs : List V} {ds : List PD} (n : Nat), RpAll k G vs ds → RpAll k G (vs.eraseIdx n) (ds.eraseIdx n)
  | _, _, _, .nil => .nil
  | _, _, 0, .cons _ r => r
  | _, _, n + 1, .cons h r => .cons h (RpAll.eraseIdx n r)
theorem RpAll.reverse {vs : List V} {ds : List PD} (h : RpAll k G vs ds) : RpAll k G vs.reverse ds.reverse := by
  induction vs generalizing ds with
  | nil => cases h; exact .nil
  | cons v vs ih =>
    cases h with
    | cons h r => simpa using (ih r).append (.cons h .nil)
end

/-! ### the heap in pieces -/
abbrev Disj (p q : Hp) : Prop := ∀ a, p a = none ∨ q a = none
def emp : Hp := fun _ => none
def one (a : Addr) (o : HO) : Hp := upd emp a o
def uni (p q : Hp) : Hp := fun a => match p a with
  | some o => some o
  | none => q a
theorem one_same {a : Addr} {o : HO} : one a o a = some o := upd_same
theorem one_ne {a b : Addr} {o : HO} (h : b ≠ a) : one a o b = none := upd_ne h
theorem one_some {a b : Addr} {o u : HO} (h : one a o b = some u) : b = a ∧ u = o := by
  by_cases e : b = a
  · subst e; rw [one_same] at h; exact ⟨rfl, (Option.some.inj h).symm⟩
  · rw [one_ne e] at h; cases h
theorem Disj.symm {p q : Hp} (h : Disj p q) : Disj q p := fun a => (h a).elim .inr .inl
theorem Disj.emp {p : Hp} : Disj p Den.emp := fun _ => .inr rfl
theorem Disj.of {p q : Hp} (h : ∀ a o, p a = some o → q a = none) : Disj p q := fun a => by
  cases e : p a with
  | none => exact .inl rfl
  | some o => exact .inr (h a o e)
theorem Disj.r {p q : Hp} (h : Disj p q) {a : Addr} {o : HO} (e : p a = some o) : q a = none := by
  rcases h a with z | z
  · rw [z] at e; cases e
  · exact z
theorem Disj.l {p q : Hp} (h : Disj p q) {a : Addr} {o : HO} (e : q a = some o) : p a = none := h.symm.r e
theorem uni_l {p q : Hp} {a : Addr} {o : HO} (h : p a = some o) : uni p q a = some o := by unfold uni; rw [h]
theorem uni_r {p q : Hp} {a : Addr} (h : p a = none) : uni p q a = q a := by unfold uni; rw [h]
theorem uni_some {p q : Hp} {a : Addr} {o : HO} (h : uni p q a = some o) : p a = some o ∨ (p a = none ∧ q a = some o) := by
  cases e : p a with
  | some u => rw [uni_l e] at h; exact .inl h
  | none => rw [uni_r e] at h; exact .inr ⟨rfl, h⟩
theorem uni_none {p q : Hp} {a : Addr} (h1 : p a = none) (h2 : q a = none) : uni p q a = none := by rw [uni_r h1, h2]
theorem uni_none_l {p q : Hp} {a : Addr} (h : uni p q a = none) : p a = none := by
  cases e : p a with
  | none => rfl
  | some o => rw [uni_l e] at h; cases h
theorem uni_none_r {p q : Hp} {a : Addr} (h : uni p q a = none) : q a = none := by rw [uni_r (uni_none_l h)] at h; exact h
theorem same_uni_l {p q : Hp} : Same p (uni p q) := fun _ _ e => uni_l e
theorem same_uni_r {p q : Hp} (d : Disj p q) : Same q (uni p q) := fun a o e => by rw [uni_r (d.l e)]; exact e
theorem same_emp {H : Hp} : Same emp H := fun _ _ e => by cases e
theorem same_one {H : Hp} {a : Addr} {o : HO} (h : H a = some o) : Same (one a o) H := fun b u e => by
  obtain ⟨rfl, rfl⟩ := one_some e
  exact h
theorem uni_emp (p : Hp) : uni p emp = p := by
  funext a
  cases e : p a with
  | none => exact uni_r e
  | some o => exact uni_l e

/-- the pieces: frozen data, the frame, one put aside, the slots' own, the handed-in ones -/
inductive Ix where
  | g | f | t | sl (i : Nat) | io (j : Nat)
  deriving DecidableEq
abbrev Pcs := Ix → Hp
structure Pc (H : Hp) (P : Pcs) : Prop where
  sub : ∀ x, Same (P x) H
  dis : ∀ x y, x ≠ y → Disj (P x) (P y)
def put (P : Pcs) (x : Ix) (M : Hp) : Pcs := fun y => if y = x then M else P y
theorem put_same {P : Pcs} {x : Ix} {M : Hp} : put P x M x = M := if_pos rfl
theorem put_ne {P : Pcs} {x y : Ix} {M : Hp} (h : y ≠ x) : put P x M y = P y := if_neg h
theorem Pc.put {H H' : Hp} {P : Pcs} {x : Ix} {M : Hp} (h : Pc H P) (k : ∀ a o, H a = some o → P x a = none → H' a = some o ∧ M a = none) (s : Same M H') : Pc H' (Den.put P x M) where
  sub := fun y => by
    by_cases e : y = x
    · subst e; rw [put_same]; exact s
    · rw [put_ne e]
      exact fun a o q => (k a o (h.sub y a o q) ((h.dis y x e).r q)).1
  dis := fun y z n => by
    by_cases e : y = x
    · subst e
      rw [put_same, put_ne (Ne.symm n)]
      exact Disj.symm (Disj.of fun a o q => (k a o (h.sub z a o q) ((h.dis z y (Ne.symm n)).r q)).2)
    · rw [put_ne e]
      by_cases e2 : z = x
      · subst e2
        rw [put_same]
        exact Disj.of fun a o q => (k a o (h.sub y a o q) ((h.dis y z e).r q)).2
      · rw [put_ne e2]; exact h.dis y z n
/-- a piece is let go -/
theorem Pc.drop {H : Hp} {P : Pcs} {x : Ix} (h : Pc H P) : Pc H (Den.put P x emp) := h.put (fun _ _ q _ => ⟨q, rfl⟩) same_emp
/-- a piece goes to another one -/
theorem Pc.move {H : Hp} {P : Pcs} {x y : Ix} (h : Pc H P) (n : x ≠ y) : Pc H (Den.put (Den.put P x emp) y (uni (P y) (P x))) where
  sub := fun z => by
    by_cases e : z = y
    · subst e; rw [put_same]
      intro a o q
      rcases uni_some q with q | ⟨_, q⟩
      · exact h.sub _ _ _ q
      · exact h.sub _ _ _ q
    · rw [put_ne e]
      by_cases e2 : z = x
      · subst e2; rw [put_same]; exact same_emp
      · rw [put_ne e2]; exact h.sub z
  dis := fun z w m => by
    have key : ∀ z, z ≠ y → Disj (Den.put (Den.put P x emp) y (uni (P y) (P x)) z) (uni (P y) (P x)) := fun z e => by
      rw [put_ne e]
      by_cases e2 : z = x
      · subst e2; rw [put_same]; exact fun _ => .inl rfl
      · rw [put_ne e2]
        exact Disj.of fun a o q => uni_none ((h.dis z y e).r q) ((h.dis z x e2).r q)
    by_cases e : z = y
    · subst e
      have k2 := key w (Ne.symm m)
      rw [show Den.put (Den.put P x emp) z (uni (P z) (P x)) z = uni (P z) (P x) from put_same]
      exact k2.symm
    · by_cases e2 : w = y
      · subst e2
        rw [show Den.put (Den.put P x emp) w (uni (P w) (P x)) w = uni (P w) (P x) from put_same]
        exact key z e
      · rw [put_ne e, put_ne e2]
        by_cases e3 : z = x
        · subst e3; rw [put_same]; exact fun _ => .inl rfl
        · rw [put_ne e3]
          by_cases e4 : w = x
          · subst e4; rw [put_same]; exact fun _ => .inr rfl
          · rw [put_ne e4]; exact h.dis z w m
/-- a piece is cut in two, the one part goes to a piece that is empty -/
theorem Pc.split {H : Hp} {P : Pcs} {x y : Ix} {A M : Hp} (h : Pc H P) (n : x ≠ y) (e : P y = uni A M) (d : Disj A M) : Pc H (Den.put (Den.put P y A) x M) where
  sub := fun z => by
    have hy := h.sub y
    rw [e] at hy
    by_cases e1 : z = x
    · subst e1; rw [put_same]; exact fun a o q => hy a o (same_uni_r d a o q)
    · rw [put_ne e1]
      by_cases e2 : z = y
      · subst e2; rw [put_same]; exact fun a o q => hy a o (same_uni_l a o q)
      · rw [put_ne e2]; exact h.sub z
  dis := fun z w m => by
    have kA : ∀ w, w ≠ y → Disj (P w) A := fun w nw => Disj.of fun a o q => by
      have z := (h.dis w y nw).r q
      rw [e] at z
      exact uni_none_l z
    have kM : ∀ w, w ≠ y → Disj (P w) M := fun w nw => Disj.of fun a o q => by
      have z := (h.dis w y nw).r q
      rw [e] at z
      exact uni_none_r z
    by_cases e1 : z = x
    · subst e1
      rw [put_same, put_ne (Ne.symm m)]
      by_cases e2 : w = y
      · subst e2; rw [put_same]; exact d.symm
      · rw [put_ne e2]; exact (kM w e2).symm
    · rw [put_ne e1]
      by_cases e2 : w = x
      · subst e2
        rw [put_same]
        by_cases e3 : z = y
        · subst e3; rw [put_same]; exact d
        · rw [put_ne e3]; exact kM z e3
      · rw [put_ne e2]
        by_cases e3 : z = y
        · subst e3
          rw [put_same, put_ne (Ne.symm m)]
          exact (kA w (Ne.symm m)).symm
        · rw [put_ne e3]
          by_cases e4 : w = y
          · subst e4; rw [put_same]; exact kA z e3
          · rw [put_ne e4]; exact h.dis z w m

/-! ### mutables, slots -/
structure Xc where
  cls : Str
  arg : PD
inductive MC where
  | lst (xs : List PD)
  | ll (xss : List (List PD))
  | dic (kvs : List (PD × PD))
  | ins (n : Str) (fs : List (Str × PD))
def MC.pd : MC → PD
  | .lst xs => .list xs
  | .ll xss => .list (xss.map .list)
  | .dic kvs => .dict kvs
  | .ins n fs => insD n fs
inductive Slot where
  | no | val (d : PD) | own (m : MC) | io (j : Nat) | xc (x : Xc)
structure Rho where
  sl : List Slot
  io : List MC
/-- the name under which an error keeps what it was made of -/
def xfn (cls : Str) : Str := if cls = ("InvalidSize" : Str) then "word" else "at"
def cellsOf : List Addr → List (List V) → Hp
  | b :: bs, vs :: vss => upd (cellsOf bs vss) b (.lst vs)
  | _, _ => emp
inductive RpLL (k : Kc) (G : Hp) : List (List V) → List (List PD) → Prop
  | nil : RpLL k G [] []
  | cons {v : List V} {vs : List (List V)} {d : List PD} {ds : List (List PD)} : RpAll k G v d → RpLL k G vs ds → RpLL k G (v :: vs) (d :: ds)
theorem RpLL.mono {k : Kc} {G G' : Hp} (s : Same G G') : ∀ {v : List (List V)} {d : List (List PD)}, RpLL k G v d → RpLL k G' v d
  | _, _, .nil => .nil
  | _, _, .cons h r => .cons (h.mono s) (RpLL.mono s r)
def MR (k : Kc) (G : Hp) : MC → Addr → Hp → Prop
  | .lst xs, a, M => ∃ vs, RpAll k G vs xs ∧ M = one a (.lst vs)
  | .ll xss, a, M => ∃ (bs : List Addr) (vss : List (List V)), bs.length = vss.length ∧ RpLL k G vss xss ∧ bs.Nodup ∧ a ∉ bs ∧ M = upd (cellsOf bs vss) a (.lst (bs.map V.ref))
  | .dic kvs, a, M => (∃ es, RpTs k G es kvs ∧ M = one a (.dT es)) ∨ ∃ es, RpKs k G es kvs ∧ M = one a (.dK es)
  | .ins n fs, a, M => ∃ (C dx : Addr) (vs : List (Str × V)), k.kl n = some C ∧ RpFs k G vs (fs.map fun p => (.str p.1, p.2)) ∧ dx ≠ a ∧ M = upd (one dx (.own a)) a (.ins C dx vs)
theorem MR.mono {k : Kc} {G G' : Hp} (s : Same G G') {m : MC} {a : Addr} {M : Hp} (h : MR k G m a M) : MR k G' m a M := by
  cases m with
  | lst xs => obtain ⟨vs, r, e⟩ := h; exact ⟨vs, r.mono s, e⟩
  | ll xss => obtain ⟨bs, vss, l, r, e⟩ := h; exact ⟨bs, vss, l, r.mono s, e⟩
  | dic kvs =>
    rcases h with ⟨es, r, e⟩ | ⟨es, r, e⟩
    · exact .inl ⟨es, r.mono s, e⟩
    · exact .inr ⟨es, r.mono s, e⟩
  | ins n fs => obtain ⟨C, dx, vs, e, r, q⟩ := h; exact ⟨C, dx, vs, e, r.mono s, q⟩

structure Cc where
  kc : Kc
  xa : Addr → Value → Addr → Prop
def SlOk (c : Cc) (ioA : List Addr) (G : Hp) (s : Slot) (ov : Option (Option V)) (M : Hp) : Prop := match s with
  | .no => True
  | .val d => ∃ v, ov = some (some v) ∧ Rp c.kc G v d
  | .own m => ∃ a, ov = some (some (.ref a)) ∧ MR c.kc G m a M
  | .io j => ∃ a, ioA[j]? = some a ∧ ov = some (some (.ref a))
  | .xc x => ∃ (a : Addr) (C d : Addr) (v : V), ov = some (some (.ref a)) ∧ c.kc.kl x.cls = some C ∧ c.xa a (.ref C) d ∧ M = one d (.xd [(xfn x.cls, v)]) ∧ Rp c.kc G v x.arg
theorem SlOk.mono {c : Cc} {ioA : List Addr} {G G' : Hp} (s : Same G G') {sl : Slot} {ov : Option (Option V)} {M : Hp} (h : SlOk c ioA G sl ov M) : SlOk c ioA G' sl ov M := by
  cases sl with
  | no => exact h
  | val d => obtain ⟨v, e, r⟩ := h; exact ⟨v, e, r.mono s⟩
  | own m => obtain ⟨a, e, r⟩ := h; exact ⟨a, e, r.mono s⟩
  | io j => exact h
  | xc x => obtain ⟨a, C, d, v, e, h1, h2, h3, r⟩ := h; exact ⟨a, C, d, v, e, h1, h2, h3, r.mono s⟩

structure RepW (c : Cc) (ioA : List Addr) (ρ : Rho) (σ : St) (H : Hp) (P : Pcs) : Prop where
  pc : Pc H P
  len : σ.length = ρ.sl.length
  so : ∀ i s, ρ.sl[i]? = some s → SlOk c ioA (P .g) s σ[i]? (P (.sl i))
  io : ∀ j m, ρ.io[j]? = some m → ∃ a, ioA[j]? = some a ∧ MR c.kc (P .g) m a (P (.io j))
/-- from a piece of code to what is behind it -/
structure Stp (P P' : Pcs) : Prop where
  g : Same (P .g) (P' .g)
  f : P' .f = P .f
theorem Stp.refl (P : Pcs) : Stp P P := ⟨Same.refl _, rfl⟩
theorem Stp.trans {P P1 P2 : Pcs} (a : Stp P P1) (b : Stp P1 P2) : Stp P P2 := ⟨a.g.trans b.g, b.f.trans a.f⟩

section
variable {c : Cc} {ioA : List Addr} {ρ : Rho} {σ : St} {H H' : Hp} {P : Pcs}
/-- the frozen part grows, new objects alone -/
theorem RepW.grow {G' : Hp} (r : RepW c ioA ρ σ H P) (s : Same (P .g) G') (k : ∀ a o, H a = some o → H' a = some o ∧ (P .g a = none → G' a = none)) (s2 : Same G' H') : RepW c ioA ρ σ H' (put P .g G') where
  pc := r.pc.put (fun a o q n => ⟨(k a o q).1, (k a o q).2 n⟩) s2
  len := r.len
  so := fun i sl e => by
    have h := r.so i sl e
    rw [put_same, put_ne (by simp)]
    exact h.mono s
  io := fun j m e => by
    obtain ⟨a, e1, h⟩ := r.io j m e
    rw [put_same, put_ne (by simp)]
    exact ⟨a, e1, h.mono s⟩
theorem RepW.new {p : Addr} {o : HO} (r : RepW c ioA ρ σ H P) (n : H p = none) : RepW c ioA ρ σ (upd H p o) (put P .g (upd (P .g) p o)) := by
  have ng : P .g p = none := by
    cases e : P .g p with
    | none => rfl
    | some u => have := r.pc.sub .g p u e; rw [n] at this; cases this
  refine r.grow (fun b u e => by rw [upd_ne (ne_of_none e ng)]; exact e) (fun a u q => ⟨by rw [upd_ne (ne_of_none q n)]; exact q, fun z => by rw [upd_ne (ne_of_none q n)]; exact z⟩) fun b u e => ?_
  by_cases h : b = p
  · subst h; rw [upd_same] at e ⊢; exact e
  · rw [upd_ne h] at e ⊢; exact r.pc.sub .g b u e
theorem stp_new {p : Addr} {o : HO} (n : P .g p = none) : Stp P (put P .g (upd (P .g) p o)) := ⟨by rw [put_same]; exact fun b u e => by rw [upd_ne (ne_of_none e n)]; exact e, put_ne (by decide)⟩
theorem RepW.gnone (r : RepW c ioA ρ σ H P) {x : Ix} {p : Addr} (n : H p = none) : P x p = none := by
  cases e : P x p with
  | none => rfl
  | some u => have := r.pc.sub x p u e; rw [n] at this; cases this
/-- a slot holds a datum -/
theorem RepW.setVal {i : Nat} {v : V} {d : PD} (r : RepW c ioA ρ σ H P) (h : Rp c.kc (P .g) v d) : RepW c ioA { ρ with sl := ρ.sl.set i (.val d) } (σ.set i (some v)) H (put P (.sl i) emp) where
  pc := r.pc.drop
  len := by simpa using r.len
  so := fun j s e => by
    rw [show put P (.sl i) emp .g = P .g from put_ne (by simp)]
    rw [List.getElem?_set] at e
    by_cases hj : i = j
    · subst hj
      simp only [if_true] at e
      split at e
      · rename_i hl
        cases e
        exact ⟨v, by rw [List.getElem?_set_self (by rw [r.len]; exact hl)], h⟩
      · cases e
    · rw [if_neg hj] at e
      rw [List.getElem?_set_ne hj, put_ne (by simp; exact fun z => hj z.symm)]
      exact r.so j s e
  io := fun j m e => by
    rw [show put P (.sl i) emp .g = P .g from put_ne (by simp), put_ne (by simp)]
    exact r.io j m e
/-- slots forgotten -/
theorem RepW.kill {i : Nat} (r : RepW c ioA ρ σ H P) : RepW c ioA { ρ with sl := ρ.sl.set i .no } σ H P where
  pc := r.pc
  len := by simpa using r.len
  so := fun j s e => by
    rw [List.getElem?_set] at e
    by_cases hj : i = j
    · subst hj
      simp only [if_true] at e
      split at e
      · cases e; trivial
      · cases e
    · rw [if_neg hj] at e
      exact r.so j s e
  io := r.io
end
end Den

set_option Elab.async false
set_option linter.all false
set_option maxRecDepth 100000
/-! DenB: what an expression does (M), its reading (tM), expressions' rules. -/
namespace Den
open PySem PySem.Spec
open PyProof.Rows L2

inductive R (α : Type) where
  | ok (a : α) (ρ : Rho) | exc (x : Xc) (ρ : Rho) | bad
abbrev M (α : Type) := Rho → R α
def mbind {α β : Type} (m : M α) (f : α → M β) : M β := fun ρ => match m ρ with
  | .ok a ρ1 => f a ρ1
  | .exc x ρ1 => .exc x ρ1
  | .bad => .bad
def mpure {α : Type} (a : α) : M α := fun ρ => .ok a ρ
def mopt {α : Type} (o : Option α) : M α := fun ρ => match o with
  | some a => .ok a ρ
  | none => .bad

/-- an exception as it lies -/
def XR (k : Kc) (x : Xc) (cls : Value) (dx : Option Addr) (H : Hp) (P : Pcs) : Prop := ∃ (C d : Addr) (v : V), k.kl x.cls = some C ∧ cls = .ref C ∧ dx = some d ∧ H d = some (.xd [(xfn x.cls, v)]) ∧ Rp k (P .g) v x.arg ∧ ∀ y, P y d = none

section
variable {α β γ δ : Type}
def tMat (c : Cc) (ioA : List Addr) (W : WX) (VR : α → β → St → Hp → Pcs → Prop) (f : M α) (ρ : Rho) (P : Pcs) (σ : St) (Q : β → Hp → Prop) : Prop := match f ρ with
  | .ok a ρ' => ∀ b H' P', Stp P P' → RepW c ioA ρ' σ H' P' → VR a b σ H' P' → Q b H'
  | .exc x ρ' => ∀ cls dx H' P', Stp P P' → RepW c ioA ρ' σ H' P' → XR c.kc x cls dx H' P' → W cls dx σ H'
  | .bad => False
def tM (c : Cc) (ioA : List Addr) (W : WX) (VR : α → β → St → Hp → Pcs → Prop) (f : M α) : St → Hp → (β → Hp → Prop) → Prop := fun σ H Q => ∃ ρ P, RepW c ioA ρ σ H P ∧ tMat c ioA W VR f ρ P σ Q

variable {c : Cc} {ioA : List Addr} {W : WX} {VR : α → β → St → Hp → Pcs → Prop} {VR2 : γ → δ → St → Hp → Pcs → Prop} {ρ : Rho} {P P0 : Pcs} {σ : St} {H : Hp}
theorem tMat.mono {f : M α} {Q Q' : β → Hp → Prop} (h : tMat c ioA W VR f ρ P σ Q) (k : ∀ b H', Q b H' → Q' b H') : tMat c ioA W VR f ρ P σ Q' := by
  unfold tMat at h ⊢
  cases e : f ρ with
  | ok a ρ' => rw [e] at h; exact fun b H' P' s r v => k b H' (h b H' P' s r v)
  | exc x ρ' => rw [e] at h; exact h
  | bad => rw [e] at h; exact h.elim
theorem tMat.back {f : M α} {Q : β → Hp → Prop} (h : tMat c ioA W VR f ρ P0 σ Q) (s0 : Stp P0 P) : tMat c ioA W VR f ρ P σ Q := by
  unfold tMat at h ⊢
  cases e : f ρ with
  | ok a ρ' => rw [e] at h; exact fun b H' P' s r v => h b H' P' (s0.trans s) r v
  | exc x ρ' => rw [e] at h; exact fun cls dx H' P' s r v => h cls dx H' P' (s0.trans s) r v
  | bad => rw [e] at h; exact h.elim
/-- behind a first part -/
theorem tMat.bind {f : M α} {k : α → M γ} {Q : δ → Hp → Prop} (h : tMat c ioA W VR2 (mbind f k) ρ P σ Q) :
    tMat c ioA W VR f ρ P σ (fun b H1 => ∃ a ρ1 P1, Stp P P1 ∧ RepW c ioA ρ1 σ H1 P1 ∧ VR a b σ H1 P1 ∧ tMat c ioA W VR2 (k a) ρ1 P1 σ Q) := by
  unfold tMat at h ⊢
  unfold mbind at h
  cases e : f ρ with
  | ok a ρ' =>
    rw [e] at h
    refine fun b H' P' s r v => ⟨a, ρ', P', s, r, v, ?_⟩
    have h' : tMat c ioA W VR2 (k a) ρ' P σ Q := h
    exact h'.back s
  | exc x ρ' => rw [e] at h; exact h
  | bad => rw [e] at h; exact h.elim
theorem tMat.pure {a : α} {Q : β → Hp → Prop} (h : tMat c ioA W VR (mpure a) ρ P σ Q) (r : RepW c ioA ρ σ H P) {b : β} (v : VR a b σ H P) : Q b H := h b H P (Stp.refl _) r v
theorem tMat.ok {f : M α} {a : α} {ρ' : Rho} {Q : β → Hp → Prop} (h : tMat c ioA W VR f ρ P σ Q) (e : f ρ = .ok a ρ') : ∀ b H' P', Stp P P' → RepW c ioA ρ' σ H' P' → VR a b σ H' P' → Q b H' := by
  unfold tMat at h; rw [e] at h; exact h
theorem tMat.opt {o : Option α} {Q : β → Hp → Prop} (h : tMat c ioA W VR (mopt o) ρ P σ Q) (r : RepW c ioA ρ σ H P) : ∃ a, o = some a ∧ ∀ b H' P', Stp P P' → RepW c ioA ρ σ H' P' → VR a b σ H' P' → Q b H' := by
  unfold tMat mopt at h
  cases o with
  | none => exact h.elim
  | some a => exact ⟨a, rfl, h⟩
end

/-! ### operands -/
/-- what an operand is: a datum, or what a slot holds -/
inductive Pk where
  | d (x : PD) | sl (i : Nat)
def MC.look : MC → Option PD
  | .ll _ => none
  | m => some m.pd
def look : Pk → Rho → Option PD
  | .d x, _ => some x
  | .sl i, ρ => match ρ.sl[i]? with
    | some (.val d) => some d
    | some (.own m) => m.look
    | some (.io j) => (match ρ.io[j]? with
      | some m => m.look
      | none => none)
    | _ => none
def VRe (c : Cc) : PD → V → St → Hp → Pcs → Prop := fun d v _ _ P => Rp c.kc (P .g) v d
def VRk (c : Cc) : Pk → V → St → Hp → Pcs → Prop := fun p v σ _ P => match p with
  | .d x => Rp c.kc (P .g) v x
  | .sl i => σ[i]? = some (some v)
def VRb : Bool → Bool → St → Hp → Pcs → Prop := fun b b' _ _ _ => b = b'
def VRas (c : Cc) : List PD → List V → St → Hp → Pcs → Prop := fun ds vs _ _ P => RpAll c.kc (P .g) vs ds
inductive VRks (c : Cc) (σ : St) (P : Pcs) : List Pk → List V → Prop
  | nil : VRks c σ P [] []
  | cons {p : Pk} {v : V} {ps : List Pk} {vs : List V} : VRk c p v σ emp P → VRks c σ P ps vs → VRks c σ P (p :: ps) (v :: vs)
/-- a fresh list, put aside -/
def VRf (c : Cc) : List PD → V → St → Hp → Pcs → Prop := fun xs v _ _ P => ∃ p, v = .ref p ∧ MR c.kc (P .g) (.lst xs) p (P .t)
theorem VRk.step {c : Cc} {p : Pk} {v : V} {σ : St} {H H' : Hp} {P P' : Pcs} (h : VRk c p v σ H P) (s : Stp P P') : VRk c p v σ H' P' := by
  cases p with
  | d x => exact Rp.mono s.g h
  | sl i => exact h
theorem VRks.step {c : Cc} {σ : St} {P P' : Pcs} (s : Stp P P') : ∀ {ps : List Pk} {vs : List V}, VRks c σ P ps vs → VRks c σ P' ps vs
  | _, _, .nil => .nil
  | _, _, .cons h r => .cons (h.step s) (VRks.step s r)

/-- to be read as a datum, here and now -/
def PkR (k : Kc) (G H : Hp) (v : V) (d : PD) : Prop := Rp k G v d ∨ ∃ m a M, v = .ref a ∧ MR k G m a M ∧ Same M H ∧ m.look = some d
theorem look_ok {c : Cc} {ioA : List Addr} {ρ : Rho} {σ : St} {H : Hp} {P : Pcs} {p : Pk} {v : V} {d : PD} (r : RepW c ioA ρ σ H P) (h : VRk c p v σ H P) (e : look p ρ = some d) : PkR c.kc (P .g) H v d := by
  cases p with
  | d x => cases e; exact .inl h
  | sl i =>
    unfold look at e
    have h' : σ[i]? = some (some v) := h
    cases q : ρ.sl[i]? with
    | none => simp only [q] at e; cases e
    | some s =>
      have so := r.so i s q
      cases s with
      | no => simp only [q] at e; cases e
      | val x =>
        simp only [q] at e; cases e
        obtain ⟨w, e1, e2⟩ := so
        rw [h'] at e1; cases e1
        exact .inl e2
      | own m =>
        simp only [q] at e
        obtain ⟨a, e1, e2⟩ := so
        rw [h'] at e1; cases e1
        exact .inr ⟨m, a, _, rfl, e2, r.pc.sub _, e⟩
      | io j =>
        simp only [q] at e
        obtain ⟨a, e1, e2⟩ := so
        rw [h'] at e2; cases e2
        cases q2 : ρ.io[j]? with
        | none => simp only [q2] at e; cases e
        | some m =>
          simp only [q2] at e
          obtain ⟨b, e3, e4⟩ := r.io j m q2
          rw [e1] at e3; cases e3
          exact .inr ⟨m, a, _, rfl, e4, r.pc.sub _, e⟩
      | xc x => simp only [q] at e; cases e

section
variable {k : Kc} {G H : Hp} {v : V}
theorem PkR.list {ds : List PD} (s : Same G H) (h : PkR k G H v (.list ds)) : ∃ a xs, v = .ref a ∧ H a = some (.lst xs) ∧ RpAll k G xs ds := by
  rcases h with h | ⟨m, a, M, rfl, h, sm, e⟩
  · cases h with
    | lst h r => exact ⟨_, _, rfl, s _ _ h, r⟩
  · cases m with
    | lst xs =>
      obtain ⟨vs, r, rfl⟩ := h
      cases e
      exact ⟨a, vs, rfl, sm _ _ one_same, r⟩
    | ll xss => cases e
    | dic kvs => cases e
    | ins n fs => cases e
theorem PkR.tuple {ds : List PD} (s : Same G H) (h : PkR k G H v (.tuple ds)) : ∃ a xs, v = .ref a ∧ SqT k.K H a xs ∧ RpAll k G xs ds := by
  rcases h with h | ⟨m, a, M, rfl, h, sm, e⟩
  · cases h with
    | tup h r => exact ⟨_, _, rfl, h.seqT s, r⟩
  · cases m <;> cases e
theorem PkR.tupS {ds : List PD} (s : Same G H) (h : PkR k G H v (.tuple ds)) : ∃ a xs, v = .ref a ∧ TupR H a xs ∧ RpAll k G xs ds := by
  rcases h with h | ⟨m, a, M, rfl, h, sm, e⟩
  · cases h with
    | tup h r => exact ⟨_, _, rfl, h.imp fun _ z => ⟨z.1, s _ _ z.2⟩, r⟩
  · cases m <;> cases e
theorem PkR.int {i : Int} (h : PkR k G H v (.int i)) : v = .int i := by
  rcases h with h | ⟨m, a, M, rfl, h, sm, e⟩
  · cases h; rfl
  · cases m <;> cases e
theorem PkR.bl {i : Bool} (h : PkR k G H v (.bool i)) : v = .bl i := by
  rcases h with h | ⟨m, a, M, rfl, h, sm, e⟩
  · cases h; rfl
  · cases m <;> cases e
theorem PkR.str {i : Str} (h : PkR k G H v (.str i)) : v = .str i := by
  rcases h with h | ⟨m, a, M, rfl, h, sm, e⟩
  · cases h; rfl
  · cases m <;> cases e
theorem PkR.non (h : PkR k G H v .none) : v = .non := by
  rcases h with h | ⟨m, a, M, rfl, h, sm, e⟩
  · cases h; rfl
  · cases m <;> cases e
end

/-! ### data without dicts, as HandS reads them -/
mutual
def plainD : PD → Bool
  | .list xs => plainDs xs
  | .tuple xs => plainDs xs
  | .dict _ => false
  | _ => true
def plainDs : List PD → Bool
  | [] => true
  | x :: xs => plainD x && plainDs xs
end
section
variable {k : Kc} {G H : Hp}
mutual
theorem Rp.dp (s : Same G H) : ∀ {v : V} {d : PD}, Rp k G v d → plainD d = true → Dp k.K H v d
  | _, _, .non, _ => .non
  | _, _, .bl b, _ => .bl b
  | _, _, .int i, _ => .int i
  | _, _, .str x, _ => .str x
  | _, _, .lst h r, p => .lst (.inl (.inl (s _ _ h))) (RpAll.dp s r (by simpa [plainD] using p))
  | _, _, .scr h r, p => by simp [plainD] at p
  | _, _, .tup h r, p => .tup (h.seqT s) (RpAll.dp s r (by simpa [plainD] using p))
  | _, _, .ins h e r, p => by simp [plainD] at p
  | _, _, .dK h r, p => by simp [plainD] at p
  | _, _, .dT h r, p => by simp [plainD] at p
theorem RpAll.dp (s : Same G H) : ∀ {vs : List V} {ds : List PD}, RpAll k G vs ds → plainDs ds = true → DpAll k.K H vs ds
  | _, _, .nil, _ => .nil
  | _, _, .cons (d := d) (ds := ds) h r, p => by
    have p' : (plainD d && plainDs ds) = true := by simpa [plainDs] using p
    obtain ⟨p1, p2⟩ := Bool.and_eq_true_iff.mp p'
    exact .cons (Rp.dp s h p1) (RpAll.dp s r p2)
end
theorem PkR.dp {v : V} {d : PD} (s : Same G H) (h : PkR k G H v d) (p : plainD d = true) : Dp k.K H v d := by
  rcases h with h | ⟨m, a, M, rfl, h, sm, e⟩
  · exact h.dp s p
  · cases m with
    | lst xs =>
      obtain ⟨vs, r, rfl⟩ := h
      cases e
      exact .lst (.inl (.inl (sm _ _ one_same))) (r.dp s (by simpa [plainD, MC.pd] using p))
    | ll xss => cases e
    | dic kvs => cases e; simp [plainD, MC.pd] at p
    | ins n fs => cases e; simp [plainD, MC.pd, insD] at p
end

/-! ### what stays true around a piece of code -/
structure Gd (X : Cx) (c : Cc) : Prop where
  hK : c.kc.K = X.K
  un : X.A.units + 190 < cLine

def DE (X : Cx) (c : Cc) (W : WX) (e : Expr) (f : M PD) : Prop := Gd X c → ∀ ioA, PE X e (tM c ioA W (VRe c) f)
def DK (X : Cx) (c : Cc) (W : WX) (e : Expr) (f : M Pk) : Prop := Gd X c → ∀ ioA, PE X e (tM c ioA W (VRk c) f)
def DF (X : Cx) (c : Cc) (W : WX) (e : Expr) (f : M (List PD)) : Prop := Gd X c → ∀ ioA, PE X e (tM c ioA W (VRf c) f)
def DT (X : Cx) (c : Cc) (W : WX) (e : Expr) (f : M Bool) : Prop := Gd X c → ∀ ioA, PT X e (tM c ioA W VRb f)
def DW (X : Cx) (c : Cc) (W : WX) (e : Expr) (f : M Bool) : Prop := Gd X c → ∀ ioA, PW X e (tM c ioA W VRb f)
def DKs (X : Cx) (c : Cc) (W : WX) (es : List Expr) (f : M (List Pk)) : Prop := Gd X c → ∀ ioA, PA X es (tM c ioA W (fun ps vs σ _ P => VRks c σ P ps vs) f)
def DEs (X : Cx) (c : Cc) (W : WX) (es : List Expr) (f : M (List PD)) : Prop := Gd X c → ∀ ioA, PA X es (tM c ioA W (VRas c) f)

theorem PE.imp {X : Cx} {e : Expr} {t t' : TE} (h : PE X e t) (i : ∀ σ H Q, t' σ H Q → t σ H Q) : PE X e t' := ⟨fun pins s σ H Q I q => h.run pins s σ H Q I (i σ H Q q)⟩
theorem PT.imp {X : Cx} {e : Expr} {t t' : TT} (h : PT X e t) (i : ∀ σ H Q, t' σ H Q → t σ H Q) : PT X e t' := ⟨fun pins s σ H Q I q => h.run pins s σ H Q I (i σ H Q q)⟩
theorem PW.imp {X : Cx} {e : Expr} {t t' : TT} (h : PW X e t) (i : ∀ σ H Q, t' σ H Q → t σ H Q) : PW X e t' := ⟨fun w pins s σ H Q I q => h.run w pins s σ H Q I (i σ H Q q)⟩
theorem PA.imp {X : Cx} {e : List Expr} {t t' : TA} (h : PA X e t) (i : ∀ σ H Q, t' σ H Q → t σ H Q) : PA X e t' := ⟨fun w pins s σ H Q I q => h.run w pins s σ H Q I (i σ H Q q)⟩
theorem PS.imp {X : Cx} {e : Stmt} {t t' : TS} (h : PS X e t) (i : ∀ D σ H, t' D σ H → t D σ H) : PS X e t' := ⟨fun pins s σ H D I q => h.run pins s σ H D I (i D σ H q)⟩
theorem PSs.imp {X : Cx} {e : List Stmt} {t t' : TS} (h : PSs X e t) (i : ∀ D σ H, t' D σ H → t D σ H) : PSs X e t' := ⟨fun pins s σ H D I q => h.run pins s σ H D I (i D σ H q)⟩

/-- from MR to a datum, where the mutable is frozen -/
theorem MR.rp {k : Kc} {G G' : Hp} {m : MC} {a : Addr} {M : Hp} (h : MR k G m a M) (s : Same G G') (sm : Same M G') : Rp k G' (.ref a) m.pd := by
  cases m with
  | lst xs =>
    obtain ⟨vs, r, rfl⟩ := h
    exact .lst (sm _ _ one_same) (r.mono s)
  | ll xss =>
    obtain ⟨bs, vss, l, r, nd, na, rfl⟩ := h
    refine .lst (sm _ _ upd_same) ?_
    have key : ∀ (bs : List Addr) (vss : List (List V)) (xss : List (List PD)), bs.length = vss.length → RpLL k G vss xss → bs.Nodup → (∀ b vs, cellsOf bs vss b = some vs → G' b = some vs) → RpAll k G' (bs.map V.ref) (xss.map PyData.list) := by
      intro bs
      induction bs with
      | nil =>
        intro vss xss hl hr _ _
        cases hr with
        | nil => exact .nil
        | cons _ _ => simp at hl
      | cons b bs ih =>
        intro vss xss hl hr hn hs
        cases hr with
        | nil => simp at hl
        | cons h1 h2 =>
          refine .cons (.lst (hs _ _ upd_same) (h1.mono s)) (ih _ _ (by simpa using hl) h2 (List.nodup_cons.mp hn).2 fun b' vs e => hs b' vs ?_)
          have nb : b' ≠ b := by
            rintro rfl
            have : ∀ (bs : List Addr) (vss : List (List V)) (u : HO), cellsOf bs vss b' = some u → b' ∈ bs := by
              intro bs
              induction bs with
              | nil => intro vss u e; cases vss <;> cases e
              | cons x bs ih2 =>
                intro vss u e
                cases vss with
                | nil => cases e
                | cons y vss =>
                  by_cases hb : b' = x
                  · rw [hb]; exact List.mem_cons_self
                  · unfold cellsOf at e
                    rw [upd_ne hb] at e
                    exact List.mem_cons_of_mem _ (ih2 vss u e)
            exact (List.nodup_cons.mp hn).1 (this _ _ _ e)
          show upd (cellsOf _ _) b _ b' = _
          rw [upd_ne nb]; exact e
    exact key bs vss xss l r nd fun b vs e => sm _ _ (by
      by_cases hb : b = a
      · subst hb
        have : ∀ (bs : List Addr) (vss : List (List V)) (u : HO), cellsOf bs vss b = some u → b ∈ bs := by
          intro bs
          induction bs with
          | nil => intro vss u e; cases vss <;> cases e
          | cons x bs ih2 =>
            intro vss u e
            cases vss with
            | nil => cases e
            | cons y vss =>
              by_cases hb : b = x
              · rw [hb]; exact List.mem_cons_self
              · unfold cellsOf at e
                rw [upd_ne hb] at e
                exact List.mem_cons_of_mem _ (ih2 vss u e)
        exact absurd (this _ _ _ e) na
      · rw [upd_ne hb]; exact e)
  | dic kvs =>
    rcases h with ⟨es, r, rfl⟩ | ⟨es, r, rfl⟩
    · exact .dT (sm _ _ one_same) (r.mono s)
    · exact .dK (sm _ _ one_same) (r.mono s)
  | ins n fs =>
    obtain ⟨C, dx, vs, e, r, ne, rfl⟩ := h
    exact .ins (sm _ _ upd_same) e (r.mono s)

section
variable {X : Cx} {c : Cc} {W : WX} {pos : Pos}
theorem de_int {i j} : DE X c W (.Constant (.int i) j pos) (mpure (.int i)) := fun _ _ => PE.imp pe_int fun _ _ _ ⟨_, _, r, h⟩ => h.pure r (.int i)
theorem de_bl {b j} : DE X c W (.Constant (.bool b) j pos) (mpure (.bool b)) := fun _ _ => PE.imp pe_bl fun _ _ _ ⟨_, _, r, h⟩ => h.pure r (.bl b)
theorem de_non {j} : DE X c W (.Constant .none j pos) (mpure .none) := fun _ _ => PE.imp pe_non fun _ _ _ ⟨_, _, r, h⟩ => h.pure r .non
theorem de_str {x j} : DE X c W (.Constant (.str x) j pos) (mpure (.str x)) := fun _ _ => PE.imp pe_str fun _ _ _ ⟨_, _, r, h⟩ => h.pure r (.str x)
/-- a name's value is used: a mutable is frozen -/
def dVar (i : Nat) : M PD := fun ρ => match ρ.sl[i]? with
  | some (.val d) => .ok d ρ
  | some (.own m) => .ok m.pd { ρ with sl := ρ.sl.set i (.val m.pd) }
  | _ => .bad
theorem RepW.freeze {ioA : List Addr} {ρ : Rho} {σ : St} {H : Hp} {P : Pcs} {i : Nat} {m : MC} (r : RepW c ioA ρ σ H P) (e : ρ.sl[i]? = some (.own m)) :
    RepW c ioA { ρ with sl := ρ.sl.set i (.val m.pd) } σ H (put (put P (.sl i) emp) .g (uni (P .g) (P (.sl i)))) := by
  have hG : Same (P .g) (uni (P .g) (P (.sl i))) := same_uni_l
  refine ⟨r.pc.move (by simp), by simpa using r.len, fun j s q => ?_, fun j m' q => ?_⟩
  · rw [put_same, put_ne (by simp)]
    rw [List.getElem?_set] at q
    by_cases hj : i = j
    · subst hj
      simp only [if_true] at q
      split at q
      · cases q
        obtain ⟨a, e1, e2⟩ := r.so i _ e
        exact ⟨.ref a, e1, e2.rp hG (same_uni_r (r.pc.dis _ _ (by simp)))⟩
      · cases q
    · rw [if_neg hj] at q
      rw [put_ne (by simp; exact fun z => hj z.symm)]
      exact (r.so j s q).mono hG
  · rw [put_same, put_ne (by simp), put_ne (by simp)]
    obtain ⟨a, e1, e2⟩ := r.io j m' q
    exact ⟨a, e1, e2.mono hG⟩
theorem stp_freeze {P : Pcs} {i : Nat} : Stp P (put (put P (.sl i) emp) .g (uni (P .g) (P (.sl i)))) := ⟨by rw [put_same]; exact same_uni_l, by rw [put_ne (by simp), put_ne (by simp)]⟩
theorem de_var (i : Nat) {x : Str} (hN : X.N[i]? = some x := by rfl) (hv : Vis X.env.scope x := by first | exact Or.inl rfl | exact Or.inr (Or.inl rfl) | exact Or.inr (Or.inr rfl)) (hd : (x == ("__debug__" : Str)) = false := by decide)
    (hcd : (x == ("__classdict__" : Str)) = false := by decide) : DE X c W (.Name x pos) (dVar i) := by
  intro _ ioA
  refine PE.imp (pe_var hN hv hd hcd) fun σ H Q ⟨ρ, P, r, h⟩ => ?_
  unfold tMat dVar at h
  cases e : ρ.sl[i]? with
  | none => simp only [e] at h
  | some s =>
    have so := r.so i s e
    cases s with
    | val d =>
      simp only [e] at h
      obtain ⟨v, e1, e2⟩ := so
      exact ⟨v, e1, h v H P (Stp.refl _) r e2⟩
    | own m =>
      simp only [e] at h
      obtain ⟨a, e1, e2⟩ := so
      exact ⟨.ref a, e1, h (.ref a) H _ stp_freeze (r.freeze e) (by
        show Rp c.kc _ _ _
        rw [put_same]
        exact e2.rp same_uni_l (same_uni_r (r.pc.dis _ _ (by simp))))⟩
    | no => simp only [e] at h
    | io j => simp only [e] at h
    | xc x => simp only [e] at h
/-- a name as an operand: what is bound at the slot -/
def dkVar (i : Nat) : M Pk := fun ρ => match ρ.sl[i]? with
  | some .no => .bad
  | some _ => .ok (.sl i) ρ
  | none => .bad
def dkE (f : M PD) : M Pk := mbind f fun d => mpure (.d d)
theorem dk_var (i : Nat) {x : Str} (hN : X.N[i]? = some x := by rfl) (hv : Vis X.env.scope x := by first | exact Or.inl rfl | exact Or.inr (Or.inl rfl) | exact Or.inr (Or.inr rfl)) (hd : (x == ("__debug__" : Str)) = false := by decide)
    (hcd : (x == ("__classdict__" : Str)) = false := by decide) : DK X c W (.Name x pos) (dkVar i) := by
  intro _ ioA
  refine PE.imp (pe_var hN hv hd hcd) fun σ H Q ⟨ρ, P, r, h⟩ => ?_
  unfold tMat dkVar at h
  cases e : ρ.sl[i]? with
  | none => simp only [e] at h
  | some s =>
    have so := r.so i s e
    have key : ∀ v, σ[i]? = some (some v) → (∀ b H' P', Stp P P' → RepW c ioA ρ σ H' P' → VRk c (.sl i) b σ H' P' → Q b H') → ∃ v, σ[i]? = some (some v) ∧ Q v H := fun v e1 h => ⟨v, e1, h v H P (Stp.refl _) r e1⟩
    cases s with
    | val d => simp only [e] at h; obtain ⟨v, e1, _⟩ := so; exact key _ e1 h
    | own m => simp only [e] at h; obtain ⟨a, e1, _⟩ := so; exact key _ e1 h
    | no => simp only [e] at h
    | io j => simp only [e] at h; obtain ⟨a, _, e1⟩ := so; exact key _ e1 h
    | xc x => simp only [e] at h; obtain ⟨a, _, _, _, e1, _⟩ := so; exact key _ e1 h
end
end Den

set_option Elab.async false
set_option linter.all false
set_option maxRecDepth 100000
/-! DenC: operators, comparisons, tests. -/
namespace Den
open PySem PySem.Spec
open PyProof.Rows L2

/-- the frozen part and the heap behind an operation: new objects alone -/
structure Ext (G H G' H' : Hp) : Prop where
  g : Same G G'
  h : Same G' H'
  k : ∀ a o, H a = some o → H' a = some o ∧ (G a = none → G' a = none)
def OutOk (k : Kc) (G H : Hp) (d : PD) (Q : VK) : Prop := ∀ v G' H', Ext G H G' H' → Rp k G' v d → Q v H'
theorem Ext.refl {G H : Hp} (s : Same G H) : Ext G H G H := ⟨Same.refl _, s, fun _ _ e => ⟨e, fun z => z⟩⟩
theorem gone_of {G H : Hp} (s : Same G H) {p : Addr} (n : H p = none) : G p = none := by
  cases e : G p with
  | none => rfl
  | some o => rw [s p o e] at n; cases n
theorem Ext.new {G H : Hp} {p : Addr} {o : HO} (s : Same G H) (n : H p = none) : Ext G H (upd G p o) (upd H p o) where
  g := fun b u e => by rw [upd_ne (ne_of_none e (gone_of s n))]; exact e
  h := fun b u e => by
    by_cases h : b = p
    · subst h; rw [upd_same] at e ⊢; exact e
    · rw [upd_ne h] at e ⊢; exact s b u e
  k := fun a u e => ⟨by rw [upd_ne (ne_of_none e n)]; exact e, fun z => by rw [upd_ne (ne_of_none e n)]; exact z⟩
theorem OutOk.here {k : Kc} {G H : Hp} {d : PD} {Q : VK} {v : V} (h : OutOk k G H d Q) (s : Same G H) (r : Rp k G v d) : Q v H := h v G H (Ext.refl s) r
theorem OutOk.tup {k : Kc} {G H : Hp} {ds : List PD} {Q : VK} {xs : List V} (h : OutOk k G H (.tuple ds) Q) (s : Same G H) (r : RpAll k G xs ds) : ∀ (o : Obj) p, o.dict = none → H p = none → Q (.ref p) (upd H p (tupO o xs)) := fun o p d n =>
  h _ _ _ (Ext.new s n) (.tup ⟨o, d, upd_same⟩ (r.mono (Ext.new s n).g))
theorem OutOk.lst {k : Kc} {G H : Hp} {ds : List PD} {Q : VK} {xs : List V} (h : OutOk k G H (.list ds) Q) (s : Same G H) (r : RpAll k G xs ds) : ∀ p, H p = none → Q (.ref p) (upd H p (.lst xs)) := fun p n =>
  h _ _ _ (Ext.new s n) (.lst upd_same (r.mono (Ext.new s n).g))
/-- an operation's end, in a reading -/
theorem tMat.out {c : Cc} {ioA : List Addr} {W : WX} {ρ : Rho} {P : Pcs} {σ : St} {H : Hp} {d : PD} {Q : VK} (h : tMat c ioA W (VRe c) (mpure d) ρ P σ Q) (r : RepW c ioA ρ σ H P) : OutOk c.kc (P .g) H d Q := fun v G' H' e q =>
  h v H' (put P .g G') ⟨by rw [put_same]; exact e.g, put_ne (by simp)⟩ (r.grow e.g e.k e.h) (by show Rp c.kc _ v d; rw [put_same]; exact q)

/-- an operation on values: g told by data -/
def OpD (X : Cx) (k : Kc) (f : Value → Value → Sem Value) (g : PD → PD → Option PD) : Prop := X.A.units + 190 < cLine → k.K = X.K → ∃ r, OpR X f r ∧
  ∀ G H x y dx dy dz Q, Same G H → PkR k G H x dx → PkR k G H y dy → g dx dy = some dz → OutOk k G H dz Q → r x y H Q

def dOp2 (g : PD → PD → Option PD) (a b : M Pk) : M PD := mbind a fun p => mbind b fun q => fun ρ => match look p ρ, look q ρ with
  | some x, some y => mopt (g x y) ρ
  | _, _ => .bad
theorem op2_core {c : Cc} {ioA : List Addr} {W : WX} {g : PD → PD → Option PD} {r : R2} {fa fb : M Pk} {σ : St} {H : Hp} {Q : VK}
    (hr : ∀ G H x y dx dy dz Q, Same G H → PkR c.kc G H x dx → PkR c.kc G H y dy → g dx dy = some dz → OutOk c.kc G H dz Q → r x y H Q)
    (h : tM c ioA W (VRe c) (dOp2 g fa fb) σ H Q) : tOp r (tM c ioA W (VRk c) fa) (tM c ioA W (VRk c) fb) σ H Q := by
  obtain ⟨ρ, P, rp, h⟩ := h
  refine ⟨ρ, P, rp, h.bind.mono fun x H1 ⟨p, ρ1, P1, s1, r1, v1, h1⟩ => ⟨ρ1, P1, r1, h1.bind.mono fun y H2 ⟨q, ρ2, P2, s2, r2, v2, h2⟩ => ?_⟩⟩
  have v1' : VRk c p x σ H2 P2 := VRk.step v1 s2
  cases e1 : look p ρ2 with
  | none => unfold tMat at h2; simp only [e1] at h2
  | some dx =>
    cases e2 : look q ρ2 with
    | none => unfold tMat at h2; simp only [e1, e2] at h2
    | some dy =>
      cases e3 : g dx dy with
      | none => unfold tMat mopt at h2; simp only [e1, e2, e3] at h2
      | some dz =>
        have h3 : tMat c ioA W (VRe c) (mpure dz) ρ2 P2 σ Q := by
          unfold tMat mpure
          unfold tMat mopt at h2
          simp only [e1, e2, e3] at h2
          exact h2
        exact hr _ _ x y dx dy dz Q (r2.pc.sub .g) (look_ok r2 v1' e1) (look_ok r2 v2 e2) e3 (h3.out r2)
section
variable {X : Cx} {c : Cc} {W : WX} {a b d : Expr} {pos : Pos} {fa fb fd : M Pk} {g g' : PD → PD → Option PD}
theorem de_op {op : Operator} (ho : OpD X c.kc (binaryOp op) g) (ha : DK X c W a fa) (hb : DK X c W b fb) : DE X c W (.BinOp a op b pos) (dOp2 g fa fb) := fun gd ioA => by
  obtain ⟨r, h1, h2⟩ := ho gd.un gd.hK
  exact PE.imp (pe_op h1 (ha gd ioA) (hb gd ioA)) fun σ H Q h => op2_core h2 h
theorem de_cmp {op : CmpOp} (ho : OpD X c.kc (compareOp op) g) (ha : DK X c W a fa) (hb : DK X c W b fb) (hm : behindInMarks op b = false) : DE X c W (.Compare a [op] [b] pos) (dOp2 g fa fb) := fun gd ioA => by
  obtain ⟨r, h1, h2⟩ := ho gd.un gd.hK
  exact PE.imp (pe_cmpR h1 (ha gd ioA) (hb gd ioA) hm) fun σ H Q h => op2_core h2 h
/-- a bool for a test -/
def asB (f : M PD) : M Bool := mbind f fun d => match d with
  | .bool b => mpure b
  | _ => fun _ => .bad
theorem asB_core {c : Cc} {ioA : List Addr} {f : M PD} {σ : St} {H : Hp} {Q : Bool → Hp → Prop} (h : tM c ioA W VRb (asB f) σ H Q) : tM c ioA W (VRe c) f σ H (fun x H' => ∃ k, x = .bl k ∧ Q k H') := by
  obtain ⟨ρ, P, rp, h⟩ := h
  refine ⟨ρ, P, rp, h.bind.mono fun x H1 ⟨d, ρ1, P1, s1, r1, v1, h1⟩ => ?_⟩
  cases d with
  | bool k =>
    have v1' : Rp c.kc (P1 .g) x (.bool k) := v1
    cases v1'
    exact ⟨k, rfl, h1.pure r1 rfl⟩
  | _ => exact h1.elim
theorem dt_cmp {op : CmpOp} (ho : OpD X c.kc (compareOp op) g) (ha : DK X c W a fa) (hb : DK X c W b fb) (hm : behindInMarks op b = false) : DT X c W (.Compare a [op] [b] pos) (asB (dOp2 g fa fb)) := fun gd ioA => by
  obtain ⟨r, h1, h2⟩ := ho gd.un gd.hK
  exact PT.imp (pt_cmpR h1 (ha gd ioA) (hb gd ioA) hm) fun σ H Q h => op2_core h2 (asB_core h)

/-- a op b op' d -/
def dChain (g g' : PD → PD → Option PD) (a b d : M Pk) : M PD := mbind a fun p => mbind b fun q => fun ρ => match look p ρ, look q ρ with
  | some x, some y => (match g x y with
    | some (.bool true) => mbind d (fun r ρ2 => match look q ρ2, look r ρ2 with
      | some y2, some z => mopt (g' y2 z) ρ2
      | _, _ => .bad) ρ
    | some (.bool false) => .ok (.bool false) ρ
    | _ => .bad)
  | _, _ => .bad
theorem chain_core {c : Cc} {ioA : List Addr} {W : WX} {g g' : PD → PD → Option PD} {r r' : R2} {fa fb fd : M Pk} {σ : St} {H : Hp} {Q : VK}
    (hr : ∀ G H x y dx dy dz Q, Same G H → PkR c.kc G H x dx → PkR c.kc G H y dy → g dx dy = some dz → OutOk c.kc G H dz Q → r x y H Q)
    (hr' : ∀ G H x y dx dy dz Q, Same G H → PkR c.kc G H x dx → PkR c.kc G H y dy → g' dx dy = some dz → OutOk c.kc G H dz Q → r' x y H Q)
    (h : tM c ioA W (VRe c) (dChain g g' fa fb fd) σ H Q) : tChain r r' (tM c ioA W (VRk c) fa) (tM c ioA W (VRk c) fb) (tM c ioA W (VRk c) fd) σ H Q := by
  obtain ⟨ρ, P, rp, h⟩ := h
  refine ⟨ρ, P, rp, h.bind.mono fun x H1 ⟨p, ρ1, P1, s1, r1, v1, h1⟩ => ⟨ρ1, P1, r1, h1.bind.mono fun y H2 ⟨q, ρ2, P2, s2, r2, v2, h2⟩ => ?_⟩⟩
  have v1' : VRk c p x σ H2 P2 := VRk.step v1 s2
  cases e1 : look p ρ2 with
  | none => unfold tMat at h2; simp only [e1] at h2
  | some dx =>
    cases e2 : look q ρ2 with
    | none => unfold tMat at h2; simp only [e1, e2] at h2
    | some dy =>
      cases e3 : g dx dy with
      | none => unfold tMat at h2; simp only [e1, e2, e3] at h2
      | some dz =>
        refine hr _ _ x y dx dy dz _ (r2.pc.sub .g) (look_ok r2 v1' e1) (look_ok r2 v2 e2) e3 fun z G' H' e q => ?_
        cases dz with
        | bool k =>
          cases q
          refine ⟨k, rfl, ?_⟩
          have r2' := r2.grow e.g e.k e.h
          have st' : Stp P2 (put P2 .g G') := ⟨by rw [put_same]; exact e.g, put_ne (by simp)⟩
          cases k with
          | false =>
            unfold tMat at h2
            simp only [e1, e2, e3] at h2
            simp only [Bool.false_eq_true, if_false]
            exact h2 (.bl false) H' _ st' r2' (.bl false)
          | true =>
            simp only [if_true]
            have h3 : tMat c ioA W (VRe c) (mbind fd fun r ρ2 => match look q ρ2, look r ρ2 with
              | some y2, some z => mopt (g' y2 z) ρ2
              | _, _ => .bad) ρ2 (put P2 .g G') σ Q := by
              refine tMat.back (P0 := P2) ?_ st'
              unfold tMat at h2 ⊢
              simp only [e1, e2, e3] at h2
              exact h2
            refine ⟨ρ2, _, r2', h3.bind.mono fun w H3 ⟨r, ρ3, P3, s3, r3, v3, h4⟩ => ?_⟩
            have v2' : VRk c q y σ H3 P3 := (VRk.step v2 st').step (H := H') s3
            cases e4 : look q ρ3 with
            | none => unfold tMat at h4; simp only [e4] at h4
            | some dy2 =>
              cases e5 : look r ρ3 with
              | none => unfold tMat at h4; simp only [e4, e5] at h4
              | some dw =>
                cases e6 : g' dy2 dw with
                | none => unfold tMat mopt at h4; simp only [e4, e5, e6] at h4
                | some dv =>
                  have h5 : tMat c ioA W (VRe c) (mpure dv) ρ3 P3 σ Q := by
                    unfold tMat mpure
                    unfold tMat mopt at h4
                    simp only [e4, e5, e6] at h4
                    exact h4
                  exact hr' _ _ y w dy2 dw dv Q (r3.pc.sub .g) (look_ok r3 v2' e4) (look_ok r3 v3 e5) e6 (h5.out r3)
        | _ => unfold tMat at h2; simp only [e1, e2, e3] at h2
theorem de_chain {op op' : CmpOp} (ho : OpD X c.kc (compareOp op) g) (ho' : OpD X c.kc (compareOp op') g') (ha : DK X c W a fa) (hb : DK X c W b fb) (hd : DK X c W d fd)
    (hm : lastMarks [op, op'] [b, d] = false := by with_unfolding_all rfl) : DE X c W (.Compare a [op, op'] [b, d] pos) (dChain g g' fa fb fd) := fun gd ioA => by
  obtain ⟨r, h1, h2⟩ := ho gd.un gd.hK
  obtain ⟨r', h1', h2'⟩ := ho' gd.un gd.hK
  exact PE.imp (pe_chain h1 h1' (ha gd ioA) (hb gd ioA) (hd gd ioA) hm) fun σ H Q h => chain_core h2 h2' h
theorem dt_chain {op op' : CmpOp} (ho : OpD X c.kc (compareOp op) g) (ho' : OpD X c.kc (compareOp op') g') (ha : DK X c W a fa) (hb : DK X c W b fb) (hd : DK X c W d fd)
    (hm : lastMarks [op, op'] [b, d] = false := by with_unfolding_all rfl) : DT X c W (.Compare a [op, op'] [b, d] pos) (asB (dChain g g' fa fb fd)) := fun gd ioA => by
  obtain ⟨r, h1, h2⟩ := ho gd.un gd.hK
  obtain ⟨r', h1', h2'⟩ := ho' gd.un gd.hK
  exact PT.imp (pt_chain h1 h1' (ha gd ioA) (hb gd ioA) (hd gd ioA) hm) fun σ H Q h => chain_core h2 h2' (asB_core h)
end

/-! ### and, or, not, if else; truth -/
/-- a datum's truth -/
def tru : PD → Option Bool
  | .none => some false
  | .bool b => some b
  | .int i => some (i != 0)
  | .str x => if x.length ≤ sizeLine then some ((x.length : Int) != 0) else none
  | .list xs => some (!xs.isEmpty)
  | .tuple xs => some (!xs.isEmpty)
  | .dict _ => none
theorem isEmpty_all {k : Kc} {G : Hp} {xs : List V} {ds : List PD} (r : RpAll k G xs ds) : (!xs.isEmpty) = !ds.isEmpty := by cases r <;> rfl
theorem tru_of {k : Kc} {G H : Hp} {v : V} {d : PD} {b : Bool} (s : Same G H) (h : PkR k G H v d) (e : tru d = some b) : TruV k.K v H b := by
  cases d with
  | none => rw [h.non]; cases e; rfl
  | bool i => rw [h.bl]; cases e; rfl
  | int i => rw [h.int]; cases e; rfl
  | str x =>
    rw [h.str]
    have e' : (if x.length ≤ sizeLine then some ((x.length : Int) != 0) else none) = some b := e
    by_cases hz : x.length ≤ sizeLine
    · rw [if_pos hz] at e'; cases e'; exact ⟨hz, rfl⟩
    · rw [if_neg hz] at e'; cases e'
  | list xs =>
    obtain ⟨a, vs, rfl, h1, r⟩ := h.list s
    cases e
    exact .inl ⟨vs, .inl (.inl h1), (isEmpty_all r).symm⟩
  | tuple xs =>
    obtain ⟨a, vs, rfl, h1, r⟩ := h.tuple s
    cases e
    exact .inr (.inl ⟨vs, h1, (isEmpty_all r).symm⟩)
  | dict kvs => cases e
def dTru (f : M Pk) : M Bool := mbind f fun p ρ => match look p ρ with
  | some d => mopt (tru d) ρ
  | none => .bad
def dAndV (f g : M PD) : M PD := mbind f fun d => match tru d with
  | some true => g
  | some false => mpure d
  | none => fun _ => .bad
def dOrV (f g : M PD) : M PD := mbind f fun d => match tru d with
  | some true => mpure d
  | some false => g
  | none => fun _ => .bad
def dNotV (f : M PD) : M PD := mbind f fun d => match tru d with
  | some b => mpure (.bool (!b))
  | none => fun _ => .bad
def tAndB (f g : M Bool) : M Bool := mbind f fun b => if b = true then g else mpure false
def tOrB (f g : M Bool) : M Bool := mbind f fun b => if b = true then mpure true else g
def tNotB (f : M Bool) : M Bool := mbind f fun b => mpure (!b)
def dIte (t : M Bool) (f g : M PD) : M PD := mbind t fun b => if b = true then f else g
section
variable {X : Cx} {c : Cc} {W : WX} {a b d : Expr} {rest : List Expr} {pos : Pos} {f g : M PD} {t u : M Bool} {fk : M Pk}
theorem dt_tru (ha : DK X c W a fk) (he : ∀ whole, isTrue a X.env whole = (do let v ← whole; standAt a.pos; holding [v] (truthy v)) := by intro _; rfl) : DT X c W a (dTru fk) := fun gd ioA => by
  refine PT.imp (pt_truth (ha gd ioA) he) fun σ H Q ⟨ρ, P, rp, h⟩ => ⟨ρ, P, rp, h.bind.mono fun x H1 ⟨p, ρ1, P1, s1, r1, v1, h1⟩ => ?_⟩
  cases e1 : look p ρ1 with
  | none => unfold tMat at h1; simp only [e1] at h1
  | some dx =>
    cases e2 : tru dx with
    | none => unfold tMat mopt at h1; simp only [e1, e2] at h1
    | some k =>
      unfold tMat mopt at h1
      simp only [e1, e2] at h1
      exact ⟨k, by rw [← gd.hK]; exact tru_of (r1.pc.sub .g) (look_ok r1 v1 e1) e2, h1 k H1 P1 (Stp.refl _) r1 rfl⟩
theorem de_one {op : BoolOp} (ha : DE X c W a f) : DE X c W (.BoolOp op [a] pos) f := fun gd ioA => pe_one (ha gd ioA)
theorem de_and (ha : DE X c W a f) (hb : DE X c W (.BoolOp .And (b :: rest) pos) g) : DE X c W (.BoolOp .And (a :: b :: rest) pos) (dAndV f g) := fun gd ioA => by
  refine PE.imp (pe_andT (ha gd ioA) (hb gd ioA)) fun σ H Q ⟨ρ, P, rp, h⟩ => ⟨ρ, P, rp, h.bind.mono fun x H1 ⟨dx, ρ1, P1, s1, r1, v1, h1⟩ => ?_⟩
  cases e2 : tru dx with
  | none => rw [e2] at h1; exact h1.elim
  | some k =>
    rw [e2] at h1
    refine ⟨k, by rw [← gd.hK]; exact tru_of (r1.pc.sub .g) (.inl v1) e2, ?_⟩
    cases k with
    | true => exact ⟨ρ1, P1, r1, h1⟩
    | false => exact h1.pure r1 v1
theorem de_or (ha : DE X c W a f) (hb : DE X c W (.BoolOp .Or (b :: rest) pos) g) : DE X c W (.BoolOp .Or (a :: b :: rest) pos) (dOrV f g) := fun gd ioA => by
  refine PE.imp (pe_orT (ha gd ioA) (hb gd ioA)) fun σ H Q ⟨ρ, P, rp, h⟩ => ⟨ρ, P, rp, h.bind.mono fun x H1 ⟨dx, ρ1, P1, s1, r1, v1, h1⟩ => ?_⟩
  cases e2 : tru dx with
  | none => rw [e2] at h1; exact h1.elim
  | some k =>
    rw [e2] at h1
    refine ⟨k, by rw [← gd.hK]; exact tru_of (r1.pc.sub .g) (.inl v1) e2, ?_⟩
    cases k with
    | false => exact ⟨ρ1, P1, r1, h1⟩
    | true => exact h1.pure r1 v1
theorem de_not (ha : DE X c W a f) : DE X c W (.UnaryOp .Not a pos) (dNotV f) := fun gd ioA => by
  refine PE.imp (pe_notT (ha gd ioA)) fun σ H Q ⟨ρ, P, rp, h⟩ => ⟨ρ, P, rp, h.bind.mono fun x H1 ⟨dx, ρ1, P1, s1, r1, v1, h1⟩ => ?_⟩
  cases e2 : tru dx with
  | none => rw [e2] at h1; exact h1.elim
  | some k =>
    rw [e2] at h1
    exact ⟨k, by rw [← gd.hK]; exact tru_of (r1.pc.sub .g) (.inl v1) e2, h1.pure r1 (.bl _)⟩
theorem dt_w (h : DW X c W a t) : DT X c W a t := fun gd ioA => (h gd ioA).pt
theorem dw_and1 (ha : DT X c W a t) : DW X c W (.BoolOp .And [a] pos) t := fun gd ioA => pw_and1 (ha gd ioA)
theorem dw_or1 (ha : DT X c W a t) : DW X c W (.BoolOp .Or [a] pos) t := fun gd ioA => pw_or1 (ha gd ioA)
theorem dw_and (ha : DT X c W a t) (hb : DW X c W (.BoolOp .And (b :: rest) pos) u) : DW X c W (.BoolOp .And (a :: b :: rest) pos) (tAndB t u) := fun gd ioA => by
  refine PW.imp (pw_and (ha gd ioA) (hb gd ioA)) fun σ H Q ⟨ρ, P, rp, h⟩ => ⟨ρ, P, rp, h.bind.mono fun k H1 ⟨k', ρ1, P1, s1, r1, v1, h1⟩ => ?_⟩
  have v1' : k' = k := v1
  subst v1'
  cases k' with
  | true => exact ⟨ρ1, P1, r1, h1⟩
  | false => exact h1.pure r1 rfl
theorem dw_or (ha : DT X c W a t) (hb : DW X c W (.BoolOp .Or (b :: rest) pos) u) : DW X c W (.BoolOp .Or (a :: b :: rest) pos) (tOrB t u) := fun gd ioA => by
  refine PW.imp (pw_or (ha gd ioA) (hb gd ioA)) fun σ H Q ⟨ρ, P, rp, h⟩ => ⟨ρ, P, rp, h.bind.mono fun k H1 ⟨k', ρ1, P1, s1, r1, v1, h1⟩ => ?_⟩
  have v1' : k' = k := v1
  subst v1'
  cases k' with
  | false => exact ⟨ρ1, P1, r1, h1⟩
  | true => exact h1.pure r1 rfl
theorem dt_not (ha : DT X c W a t) : DT X c W (.UnaryOp .Not a pos) (tNotB t) := fun gd ioA => by
  refine PT.imp (pt_not (ha gd ioA)) fun σ H Q ⟨ρ, P, rp, h⟩ => ⟨ρ, P, rp, h.bind.mono fun k H1 ⟨k', ρ1, P1, s1, r1, v1, h1⟩ => ?_⟩
  have v1' : k' = k := v1
  subst v1'
  exact h1.pure r1 rfl
theorem de_if (hd : DT X c W d t) (ha : DE X c W a f) (hb : DE X c W b g) : DE X c W (.IfExp d a b pos) (dIte t f g) := fun gd ioA => by
  refine PE.imp (pe_ifExp (hd gd ioA) (ha gd ioA) (hb gd ioA)) fun σ H Q ⟨ρ, P, rp, h⟩ => ⟨ρ, P, rp, h.bind.mono fun k H1 ⟨k', ρ1, P1, s1, r1, v1, h1⟩ => ?_⟩
  have v1' : k' = k := v1
  subst v1'
  cases k' with
  | true => exact ⟨ρ1, P1, r1, h1⟩
  | false => exact ⟨ρ1, P1, r1, h1⟩
/-- a value that is known to be used as an operand -/
theorem dk_e (ha : DE X c W a f) : DK X c W a (dkE f) := fun gd ioA =>
  PE.imp (ha gd ioA) fun σ H Q ⟨ρ, P, rp, h⟩ => ⟨ρ, P, rp, h.bind.mono fun x H1 ⟨dx, ρ1, P1, s1, r1, v1, h1⟩ => h1.pure r1 v1⟩
end
end Den

set_option Elab.async false
set_option linter.all false
set_option maxRecDepth 100000
/-! DenD: what operators give, by data. -/
namespace Den
open PySem PySem.Spec
open PyProof.Rows L2

/-! ### lists that are read, glued -/
theorem Inv.rdL {X : Cx} {pins : List (Addr × Obj)} {σ : St} {H : Hp} {s : Shared} {l : Addr} {xs : List V} (I : L2.Inv X pins σ H s) (h : Rd H l (.lst xs)) :
    xs.length ≤ sizeLine ∧ ∃ (its : List Value) (n : Nat), Vals xs its ∧ s.heap.get? l = some { cls := .type "list", data := .seq its.toArray n } := h.ok I.hok
def rCatR : R2 := fun x y H Q => ∃ l b xs zs, x = .ref l ∧ y = .ref b ∧ Rd H l (.lst xs) ∧ Rd H b (.lst zs) ∧ xs.length + zs.length ≤ sizeLine ∧ ∀ p, H p = none → Q (.ref p) (upd H p (.lst (xs ++ zs)))
-- CUT, to be written anew: op_catR
/-- a text so many times -/
def repS (x : Str) (n : Nat) : Str := ⟨(List.replicate n x.cps).foldl (· ++ ·) #[]⟩
theorem repS_zero (x : Str) : repS x 0 = Str.empty := rfl
theorem repS_one (x : Str) : repS x 1 = x := by
  obtain ⟨a⟩ := x
  show (⟨#[] ++ a⟩ : Str) = ⟨a⟩
  simp
def rRepS : R2 := fun x y H Q => ∃ z n, x = .str z ∧ y = .int n ∧ n ≤ 1000 ∧ -1000 ≤ n ∧ z.length ≤ 1000 ∧ Q (.str (repS z n.toNat)) H
theorem op_repS {X : Cx} : OpR X (binaryOp .Mult) rRepS := by
  intro pins s σ H x y v u Q I rx ry h
  obtain ⟨z, n, rfl, rfl, h1, h0, hz, q⟩ := h
  obtain ⟨t, rfl⟩ := rx
  obtain ⟨t', rfl⟩ := ry
  have hl : sizeLine = 16777216 := sizeLine_eq
  have fin : ∀ (w : Str) (tk : Tok) (t2 : Nat), w = repS z n.toNat → EP X pins σ Q (.str w tk) { s with toks := t2 } := fun w tk t2 e => ⟨.str w, H, I.tok _, ⟨_, rfl⟩, by rw [e]; exact q⟩
  by_cases hn : n < 1
  · refine PySem.P.mul_str_none hn (by omega) (fin _ _ _ ?_)
    rw [show n.toNat = 0 by omega, repS_zero]
  · have big : ∀ m : Nat, m ≤ 1000000 → Builtin.Str.tooLong m = false := fun m hm => by
      unfold Builtin.Str.tooLong
      exact decide_eq_false (by rw [hl]; omega)
    have hmul : z.length * n.toNat ≤ 1000 * 1000 := Nat.mul_le_mul hz (by omega)
    refine PySem.P.mul_str ?_ (fun _ _ => ?_) (fun _ _ => big _ (by omega)) ?_
    · rw [decide_eq_false (by omega), decide_eq_false (by omega)]; rfl
    · have h2 : (0 : Int) < n := by omega
      have h3 : (1000 : Int) ≤ (2 ^ 63 - 1) / n := (Int.le_ediv_iff_mul_le h2).mpr (by omega)
      omega
    · rw [if_neg hn]
      by_cases h2 : (n == 1 || z.length == 0) = true
      · rw [if_pos h2]
        refine fin z t s.toks ?_
        rcases Bool.or_eq_true_iff.mp h2 with e | e
        · have e' : n = 1 := by simpa using e
          rw [e']; exact (repS_one z).symm
        · have e' : z.cps = #[] := by
            have : z.cps.size = 0 := by
              have e2 : (z.length == 0) = true := e
              exact eq_of_beq e2
            exact Array.eq_empty_of_size_eq_zero this
          obtain ⟨a⟩ := z
          have e2 : a = #[] := e'
          subst e2
          unfold repS
          have : ∀ k : Nat, (List.replicate k (#[] : Array Nat)).foldl (· ++ ·) #[] = #[] := fun k => by
            induction k with
            | zero => rfl
            | succ k ih => rw [List.replicate_succ, List.foldl_cons]; exact ih
          rw [this]
      · rw [if_neg h2]
        refine ⟨?_, fin _ _ _ rfl⟩
        rw [hl]
        have key : ∀ (k : Nat) (acc : Array Nat), ((List.replicate k z.cps).foldl (· ++ ·) acc).size = acc.size + k * z.cps.size := fun k => by
          induction k with
          | zero => intro acc; simp
          | succ k ih => intro acc; rw [List.replicate_succ, List.foldl_cons, ih, Array.size_append, Nat.succ_mul]; omega
        show ((List.replicate n.toNat z.cps).foldl (· ++ ·) #[]).size ≤ 16777216
        rw [key]
        have hz' : z.cps.size ≤ 1000 := hz
        have := Nat.mul_le_mul (show n.toNat ≤ 1000 by omega) hz'
        simp
        omega

/-! ### arithmetic -/
def pAdd : PD → PD → Option PD
  | .int i, .int j => some (.int (i + j))
  | .str x, .str y => if x.length + y.length ≤ sizeLine then some (.str (x ++ y)) else none
  | .tuple xs, .tuple ys => if xs.length + ys.length ≤ sizeLine then some (.tuple (xs ++ ys)) else none
  | .list xs, .list ys => if xs.length + ys.length ≤ sizeLine then some (.list (xs ++ ys)) else none
  | .int i, .bool b => some (.int (i + if b then 1 else 0))
  | _, _ => none
def pSub : PD → PD → Option PD
  | .int i, .int j => some (.int (i - j))
  | _, _ => none
instance (i j : Int) : Decidable (CMul i j) := by unfold CMul; infer_instance
instance (i j : Int) : Decidable (CMulW i j) := by unfold CMulW; infer_instance
instance (i j : Int) : Decidable (CDivW i j) := by unfold CDivW; infer_instance
instance (i j : Int) : Decidable (CPow i j) := by unfold CPow; infer_instance
def pMul : PD → PD → Option PD
  | .int i, .int j => if CMul i j then some (.int (i * j)) else none
  | .str x, .int n => if -1000 ≤ n ∧ n ≤ 1000 ∧ x.length ≤ 1000 then some (.str (repS x n.toNat)) else none
  | _, _ => none
def pFdiv : PD → PD → Option PD
  | .int i, .int j => if CDivW i j then some (.int (i / j)) else none
  | _, _ => none
def pMod : PD → PD → Option PD
  | .int i, .int j => if 0 < j then some (.int (i % j)) else none
  | _, _ => none
def pPow : PD → PD → Option PD
  | .int i, .int j => if CPow i j then some (.int (i ^ j.toNat)) else none
  | _, _ => none
section
variable {X : Cx} {pins : List (Addr × Obj)} {σ : St} {H : Hp} {s : Shared}
/-- a tuple, made -/
theorem born_tup {its : List Value} {xs : List V} (I : Inv X pins σ H s) (rel : Vals xs its) (few : xs.length ≤ sizeLine) :
    Inv X pins σ (upd H s.heap.objs.size (tupO { cls := .type "tuple", data := .seq its.toArray } xs)) { s with heap := s.heap.push { cls := .type "tuple", data := .seq its.toArray } } := by
  have at_ : (s.heap.push { cls := .type "tuple", data := .seq its.toArray }).get? s.heap.objs.size = some { cls := .type "tuple", data := .seq its.toArray } := Heap.get?_push_size _ rfl
  refine I.laid (t' := s.toks) (fun b o g => Heap.get?_push_of_some _ g) (Nat.le_refl _) ?_
  unfold tupO
  split
  · exact ⟨few, its, rel, _, at_, rfl, 0, rfl⟩
  · exact ⟨at_, few, its, rel, _, at_, rfl, 0, rfl⟩
end
/-- tuple + tuple; nothing on one side gives the other one itself -/
def rCatF (K : PySem.W.Frag) : R2 := fun x y H Q => ∃ a b xs ys, (x = .ref a ∧ y = .ref b) ∧ (SqT K H a xs ∧ SqT K H b ys) ∧ xs.length + ys.length ≤ sizeLine ∧ (xs = [] → Q (.ref b) H) ∧ (ys = [] → Q (.ref a) H) ∧
  ∀ (o : Obj) p, o.dict = none → H p = none → Q (.ref p) (upd H p (tupO o (xs ++ ys)))
theorem op_catF {X : Cx} : OpR X (binaryOp .Add) (rCatF X.K) := by
  rintro pins s σ H _ _ v u Q I rx ry ⟨a, b, xs, ys, ⟨rfl, rfl⟩, ⟨ta, tb⟩, few, left, right, new⟩
  obtain rfl : v = Value.ref a := rx
  obtain rfl : u = Value.ref b := ry
  obtain ⟨as, ra, ha, _⟩ := I.tuple ta
  obtain ⟨bs, rb, hb, _⟩ := I.tuple tb
  cases xs with
  | nil =>
    cases ra
    exact cat_tup0 ha hb ⟨.ref b, H, I, rfl, left rfl⟩
  | cons x xs =>
    have some_ : as ≠ [] := fun z => by subst z; cases ra
    refine HT.cat_tup ha hb some_ (fun z => ⟨.ref a, H, I, rfl, right (by subst z; cases rb; rfl)⟩) (fun _ => ?_) (by rw [← ra.length, ← rb.length]; exact few)
    exact ⟨.ref _, _, born_tup I (ra.append rb) (by rw [List.length_append]; exact few), rfl, new _ _ rfl (I.hok.fresh (Nat.le_refl _))⟩
section
variable {X : Cx} {k : Kc}
theorem o_add : OpD X k (binaryOp .Add) pAdd := fun hu hK => by
  refine ⟨_, op_add.or (op_add_str.or (op_catF.or (op_cat.or op_add_ib))), fun G H x y dx dy dz Q s hx hy e o => ?_⟩
  cases dx with
  | int i =>
    cases dy with
    | int j => cases e; rw [hx.int, hy.int]; exact .inl ⟨i, j, rfl, rfl, o.here s (.int _)⟩
    | bool b => cases e; rw [hx.int, hy.bl]; exact .inr (.inr (.inr (.inr ⟨i, b, rfl, rfl, o.here s (by cases b <;> exact .int _)⟩)))
    | _ => cases e
  | str i =>
    cases dy with
    | str j =>
      have e' : (if i.length + j.length ≤ sizeLine then some (PyData.str (i ++ j)) else none) = some dz := e
      by_cases hz : i.length + j.length ≤ sizeLine
      · rw [if_pos hz] at e'; cases e'
        rw [hx.str, hy.str]
        exact .inr (.inl ⟨i, j, rfl, rfl, hz, o.here s (.str _)⟩)
      · rw [if_neg hz] at e'; cases e'
    | _ => cases e
  | tuple xs =>
    cases dy with
    | tuple ys =>
      have e' : (if xs.length + ys.length ≤ sizeLine then some (PyData.tuple (xs ++ ys)) else none) = some dz := e
      by_cases hz : xs.length + ys.length ≤ sizeLine
      · rw [if_pos hz] at e'; cases e'
        obtain ⟨a, vs, rfl, h1, r1⟩ := hx.tuple s
        obtain ⟨b, ws, rfl, h2, r2⟩ := hy.tuple s
        rw [hK] at h1 h2
        refine .inr (.inr (.inl ⟨a, b, vs, ws, ⟨rfl, rfl⟩, ⟨h1, h2⟩, by rw [r1.length, r2.length]; exact hz, fun z => ?_, fun z => ?_, o.tup s (r1.append r2)⟩))
        · subst z
          cases r1
          rcases hy with hy | ⟨m, b', M, e1, hy, sm, e2⟩
          · exact o.here s hy
          · cases m <;> cases e2
        · subst z
          cases r2
          rw [List.append_nil] at o
          rcases hx with hx | ⟨m, b', M, e1, hx, sm, e2⟩
          · exact o.here s hx
          · cases m <;> cases e2
      · rw [if_neg hz] at e'; cases e'
    | _ => cases e
  | list xs =>
    cases dy with
    | list ys =>
      have e' : (if xs.length + ys.length ≤ sizeLine then some (PyData.list (xs ++ ys)) else none) = some dz := e
      by_cases hz : xs.length + ys.length ≤ sizeLine
      · rw [if_pos hz] at e'; cases e'
        obtain ⟨a, vs, rfl, h1, r1⟩ := hx.list s
        obtain ⟨b, ws, rfl, h2, r2⟩ := hy.list s
        exact .inr (.inr (.inr (.inl ⟨a, b, vs, ws, rfl, rfl, h1, h2, by rw [r1.length, r2.length]; exact hz, o.lst s (r1.append r2)⟩)))
      · rw [if_neg hz] at e'; cases e'
    | _ => cases e
  | _ => cases e
theorem o_sub : OpD X k (binaryOp .Sub) pSub := fun hu hK => by
  refine ⟨_, op_sub, fun G H x y dx dy dz Q s hx hy e o => ?_⟩
  cases dx with
  | int i =>
    cases dy with
    | int j => cases e; rw [hx.int, hy.int]; exact ⟨i, j, rfl, rfl, o.here s (.int _)⟩
    | _ => cases e
  | _ => cases e
theorem o_mul : OpD X k (binaryOp .Mult) pMul := fun hu hK => by
  refine ⟨_, op_mul.or op_repS, fun G H x y dx dy dz Q s hx hy e o => ?_⟩
  cases dx with
  | int i =>
    cases dy with
    | int j =>
      have e' : (if CMul i j then some (PyData.int (i * j)) else none) = some dz := e
      by_cases hz : CMul i j
      · rw [if_pos hz] at e'; cases e'
        rw [hx.int, hy.int]; exact .inl ⟨i, j, rfl, rfl, hz, o.here s (.int _)⟩
      · rw [if_neg hz] at e'; cases e'
    | _ => cases e
  | str z =>
    cases dy with
    | int n =>
      have e' : (if -1000 ≤ n ∧ n ≤ 1000 ∧ z.length ≤ 1000 then some (PyData.str (repS z n.toNat)) else none) = some dz := e
      by_cases hz : -1000 ≤ n ∧ n ≤ 1000 ∧ z.length ≤ 1000
      · rw [if_pos hz] at e'; cases e'
        rw [hx.str, hy.int]; exact .inr ⟨z, n, rfl, rfl, hz.2.1, hz.1, hz.2.2, o.here s (.str _)⟩
      · rw [if_neg hz] at e'; cases e'
    | _ => cases e
  | _ => cases e
theorem o_fdiv : OpD X k (binaryOp .FloorDiv) pFdiv := fun hu hK => by
  refine ⟨_, op_fdivW, fun G H x y dx dy dz Q s hx hy e o => ?_⟩
  cases dx with
  | int i =>
    cases dy with
    | int j =>
      have e' : (if CDivW i j then some (PyData.int (i / j)) else none) = some dz := e
      by_cases hz : CDivW i j
      · rw [if_pos hz] at e'; cases e'
        rw [hx.int, hy.int]; exact ⟨i, j, rfl, rfl, hz, o.here s (.int _)⟩
      · rw [if_neg hz] at e'; cases e'
    | _ => cases e
  | _ => cases e
theorem o_mod : OpD X k (binaryOp .Mod) pMod := fun hu hK => by
  refine ⟨_, op_mod, fun G H x y dx dy dz Q s hx hy e o => ?_⟩
  cases dx with
  | int i =>
    cases dy with
    | int j =>
      have e' : (if 0 < j then some (PyData.int (i % j)) else none) = some dz := e
      by_cases hz : 0 < j
      · rw [if_pos hz] at e'; cases e'
        rw [hx.int, hy.int]; exact ⟨i, j, rfl, rfl, hz, o.here s (.int _)⟩
      · rw [if_neg hz] at e'; cases e'
    | _ => cases e
  | _ => cases e
theorem o_pow : OpD X k (binaryOp .Pow) pPow := fun hu hK => by
  refine ⟨_, op_pow, fun G H x y dx dy dz Q s hx hy e o => ?_⟩
  cases dx with
  | int i =>
    cases dy with
    | int j =>
      have e' : (if CPow i j then some (PyData.int (i ^ j.toNat)) else none) = some dz := e
      by_cases hz : CPow i j
      · rw [if_pos hz] at e'; cases e'
        rw [hx.int, hy.int]; exact ⟨i, j, rfl, rfl, hz, o.here s (.int _)⟩
      · rw [if_neg hz] at e'; cases e'
    | _ => cases e
  | _ => cases e

/-! ### comparisons -/
def okD (d : PD) : Bool := plainD d && SeqAt.shaped d
def pEq (x y : PD) : Option PD := if okD x = true ∧ okD y = true then some (.bool (PyData.eqv x y)) else none
def pNe (x y : PD) : Option PD := if okD x = true ∧ okD y = true then some (.bool (!PyData.eqv x y)) else none
theorem okD_of {d : PD} (h : okD d = true) : plainD d = true ∧ SeqAt.shaped d = true := Bool.and_eq_true_iff.mp h
theorem o_eq : OpD X k (compareOp .Eq) pEq := fun hu hK => by
  refine ⟨_, op_eqD (by omega), fun G H x y dx dy dz Q s hx hy e o => ?_⟩
  unfold pEq at e
  by_cases hz : okD dx = true ∧ okD dy = true
  · rw [if_pos hz] at e; cases e
    obtain ⟨p1, s1⟩ := okD_of hz.1
    obtain ⟨p2, s2⟩ := okD_of hz.2
    exact ⟨dx, dy, hK ▸ hx.dp s p1, hK ▸ hy.dp s p2, s1, s2, o.here s (.bl _)⟩
  · rw [if_neg hz] at e; cases e
theorem o_ne : OpD X k (compareOp .NotEq) pNe := fun hu hK => by
  refine ⟨_, op_neD (by omega), fun G H x y dx dy dz Q s hx hy e o => ?_⟩
  unfold pNe at e
  by_cases hz : okD dx = true ∧ okD dy = true
  · rw [if_pos hz] at e; cases e
    obtain ⟨p1, s1⟩ := okD_of hz.1
    obtain ⟨p2, s2⟩ := okD_of hz.2
    exact ⟨dx, dy, hK ▸ hx.dp s p1, hK ▸ hy.dp s p2, s1, s2, o.here s (.bl _)⟩
  · rw [if_neg hz] at e; cases e

def pGt : PD → PD → Option PD
  | .int i, .int j => some (.bool (decide (j < i)))
  | _, _ => none
def pGe : PD → PD → Option PD
  | .int i, .int j => some (.bool (decide (j ≤ i)))
  | _, _ => none
/-- a tuple's ints -/
def intsOf : List PD → Option (List Int)
  | [] => some []
  | .int i :: r => (intsOf r).map (i :: ·)
  | _ :: _ => none
theorem intsOf_some : ∀ {ds : List PD} {ns : List Int}, intsOf ds = some ns → ds = ns.map PyData.int
  | [], ns, h => by cases h; rfl
  | .int i :: r, ns, h => by
    cases q : intsOf r with
    | none => rw [intsOf, q] at h; cases h
    | some ms =>
      rw [intsOf, q] at h
      cases h
      rw [intsOf_some q]; rfl
  | .none :: _, _, h => by cases h
  | .bool _ :: _, _, h => by cases h
  | .str _ :: _, _, h => by cases h
  | .list _ :: _, _, h => by cases h
  | .tuple _ :: _, _, h => by cases h
  | .dict _ :: _, _, h => by cases h
theorem intsOf_map : ∀ ns : List Int, intsOf (ns.map PyData.int) = some ns
  | [] => rfl
  | n :: ns => by
    show (intsOf (ns.map PyData.int)).map (n :: ·) = _
    rw [intsOf_map ns]; rfl
theorem all_ints {G : Hp} {vs : List V} {ns : List Int} (r : RpAll k G vs (ns.map PyData.int)) : vs = ns.map V.int := by
  induction ns generalizing vs with
  | nil => cases r; rfl
  | cons n ns ih =>
    cases r with
    | cons h r => cases h; rw [ih r]; rfl
theorem lexAt_le : ∀ (ns ms : List Int) (i : Nat) (e r : Nat → Bool) (z : Bool), (∀ j, e (i + j) = decide (ns.getD j 0 = ms.getD j 0)) → (∀ j, r (i + j) = decide (ns.getD j 0 ≤ ms.getD j 0)) →
    z = decide (ns.length ≤ ms.length) → Ob.lexAt e r z i (min ns.length ms.length) = lexLeI ns ms
  | [], ms, i, e, r, z, _, _, hz => by
    rw [show min ([] : List Int).length ms.length = 0 by simp, Ob.lexAt_zero, hz]
    simp [lexLeI]
  | n :: ns, [], i, e, r, z, _, _, hz => by
    rw [show min (n :: ns).length ([] : List Int).length = 0 by simp, Ob.lexAt_zero, hz]
    simp [lexLeI]
  | n :: ns, m :: ms, i, e, r, z, he, hr, hz => by
    rw [show min (n :: ns).length (m :: ms).length = min ns.length ms.length + 1 by simp [Nat.succ_min_succ], Ob.lexAt_succ]
    have e0 := he 0
    have r0 := hr 0
    rw [Nat.add_zero] at e0 r0
    rw [e0, r0, lexAt_le ns ms (i + 1) e r z (fun j => by have := he (j + 1); rw [show i + 1 + j = i + (j + 1) by omega, this]; rfl) (fun j => by have := hr (j + 1); rw [show i + 1 + j = i + (j + 1) by omega, this]; rfl) (by rw [hz]; simp)]
    show (if decide (n = m) = true then lexLeI ns ms else decide (n ≤ m)) = if n = m then lexLeI ns ms else decide (n ≤ m)
    by_cases h : n = m
    · rw [if_pos h, decide_eq_true h]; rfl
    · rw [if_neg h, decide_eq_false h]; rfl
def pLe : PD → PD → Option PD
  | .int i, .int j => some (.bool (decide (i ≤ j)))
  | .tuple xs, .tuple ys => match intsOf xs, intsOf ys with
    | some ns, some ms => some (.bool (lexLeI ns ms))
    | _, _ => none
  | _, _ => none
def pLt : PD → PD → Option PD
  | .int i, .int j => some (.bool (decide (i < j)))
  | .tuple xs, .tuple ys => match intsOf xs, intsOf ys with
    | some ns, some ms => some (.bool (HT.lexLt ns ms))
    | _, _ => none
  | _, _ => none
theorem o_lt : OpD X k (compareOp .Lt) pLt := fun hu hK => by
  refine ⟨_, op_lt.or (op_ltT (by omega)), fun G H x y dx dy dz Q s hx hy e o => ?_⟩
  unfold pLt at e
  split at e
  · cases e
    rw [hx.int, hy.int]
    exact .inl ⟨_, _, rfl, rfl, o.here s (.bl _)⟩
  · rename_i xs ys
    cases e1 : intsOf xs with
    | none => simp only [e1] at e; cases e
    | some ns =>
      cases e2 : intsOf ys with
      | none => simp only [e1, e2] at e; cases e
      | some ms =>
        simp only [e1, e2] at e
        cases e
        have f1 := intsOf_some e1
        have f2 := intsOf_some e2
        subst f1 f2
        obtain ⟨a, us, rfl, h1, r1⟩ := hx.tuple s
        obtain ⟨b, ws, rfl, h2, r2⟩ := hy.tuple s
        have g1 := all_ints r1
        have g2 := all_ints r2
        subst g1 g2
        exact .inr ⟨a, b, ns, ms, rfl, rfl, hK ▸ h1, hK ▸ h2, o.here s (.bl _)⟩
  · cases e
theorem o_le : OpD X k (compareOp .LtE) pLe := fun hu hK => by
  refine ⟨_, op_le.or (op_leT (by omega)), fun G H x y dx dy dz Q s hx hy e o => ?_⟩
  cases dx with
  | int i =>
    cases dy with
    | int j => cases e; rw [hx.int, hy.int]; exact .inl ⟨i, j, rfl, rfl, o.here s (.bl _)⟩
    | _ => cases e
  | tuple xs =>
    cases dy with
    | tuple ys =>
      have e' : (match intsOf xs, intsOf ys with
        | some ns, some ms => some (PyData.bool (lexLeI ns ms))
        | _, _ => none) = some dz := e
      cases e1 : intsOf xs with
      | none => simp only [e1] at e'; cases e'
      | some ns =>
        cases e2 : intsOf ys with
        | none => simp only [e1, e2] at e'; cases e'
        | some ms =>
          simp only [e1, e2] at e'
          cases e'
          have f1 := intsOf_some e1
          have f2 := intsOf_some e2
          subst f1 f2
          obtain ⟨a, vs, rfl, h1, r1⟩ := hx.tuple s
          obtain ⟨b, ws, rfl, h2, r2⟩ := hy.tuple s
          rw [all_ints r1, hK] at h1
          rw [all_ints r2, hK] at h2
          refine .inr ⟨a, b, ns, ms, rfl, rfl, h1, h2, ?_⟩
          rw [lexAt_le ns ms 0 _ _ _ (fun j => by rw [Nat.zero_add]) (fun j => by rw [Nat.zero_add]) rfl]
          exact o.here s (.bl _)
    | _ => cases e
  | _ => cases e
theorem o_gt : OpD X k (compareOp .Gt) pGt := fun hu hK => by
  refine ⟨_, op_gt, fun G H x y dx dy dz Q s hx hy e o => ?_⟩
  cases dx with
  | int i =>
    cases dy with
    | int j => cases e; rw [hx.int, hy.int]; exact ⟨i, j, rfl, rfl, o.here s (.bl _)⟩
    | _ => cases e
  | _ => cases e
theorem o_ge : OpD X k (compareOp .GtE) pGe := fun hu hK => by
  refine ⟨_, op_ge, fun G H x y dx dy dz Q s hx hy e o => ?_⟩
  cases dx with
  | int i =>
    cases dy with
    | int j => cases e; rw [hx.int, hy.int]; exact ⟨i, j, rfl, rfl, o.here s (.bl _)⟩
    | _ => cases e
  | _ => cases e
/-- is None, is not None -/
def pIs : PD → PD → Option PD
  | x, .none => some (.bool (match x with | .none => true | _ => false))
  | _, _ => none
def pIsNot : PD → PD → Option PD
  | x, .none => some (.bool (match x with | .none => false | _ => true))
  | _, _ => none
def isNon : PD → Bool
  | .none => true
  | _ => false
theorem non_iff {G H : Hp} {x : V} {d : PD} (h : PkR k G H x d) : decide (x = .non) = isNon d := by
  cases d with
  | none =>
    have e := h.non
    subst e
    rfl
  | _ =>
    apply decide_eq_false
    rintro rfl
    rcases h with h | ⟨m, a, M, e1, _⟩
    · cases h
    · cases e1
theorem o_is : OpD X k (compareOp .Is) pIs := fun hu hK => by
  refine ⟨_, op_isN, fun G H x y dx dy dz Q s hx hy e o => ?_⟩
  cases dy with
  | none =>
    cases dx <;> (cases e; rw [hy.non]; exact ⟨rfl, by rw [non_iff hx]; exact o.here s (.bl _)⟩)
  | _ => cases dx <;> cases e
theorem o_isnot : OpD X k (compareOp .IsNot) pIsNot := fun hu hK => by
  refine ⟨_, op_notN, fun G H x y dx dy dz Q s hx hy e o => ?_⟩
  cases dy with
  | none =>
    cases dx <;> (cases e; rw [hy.non]; exact ⟨rfl, by rw [non_iff hx]; exact o.here s (.bl _)⟩)
  | _ => cases dx <;> cases e
/-! ### in, not in: the library's rules; a tuple: flat data alone -/
def flatP : PD → Bool
  | .none => true
  | .bool _ => true
  | .int _ => true
  | .str _ => true
  | _ => false
theorem flat_of {G : Hp} {v : V} {d : PD} (h : Rp k G v d) (f : flatP d = true) : flatV v = true := by
  cases h <;> first | rfl | cases f
theorem eqv_of {G : Hp} {v w : V} {d e : PD} (h : Rp k G v d) (h' : Rp k G w e) (f : flatP d = true) (f' : flatP e = true) : eqV v w = PyData.eqv d e := by
  cases h <;> first | cases f; done | (cases h' <;> first | cases f'; done | rfl | simp [eqV, PyData.eqv])
theorem flat_all {G : Hp} : ∀ {vs : List V} {ds : List PD}, RpAll k G vs ds → ds.all flatP = true → vs.all flatV = true
  | _, _, .nil, _ => rfl
  | _, _, .cons h r, f => by
    rw [List.all_cons, Bool.and_eq_true] at f
    rw [List.all_cons, flat_of h f.1, flat_all r f.2]; rfl
theorem any_eqv {G : Hp} {w : V} {e : PD} (h' : Rp k G w e) (f' : flatP e = true) : ∀ {vs : List V} {ds : List PD}, RpAll k G vs ds → ds.all flatP = true → inV w vs = ds.any fun z => PyData.eqv z e
  | _, _, .nil, _ => rfl
  | _, _, .cons (v := v) (vs := vs) h r, f => by
    rw [List.all_cons, Bool.and_eq_true] at f
    show (eqV v w || inV w vs) = _
    rw [eqv_of h h' f.1 f', any_eqv h' f' r f.2, List.any_cons]
theorem PkR.flat {G H : Hp} {v : V} {d : PD} (h : PkR k G H v d) (f : flatP d = true) : Rp k G v d := by
  rcases h with h | ⟨m, a, M, rfl, h, sm, e⟩
  · exact h
  · cases m <;> cases e <;> cases f
def pIn (x : PD) : PD → Option PD
  | .list ds => if okD x = true ∧ okD (.list ds) = true then some (.bool (ds.any fun z => PyData.eqv z x)) else none
  | .tuple ds => if flatP x = true ∧ ds.all flatP = true then some (.bool (ds.any fun z => PyData.eqv z x)) else none
  | .str j => (match x with
    | .str i => some (.bool (!(Builtin.Str.occurrences j i 0 j.length 1).isEmpty))
    | _ => none)
  | _ => none
def pNotIn (x y : PD) : Option PD := (pIn x y).bind fun d => match d with
  | .bool b => some (.bool (!b))
  | _ => none
/-- the three ways that both take, the answer as a function of the truth -/
theorem in_ways {G H : Hp} {x y : V} {dx dy : PD} {b : Bool} (s : Same G H) (hK : k.K = X.K) (hx : PkR k G H x dx) (hy : PkR k G H y dy) (e : pIn dx dy = some (.bool b)) :
    (∃ ds, Dp X.K H x dx ∧ Dp X.K H y (.list ds) ∧ SeqAt.shaped dx = true ∧ SeqAt.shaped (.list ds) = true ∧ b = ds.any fun z => PyData.eqv z dx) ∨
    (∃ p xs, y = .ref p ∧ SqT X.K H p xs ∧ flatV x = true ∧ xs.all flatV = true ∧ b = inV x xs) ∨
    ∃ i j, x = .str i ∧ y = .str j ∧ b = !(Builtin.Str.occurrences j i 0 j.length 1).isEmpty := by
  unfold pIn at e
  split at e
  · rename_i ds
    by_cases hz : okD dx = true ∧ okD (.list ds) = true
    · rw [if_pos hz] at e; cases e
      obtain ⟨p1, s1⟩ := okD_of hz.1
      obtain ⟨p2, s2⟩ := okD_of hz.2
      exact .inl ⟨ds, hK ▸ hx.dp s p1, hK ▸ hy.dp s p2, s1, s2, rfl⟩
    · rw [if_neg hz] at e; cases e
  · rename_i ds
    by_cases hz : flatP dx = true ∧ ds.all flatP = true
    · rw [if_pos hz] at e; cases e
      obtain ⟨p, xs, rfl, h1, r⟩ := hy.tuple s
      have fx := hx.flat hz.1
      exact .inr (.inl ⟨p, xs, rfl, hK ▸ h1, flat_of fx hz.1, flat_all r hz.2, (any_eqv fx hz.1 r hz.2).symm⟩)
    · rw [if_neg hz] at e; cases e
  · split at e
    · cases e
      exact .inr (.inr ⟨_, _, hx.str, hy.str, rfl⟩)
    · cases e
  · cases e
theorem pIn_bool {x y d : PD} (e : pIn x y = some d) : ∃ b, d = .bool b := by
  unfold pIn at e
  repeat (first | split at e | (cases e; exact ⟨_, rfl⟩) | cases e)
theorem o_in : OpD X k (compareOp .In) pIn := fun hu hK => by
  refine ⟨_, (op_inD (by omega)).or (op_in_seq.or op_in_str), fun G H x y dx dy dz Q s hx hy e o => ?_⟩
  obtain ⟨b, rfl⟩ := pIn_bool e
  rcases in_ways s hK hx hy e with ⟨ds, h1, h2, h3, h4, rfl⟩ | ⟨p, xs, h1, h2, h3, h4, rfl⟩ | ⟨i, j, h1, h2, rfl⟩
  · exact .inl ⟨dx, ds, h1, h2, h3, h4, o.here s (.bl _)⟩
  · exact .inr (.inl ⟨p, xs, h1, .inr h2, h3, h4, o.here s (.bl _)⟩)
  · exact .inr (.inr ⟨i, j, h1, h2, o.here s (.bl _)⟩)
theorem o_notin : OpD X k (compareOp .NotIn) pNotIn := fun hu hK => by
  refine ⟨_, (op_notInD (by omega)).or (op_notIn_seq.or op_notin_str), fun G H x y dx dy dz Q s hx hy e o => ?_⟩
  obtain ⟨d, e1, e2⟩ := Option.bind_eq_some_iff.mp e
  obtain ⟨b, rfl⟩ := pIn_bool e1
  cases e2
  rcases in_ways s hK hx hy e1 with ⟨ds, h1, h2, h3, h4, rfl⟩ | ⟨p, xs, h1, h2, h3, h4, rfl⟩ | ⟨i, j, h1, h2, rfl⟩
  · exact .inl ⟨dx, ds, h1, h2, h3, h4, o.here s (.bl _)⟩
  · exact .inr (.inl ⟨p, xs, h1, .inr h2, h3, h4, o.here s (.bl _)⟩)
  · exact .inr (.inr ⟨i, j, h1, h2, o.here s (.bl _)⟩)
end
end Den

set_option Elab.async false
set_option linter.all false
set_option maxRecDepth 100000
/-! DenE: defs and their calls: what a def does, by data. -/
namespace Den
open PySem PySem.Spec
open PyProof.Rows L2

/-- an argument: a datum, or the j-th mutable that is handed in -/
inductive Ar where
  | val (d : PD) | io (j : Nat)
inductive Rt where
  | ret (d : PD) | fre (xs : List PD) | exc (x : Xc) | bad
abbrev FD := List Ar → List MC → Rt × List MC
def ArOk (k : Kc) (ioA : List Addr) (G : Hp) : Ar → V → Prop
  | .val d, v => Rp k G v d
  | .io j, v => ∃ a, ioA[j]? = some a ∧ v = .ref a
inductive ArAll (k : Kc) (ioA : List Addr) (G : Hp) : List Ar → List V → Prop
  | nil : ArAll k ioA G [] []
  | cons {a : Ar} {v : V} {as : List Ar} {vs : List V} : ArOk k ioA G a v → ArAll k ioA G as vs → ArAll k ioA G (a :: as) (v :: vs)
theorem ArAll.length {k : Kc} {ioA : List Addr} {G : Hp} : ∀ {as : List Ar} {vs : List V}, ArAll k ioA G as vs → as.length = vs.length
  | _, _, .nil => rfl
  | _, _, .cons _ r => by simp [ArAll.length r]
theorem ArAll.get {k : Kc} {ioA : List Addr} {G : Hp} : ∀ {as : List Ar} {vs : List V} {i : Nat} {a : Ar}, ArAll k ioA G as vs → as[i]? = some a → ∃ v, vs[i]? = some v ∧ ArOk k ioA G a v
  | _, _, _, _, .nil, e => nomatch (List.getElem?_nil.symm.trans e)
  | _, _, 0, _, .cons h _, e => by simp at e; subst e; exact ⟨_, rfl, h⟩
  | _, _, i + 1, _, .cons _ r, e => by
    obtain ⟨v, h1, h2⟩ := ArAll.get (i := i) r (by simpa using e)
    exact ⟨v, by simpa using h1, h2⟩
/-- the handed-in mutables as they stand -/
structure RepIo (k : Kc) (ioA : List Addr) (ms : List MC) (H : Hp) (P : Pcs) : Prop where
  pc : Pc H P
  io : ∀ j m, ms[j]? = some m → ∃ a, ioA[j]? = some a ∧ MR k (P .g) m a (P (.io j))
def RtOk (k : Kc) (ioA : List Addr) (P : Pcs) (Q : VK) (E : XK) : Rt × List MC → Prop
  | (.ret d, ms) => ∀ v H' P', Stp P P' → RepIo k ioA ms H' P' → Rp k (P' .g) v d → Q v H'
  | (.fre xs, ms) => ∀ v H' P', Stp P P' → RepIo k ioA ms H' P' → (∃ p, v = .ref p ∧ MR k (P' .g) (.lst xs) p (P' .t)) → Q v H'
  | (.exc x, ms) => ∀ cls dx H' P', Stp P P' → RepIo k ioA ms H' P' → XR k x cls dx H' P' → E cls dx H'
  | (.bad, _) => False
/-- a def's promise, by data -/
def spOf (k : Kc) (F : FD) : Sp := fun vs H Q E => ∃ (as : List Ar) (ms : List MC) (ioA : List Addr) (P : Pcs), RepIo k ioA ms H P ∧ ArAll k ioA (P .g) as vs ∧ RtOk k ioA P Q E (F as ms)

theorem spOf_len {k : Kc} {F : FD} {n : Nat} (hF : ∀ as ms, as.length ≠ n → (F as ms).1 = .bad) {vs : List V} {H : Hp} {Q : VK} {E : XK} (h : spOf k F vs H Q E) : vs.length = n := by
  obtain ⟨as, ms, ioA, P, _, ha, hr⟩ := h
  rw [← ha.length]
  by_cases e : as.length = n
  · exact e
  · have q := hF as ms e
    cases z : F as ms with
    | mk a b =>
      rw [z] at q hr
      have q' : a = .bad := q
      subst q'
      exact hr.elim
/-- a def that keeps its promise, called where no repr runs -/
structure FnG (P : Program) (w : World) (K : PySem.W.Frag) (mg : Str → Option Value) (base : PySem.Heap) (k : Nat) (f : Addr) (fd : FuncData) (ps : List Str) (sp : Sp) : Prop where
  len : ∀ vs H Q E, sp vs H Q E → vs.length = ps.length
  run : ∀ (A : Around) (outer : List Env) (s : Shared) (H : Hp) (args : Args) (us : List Value) (vs : List V) (Q : VK) (E : XK), Room k A → A.guards = some [] → Env0 P w K mg base A outer s H → BindsTo s fd args (ps.zip us) → Vals vs us → sp vs H Q E →
    codeAny (model P w) A (.call (.ref f) args) (CR (L2.CX P w) outer P w H s Q E) s
theorem FnG.mono {P : Program} {w : World} {K : PySem.W.Frag} {mg : Str → Option Value} {base : PySem.Heap} {j k : Nat} {f : Addr} {fd : FuncData} {ps : List Str} {sp : Sp} (F : FnG P w K mg base j f fd ps sp) (h : j ≤ k) : FnG P w K mg base k f fd ps sp :=
  ⟨F.len, fun A outer s H args us vs Q E hr hg => F.run A outer s H args us vs Q E (hr.mono h) hg⟩
/-- how a body may end, seen by the caller -/
def ends (Q : VK) : Ends := { nx := fun _ G => Q .non G, rt := Q }
/-- what is asked of a body, in each state of its entry where no repr runs -/
def BodyG (P : Program) (w : World) (K : PySem.W.Frag) (mg : Str → Option Value) (base : PySem.Heap) (k : Nat) (N : List Str) (qual : Str) (scope : Scope) (body : List Stmt) (f : Addr) (sp : Sp) : Prop :=
  ∀ (cdv : Value) (A : Around) (outer : List Env) (s : Shared) (H : Hp) (vs : List V) (Q : VK) (E : XK),
    Room k (A.deeper (envOfC qual scope s.heap.objs.size f cdv)) → A.guards = some [] → sp vs H Q E →
    ∃ t, PSs (cxOf (L2.CX P w) P w K mg base N qual scope f cdv A outer s H E) body t ∧ t (ends Q) (L2.start N vs) H
/-- the end of a body is the end of the call -/
theorem body_end {X : Cx} {Q : VK} {fl : Flow} {s' : Shared} (h : SP X [] (ends Q) fl s') : ∃ v σ G, Inv X [] σ G s' ∧ RelV v (match fl with | .ret u => u | _ => .none) ∧ Q v G := by
  match fl, h with
  | .ret _, ⟨v, σ, G, J, r, q⟩ => exact ⟨v, σ, G, J, r, q⟩
  | .next, ⟨σ, G, J, q⟩ => exact ⟨.non, σ, G, J, rfl, q⟩
  | .brk, ⟨_, _, _, q⟩ => exact q.elim
  | .cont, ⟨_, _, _, q⟩ => exact q.elim
section
variable {P : Program} {w : World} {K : PySem.W.Frag} {mg : Str → Option Value} {base : PySem.Heap} {k : Nat} {x qual : Str} {params : Arguments} {body : List Stmt} {scope : Scope} {f : Addr} {fd : FuncData} {N ps : List Str} {sp : Sp}
theorem fnG_of (F : FunD K x qual params body scope [] [] f fd) (S : FnScope N ps scope) (len : ∀ vs H Q E, sp vs H Q E → vs.length = ps.length) (hB : BodyG P w K mg base k N qual scope body f sp) : FnG P w K mg base (k + 1) f fd ps sp where
  len := len
  run := by
    intro A outer s H args us vs Q E room gu e0 bnd rel prom
    obtain ⟨_, _, _, _, _, _, _, cdv, _, _, efd, look, code, _, _⟩ := F.ex
    subst efd
    have old : ∀ b o, base.get? b = some o → s.heap.get? b = some o := fun b o z => (e0.bs b o z).1
    have inK : K.In s.heap := e0.mod.kin.keeps old
    have slots : ∀ y ∈ ps.zip us, scope.names.lookup y.1 = some .local ∨ (scope.names.lookup y.1 = some .cell ∧ ((cellsFrom (s.heap.objs.size + 1) scope.names []).lookup y.1).isSome = true) := fun y hy =>
      (S.par y.1 (List.of_mem_zip hy).1).imp id fun c => ⟨c, PySem.W.cellsFrom_some _ _ _ (.inl c)⟩
    apply codeAny_call_function (room.depth) (inK _ _ look) rfl S.co S.gen rfl (PySem.W.codeRec_of inK code)
    apply bnd
    apply wpAny_newFunctionEnv_cells S.kind slots
    intro env eenv s1 entry
    subst eenv
    refine ⟨(e0.mod.nolimit.keeps old).keeps entry.toInCall.keep, codeAny_func ?_⟩
    obtain ⟨t, hb, ht⟩ := hB cdv A outer s H vs Q E (room.deeper _) gu prom
    have I := inv_start (CX := L2.CX P w) (E := E) (f := f) (cd := cdv) (qual := qual) S room.hd e0 (len _ _ _ _ prom) rel entry
    refine wpAny_mono (hb.run [] s1 _ H _ I ht) (fun fl s' h => ?_) fun _ _ h => h
    obtain ⟨v, σ, G, J, r, q⟩ := body_end h
    have back : CE outer P w H s Q _ s' := ⟨v, G, J.os, J.bare, J.base, J.hok, r, q⟩
    cases fl <;> exact back
end

/-- where a call stands: room, no repr around, what a callee may let out is wished for -/
structure Cl (X : Cx) (W : WX) (k : Nat) : Prop where
  room : Room k X.A
  gu : X.A.guards = some []
  tk : Takes X W
  po : PassesOwn (model X.prog X.w) X.A X.env X.xe
theorem run_fnG {X : Cx} {W : WX} {k : Nat} {f : Addr} {fd : FuncData} {ps : List Str} {sp : Sp} {pins : List (Addr × Obj)} {σ : St} {H : Hp} {s : Shared} {Q : VK} {us : List Value} {vs : List V} (F : FnG X.prog X.w X.K X.mg X.base k f fd ps sp) (cl : Cl X W k) (hb : Binds X.K fd ps [])
    (I : L2.Inv X pins σ H s) (r : Vals vs us) (h : sp vs H Q (WE W σ)) : wpAny (model X.prog X.w) X.A (call (.ref f) us) (EP X pins σ Q) X.xe s := by
  have hl : us.length = ps.length := by rw [← r.length]; exact F.len _ _ _ _ h
  have b := hb s us I.kIn (by simpa using hl)
  rw [List.append_nil] at b
  refine wpAny_call (codeAny_mono (F.run X.A X.stack s H ⟨us, []⟩ us vs Q (WE W σ) cl.room cl.gu I.env0 b r h) fun res s' hq => ?_)
  cases res with
  | error e => exact passAt cl.tk σ pins H s e s' I hq
  | ok fl =>
    cases fl with
    | ret u => exact I.after hq
    | _ => exact False.elim hq

/-! ### calls of defs, by data -/
/-- a name that stands for a def that does F -/
structure Cal (P : Program) (w : World) (K : PySem.W.Frag) (mg : Str → Option Value) (base : PySem.Heap) (kc : Kc) (k : Nat) (x : Str) (F : FD) : Prop where
  ex : ∃ (f : Addr) (fd : FuncData) (ps : List Str), mg x = some (.ref f) ∧ PySem.W.keepIn K (.ref f) = true ∧ Binds K fd ps [] ∧ FnG P w K mg base k f fd ps (spOf kc F)
/-- an argument as it is handed in: its datum, or a mutable by its slot -/
inductive Sa where
  | val (f : M PD) | io (i : Nat)
/-- an evaluated argument -/
inductive Ea where
  | val (d : PD) | io (i : Nat)
/-- where the mutable of a slot stands -/
def ixOf (ρ : Rho) (i : Nat) : Option Ix := match ρ.sl[i]? with
  | some (.own _) => some (.sl i)
  | some (.io j) => some (.io j)
  | _ => none
def mHas (i : Nat) : M Unit := fun ρ => match ixOf ρ i with
  | some _ => .ok () ρ
  | none => .bad
def dArgs : List Sa → M (List Ea)
  | [] => mpure []
  | .val f :: r => mbind f fun d => mbind (dArgs r) fun es => mpure (.val d :: es)
  | .io i :: r => mbind (mHas i) fun _ => mbind (dArgs r) fun es => mpure (.io i :: es)
def getC (ρ : Rho) : Ix → Option MC
  | .sl i => (match ρ.sl[i]? with
    | some (.own m) => some m
    | _ => none)
  | .io j => ρ.io[j]?
  | _ => none
def setC (ρ : Rho) (x : Ix) (m : MC) : Rho := match x with
  | .sl i => { ρ with sl := ρ.sl.set i (.own m) }
  | .io j => { ρ with io := ρ.io.set j m }
  | _ => ρ
/-- at most one mutable is handed in: its place among the arguments, the arguments as the def has them -/
def arsOf : List Ea → List Ar
  | [] => []
  | .val d :: r => .val d :: arsOf r
  | .io _ :: r => .io 0 :: arsOf r
def iosOf : List Ea → List Nat
  | [] => []
  | .val _ :: r => iosOf r
  | .io i :: r => i :: iosOf r
def rtM (rt : Rt) (ρ : Rho) : R (Sum PD (List PD)) := match rt with
  | .ret d => .ok (.inl d) ρ
  | .fre xs => .ok (.inr xs) ρ
  | .exc x => .exc x ρ
  | .bad => .bad
/-- the call itself: what it hands back (or a fresh list) -/
def callTail (F : FD) (es : List Ea) : M (Sum PD (List PD)) := fun ρ => match iosOf es with
  | [] => rtM (F (arsOf es) []).1 ρ
  | [i] => (match ixOf ρ i with
    | some x => (match getC ρ x with
      | some m => (match F (arsOf es) [m] with
        | (rt, [m']) => rtM rt (setC ρ x m')
        | _ => .bad)
      | none => .bad)
    | none => .bad)
  | _ => .bad
def dCallX (F : FD) (args : List Sa) : M (Sum PD (List PD)) := mbind (dArgs args) (callTail F)
def dCall (F : FD) (args : List Sa) : M PD := mbind (dCallX F args) fun r => match r with
  | .inl d => mpure d
  | .inr _ => fun _ => .bad
def dCallF (F : FD) (args : List Sa) : M (List PD) := mbind (dCallX F args) fun r => match r with
  | .inl _ => fun _ => .bad
  | .inr xs => mpure xs
def VRea (c : Cc) (σ : St) (P : Pcs) : Ea → V → Prop
  | .val d, v => Rp c.kc (P .g) v d
  | .io i, v => σ[i]? = some (some v)
inductive VReas (c : Cc) (σ : St) (P : Pcs) : List Ea → List V → Prop
  | nil : VReas c σ P [] []
  | cons {p : Ea} {v : V} {ps : List Ea} {vs : List V} : VRea c σ P p v → VReas c σ P ps vs → VReas c σ P (p :: ps) (v :: vs)
theorem VRea.step {c : Cc} {σ : St} {P P' : Pcs} (s : Stp P P') {p : Ea} {v : V} (h : VRea c σ P p v) : VRea c σ P' p v := by
  cases p with
  | val d => exact Rp.mono s.g h
  | io i => exact h
theorem VReas.step {c : Cc} {σ : St} {P P' : Pcs} (s : Stp P P') : ∀ {ps : List Ea} {vs : List V}, VReas c σ P ps vs → VReas c σ P' ps vs
  | _, _, .nil => .nil
  | _, _, .cons h r => .cons (h.step s) (VReas.step s r)
def DAs (X : Cx) (c : Cc) (W : WX) (es : List Expr) (args : List Sa) : Prop := Gd X c → ∀ ioA, PA X es (tM c ioA W (fun ps vs σ _ P => VReas c σ P ps vs) (dArgs args))
section
variable {X : Cx} {c : Cc} {W : WX} {e : Expr} {es : List Expr} {f : M PD} {args : List Sa} {pos : Pos}
theorem das_nil : DAs X c W [] [] := fun gd ioA => PA.imp pa_nil fun σ H Q ⟨ρ, P, rp, h⟩ => h.pure rp .nil
theorem das_val (ha : DE X c W e f) (hr : DAs X c W es args) (hs : starEach (e :: es) X.env = (false, eval e X.env) :: starEach es X.env := by rfl) : DAs X c W (e :: es) (.val f :: args) := fun gd ioA => by
  refine PA.imp (pa_cons (ha gd ioA) (hr gd ioA) hs) fun σ H Q ⟨ρ, P, rp, h⟩ => ⟨ρ, P, rp, h.bind.mono fun x H1 ⟨d, ρ1, P1, s1, r1, v1, h1⟩ => ⟨ρ1, P1, r1, h1.bind.mono fun xs H2 ⟨ds, ρ2, P2, s2, r2, v2, h2⟩ => ?_⟩⟩
  exact h2.pure r2 (.cons (VRea.step (p := .val d) s2 v1) v2)
theorem das_io (i : Nat) {x : Str} {p : Pos} (hr : DAs X c W es args) (hN : X.N[i]? = some x := by rfl) (hv : Vis X.env.scope x := by first | exact Or.inl rfl | exact Or.inr (Or.inl rfl) | exact Or.inr (Or.inr rfl)) (hd : (x == ("__debug__" : Str)) = false := by decide)
    (hcd : (x == ("__classdict__" : Str)) = false := by decide) (hs : starEach (Expr.Name x p :: es) X.env = (false, eval (Expr.Name x p) X.env) :: starEach es X.env := by rfl) : DAs X c W (.Name x p :: es) (.io i :: args) := fun gd ioA => by
  refine PA.imp (pa_cons (pe_var hN hv hd hcd) (hr gd ioA) hs) fun σ H Q ⟨ρ, P, rp, h⟩ => ?_
  have h1 := h.bind (VR := fun _ (_ : Unit) _ _ _ => True)
  unfold tMat mHas at h1
  cases e : ixOf ρ i with
  | none => simp only [e] at h1
  | some y =>
    simp only [e] at h1
    obtain ⟨_, ρ1, P1, s1, r1, _, h2⟩ := h1 () H P (Stp.refl _) rp trivial
    have hv2 : ∃ v, σ[i]? = some (some v) := by
      unfold ixOf at e
      cases q : ρ.sl[i]? with
      | none => simp only [q] at e; cases e
      | some s =>
        have so := rp.so i s q
        cases s with
        | own m => obtain ⟨a, e1, _⟩ := so; exact ⟨_, e1⟩
        | io j => obtain ⟨a, _, e1⟩ := so; exact ⟨_, e1⟩
        | _ => simp only [q] at e; cases e
    obtain ⟨v, ev⟩ := hv2
    have h2 : tMat c ioA W (fun ps vs σ _ P => VReas c σ P ps vs) (mbind (dArgs args) fun es => mpure (Ea.io i :: es)) ρ1 P1 σ Q := h2
    refine ⟨v, ev, ρ1, P1, r1, h2.bind.mono fun xs H2 ⟨ds, ρ2, P2, s2, r2, v2, h3⟩ => ?_⟩
    exact h3.pure r2 (.cons (show VRea c σ P2 (.io i) v from ev) v2)
end

/-! ### the heap around a call -/
open Classical in
noncomputable def restH (P : Pcs) (H : Hp) (no : Ix → Prop) : Hp := fun a => if ∃ y, ¬ no y ∧ P y a ≠ none then H a else none
theorem restH_of {P : Pcs} {H : Hp} {no : Ix → Prop} (h : Pc H P) {y : Ix} (n : ¬ no y) : Same (P y) (restH P H no) := fun a o e => by
  unfold restH
  rw [if_pos ⟨y, n, by rw [e]; simp⟩]
  exact h.sub y a o e
theorem restH_sub {P : Pcs} {H : Hp} {no : Ix → Prop} : Same (restH P H no) H := fun a o e => by
  unfold restH at e
  split at e
  · exact e
  · cases e
theorem restH_dis {P : Pcs} {H : Hp} {no : Ix → Prop} (h : Pc H P) {z : Ix} (n : no z) : Disj (P z) (restH P H no) := fun a => by
  unfold restH
  split
  · rename_i q
    obtain ⟨y, h1, h2⟩ := q
    have ne : z ≠ y := fun e => h1 (e ▸ n)
    rcases h.dis z y ne a with e | e
    · exact .inl e
    · exact absurd e h2
  · exact .inr rfl
noncomputable def befP (P : Pcs) (H : Hp) (x : Option Ix) : Pcs := fun y => match y with
  | .g => P .g
  | .f => restH P H (fun y => y = .g ∨ y = .t ∨ some y = x)
  | .io 0 => (match x with
    | some x => P x
    | none => emp)
  | _ => emp
def aftP (P P' : Pcs) (x : Option Ix) : Pcs := fun y => if y = .g then P' .g else if y = .t then P' .t else if some y = x then P' (.io 0) else P y
theorem befP_pc {P : Pcs} {H : Hp} {x : Option Ix} (h : Pc H P) (hg : x ≠ some .g) : Pc H (befP P H x) := by
  have d1 : Disj (P .g) (befP P H x .f) := restH_dis h (.inl rfl)
  have d2 : Disj (befP P H x (.io 0)) (befP P H x .f) := by
    cases x with
    | none => exact fun _ => .inl rfl
    | some x => exact restH_dis h (.inr (.inr rfl))
  have d3 : Disj (P .g) (befP P H x (.io 0)) := by
    cases x with
    | none => exact fun _ => .inr rfl
    | some x => exact h.dis _ _ fun e => hg (by rw [← e])
  refine ⟨fun y => ?_, fun y z n => ?_⟩
  · match y with
    | .g => exact h.sub .g
    | .f => exact restH_sub
    | .io 0 =>
      cases x with
      | none => exact same_emp
      | some x => exact h.sub x
    | .io (j + 1) => exact same_emp
    | .t => exact same_emp
    | .sl i => exact same_emp
  · match y, z, n with
    | .g, .f, _ => exact d1
    | .f, .g, _ => exact d1.symm
    | .g, .io 0, _ => exact d3
    | .io 0, .g, _ => exact d3.symm
    | .f, .io 0, _ => exact d2.symm
    | .io 0, .f, _ => exact d2
    | .io 0, .io 0, n => exact absurd rfl n
    | .g, .g, n => exact absurd rfl n
    | .f, .f, n => exact absurd rfl n
    | .t, _, _ => exact fun _ => .inl rfl
    | .sl _, _, _ => exact fun _ => .inl rfl
    | .io (_ + 1), _, _ => exact fun _ => .inl rfl
    | _, .t, _ => exact fun _ => .inr rfl
    | _, .sl _, _ => exact fun _ => .inr rfl
    | _, .io (_ + 1), _ => exact fun _ => .inr rfl
theorem aftP_pc {P P' : Pcs} {H H' : Hp} {x : Option Ix} (h : Pc H P) (h' : Pc H' P') (hf : P' .f = befP P H x .f) : Pc H' (aftP P P' x) := by
  have key : ∀ y, aftP P P' x y = P' .g ∧ y = .g ∨ aftP P P' x y = P' .t ∧ y = .t ∨ aftP P P' x y = P' (.io 0) ∧ some y = x ∧ y ≠ .g ∧ y ≠ .t ∨ aftP P P' x y = P y ∧ Same (P y) (P' .f) := fun y => by
    unfold aftP
    by_cases e1 : y = .g
    · exact .inl ⟨if_pos e1, e1⟩
    · rw [if_neg e1]
      by_cases e2 : y = .t
      · exact .inr (.inl ⟨if_pos e2, e2⟩)
      · rw [if_neg e2]
        by_cases e3 : some y = x
        · exact .inr (.inr (.inl ⟨if_pos e3, e3, e1, e2⟩))
        · refine .inr (.inr (.inr ⟨if_neg e3, ?_⟩))
          rw [hf]
          exact restH_of h (by simp only [not_or]; exact ⟨e1, e2, e3⟩)
  refine ⟨fun y => ?_, fun y z n => ?_⟩
  · rcases key y with ⟨e, _⟩ | ⟨e, _⟩ | ⟨e, _⟩ | ⟨e, q⟩
    · rw [e]; exact h'.sub _
    · rw [e]; exact h'.sub _
    · rw [e]; exact h'.sub _
    · rw [e]; exact fun a o r => h'.sub .f a o (q a o r)
  · have off : ∀ {A : Hp} {w : Ix}, w ≠ .f → Same A (P' .f) → Disj (P' w) A := fun {A w} nw q => (Disj.of fun a o r => (h'.dis .f w (Ne.symm nw)).r (q a o r)).symm
    rcases key y with ⟨e, ey⟩ | ⟨e, ey⟩ | ⟨e, ey, g1, g2⟩ | ⟨e, q⟩ <;> rcases key z with ⟨e', ez⟩ | ⟨e', ez⟩ | ⟨e', ez, k1, k2⟩ | ⟨e', q'⟩ <;> rw [e, e']
    · exact absurd (ey.trans ez.symm) n
    · exact h'.dis _ _ (by simp)
    · exact h'.dis _ _ (by simp)
    · exact off (by simp) q'
    · exact h'.dis _ _ (by simp)
    · exact absurd (ey.trans ez.symm) n
    · exact h'.dis _ _ (by simp)
    · exact off (by simp) q'
    · exact h'.dis _ _ (by simp)
    · exact h'.dis _ _ (by simp)
    · exact absurd (Option.some.inj (ey.trans ez.symm)) n
    · exact off (by simp) q'
    · exact (off (by simp) q).symm
    · exact (off (by simp) q).symm
    · exact (off (by simp) q).symm
    · exact h.dis y z n
theorem aft_g {P P' : Pcs} {x : Option Ix} : aftP P P' x .g = P' .g := if_pos rfl
theorem aft_t {P P' : Pcs} {x : Option Ix} : aftP P P' x .t = P' .t := by unfold aftP; rw [if_neg (by simp), if_pos rfl]
theorem aft_x {P P' : Pcs} {x : Ix} (h1 : x ≠ .g) (h2 : x ≠ .t) : aftP P P' (some x) x = P' (.io 0) := by unfold aftP; rw [if_neg h1, if_neg h2, if_pos rfl]
theorem aft_o {P P' : Pcs} {x : Option Ix} {y : Ix} (h1 : y ≠ .g) (h2 : y ≠ .t) (h3 : some y ≠ x) : aftP P P' x y = P y := by unfold aftP; rw [if_neg h1, if_neg h2, if_neg h3]
/-- behind a call that was handed nothing that changes -/
theorem RepW.aft0 {c : Cc} {ioA : List Addr} {ρ : Rho} {σ : St} {H H' : Hp} {P P' : Pcs} (r : RepW c ioA ρ σ H P) (h' : Pc H' P') (s : Stp (befP P H none) P') : RepW c ioA ρ σ H' (aftP P P' none) ∧ Stp P (aftP P P' none) := by
  have hg : Same (P .g) (aftP P P' none .g) := by rw [aft_g]; exact s.g
  refine ⟨⟨aftP_pc r.pc h' s.f, r.len, fun i sl e => ?_, fun j m e => ?_⟩, ⟨hg, aft_o (by simp) (by simp) (by simp)⟩⟩
  · rw [aft_o (y := .sl i) (by simp) (by simp) (by simp)]
    exact (r.so i sl e).mono hg
  · obtain ⟨a, e1, q⟩ := r.io j m e
    rw [aft_o (y := .io j) (by simp) (by simp) (by simp)]
    exact ⟨a, e1, q.mono hg⟩
/-- behind a call that was handed one mutable -/
theorem RepW.aft1 {c : Cc} {ioA : List Addr} {ρ : Rho} {σ : St} {H H' : Hp} {P P' : Pcs} {x : Ix} {m m' : MC} {a : Addr} (r : RepW c ioA ρ σ H P) (hm : getC ρ x = some m) (ha : MR c.kc (P .g) m a (P x)) (hx : (∃ i, x = .sl i ∧ σ[i]? = some (some (.ref a))) ∨ ∃ j, x = .io j ∧ ioA[j]? = some a)
    (h' : Pc H' P') (s : Stp (befP P H (some x)) P') (hm' : MR c.kc (P' .g) m' a (P' (.io 0))) : RepW c ioA (setC ρ x m') σ H' (aftP P P' (some x)) ∧ Stp P (aftP P P' (some x)) := by
  have hg : Same (P .g) (aftP P P' (some x) .g) := by rw [aft_g]; exact s.g
  rcases hx with ⟨i, rfl, hs⟩ | ⟨j, rfl, hs⟩
  · refine ⟨⟨aftP_pc r.pc h' s.f, by show σ.length = (ρ.sl.set i _).length; rw [List.length_set]; exact r.len, fun i2 sl e => ?_, fun j m2 e => ?_⟩, ⟨hg, aft_o (by simp) (by simp) (by simp)⟩⟩
    · have e' : (ρ.sl.set i (.own m'))[i2]? = some sl := e
      rw [List.getElem?_set] at e'
      by_cases hi : i = i2
      · subst hi
        simp only [if_true] at e'
        split at e'
        · cases e'
          rw [aft_x (by simp) (by simp), aft_g]
          exact ⟨a, hs, hm'⟩
        · cases e'
      · rw [if_neg hi] at e'
        rw [aft_o (y := .sl i2) (by simp) (by simp) (by simp; exact fun z => hi z.symm)]
        exact (r.so i2 sl e').mono hg
    · obtain ⟨b, e1, q⟩ := r.io j m2 e
      rw [aft_o (y := .io j) (by simp) (by simp) (by simp)]
      exact ⟨b, e1, q.mono hg⟩
  · refine ⟨⟨aftP_pc r.pc h' s.f, r.len, fun i2 sl e => ?_, fun j2 m2 e => ?_⟩, ⟨hg, aft_o (by simp) (by simp) (by simp)⟩⟩
    · rw [aft_o (y := .sl i2) (by simp) (by simp) (by simp)]
      exact (r.so i2 sl e).mono hg
    · have e' : (ρ.io.set j m')[j2]? = some m2 := e
      rw [List.getElem?_set] at e'
      by_cases hj : j = j2
      · subst hj
        simp only [if_true] at e'
        split at e'
        · cases e'
          rw [aft_x (by simp) (by simp), aft_g]
          exact ⟨a, hs, hm'⟩
        · cases e'
      · rw [if_neg hj] at e'
        obtain ⟨b, e1, q⟩ := r.io j2 m2 e'
        rw [aft_o (y := .io j2) (by simp) (by simp) (by simp; exact fun z => hj z.symm)]
        exact ⟨b, e1, q.mono hg⟩
end Den

set_option Elab.async false
set_option linter.all false
set_option maxRecDepth 100000
/-! DenF: calls of defs. -/
namespace Den
open PySem PySem.Spec
open PyProof.Rows L2

def VRx (c : Cc) : Sum PD (List PD) → V → St → Hp → Pcs → Prop := fun r v σ H P => match r with
  | .inl d => VRe c d v σ H P
  | .inr xs => VRf c xs v σ H P
def DX (X : Cx) (c : Cc) (W : WX) (e : Expr) (f : M (Sum PD (List PD))) : Prop := Gd X c → ∀ ioA, PE X e (tM c ioA W (VRx c) f)
theorem ars_none {k : Kc} {c : Cc} {σ : St} {P : Pcs} : ∀ {es : List Ea} {vs : List V}, VReas c σ P es vs → iosOf es = [] → ArAll c.kc [] (P .g) (arsOf es) vs
  | _, _, .nil, _ => .nil
  | _, _, .cons (p := .val d) h r, e => .cons h (ars_none (k := k) r e)
  | _, _, .cons (p := .io i) h r, e => by cases e
theorem ars_one {c : Cc} {σ : St} {P : Pcs} {i : Nat} {a : Addr} (ha : σ[i]? = some (some (.ref a))) : ∀ {es : List Ea} {vs : List V}, VReas c σ P es vs → (∀ j ∈ iosOf es, j = i) → ArAll c.kc [a] (P .g) (arsOf es) vs
  | _, _, .nil, _ => .nil
  | _, _, .cons (p := .val d) h r, e => .cons h (ars_one ha r e)
  | _, _, .cons (p := .io j) h r, e => .cons (by
      have ej : j = i := e j List.mem_cons_self
      subst ej
      have h' : σ[j]? = some (some _) := h
      rw [ha] at h'
      cases h'
      exact ⟨a, rfl, rfl⟩) (ars_one ha r fun j hj => e j (List.mem_cons_of_mem _ hj))
theorem XR.out {k : Kc} {x : Xc} {cls : Value} {dx : Option Addr} {H' : Hp} {P P' : Pcs} {o : Option Ix} {H : Hp} (h : XR k x cls dx H' P') (hp : Pc H P) (hf : P' .f = befP P H o .f) : XR k x cls dx H' (aftP P P' o) := by
  obtain ⟨C, d, v, h1, h2, h3, h4, h5, h6⟩ := h
  refine ⟨C, d, v, h1, h2, h3, h4, by rw [aft_g]; exact h5, fun y => ?_⟩
  unfold aftP
  by_cases e1 : y = .g
  · rw [if_pos e1]; exact h6 _
  · rw [if_neg e1]
    by_cases e2 : y = .t
    · rw [if_pos e2]; exact h6 _
    · rw [if_neg e2]
      by_cases e3 : some y = o
      · rw [if_pos e3]; exact h6 _
      · rw [if_neg e3]
        have q := h6 .f
        rw [hf] at q
        cases e : P y d with
        | none => rfl
        | some u =>
          have := restH_of hp (no := fun y => y = .g ∨ y = .t ∨ some y = o) (y := y) (by simp only [not_or]; exact ⟨e1, e2, e3⟩) d u e
          have q' : restH P H (fun y => y = .g ∨ y = .t ∨ some y = o) d = none := q
          rw [q'] at this
          cases this
theorem call_core {c : Cc} {ioA : List Addr} {W : WX} {ρ : Rho} {P : Pcs} {σ : St} {H : Hp} {Q : VK} {F : FD} {es : List Ea} {vs : List V} (r : RepW c ioA ρ σ H P) (hv : VReas c σ P es vs)
    (h : tMat c ioA W (VRx c) (callTail F es) ρ P σ Q) : spOf c.kc F vs H Q (WE W σ) := by
  unfold tMat callTail at h
  cases ei : iosOf es with
  | nil =>
    simp only [ei] at h
    have r0 : RepIo c.kc [] [] H (befP P H none) := ⟨befP_pc r.pc (by simp), fun j m e => by simp at e⟩
    refine ⟨arsOf es, [], [], befP P H none, r0, show ArAll c.kc [] (P .g) (arsOf es) vs from ars_none (k := c.kc) hv ei, ?_⟩
    cases eF : F (arsOf es) [] with
    | mk rt ms' =>
      rw [eF] at h
      cases rt with
      | ret d =>
        intro v H' P' s ri hd
        obtain ⟨r1, s1⟩ := r.aft0 ri.pc s
        exact h v H' _ s1 r1 (by show Rp c.kc _ v d; rw [aft_g]; exact hd)
      | fre xs =>
        intro v H' P' s ri hd
        obtain ⟨r1, s1⟩ := r.aft0 ri.pc s
        exact h v H' _ s1 r1 (by obtain ⟨p, e1, e2⟩ := hd; exact ⟨p, e1, by rw [aft_g, aft_t]; exact e2⟩)
      | exc x =>
        intro cls dx H' P' s ri hd
        obtain ⟨r1, s1⟩ := r.aft0 ri.pc s
        exact h cls dx H' _ s1 r1 (hd.out r.pc s.f)
      | bad => exact h.elim
  | cons i rest =>
    cases rest with
    | cons _ _ => simp only [ei] at h
    | nil =>
      simp only [ei] at h
      cases ex : ixOf ρ i with
      | none => simp only [ex] at h
      | some x =>
        simp only [ex] at h
        cases em : getC ρ x with
        | none => simp only [em] at h
        | some m =>
          simp only [em] at h
          -- where it stands
          have key : ∃ a, σ[i]? = some (some (.ref a)) ∧ MR c.kc (P .g) m a (P x) ∧ ((∃ i, x = .sl i ∧ σ[i]? = some (some (.ref a))) ∨ ∃ j, x = .io j ∧ ioA[j]? = some a) := by
            unfold ixOf at ex
            cases q : ρ.sl[i]? with
            | none => simp only [q] at ex; cases ex
            | some s =>
              have so := r.so i s q
              cases s with
              | own m0 =>
                simp only [q] at ex
                cases ex
                have em' : (match ρ.sl[i]? with | some (.own m) => some m | _ => none) = some m := em
                simp only [q] at em'
                cases em'
                obtain ⟨a, e1, e2⟩ := so
                exact ⟨a, e1, e2, .inl ⟨i, rfl, e1⟩⟩
              | io j =>
                simp only [q] at ex
                cases ex
                obtain ⟨a, e1, e2⟩ := so
                obtain ⟨b, e3, e4⟩ := r.io j m em
                rw [e1] at e3
                cases e3
                exact ⟨a, e2, e4, .inr ⟨j, rfl, e1⟩⟩
              | _ => simp only [q] at ex; cases ex
          obtain ⟨a, ha, hm, hx⟩ := key
          have xg : x ≠ .g := by rcases hx with ⟨_, rfl, _⟩ | ⟨_, rfl, _⟩ <;> simp
          have r0 : RepIo c.kc [a] [m] H (befP P H (some x)) := ⟨befP_pc r.pc (by simpa using xg), fun j m' e => by
            cases j with
            | zero => simp at e; subst e; exact ⟨a, rfl, hm⟩
            | succ j => simp at e⟩
          refine ⟨arsOf es, [m], [a], befP P H (some x), r0, show ArAll c.kc [a] (P .g) (arsOf es) vs from ars_one ha hv (by rw [ei]; intro j hj; simpa using hj), ?_⟩
          cases eF : F (arsOf es) [m] with
          | mk rt ms' =>
            rw [eF] at h
            cases ms' with
            | nil => exact h.elim
            | cons m' rest =>
              cases rest with
              | cons _ _ => exact h.elim
              | nil =>
                have back : ∀ {H' : Hp} {P' : Pcs}, Stp (befP P H (some x)) P' → RepIo c.kc [a] [m'] H' P' → RepW c ioA (setC ρ x m') σ H' (aftP P P' (some x)) ∧ Stp P (aftP P P' (some x)) := fun {H' P'} s ri => by
                  obtain ⟨b, e1, e2⟩ := ri.io 0 m' rfl
                  have e1' : a = b := Option.some.inj e1
                  subst e1'
                  exact r.aft1 em hm hx ri.pc s e2
                cases rt with
                | ret d =>
                  intro v H' P' s ri hd
                  obtain ⟨r1, s1⟩ := back s ri
                  exact h v H' _ s1 r1 (by show Rp c.kc _ v d; rw [aft_g]; exact hd)
                | fre xs =>
                  intro v H' P' s ri hd
                  obtain ⟨r1, s1⟩ := back s ri
                  exact h v H' _ s1 r1 (by obtain ⟨p, e1, e2⟩ := hd; exact ⟨p, e1, by rw [aft_g, aft_t]; exact e2⟩)
                | exc y =>
                  intro cls dx H' P' s ri hd
                  obtain ⟨r1, s1⟩ := back s ri
                  exact h cls dx H' _ s1 r1 (hd.out r.pc s.f)
                | bad => exact h.elim
section
variable {X : Cx} {c : Cc} {W : WX} {x : Str} {F : FD} {k j : Nat} {e o : Expr} {es : List Expr} {args : List Sa} {p pos apos : Pos}
/-- plain arguments, no star among them -/
structure Flat (X : Cx) (pos : Pos) (e : Expr) (es : List Expr) : Prop where
  head : starEach (e :: es) X.env = (false, eval e X.env) :: starEach es X.env
  tail : (backTo pos (starEach es X.env)).any (·.1) = false
/-- the called name gives the def's object, its frame has what the call needs -/
theorem fun_name {pins : List (Addr × Obj)} {s : Shared} {σ : St} {H : Hp} {f : Addr} {Q : VK} {kw : List Keyword} {as : List Expr} (I : L2.Inv X pins σ H s) (hg : Gl X x) (hm : X.mg x = some (.ref f)) (nd : (x == ("__debug__" : Str)) = false)
    (h : wpAny (model X.prog X.w) X.A (callWith pos (.ref f) [] (backTo pos (starEach as X.env)) (backToKw pos (keywordEach kw X.env))) (EP X pins σ Q) X.xe s) : wpAny (model X.prog X.w) X.A (eval (.Call (.Name x p) as kw pos) X.env) (EP X pins σ Q) X.xe s := by
  apply wpAny_Call_Name_kw
  apply ld_glob I hg hm _ nd
  exact h
theorem dx_call (C : Cal X.prog X.w X.K X.mg X.base c.kc k x F) (cl : Cl X W j) (hk : k ≤ j) (hg : Gl X x) (ha : DAs X c W (e :: es) args) (nd : (x == ("__debug__" : Str)) = false := by decide) (fl : Flat X pos e es := by exact ⟨rfl, rfl⟩) :
    DX X c W (.Call (.Name x p) (e :: es) [] pos) (dCallX F args) := fun gd ioA => by
  obtain ⟨f, fd, ps, hm, kept, bnd, G⟩ := C.ex
  have low : Cl X W k := ⟨cl.room.mono hk, cl.gu, cl.tk, cl.po⟩
  constructor
  rintro pins s σ H Q I ⟨ρ, P, rp, h⟩
  apply fun_name I hg hm nd
  have run := (ha gd ioA).run pos pins s σ H _ I ⟨ρ, P, rp, h.bind⟩
  refine PySem.W.callWith_K (h₀ := X.base) I.ok.mod.kin kept (thn run ?_) fl.head fl.tail
  rintro us s1 ⟨vs, H1, I1, rel, as', ρ1, P1, _, r1, v1, h1⟩
  exact ⟨I1.kIn, run_fnG G low bnd I1 rel (call_core r1 v1 h1)⟩
theorem dx_call0 (C : Cal X.prog X.w X.K X.mg X.base c.kc k x F) (cl : Cl X W j) (hk : k ≤ j) (hg : Gl X x) (nd : (x == ("__debug__" : Str)) = false := by decide) : DX X c W (.Call (.Name x p) [] [] pos) (dCallX F []) := fun gd ioA => by
  obtain ⟨f, fd, ps, hm, kept, bnd, G⟩ := C.ex
  have low : Cl X W k := ⟨cl.room.mono hk, cl.gu, cl.tk, cl.po⟩
  constructor
  rintro pins s σ H Q I ⟨ρ, P, rp, h⟩
  apply fun_name I hg hm nd
  have h1 : tMat c ioA W (VRx c) (callTail F []) ρ P σ Q := h
  exact PySem.W.callWith_K0 I.kIn kept (run_fnG (us := []) G low bnd I .nil (call_core rp .nil h1))
theorem de_x {f : M (Sum PD (List PD))} (h : DX X c W e f) : DE X c W e (mbind f fun r => match r with
  | .inl d => mpure d
  | .inr _ => fun _ => .bad) := fun gd ioA => by
  refine PE.imp (h gd ioA) fun σ H Q ⟨ρ, P, rp, h⟩ => ⟨ρ, P, rp, h.bind.mono fun x H1 ⟨r, ρ1, P1, s1, r1, v1, h1⟩ => ?_⟩
  cases r with
  | inl d => exact h1.pure r1 v1
  | inr xs => exact h1.elim
theorem df_x {f : M (Sum PD (List PD))} (h : DX X c W e f) : DF X c W e (mbind f fun r => match r with
  | .inl _ => fun _ => .bad
  | .inr xs => mpure xs) := fun gd ioA => by
  refine PE.imp (h gd ioA) fun σ H Q ⟨ρ, P, rp, h⟩ => ⟨ρ, P, rp, h.bind.mono fun x H1 ⟨r, ρ1, P1, s1, r1, v1, h1⟩ => ?_⟩
  cases r with
  | inl d => exact h1.elim
  | inr xs => exact h1.pure r1 v1
theorem de_call (C : Cal X.prog X.w X.K X.mg X.base c.kc k x F) (cl : Cl X W j) (hk : k ≤ j) (hg : Gl X x) (ha : DAs X c W (e :: es) args) (nd : (x == ("__debug__" : Str)) = false := by decide) (fl : Flat X pos e es := by exact ⟨rfl, rfl⟩) :
    DE X c W (.Call (.Name x p) (e :: es) [] pos) (dCall F args) := de_x (dx_call C cl hk hg ha nd fl)
theorem df_call (C : Cal X.prog X.w X.K X.mg X.base c.kc k x F) (cl : Cl X W j) (hk : k ≤ j) (hg : Gl X x) (ha : DAs X c W (e :: es) args) (nd : (x == ("__debug__" : Str)) = false := by decide) (fl : Flat X pos e es := by exact ⟨rfl, rfl⟩) :
    DF X c W (.Call (.Name x p) (e :: es) [] pos) (dCallF F args) := df_x (dx_call C cl hk hg ha nd fl)
/-- a fresh list is frozen -/
theorem de_f {f : M (List PD)} (h : DF X c W e f) : DE X c W e (mbind f fun xs => mpure (.list xs)) := fun gd ioA => by
  refine PE.imp (h gd ioA) fun σ H Q ⟨ρ, P, rp, h⟩ => ⟨ρ, P, rp, h.bind.mono fun v H1 ⟨xs, ρ1, P1, s1, r1, v1, h1⟩ => ?_⟩
  obtain ⟨p, rfl, hm⟩ := v1
  have hG : Same (P1 .g) (uni (P1 .g) (P1 .t)) := same_uni_l
  have r2 : RepW c ioA ρ1 σ H1 (put (put P1 .t emp) .g (uni (P1 .g) (P1 .t))) := by
    refine ⟨r1.pc.move (by simp), r1.len, fun i s q => ?_, fun j m q => ?_⟩
    · rw [put_same, put_ne (by simp), put_ne (by simp)]
      exact (r1.so i s q).mono hG
    · obtain ⟨a, e1, e2⟩ := r1.io j m q
      rw [put_same, put_ne (by simp), put_ne (by simp)]
      exact ⟨a, e1, e2.mono hG⟩
  exact (h1.back (P := put (put P1 .t emp) .g (uni (P1 .g) (P1 .t))) ⟨by rw [put_same]; exact hG, by rw [put_ne (by simp), put_ne (by simp)]⟩).pure r2 (by
    show Rp c.kc _ _ _
    rw [put_same]
    exact hm.rp hG (same_uni_r (r1.pc.dis _ _ (by simp))))
end
end Den

set_option Elab.async false
set_option linter.all false
set_option maxRecDepth 100000
/-! DenG: statements, targets, loops. -/
namespace Den
open PySem PySem.Spec
open PyProof.Rows L2

inductive Fl where
  | nx | bk | ct | ret (d : PD) | fre (xs : List PD)
def tSat (c : Cc) (ioA : List Addr) (W : WX) (g : M Fl) (ρ : Rho) (P : Pcs) (D : Ends) : Prop := match g ρ with
  | .ok .nx ρ' => ∀ σ' H' P', Stp P P' → RepW c ioA ρ' σ' H' P' → D.nx σ' H'
  | .ok .bk ρ' => ∀ σ' H' P', Stp P P' → RepW c ioA ρ' σ' H' P' → D.bk σ' H'
  | .ok .ct ρ' => ∀ σ' H' P', Stp P P' → RepW c ioA ρ' σ' H' P' → D.ct σ' H'
  | .ok (.ret d) ρ' => ∀ v σ' H' P', Stp P P' → RepW c ioA ρ' σ' H' P' → Rp c.kc (P' .g) v d → D.rt v H'
  | .ok (.fre xs) ρ' => ∀ v σ' H' P', Stp P P' → RepW c ioA ρ' σ' H' P' → VRf c xs v σ' H' P' → D.rt v H'
  | .exc x ρ' => ∀ cls dx σ' H' P', Stp P P' → RepW c ioA ρ' σ' H' P' → XR c.kc x cls dx H' P' → W cls dx σ' H'
  | .bad => False
def tS (c : Cc) (ioA : List Addr) (W : WX) (g : M Fl) : TS := fun D σ H => ∃ ρ P, RepW c ioA ρ σ H P ∧ tSat c ioA W g ρ P D
def DS (X : Cx) (c : Cc) (W : WX) (st : Stmt) (g : M Fl) : Prop := Gd X c → ∀ ioA, PS X st (tS c ioA W g)
def DSs (X : Cx) (c : Cc) (W : WX) (st : List Stmt) (g : M Fl) : Prop := Gd X c → ∀ ioA, PSs X st (tS c ioA W g)
section
variable {c : Cc} {ioA : List Addr} {W : WX} {ρ : Rho} {P P0 : Pcs} {σ : St} {H : Hp} {D : Ends}
theorem tSat.back {g : M Fl} (h : tSat c ioA W g ρ P0 D) (s0 : Stp P0 P) : tSat c ioA W g ρ P D := by
  unfold tSat at h ⊢
  cases e : g ρ with
  | ok fl ρ' =>
    rw [e] at h
    cases fl with
    | nx => exact fun σ' H' P' s => h σ' H' P' (s0.trans s)
    | bk => exact fun σ' H' P' s => h σ' H' P' (s0.trans s)
    | ct => exact fun σ' H' P' s => h σ' H' P' (s0.trans s)
    | ret d => exact fun v σ' H' P' s => h v σ' H' P' (s0.trans s)
    | fre d => exact fun v σ' H' P' s => h v σ' H' P' (s0.trans s)
  | exc x ρ' => rw [e] at h; exact fun cls dx σ' H' P' s => h cls dx σ' H' P' (s0.trans s)
  | bad => rw [e] at h; exact h
/-- an expression, then the rest -/
theorem tSat.bind {α β : Type} {VR : α → β → St → Hp → Pcs → Prop} {f : M α} {k : α → M Fl} (h : tSat c ioA W (mbind f k) ρ P D) :
    tMat c ioA W VR f ρ P σ (fun b H1 => ∃ a ρ1 P1, Stp P P1 ∧ RepW c ioA ρ1 σ H1 P1 ∧ VR a b σ H1 P1 ∧ tSat c ioA W (k a) ρ1 P1 D) := by
  unfold tMat
  unfold tSat mbind at h
  cases e : f ρ with
  | ok a ρ' =>
    rw [e] at h
    refine fun b H' P' s r v => ⟨a, ρ', P', s, r, v, ?_⟩
    have h' : tSat c ioA W (k a) ρ' P D := h
    exact h'.back s
  | exc x ρ' => rw [e] at h; exact fun cls dx H' P' => h cls dx σ H' P'
  | bad => rw [e] at h; exact h.elim
theorem tSat.nx {g : M Fl} {ρ' : Rho} (h : tSat c ioA W g ρ P D) (e : g ρ = .ok .nx ρ') {σ' : St} {H' : Hp} {P' : Pcs} (s : Stp P P') (r : RepW c ioA ρ' σ' H' P') : D.nx σ' H' := by
  unfold tSat at h; rw [e] at h; exact h σ' H' P' s r
end
def dNext : M Fl := mpure .nx
def dSeq (g h : M Fl) : M Fl := mbind g fun fl => match fl with
  | .nx => h
  | fl => mpure fl
def dDrop (f : M PD) : M Fl := mbind f fun _ => mpure .nx
def dRet (f : M PD) : M Fl := mbind f fun d => mpure (.ret d)
def dRetF (f : M (List PD)) : M Fl := mbind f fun xs => mpure (.fre xs)
def dIf (t : M Bool) (g h : M Fl) : M Fl := mbind t fun b => if b = true then g else h
def dSet (i : Nat) (f : M PD) : M Fl := mbind f fun d ρ => .ok .nx { ρ with sl := ρ.sl.set i (.val d) }
def dSetF (i : Nat) (f : M (List PD)) : M Fl := mbind f fun xs ρ => .ok .nx { ρ with sl := ρ.sl.set i (.own (.lst xs)) }
section
variable {X : Cx} {c : Cc} {W : WX} {st : Stmt} {rest a b : List Stmt} {g h : M Fl} {e : Expr} {f : M PD} {ff : M (List PD)} {t : M Bool} {pos pos' : Pos}
theorem dss_nil : DSs X c W [] dNext := fun gd ioA => PSs.imp pss_nil fun D σ H ⟨ρ, P, rp, h⟩ => h σ H P (Stp.refl _) rp
theorem dss_cons (h1 : DS X c W st g) (h2 : DSs X c W rest h) : DSs X c W (st :: rest) (dSeq g h) := fun gd ioA => by
  refine PSs.imp (pss_cons (h1 gd ioA) (h2 gd ioA)) fun D σ H ⟨ρ, P, rp, hh⟩ => ⟨ρ, P, rp, ?_⟩
  unfold tSat dSeq mbind at hh
  unfold tSat
  cases e : g ρ with
  | ok fl ρ' =>
    rw [e] at hh
    cases fl with
    | nx =>
      intro σ' H' P' s r
      have hh' : tSat c ioA W h ρ' P D := hh
      exact ⟨ρ', P', r, hh'.back s⟩
    | bk => exact hh
    | ct => exact hh
    | ret d => exact hh
    | fre d => exact hh
  | exc x ρ' => rw [e] at hh; exact hh
  | bad => rw [e] at hh; exact hh
theorem dss_one (h1 : DS X c W st g) : DSs X c W [st] g := fun gd ioA => pss_one (h1 gd ioA)
theorem ds_pass : DS X c W (.Pass pos) dNext := fun gd ioA => PS.imp ps_pass fun D σ H ⟨ρ, P, rp, h⟩ => h σ H P (Stp.refl _) rp
theorem ds_break : DS X c W (.Break pos) (mpure .bk) := fun gd ioA => PS.imp ps_break fun D σ H ⟨ρ, P, rp, h⟩ => h σ H P (Stp.refl _) rp
theorem ds_cont : DS X c W (.Continue pos) (mpure .ct) := fun gd ioA => PS.imp ps_continue fun D σ H ⟨ρ, P, rp, h⟩ => h σ H P (Stp.refl _) rp
theorem ds_doc {x j} : DS X c W (.Expr (.Constant (.str x) j pos) pos') dNext := fun gd ioA => PS.imp ps_doc fun D σ H ⟨ρ, P, rp, h⟩ => h σ H P (Stp.refl _) rp
theorem ds_expr (he : DE X c W e f) (hs : swapsWith e none pos.line X.env = pure false := by rfl) : DS X c W (.Expr e pos) (dDrop f) := fun gd ioA =>
  PS.imp (ps_expr (he gd ioA) hs) fun D σ H ⟨ρ, P, rp, h⟩ => ⟨ρ, P, rp, h.bind.mono fun v H1 ⟨d, ρ1, P1, s1, r1, v1, h1⟩ => h1 σ H1 P1 (Stp.refl _) r1⟩
theorem ds_ret (he : DE X c W e f) : DS X c W (.Return (some e) pos) (dRet f) := fun gd ioA =>
  PS.imp (ps_ret (he gd ioA)) fun D σ H ⟨ρ, P, rp, h⟩ => ⟨ρ, P, rp, h.bind.mono fun v H1 ⟨d, ρ1, P1, s1, r1, v1, h1⟩ => h1 v σ H1 P1 (Stp.refl _) r1 v1⟩
theorem ds_retF (he : DF X c W e ff) : DS X c W (.Return (some e) pos) (dRetF ff) := fun gd ioA =>
  PS.imp (ps_ret (he gd ioA)) fun D σ H ⟨ρ, P, rp, h⟩ => ⟨ρ, P, rp, h.bind.mono fun v H1 ⟨d, ρ1, P1, s1, r1, v1, h1⟩ => h1 v σ H1 P1 (Stp.refl _) r1 v1⟩
theorem ds_retN : DS X c W (.Return none pos) (mpure (.ret .none)) := fun gd ioA => PS.imp ps_retN fun D σ H ⟨ρ, P, rp, h⟩ => h .non σ H P (Stp.refl _) rp .non
theorem ds_if (ht : DT X c W e t) (ha : DSs X c W a g) (hb : DSs X c W b h) : DS X c W (.If e a b pos) (dIf t g h) := fun gd ioA =>
  PS.imp (ps_if (ht gd ioA) (ha gd ioA) (hb gd ioA)) fun D σ H ⟨ρ, P, rp, h⟩ => ⟨ρ, P, rp, h.bind.mono fun k H1 ⟨k', ρ1, P1, s1, r1, v1, h1⟩ => by
    have v1' : k' = k := v1
    subst v1'
    cases k' with
    | true => exact ⟨ρ1, P1, r1, h1⟩
    | false => exact ⟨ρ1, P1, r1, h1⟩⟩
theorem stp_drop {P : Pcs} {i : Nat} {M : Hp} : Stp P (put P (.sl i) M) := ⟨by rw [put_ne (by simp)]; exact Same.refl _, put_ne (by simp)⟩
theorem ds_set (i : Nat) {x : Str} (he : DE X c W e f) (hN : X.N.Nodup) (hi : X.N[i]? = some x := by rfl) (hx : Loc X.env.scope x := by first | exact Or.inl rfl | exact Or.inr rfl) (hs : swapsWith e (some (.Name x pos')) pos.line X.env = pure false := by rfl)
    (hf : X.fn x = true ∨ X.env.scope.names.lookup x = some .local := by first | exact .inl rfl | exact .inr rfl | assumption) : DS X c W (.Assign [.Name x pos'] e pos) (dSet i f) := fun gd ioA =>
  PS.imp (ps_set hN hi hx (he gd ioA) hs hf) fun D σ H ⟨ρ, P, rp, h⟩ => ⟨ρ, P, rp, h.bind.mono fun v H1 ⟨d, ρ1, P1, s1, r1, v1, h1⟩ => h1 _ H1 _ stp_drop (r1.setVal v1)⟩
theorem RepW.setOwn {ioA : List Addr} {ρ : Rho} {σ : St} {H : Hp} {P : Pcs} {i : Nat} {m : MC} {p : Addr} (r : RepW c ioA ρ σ H P) (h : MR c.kc (P .g) m p (P .t)) :
    RepW c ioA { ρ with sl := ρ.sl.set i (.own m) } (σ.set i (some (.ref p))) H (put (put P .t emp) (.sl i) (P .t)) := by
  have pc : Pc H (put (put P .t emp) (.sl i) (P .t)) := by
    have h1 := (r.pc.drop (x := .sl i)).move (x := .t) (y := .sl i) (by simp)
    have e : put (put (put P (.sl i) emp) .t emp) (.sl i) (uni (put P (.sl i) emp (.sl i)) (put P (.sl i) emp .t)) = put (put P .t emp) (.sl i) (P .t) := by
      funext y
      by_cases h1 : y = .sl i
      · subst h1
        rw [put_same, put_same, put_same, put_ne (by simp)]
        funext a; rfl
      · rw [put_ne h1, put_ne h1]
        by_cases h2 : y = .t
        · subst h2; rw [put_same, put_same]
        · rw [put_ne h2, put_ne h2, put_ne h1]
    rw [e] at h1
    exact h1
  refine ⟨pc, by simpa using r.len, fun j s e => ?_, fun j m' e => ?_⟩
  · have eg : put (put P .t emp) (.sl i) (P .t) .g = P .g := by rw [put_ne (by simp), put_ne (by simp)]
    rw [eg]
    rw [List.getElem?_set] at e
    by_cases hj : i = j
    · subst hj
      simp only [if_true] at e
      split at e
      · rename_i hl
        cases e
        rw [put_same]
        exact ⟨p, by rw [List.getElem?_set_self (by rw [r.len]; exact hl)], h⟩
      · cases e
    · rw [if_neg hj] at e
      rw [List.getElem?_set_ne hj, put_ne (by simp; exact fun z => hj z.symm), put_ne (by simp)]
      exact r.so j s e
  · obtain ⟨a, e1, q⟩ := r.io j m' e
    rw [put_ne (by simp), put_ne (by simp), put_ne (by simp), put_ne (by simp)]
    exact ⟨a, e1, q⟩
theorem ds_setF (i : Nat) {x : Str} (he : DF X c W e ff) (hN : X.N.Nodup) (hi : X.N[i]? = some x := by rfl) (hx : Loc X.env.scope x := by first | exact Or.inl rfl | exact Or.inr rfl) (hs : swapsWith e (some (.Name x pos')) pos.line X.env = pure false := by rfl)
    (hf : X.fn x = true ∨ X.env.scope.names.lookup x = some .local := by first | exact .inl rfl | exact .inr rfl | assumption) : DS X c W (.Assign [.Name x pos'] e pos) (dSetF i ff) := fun gd ioA =>
  PS.imp (ps_set hN hi hx (he gd ioA) hs hf) fun D σ H ⟨ρ, P, rp, h⟩ => ⟨ρ, P, rp, h.bind.mono fun v H1 ⟨xs, ρ1, P1, s1, r1, v1, h1⟩ => by
    obtain ⟨p, rfl, hm⟩ := v1
    exact h1 _ H1 _ ⟨by rw [put_ne (by simp), put_ne (by simp)]; exact Same.refl _, by rw [put_ne (by simp), put_ne (by simp)]⟩ (r1.setOwn hm)⟩
/-- return of a name that holds a list of its own: it is handed on as it is -/
def dRetOwn (i : Nat) : M Fl := fun ρ => match ρ.sl[i]? with
  | some (.own (.lst xs)) => .ok (.fre xs) { ρ with sl := ρ.sl.set i .no }
  | _ => .bad
theorem ds_retOwn (i : Nat) {x : Str} {p : Pos} (hN : X.N[i]? = some x := by rfl) (hv : Vis X.env.scope x := by first | exact Or.inl rfl | exact Or.inr (Or.inl rfl) | exact Or.inr (Or.inr rfl)) (hd : (x == ("__debug__" : Str)) = false := by decide)
    (hcd : (x == ("__classdict__" : Str)) = false := by decide) : DS X c W (.Return (some (.Name x p)) pos) (dRetOwn i) := fun gd ioA => by
  refine PS.imp (ps_ret (pe_var hN hv hd hcd)) fun D σ H ⟨ρ, P, rp, h⟩ => ?_
  unfold tSat dRetOwn at h
  cases e : ρ.sl[i]? with
  | none => simp only [e] at h
  | some s =>
    have so := rp.so i s e
    cases s with
    | own m =>
      cases m with
      | lst xs =>
        simp only [e] at h
        obtain ⟨a, e1, e2⟩ := so
        refine ⟨.ref a, e1, h (.ref a) σ H (put (put P (.sl i) emp) .t (P (.sl i))) ⟨by rw [put_ne (by simp), put_ne (by simp)]; exact Same.refl _, by rw [put_ne (by simp), put_ne (by simp)]⟩ ?_ ?_⟩
        · have r2 := rp.kill (i := i)
          refine ⟨?_, r2.len, fun j s q => ?_, fun j m q => ?_⟩
          · have h1 := (rp.pc.drop (x := .t)).move (x := .sl i) (y := .t) (by simp)
            have e3 : put (put (put P .t emp) (.sl i) emp) .t (uni (put P .t emp .t) (put P .t emp (.sl i))) = put (put P (.sl i) emp) .t (P (.sl i)) := by
              funext y
              by_cases h1 : y = .t
              · subst h1
                rw [put_same, put_same, put_same, put_ne (by simp)]
                funext a; rfl
              · rw [put_ne h1, put_ne h1]
                by_cases h2 : y = .sl i
                · subst h2; rw [put_same, put_same]
                · rw [put_ne h2, put_ne h2, put_ne h1]
            rw [e3] at h1
            exact h1
          · rw [show put (put P (.sl i) emp) .t (P (.sl i)) .g = P .g by rw [put_ne (by simp), put_ne (by simp)]]
            have q' : (ρ.sl.set i .no)[j]? = some s := q
            rw [List.getElem?_set] at q'
            by_cases hj : i = j
            · subst hj
              simp only [if_true] at q'
              split at q'
              · cases q'; trivial
              · cases q'
            · rw [if_neg hj] at q'
              rw [put_ne (by simp), put_ne (by simp; exact fun z => hj z.symm)]
              exact rp.so j s q'
          · obtain ⟨b, f1, f2⟩ := rp.io j m q
            rw [put_ne (by simp), put_ne (by simp), put_ne (by simp), put_ne (by simp)]
            exact ⟨b, f1, f2⟩
        · refine ⟨a, rfl, ?_⟩
          rw [put_same, put_ne (by simp), put_ne (by simp)]
          exact e2
      | _ => simp only [e] at h
    | _ => simp only [e] at h
end

/-! ### targets -/
inductive Tg where
  | nm (i : Nat) | tup (ts : List Tg)
mutual
def bindT : Tg → PD → List Slot → Option (List Slot)
  | .nm i, d, sl => some (sl.set i (.val d))
  | .tup ts, .tuple ds, sl => bindTs ts ds sl
  | _, _, _ => none
def bindTs : List Tg → List PD → List Slot → Option (List Slot)
  | [], [], sl => some sl
  | t :: ts, d :: ds, sl => (match bindT t d sl with
    | some sl' => bindTs ts ds sl'
    | none => none)
  | _, _, _ => none
end
mutual
/-- the slots that a target sets -/
def ixT : Tg → List Nat
  | .nm i => [i]
  | .tup ts => ixTs ts
def ixTs : List Tg → List Nat
  | [] => []
  | t :: ts => ixT t ++ ixTs ts
end
def Off (is : List Nat) (σ σ' : St) : Prop := ∀ i, i ∉ is → σ'[i]? = σ[i]?
/-- a value that a target takes: a datum, or a tuple of data -/
def PkT (k : Kc) (G H : Hp) (v : V) (d : PD) : Prop := PkR k G H v d ∨ ∃ a xs ds, v = .ref a ∧ d = .tuple ds ∧ SqT k.K H a xs ∧ RpAll k G xs ds
theorem PkT.tuple {k : Kc} {G H : Hp} {v : V} {ds : List PD} (s : Same G H) (h : PkT k G H v (.tuple ds)) : ∃ a xs, v = .ref a ∧ SqT k.K H a xs ∧ RpAll k G xs ds := by
  rcases h with h | ⟨a, xs, _, e, e2, h⟩
  · exact h.tuple s
  · cases e2
    exact ⟨a, xs, e, h⟩
def isTupT : Tg → Bool
  | .tup _ => true
  | .nm _ => false
def tG (c : Cc) (ioA : List Addr) (t : Tg) : TG := fun v σ H Q => ∃ ρ P d, RepW c ioA ρ σ H P ∧ PkT c.kc (P .g) H v d ∧ (∀ i, t = .nm i → Rp c.kc (P .g) v d) ∧ ∃ sl, bindT t d ρ.sl = some sl ∧ ∀ σ' P', Stp P P' → Off (ixT t) σ σ' → RepW c ioA { ρ with sl := sl } σ' H P' → Q σ' H
def tGs (c : Cc) (ioA : List Addr) (ts : List Tg) : TGs := fun vs σ H Q => ∃ ρ P ds, RepW c ioA ρ σ H P ∧ RpAll c.kc (P .g) vs ds ∧ ∃ sl, bindTs ts ds ρ.sl = some sl ∧ ∀ σ' P', Stp P P' → Off (ixTs ts) σ σ' → RepW c ioA { ρ with sl := sl } σ' H P' → Q σ' H
def DG (X : Cx) (c : Cc) (e : Expr) (t : Tg) : Prop := Gd X c → ∀ ioA, PG X e (tG c ioA t)
def DGs (X : Cx) (c : Cc) (es : List Expr) (ts : List Tg) : Prop := Gd X c → ∀ ioA, PGs X es (tGs c ioA ts)
theorem PG.imp {X : Cx} {e : Expr} {t t' : TG} (h : PG X e t) (i : ∀ v σ H Q, t' v σ H Q → t v σ H Q) : PG X e t' := ⟨fun pins s σ H v u Q I r q => h.run pins s σ H v u Q I r (i v σ H Q q)⟩
theorem PGs.imp {X : Cx} {e : List Expr} {t t' : TGs} (h : PGs X e t) (i : ∀ v σ H Q, t' v σ H Q → t v σ H Q) : PGs X e t' := ⟨fun pins s σ H v u Q I r q => h.run pins s σ H v u Q I r (i v σ H Q q)⟩
theorem bindTs_len : ∀ {ts : List Tg} {ds : List PD} {sl sl' : List Slot}, bindTs ts ds sl = some sl' → ds.length = ts.length
  | [], [], _, _, _ => rfl
  | [], _ :: _, _, _, h => by simp [bindTs] at h
  | _ :: _, [], _, _, h => by simp [bindTs] at h
  | t :: ts, d :: ds, sl, sl', h => by
    rw [bindTs] at h
    cases e : bindT t d sl with
    | none => simp only [e] at h; cases h
    | some s2 => simp only [e] at h; simp [bindTs_len h]
section
variable {X : Cx} {c : Cc} {W : WX} {e : Expr} {es : List Expr} {t : Tg} {ts : List Tg} {pos : Pos}
theorem dg_nm (i : Nat) {x : Str} (hN : X.N.Nodup) (hi : X.N[i]? = some x := by rfl) (hx : Loc X.env.scope x := by first | exact Or.inl rfl | exact Or.inr rfl) (hf : X.fn x = true ∨ X.env.scope.names.lookup x = some .local := by first | exact .inl rfl | exact .inr rfl | assumption) :
    DG X c (.Name x pos) (.nm i) := fun gd ioA => PG.imp (pg_name hN hi hx hf) fun v σ H Q ⟨ρ, P, d, rp, _, hd, sl, e, q⟩ => by
  rw [bindT] at e
  cases e
  exact q _ _ stp_drop (fun j hj => List.getElem?_set_ne (by simpa [ixT] using fun z => hj (by simp [ixT, z]))) (rp.setVal (hd i rfl))
theorem dgs_nil : DGs X c [] [] := fun gd ioA => PGs.imp pgs_nil fun vs σ H Q ⟨ρ, P, ds, rp, hd, sl, e, q⟩ => by
  cases ds with
  | nil =>
    cases hd
    rw [bindTs] at e
    cases e
    exact ⟨rfl, q σ P (Stp.refl _) (fun _ _ => rfl) rp⟩
  | cons d ds => simp [bindTs] at e
theorem dgs_cons (h1 : DG X c e t) (h2 : DGs X c es ts) (hs : (assignEach (e :: es) X.env).map (·.2) = assign e X.env :: (assignEach es X.env).map (·.2) := by rfl) : DGs X c (e :: es) (t :: ts) := fun gd ioA =>
  PGs.imp (pgs_cons (h1 gd ioA) (h2 gd ioA) hs) fun vs σ H Q ⟨ρ, P, ds, rp, hd, sl, e, q⟩ => by
  cases ds with
  | nil => simp [bindTs] at e
  | cons d ds =>
    cases hd with
    | @cons v vs _ _ hv hd =>
      rw [bindTs] at e
      cases e1 : bindT t d ρ.sl with
      | none => simp only [e1] at e; cases e
      | some sl1 =>
        simp only [e1] at e
        refine ⟨v, vs, rfl, ρ, P, d, rp, .inl (.inl hv), fun _ _ => hv, sl1, e1, fun σ' P' s o r => ⟨{ ρ with sl := sl1 }, P', ds, r, hd.mono s.g, sl, e, fun σ2 P2 s2 o2 r2 => q σ2 P2 (s.trans s2) (fun i hi => (o2 i fun z => hi (by simp [ixTs, z])).trans (o i fun z => hi (by simp [ixTs, z]))) r2⟩⟩
theorem dg_tup {k : Nat} (hc : X.calm = true) (h : DGs X c es ts) (hn : (assignEach es X.env).length = ts.length := by rfl) (hst : (assignEach es X.env).findIdx? (·.1) = none := by rfl) : DG X c (.Tuple es k pos) (.tup ts) := fun gd ioA =>
  PG.imp (pg_tup hc (h gd ioA) hn hst) fun v σ H Q ⟨ρ, P, d, rp, hd, _, sl, e, q⟩ => by
  cases d with
  | tuple ds =>
    rw [bindT] at e
    obtain ⟨a, xs, rfl, h1, r1⟩ := hd.tuple (rp.pc.sub .g)
    exact ⟨a, xs, rfl, gd.hK ▸ h1, by rw [r1.length]; exact bindTs_len e, ρ, P, ds, rp, r1, sl, e, q⟩
  | _ => simp [bindT] at e
/-- target = value -/
def dAsg (t : Tg) (f : M PD) : M Fl := mbind f fun d ρ => match bindT t d ρ.sl with
  | some sl => .ok .nx { ρ with sl := sl }
  | none => .bad
theorem ds_asg {tg : Expr} {f : M PD} (he : DE X c W e f) (hg : DG X c tg t) (hs : swapsWithSole [tg] e pos.line X.env = pure false := by rfl) (hw : swappedStores [tg] e X.env = pure none := by rfl)
    (h1 : (assignEach [tg] X.env).map (·.2) = [assign tg X.env] := by rfl) : DS X c W (.Assign [tg] e pos) (dAsg t f) := fun gd ioA =>
  PS.imp (ps_asg (he gd ioA) (hg gd ioA) hs hw h1) fun D σ H ⟨ρ, P, rp, h⟩ => ⟨ρ, P, rp, h.bind.mono fun v H1 ⟨d, ρ1, P1, s1, r1, v1, h1⟩ => by
    unfold tSat at h1
    cases e1 : bindT t d ρ1.sl with
    | none => simp only [e1] at h1
    | some sl =>
      simp only [e1] at h1
      exact ⟨ρ1, P1, d, r1, .inl (.inl v1), fun _ _ => v1, sl, e1, fun σ' P' s _ r => h1 σ' H1 P' s r⟩⟩
end
end Den

set_option Elab.async false
set_option linter.all false
set_option maxRecDepth 100000
/-! DenH: what is walked: lists, tuples, texts, ranges, enumerate, zip. -/
namespace Den
open PySem PySem.Spec
open PyProof.Rows L2

/-! ### from the library's walks over the bare heap (GoesN) to a walk of the layer (Turn) -/
section
variable {P : Program} {w : World} {K : PySem.W.Frag} {elts : List Expr} {kk : Nat} {tpos : Pos}
/-- a tuple's items, each with its place, in new pairs -/
def ItP (K : PySem.W.Frag) (a : Addr) : It where
  go := fun i H => ∃ (xs : List V) (x : V), SqT K H a xs ∧ xs[i]? = some x
  yld := fun i H v H' => ∃ T x, v = .ref T ∧ H T = none ∧ H' = upd H T (.tup [.int (i : Nat), x]) ∧ ∀ xs, SqT K H a xs → xs[i]? = some x
  stop := fun i H => ∃ xs : List V, SqT K H a xs ∧ xs.length = i
/-- where enumerate(t) stands at turn i: its own cell e, the tuple's iterator it -/
def EnAt (a e it : Addr) (i : Nat) (h : PySem.Heap) : Prop := (∃ old, IsEnum h e it (0 + (i : Int)) old) ∧ h.IsTupleIter it a i ∧ e ≠ it
theorem tup_clash {h : PySem.Heap} {a b : Addr} {its : Array Value} {o : Obj} {T : String} (t : h.IsTuple a its) (ob : h.get? b = some o) (hc : o.cls = .type T) (hT : T ≠ "tuple") : a ≠ b := fun z => by
  obtain ⟨u, hu, cu, _⟩ := t
  rw [z, ob] at hu
  cases hu
  exact hT (by simpa using hc.symm.trans cu)
theorem EnAt.goes {A : Around} {a e it : Addr} {i : Nat} {h : PySem.Heap} {its : Array Value} (hh : A.handled = none) (st : EnAt a e it i h) (t : h.IsTuple a its) :
    GoesN P w A (.Tuple elts kk tpos) e [e, it, a] [e, it] its.size (fun i h₀ v h => ∃ T t x, v = .ref T ∧ h₀.objs.size ≤ T ∧ its[i]? = some x ∧ h.IsTuple T #[.int (0 + (i : Int)) t, x])
      (fun i h => (∃ old, IsEnum h e it (0 + (i : Int)) old) ∧ (h.IsTupleIter it a i ∧ h.IsTuple a its)) := by
  obtain ⟨⟨_, q⟩, ⟨_, r, rc, _⟩, ne⟩ := st
  have ae : a ≠ e := tup_clash t q rfl (by decide)
  have ai : a ≠ it := tup_clash t r rc (by decide)
  exact .enumFrom 0 (Draws.tuple (A := A.in1) hh it a ai its) e ne (by simp [ne, Ne.symm ae]) (by simp)
theorem turn_pairs (a e it : Addr) : Turn P w K (.Tuple elts kk tpos) (ItP K a) [e, it] e (EnAt a e it) where
  mem := List.mem_cons_self
  obj := fun i h st b hb => by
    obtain ⟨⟨_, q⟩, ⟨o, r, _, d⟩, _⟩ := st
    rcases List.mem_cons.mp hb with rfl | hb
    · exact ⟨_, q, fun v z => nomatch z⟩
    · cases List.mem_singleton.mp hb
      exact ⟨o, r, fun v z => nomatch d.symm.trans z⟩
  keep := fun i h h' ⟨⟨old, q⟩, r, ne⟩ k => ⟨⟨old, k e (by simp) _ q⟩, r.at fun o z => k it (by simp) o z, ne⟩
  item := by
    rintro X rfl rfl rfl calm i pins s σ H E I own st ⟨xs, x, hq, hx⟩
    obtain ⟨its, rel, tup, _⟩ := I.tuple hq
    obtain ⟨u, hu, ru⟩ := rel.get hx
    have t : s.heap.IsTuple a its.toArray := tup
    have lt : i < its.toArray.size := by
      obtain ⟨z, _⟩ := List.getElem?_eq_some_iff.mp hu
      simpa using z
    have live : ∀ b ∈ [e, it], b < s.heap.objs.size := fun b hb => by
      obtain ⟨⟨_, q⟩, ⟨_, r, _⟩, _⟩ := st
      rcases List.mem_cons.mp hb with rfl | hb
      · exact Heap.lt_size q
      · cases List.mem_singleton.mp hb; exact Heap.lt_size r
    refine (EnAt.goes (I.ok.hd calm) st t).goes i s (fun v s2 => ∃ x' H', Inv X pins σ H' s2 ∧ RelV x' v ∧ (ItP X.K a).yld i H x' H' ∧ EnAt a e it (i + 1) s2.heap ∧ ∀ b ∈ [e, it], H' b = none) E lt ⟨st.1, st.2.1, t⟩ ?_
    rintro v h' tk ⟨T, tt, y, rfl, fresh, hy, hT⟩ ⟨q', r', _⟩ kept -
    have ey : y = u := Option.some.inj (hy.symm.trans (by simpa using hu))
    subst ey
    have pair : ObjOk X.prog X.w (upd H T (.tup [.int (i : Nat), x])) h' T (.tup [.int (i : Nat), x]) :=
      ⟨by show 2 ≤ sizeLine; decide, [.int (0 + (i : Int)) tt, y], .cons ⟨tt, by rw [Int.zero_add]⟩ (.cons ru .nil), hT⟩
    refine ⟨.ref T, _, I.turnedNew (ch := [e, it]) kept own fresh pair, rfl, ⟨T, x, rfl, I.hok.fresh fresh, rfl, fun ys hy => by rw [I.tuple_inj hy hq]; exact hx⟩, ⟨q', r', st.2.2⟩, fun b hb => ?_⟩
    rw [upd_ne (Nat.ne_of_lt (Nat.lt_of_lt_of_le (live b hb) fresh))]
    exact (own b hb).1
  done := by
    rintro X rfl rfl rfl calm i pins s σ H E I own st ⟨xs, hq, hl⟩
    obtain ⟨its, rel, tup, _⟩ := I.tuple hq
    have n : i = its.toArray.size := by rw [← hl, rel.length]; simp
    have t : s.heap.IsTuple a its.toArray := tup
    have G := EnAt.goes (P := X.prog) (w := X.w) (elts := elts) (kk := kk) (tpos := tpos) (I.ok.hd calm) st t
    subst n
    exact G.stops s (fun s1 => Inv X pins σ H s1) E ⟨st.1, st.2.1, t⟩ fun h' tk kept _ => I.turnedL (ch := [e, it]) kept own
  self := fun _ _ _ _ _ ⟨⟨_, q⟩, _⟩ h => wpAny_pyIter_enum q h
end
/-! ### enumerate(t) begins -/
section
variable {prog : Program} {w : World} {A : Around} {E : Value → Shared → Prop} {s : Shared}
theorem enum_made {v : Value} {o : Obj} {Pre : PySem.Heap → Prop} (B : Begins v o Pre) : Meets (Builtin.«enumerate.__new__» ⟨[.type "enumerate", v], []⟩) fun _ R s => Pre s.heap ∧
    R (.ok (.ret (.ref (s.heap.push o).objs.size))) { s with heap := (s.heap.push o).push ⟨.type "enumerate", none, .fields #[.none, .bool false, .ref s.heap.objs.size, rawInt 0, .none, .none], #[]⟩ } := by
  apply Meets.of_wp
  rintro P w A R ⟨h, g, d, tk, os⟩ ⟨pre, fin⟩
  have iter : ∀ {A' : Around} {E Q : Value → Shared → Prop}, Q (.ref h.objs.size) ⟨h.push o, g, d, tk, os⟩ → wpAny (model P w) A' (pyIter v) Q E ⟨h, g, d, tk, os⟩ := fun q => B.iter P w _ _ _ _ pre q
  have sub := sub_enumerate
  wp_walk using iter
  refine wpAny_stack_any fun st => wpAny_pure ?_
  split
  next c _ _ _ _ _ => cases (c == Value.type "enumerate") <;> (wp_walk using iter) <;> exact ⟨_, rfl, fin⟩
  next => (wp_walk using iter) <;> exact ⟨_, rfl, fin⟩
theorem enum_tuple {a : Addr} {its : Array Value} {Q : Value → Shared → Prop} (t : s.heap.IsTuple a its)
    (h : ∀ h', EnAt a (s.heap.objs.size + 1) s.heap.objs.size 0 h' → (∀ b o, s.heap.get? b = some o → h'.get? b = some o) → Q (.ref (s.heap.objs.size + 1)) { s with heap := h' }) :
    wpAny (model prog w) A (call (.type "enumerate") [.ref a]) Q E s := by
  apply callType_new F.called_enumerate (by decide) (F.typeCall_enumerate_1 _) (F.newCall_enumerate_1 _) (fun obj => F.args_object_init_2 obj _) F.entry_enumerate_new (enum_made (begins_tuple a its))
  refine ⟨t, ?_⟩
  rw [show ∀ o : Obj, (s.heap.push o).objs.size = s.heap.objs.size + 1 from fun o => Heap.size_push ..]
  have top : ∀ (g : PySem.Heap) (o : Obj) (n : Nat), g.objs.size = n → o.isFreed = false → (g.push o).get? n = some o := fun g o n e f => by rw [← e]; exact Heap.get?_push_size _ f
  refine ⟨⟨_, top _ _ _ (Heap.size_push ..) rfl, rfl⟩, h _ ⟨⟨.none, top _ _ _ (Heap.size_push ..) rfl⟩, ⟨_, Heap.get?_push_of_some _ (top _ _ _ rfl rfl), rfl, rfl⟩, Nat.succ_ne_self _⟩ fun b o x => ?_⟩
  exact Heap.get?_push_of_some _ (Heap.get?_push_of_some _ x)
end
/-! ### enumerate of a list or a tuple; a list, a tuple or a text -/
section
variable {X : Cx} {pins : List (Addr × Obj)} {σ : St} {H : Hp} {s : Shared}
/-- cells that were just laid are one's own -/
theorem laid_own (I : L2.Inv X pins σ H s) {l : List Addr} (h : ∀ b ∈ l, s.heap.objs.size ≤ b) : ∀ b ∈ l, FpOk X pins H b := fun b hb => I.fpOk (h b hb) (I.hok.fresh (h b hb))
def iPairs (K : PySem.W.Frag) (ta : TA) : TI := fun σ H R => ta σ H fun vs H1 => ∃ a xs, vs = [.ref a] ∧ ((SqL K H1 a xs ∧ R (Ite K a) H1) ∨ (SqT K H1 a xs ∧ R (ItP K a) H1))
theorem pi_pairs {e : Expr} {ta : TA} {p pos tpos : Pos} {elts : List Expr} {kk : Nat} (hg : Gl X "enumerate") (hm : X.mg "enumerate" = none) (ha : PA X [e] ta) (one : starEach [e] X.env = [(false, eval e X.env)] := by rfl) :
    PI X (.Tuple elts kk tpos) (.Call (.Name "enumerate" p) [e] [] pos) (iPairs X.K ta) := by
  constructor
  intro pins s σ H R I h
  have args := ha.run pos pins s σ H _ I h
  refine Call_ (ld_blt I hg hm boot_enumerate (PyProof.Rows.callWith_type1 (thn args ?_) one rfl))
  rintro us s1 ⟨vs, H1, I1, rel, a, xs, rfl, way⟩
  obtain rfl := Vals.ref1 rel
  have two : ∀ b ∈ [s1.heap.objs.size + 1, s1.heap.objs.size], s1.heap.objs.size ≤ b := by simp
  rcases way with ⟨sq, q⟩ | ⟨sq, q⟩
  · obtain ⟨its, _, lst, _⟩ := I1.list sq
    refine call_enumerate_list lst.isList fun h' en it _ kept => wpAny_pyIter_enum en ?_
    exact ⟨_, _, _, _, H1, rfl, I1.kept (t' := s1.toks) kept, turn_enum a _ _, ⟨⟨.none, en⟩, it, Nat.succ_ne_self _⟩, laid_own I1 two, q⟩
  · obtain ⟨its, _, tup, _⟩ := I1.tuple sq
    refine enum_tuple (its := its.toArray) tup fun h' en kept => ?_
    obtain ⟨⟨old, e0⟩, _, _⟩ := id en
    exact wpAny_pyIter_enum e0 ⟨_, _, _, _, H1, rfl, I1.kept (t' := s1.toks) kept, turn_pairs a _ _, en, laid_own I1 two, q⟩
/-- the three that are walked item by item -/
def iVal (K : PySem.W.Frag) (tl : TE) : TI := fun σ H R => tl σ H fun x H1 => (∃ a, x = .ref a ∧ (∃ xs, SqL K H1 a xs) ∧ R (Itl K a) H1) ∨ (∃ a, x = .ref a ∧ (∃ xs, SqT K H1 a xs) ∧ R (Itt K a) H1) ∨ ∃ z, x = .str z ∧ R (Its z) H1
theorem pi_val {tg l : Expr} {tl : TE} (hl : PE X l tl) : PI X tg l (iVal X.K tl) := by
  constructor
  intro pins s σ H R I h
  refine thn (hl.run pins s σ H _ I h) ?_
  rintro v s1 ⟨x, H1, I1, rel, way⟩
  rcases way with ⟨a, rfl, ⟨xs, sq⟩, q⟩ | ⟨a, rfl, ⟨xs, sq⟩, q⟩ | ⟨z, rfl, q⟩
  · cases rel
    obtain ⟨its, _, lst, _⟩ := I1.list sq
    exact wpAny_pyIter_list lst.isList (pi_one (tk := s1.toks) I1 _ (turn_list a _) ⟨_, Heap.get?_push_size _ rfl, rfl, rfl⟩ q)
  · cases rel
    obtain ⟨its, _, tup, _⟩ := I1.tuple sq
    exact wpAny_pyIter_tuple (items := its.toArray) tup (pi_one (tk := s1.toks) I1 _ (turn_tuple a _) ⟨_, Heap.get?_push_size _ rfl, rfl, rfl⟩ q)
  · obtain ⟨t, rfl⟩ := rel
    exact wpAny_pyIter_strU (by
      by_cases ascii : z.cps.all (· < 128) = true
      · exact pi_one (tk := s1.toks) I1 _ (turn_str _ z t _ (.inl (by simp [strIterType, ascii]))) ⟨_, Heap.get?_push_size _ rfl, rfl, rfl⟩ q
      · exact pi_one (tk := s1.toks) I1 _ (turn_str _ z t _ (.inr (by simp [strIterType, ascii]))) ⟨_, Heap.get?_push_size _ rfl, rfl, rfl⟩ q)
end
/-! ### sources, by data -/
/-- what is walked, and the handed-in mutable that must stay as it is meanwhile -/
structure Src where
  ds : List PD
  lk : Option Nat
def Src.ok (s : Src) (ρ : Rho) : Prop := match s.lk with
  | none => True
  | some j => ρ.io[j]? = some (.lst s.ds)
inductive YV (wk : Bool) (k : Kc) (G : Hp) (H : Hp) : V → PD → Hp → Prop
  | same {x : V} {d : PD} : Rp k G x d → YV wk k G H x d H
  | pair {T : Addr} {a b : V} {da db : PD} : wk = true → H T = none → Rp k G a da → Rp k G b db → YV wk k G H (.ref T) (.tuple [da, db]) (upd H T (.tup [a, b]))
/-- ds, item by item, while the frozen part grows and the lock holds -/
def ItOk (wk : Bool) (c : Cc) (ioA : List Addr) (J : It) (ds : List PD) (ok : Rho → Prop) (P0 : Pcs) : Prop := ∃ (G : Hp → Prop) (Y : Nat → Hp → V → Hp → Prop), Walk J ds.length G Y ∧
  (∀ ρ σ H P, Same (P0 .g) (P .g) → RepW c ioA ρ σ H P → ok ρ → G H) ∧
  ∀ i ρ σ H P x H', i < ds.length → Same (P0 .g) (P .g) → RepW c ioA ρ σ H P → ok ρ → Y i H x H' → ∃ d, ds[i]? = some d ∧ YV wk c.kc (P .g) H x d H'
def isTupE : Expr → Bool
  | .Tuple _ _ _ => true
  | _ => false
def VRi (wk : Bool) (c : Cc) (ioA : List Addr) : (List PD × (Rho → Prop)) → It → St → Hp → Pcs → Prop := fun a J _ _ P => ItOk wk c ioA J a.1 a.2 P
def DI (X : Cx) (c : Cc) (W : WX) (tg e : Expr) (f : M (List PD × (Rho → Prop))) : Prop := Gd X c → ∀ ioA, PI X tg e (tM c ioA W (VRi (isTupE tg) c ioA) f)
theorem PI.imp {X : Cx} {tg e : Expr} {t t' : TI} (h : PI X tg e t) (i : ∀ σ H Q, t' σ H Q → t σ H Q) : PI X tg e t' := ⟨fun pins s σ H Q I q => h.run pins s σ H Q I (i σ H Q q)⟩
/-- an operand that is a list or a tuple: its items, and what must stay -/
def seqOf : PD → Option (List PD)
  | .list ds => some ds
  | .tuple ds => some ds
  | _ => none
def lkOf : Pk → Rho → Option (Rho → Prop)
  | .d _, _ => some fun _ => True
  | .sl i, ρ => match ρ.sl[i]? with
    | some (.val _) => some fun _ => True
    | some (.io j) => (match ρ.io[j]? with
      | some (.lst xs) => some fun ρ' => ρ'.io[j]? = some (.lst xs)
      | _ => none)
    | _ => none
def dSeqs (p : Pk) : M (List PD × (Rho → Prop)) := fun ρ => match look p ρ, lkOf p ρ with
  | some d, some ok => (match seqOf d with
    | some ds => .ok (ds, ok) ρ
    | none => .bad)
  | _, _ => .bad
/-- a list or a tuple at a, of the items ds, as long as ok holds -/
def SqOk (c : Cc) (ioA : List Addr) (a : Addr) (ds : List PD) (ok : Rho → Prop) (P0 : Pcs) : Prop :=
  (∀ ρ σ H P, Same (P0 .g) (P .g) → RepW c ioA ρ σ H P → ok ρ → ∃ xs, SqL c.kc.K H a xs ∧ RpAll c.kc (P .g) xs ds) ∨ (∀ ρ σ H P, Same (P0 .g) (P .g) → RepW c ioA ρ σ H P → ok ρ → ∃ xs, SqT c.kc.K H a xs ∧ RpAll c.kc (P .g) xs ds)
theorem seqs_ok {c : Cc} {ioA : List Addr} {ρ ρ' : Rho} {σ : St} {H : Hp} {P : Pcs} {p : Pk} {v : V} {ds : List PD} {ok : Rho → Prop} (r : RepW c ioA ρ σ H P) (h : VRk c p v σ H P) (e : dSeqs p ρ = .ok (ds, ok) ρ') : ρ' = ρ ∧ ok ρ ∧ ∃ a, v = .ref a ∧ SqOk c ioA a ds ok P := by
  unfold dSeqs at e
  cases el : look p ρ with
  | none => simp only [el] at e; cases e
  | some d =>
    cases ek : lkOf p ρ with
    | none => simp only [el, ek] at e; cases e
    | some okk =>
      simp only [el, ek] at e
      cases es : seqOf d with
      | none => simp only [es] at e; cases e
      | some ds' =>
        simp only [es] at e
        cases e
        -- a frozen datum
        have frz : Rp c.kc (P .g) v d → (ok = fun _ => True) → ρ = ρ ∧ ok ρ ∧ ∃ a, v = .ref a ∧ SqOk c ioA a ds ok P := fun hr ho => by
          subst ho
          cases d with
          | list xs =>
            cases es
            cases hr with
            | lst h1 h2 => exact ⟨rfl, trivial, _, rfl, .inl fun ρ2 σ2 H2 P2 s2 r2 _ => ⟨_, .inl (.inl (r2.pc.sub .g _ _ (s2 _ _ h1))), h2.mono s2⟩⟩
          | tuple xs =>
            cases es
            cases hr with
            | tup h1 h2 => exact ⟨rfl, trivial, _, rfl, .inr fun ρ2 σ2 H2 P2 s2 r2 _ => ⟨_, h1.seqT fun b o z => r2.pc.sub .g _ _ (s2 b o z), h2.mono s2⟩⟩
          | _ => cases es
        cases p with
        | d x => cases el; cases ek; exact frz h rfl
        | sl i =>
          have h' : σ[i]? = some (some v) := h
          unfold look at el
          unfold lkOf at ek
          cases q : ρ.sl[i]? with
          | none => simp only [q] at ek; cases ek
          | some s =>
            have so := r.so i s q
            cases s with
            | val x =>
              simp only [q] at el ek
              cases el; cases ek
              obtain ⟨w, e1, e2⟩ := so
              rw [h'] at e1; cases e1
              exact frz e2 rfl
            | io j =>
              simp only [q] at el ek
              cases q2 : ρ.io[j]? with
              | none => simp only [q2] at ek; cases ek
              | some m =>
                simp only [q2] at el ek
                cases m with
                | lst xs =>
                  cases el; cases ek; cases es
                  obtain ⟨a, e1, e2⟩ := so
                  rw [h'] at e2; cases e2
                  refine ⟨rfl, q2, a, rfl, .inl fun ρ2 σ2 H2 P2 s2 r2 o2 => ?_⟩
                  obtain ⟨b, e3, vs, e4, e5⟩ := r2.io j _ o2
                  rw [e1] at e3; cases e3
                  have z : P2 (.io j) a = some (.lst vs) := by rw [e5]; exact one_same
                  exact ⟨vs, .inl (.inl (r2.pc.sub _ _ _ z)), e4⟩
                | _ => cases ek
            | _ => simp only [q] at ek; cases ek
section
variable {X : Cx} {c : Cc} {W : WX} {tg e : Expr} {pos p : Pos} {wk : Bool}
theorem walk_listE {K : PySem.W.Frag} {a : Addr} {n : Nat} : Walk (Itl K a) n (fun H => ∃ xs, SqL K H a xs ∧ xs.length = n) (fun i H x H' => H' = H ∧ ∀ xs, SqL K H a xs → xs[i]? = some x) :=
  ⟨fun i _ hi ⟨xs, q, l⟩ => ⟨xs, xs[i], q, by simp [l, hi]⟩, fun _ ⟨xs, q, l⟩ => ⟨xs, q, by omega⟩, fun _ _ _ _ _ _ y => y⟩
theorem walk_tupE {K : PySem.W.Frag} {a : Addr} {n : Nat} : Walk (Itt K a) n (fun H => ∃ xs, SqT K H a xs ∧ xs.length = n) (fun i H x H' => H' = H ∧ ∀ xs, SqT K H a xs → xs[i]? = some x) :=
  ⟨fun i _ hi ⟨xs, q, l⟩ => ⟨xs, xs[i], q, by simp [l, hi]⟩, fun _ ⟨xs, q, l⟩ => ⟨xs, q, by omega⟩, fun _ _ _ _ _ _ y => y⟩
theorem walk_enumE {K : PySem.W.Frag} {a : Addr} {n : Nat} : Walk (Ite K a) n (fun H => ∃ xs, SqL K H a xs ∧ xs.length = n) (fun i H v H' => ∃ T x, v = .ref T ∧ H T = none ∧ H' = upd H T (.tup [.int (i : Nat), x]) ∧ ∀ xs, SqL K H a xs → xs[i]? = some x) :=
  ⟨fun i _ hi ⟨xs, q, l⟩ => ⟨xs, xs[i], q, by simp [l, hi]⟩, fun _ ⟨xs, q, l⟩ => ⟨xs, q, by omega⟩, fun _ _ _ _ _ _ y => y⟩
theorem walk_enumT {K : PySem.W.Frag} {a : Addr} {n : Nat} : Walk (ItP K a) n (fun H => ∃ xs, SqT K H a xs ∧ xs.length = n) (fun i H v H' => ∃ T x, v = .ref T ∧ H T = none ∧ H' = upd H T (.tup [.int (i : Nat), x]) ∧ ∀ xs, SqT K H a xs → xs[i]? = some x) :=
  ⟨fun i _ hi ⟨xs, q, l⟩ => ⟨xs, xs[i], q, by simp [l, hi]⟩, fun _ ⟨xs, q, l⟩ => ⟨xs, q, l⟩, fun _ _ _ _ _ _ y => y⟩
theorem SqOk.it {ioA : List Addr} {a : Addr} {ds : List PD} {ok : Rho → Prop} {P : Pcs} (h : SqOk c ioA a ds ok P) {R : It → Prop} (hl : (∀ ρ σ H, RepW c ioA ρ σ H P → ok ρ → ∃ xs, SqL c.kc.K H a xs) → ItOk wk c ioA (Itl c.kc.K a) ds ok P → R (Itl c.kc.K a)) (ht : (∀ ρ σ H, RepW c ioA ρ σ H P → ok ρ → ∃ xs, SqT c.kc.K H a xs) → ItOk wk c ioA (Itt c.kc.K a) ds ok P → R (Itt c.kc.K a)) : R (Itl c.kc.K a) ∨ R (Itt c.kc.K a) := by
  rcases h with h | h
  · refine .inl (hl (fun ρ σ H r o => by obtain ⟨xs, q, _⟩ := h ρ σ H P (Same.refl _) r o; exact ⟨xs, q⟩) ⟨_, _, walk_listE, fun ρ σ H P2 s r o => ?_, fun i ρ σ H P2 x H' hi s r o y => ?_⟩)
    · obtain ⟨xs, q, rr⟩ := h ρ σ H P2 s r o
      exact ⟨xs, q, rr.length⟩
    · obtain ⟨xs, q, rr⟩ := h ρ σ H P2 s r o
      obtain ⟨rfl, y⟩ := y
      obtain ⟨d, e1, e2⟩ := rr.getV (y xs q)
      exact ⟨d, e1, .same e2⟩
  · refine .inr (ht (fun ρ σ H r o => by obtain ⟨xs, q, _⟩ := h ρ σ H P (Same.refl _) r o; exact ⟨xs, q⟩) ⟨_, _, walk_tupE, fun ρ σ H P2 s r o => ?_, fun i ρ σ H P2 x H' hi s r o y => ?_⟩)
    · obtain ⟨xs, q, rr⟩ := h ρ σ H P2 s r o
      exact ⟨xs, q, rr.length⟩
    · obtain ⟨xs, q, rr⟩ := h ρ σ H P2 s r o
      obtain ⟨rfl, y⟩ := y
      obtain ⟨d, e1, e2⟩ := rr.getV (y xs q)
      exact ⟨d, e1, .same e2⟩
/-- over a list or a tuple -/
def dIterS (f : M Pk) : M (List PD × (Rho → Prop)) := mbind f dSeqs
theorem di_seq {f : M Pk} (he : DK X c W e f) : DI X c W tg e (dIterS f) := fun gd ioA => by
  refine PI.imp (pi_val (he gd ioA)) fun σ H Q ⟨ρ, P, rp, h⟩ => ⟨ρ, P, rp, h.bind.mono fun v H1 ⟨p, ρ1, P1, s1, r1, v1, h1⟩ => ?_⟩
  unfold tMat at h1
  cases e1 : dSeqs p ρ1 with
  | ok a ρ2 =>
    rw [e1] at h1
    obtain ⟨ds, ok⟩ := a
    obtain ⟨rfl, o1, a, rfl, sq⟩ := seqs_ok r1 v1 e1
    have h2 : ∀ J, ItOk (isTupE tg) c ioA J ds ok P1 → Q J H1 := fun J i => h1 J H1 P1 (Stp.refl _) r1 i
    rw [← gd.hK]
    rcases sq.it (R := fun J => ((∃ xs, SqL c.kc.K H1 a xs) ∧ J = Itl c.kc.K a ∧ Q J H1) ∨ ((∃ xs, SqT c.kc.K H1 a xs) ∧ J = Itt c.kc.K a ∧ Q J H1)) (fun hx i => .inl ⟨hx _ _ _ r1 o1, rfl, h2 _ i⟩) (fun hx i => .inr ⟨hx _ _ _ r1 o1, rfl, h2 _ i⟩) with (⟨q1, q2, q3⟩ | ⟨q1, q2, q3⟩) | (⟨q1, q2, q3⟩ | ⟨q1, q2, q3⟩)
    · exact .inl ⟨a, rfl, q1, q3⟩
    · exact .inr (.inl ⟨a, rfl, q1, q2 ▸ q3⟩)
    · exact .inl ⟨a, rfl, q1, q2 ▸ q3⟩
    · exact .inr (.inl ⟨a, rfl, q1, q3⟩)
  | exc x ρ2 =>
    have : ∀ p ρ1 x ρ2, dSeqs p ρ1 ≠ .exc x ρ2 := fun p ρ1 x ρ2 z => by unfold dSeqs at z; split at z <;> (try split at z) <;> cases z
    exact absurd e1 (this _ _ _ _)
  | bad => rw [e1] at h1; exact h1.elim
/-- over a text -/
def chrs (z : Str) : List PD := z.cps.toList.map fun c => .str ⟨#[c]⟩
def dIterT (f : M PD) : M (List PD × (Rho → Prop)) := mbind f fun d => match d with
  | .str z => mpure (chrs z, fun _ => True)
  | _ => fun _ => .bad
theorem it_str {ioA : List Addr} {z : Str} {P : Pcs} : ItOk wk c ioA (Its z) (chrs z) (fun _ => True) P := by
  refine ⟨_, _, (by rw [chrs, List.length_map, Array.length_toList]; exact walk_str), fun _ _ _ _ _ _ _ => trivial, fun i ρ σ H P2 x H' hi s r o y => ?_⟩
  obtain ⟨rfl, ch, e, rfl⟩ := y
  exact ⟨.str ⟨#[ch]⟩, by simp [chrs, e], .same (.str _)⟩
theorem di_str {f : M PD} (he : DE X c W e f) : DI X c W tg e (dIterT f) := fun gd ioA => by
  refine PI.imp (pi_val (he gd ioA)) fun σ H Q ⟨ρ, P, rp, h⟩ => ⟨ρ, P, rp, h.bind.mono fun v H1 ⟨d, ρ1, P1, s1, r1, v1, h1⟩ => ?_⟩
  cases d with
  | str z =>
    have v1' : Rp c.kc (P1 .g) v (.str z) := v1
    cases v1'
    exact .inr (.inr ⟨z, rfl, h1.pure r1 it_str⟩)
  | _ => exact h1.elim
/-- a list, a tuple or a text -/
def dIterV (f : M Pk) : M (List PD × (Rho → Prop)) := mbind f fun p ρ => match look p ρ with
  | some (.str z) => .ok (chrs z, fun _ => True) ρ
  | _ => dSeqs p ρ
theorem di_val {f : M Pk} (he : DK X c W e f) : DI X c W tg e (dIterV f) := fun gd ioA => by
  refine PI.imp (pi_val (he gd ioA)) fun σ H Q ⟨ρ, P, rp, h⟩ => ⟨ρ, P, rp, h.bind.mono fun v H1 ⟨p, ρ1, P1, s1, r1, v1, h1⟩ => ?_⟩
  have main : tMat c ioA W (VRi (isTupE tg) c ioA) (dSeqs p) ρ1 P1 σ Q → iVal X.K (fun σ H Q => Q v H) σ H1 Q := fun m1 => by
    unfold tMat at m1
    cases e1 : dSeqs p ρ1 with
    | ok a ρ2 =>
      rw [e1] at m1
      obtain ⟨ds, ok⟩ := a
      obtain ⟨rfl, o1, a, rfl, sq⟩ := seqs_ok r1 v1 e1
      have h2 : ∀ J, ItOk (isTupE tg) c ioA J ds ok P1 → Q J H1 := fun J i => m1 J H1 P1 (Stp.refl _) r1 i
      rw [← gd.hK]
      rcases sq.it (R := fun J => ((∃ xs, SqL c.kc.K H1 a xs) ∧ J = Itl c.kc.K a ∧ Q J H1) ∨ ((∃ xs, SqT c.kc.K H1 a xs) ∧ J = Itt c.kc.K a ∧ Q J H1)) (fun hx i => .inl ⟨hx _ _ _ r1 o1, rfl, h2 _ i⟩) (fun hx i => .inr ⟨hx _ _ _ r1 o1, rfl, h2 _ i⟩) with (⟨q1, q2, q3⟩ | ⟨q1, q2, q3⟩) | (⟨q1, q2, q3⟩ | ⟨q1, q2, q3⟩)
      · exact .inl ⟨a, rfl, q1, q3⟩
      · exact .inr (.inl ⟨a, rfl, q1, q2 ▸ q3⟩)
      · exact .inl ⟨a, rfl, q1, q2 ▸ q3⟩
      · exact .inr (.inl ⟨a, rfl, q1, q3⟩)
    | exc x ρ2 =>
      have : ∀ p ρ1 x ρ2, dSeqs p ρ1 ≠ .exc x ρ2 := fun p ρ1 x ρ2 z => by unfold dSeqs at z; split at z <;> (try split at z) <;> cases z
      exact absurd e1 (this _ _ _ _)
    | bad => rw [e1] at m1; exact m1.elim
  unfold tMat at h1
  cases el : look p ρ1 with
  | none => simp only [el] at h1; exact main h1
  | some d =>
    cases d with
    | str z =>
      simp only [el] at h1
      have : v = .str z := (look_ok r1 v1 el).str
      subst this
      exact .inr (.inr ⟨z, rfl, h1 _ H1 P1 (Stp.refl _) r1 it_str⟩)
    | _ => simp only [el] at h1; exact main h1
/-- range -/
def smallI (i : Int) : Bool := decide (-(2 ^ 62) ≤ i ∧ i < 2 ^ 62)
def rngI (lo : Int) (n : Nat) : List PD := (List.range n).map fun i => .int (lo + (i : Nat))
def dRange1 (f : M (List PD)) : M (List PD × (Rho → Prop)) := mbind f fun ds => match ds with
  | [.int j] => if smallI j = true then mpure (rngI 0 j.toNat, fun _ => True) else fun _ => .bad
  | _ => fun _ => .bad
def dRange2 (f : M (List PD)) : M (List PD × (Rho → Prop)) := mbind f fun ds => match ds with
  | [.int i, .int j] => if (smallI i && smallI j) = true then mpure (rngI i (j - i).toNat, fun _ => True) else fun _ => .bad
  | _ => fun _ => .bad
theorem it_range {ioA : List Addr} {lo : Int} {n : Nat} {P : Pcs} : ItOk wk c ioA (Itr lo n) (rngI lo n) (fun _ => True) P := by
  refine ⟨_, _, (by rw [rngI, List.length_map, List.length_range]; exact walk_range), fun _ _ _ _ _ _ _ => trivial, fun i ρ σ H P2 x H' hi s r o y => ?_⟩
  obtain ⟨rfl, rfl⟩ := y
  have hi' : i < n := by simpa [rngI] using hi
  exact ⟨.int (lo + (i : Nat)), by simp [rngI, hi'], .same (.int _)⟩
theorem di_range1 {a : Expr} {f : M (List PD)} (hg : Gl X "range") (hm : X.mg "range" = none) (ha : DEs X c W [a] f) (hs : starEach [a] X.env = [(false, eval a X.env)] := by rfl) : DI X c W tg (.Call (.Name "range" p) [a] [] pos) (dRange1 f) := fun gd ioA => by
  refine PI.imp (pi_range1 hg hm (ha gd ioA) hs) fun σ H Q ⟨ρ, P, rp, h⟩ => ⟨ρ, P, rp, h.bind.mono fun vs H1 ⟨ds, ρ1, P1, s1, r1, v1, h1⟩ => ?_⟩
  split at h1
  · rename_i j
    split at h1
    · rename_i hj
      have v1' : RpAll c.kc (P1 .g) vs [.int j] := v1
      cases v1' with
      | cons a b =>
        cases b; cases a
        have this : -(2 ^ 62) ≤ j ∧ j < 2 ^ 62 := of_decide_eq_true hj
        exact ⟨j, rfl, this.1, this.2, h1.pure r1 it_range⟩
    · exact h1.elim
  · exact h1.elim
theorem di_range2 {a b : Expr} {f : M (List PD)} (hg : Gl X "range") (hm : X.mg "range" = none) (ha : DEs X c W [a, b] f) (hs : starEach [a, b] X.env = [(false, eval a X.env), (false, eval b X.env)] := by rfl) (hs2 : starEach [b] X.env = [(false, eval b X.env)] := by rfl) : DI X c W tg (.Call (.Name "range" p) [a, b] [] pos) (dRange2 f) := fun gd ioA => by
  refine PI.imp (pi_range2 hg hm (ha gd ioA) hs hs2) fun σ H Q ⟨ρ, P, rp, h⟩ => ⟨ρ, P, rp, h.bind.mono fun vs H1 ⟨ds, ρ1, P1, s1, r1, v1, h1⟩ => ?_⟩
  split at h1
  · rename_i i j
    split at h1
    · rename_i hj
      have v1' : RpAll c.kc (P1 .g) vs [.int i, .int j] := v1
      cases v1' with
      | cons a b =>
        cases b with
        | cons a2 b2 =>
          cases b2; cases a; cases a2
          obtain ⟨g2, g3⟩ := Bool.and_eq_true_iff.mp hj
          have h2 : -(2 ^ 62) ≤ i ∧ i < 2 ^ 62 := of_decide_eq_true g2
          have h3 : -(2 ^ 62) ≤ j ∧ j < 2 ^ 62 := of_decide_eq_true g3
          exact ⟨i, j, rfl, ⟨h2.1, h2.2, h3.1, h3.2⟩, h1.pure r1 it_range⟩
    · exact h1.elim
  · exact h1.elim
/-- enumerate -/
def enumD (ds : List PD) : List PD := (List.range ds.length).zipWith (fun i d => .tuple [.int (i : Nat), d]) ds
theorem enumD_len {ds : List PD} : (enumD ds).length = ds.length := by simp [enumD]
theorem enumD_get {ds : List PD} {i : Nat} {d : PD} (h : ds[i]? = some d) : (enumD ds)[i]? = some (.tuple [.int (i : Nat), d]) := by
  have hi : i < ds.length := by
    rcases Nat.lt_or_ge i ds.length with h1 | h1
    · exact h1
    · rw [List.getElem?_eq_none h1] at h; cases h
  have e := List.getElem?_eq_getElem hi
  rw [e] at h; cases h
  simp [enumD, List.getElem?_zipWith, hi]
def dEnum (f : M (List Pk)) : M (List PD × (Rho → Prop)) := mbind f fun ps => match ps with
  | [p] => mbind (dSeqs p) fun s => mpure (enumD s.1, s.2)
  | _ => fun _ => .bad
theorem dSeqs_exc {p : Pk} {ρ1 : Rho} {x : Xc} {ρ2 : Rho} : dSeqs p ρ1 ≠ .exc x ρ2 := fun z => by unfold dSeqs at z; split at z <;> (try split at z) <;> cases z
theorem di_enum {elts : List Expr} {kk : Nat} {tpos : Pos} {f : M (List Pk)} (hg : Gl X "enumerate") (hm : X.mg "enumerate" = none) (ha : DKs X c W [e] f) (hs : starEach [e] X.env = [(false, eval e X.env)] := by rfl) : DI X c W (.Tuple elts kk tpos) (.Call (.Name "enumerate" p) [e] [] pos) (dEnum f) := fun gd ioA => by
  refine PI.imp (pi_pairs hg hm (ha gd ioA) hs) fun σ H Q ⟨ρ, P, rp, h⟩ => ⟨ρ, P, rp, h.bind.mono fun vs H1 ⟨ps, ρ1, P1, s1, r1, v1, h1⟩ => ?_⟩
  split at h1
  · rename_i p
    have v1' : VRks c σ P1 [p] vs := v1
    cases v1' with
    | @cons _ vv _ _ a b =>
      cases b
      have a' : VRk c p vv σ H1 P1 := by cases p <;> exact a
      unfold tMat mbind at h1
      cases e1 : dSeqs p ρ1 with
      | ok z ρ2 =>
        rw [e1] at h1
        obtain ⟨ds, ok⟩ := z
        obtain ⟨rfl, o1, ad, rfl, sq⟩ := seqs_ok r1 a' e1
        have h2 : ∀ J, ItOk true c ioA J (enumD ds) ok P1 → Q J H1 := fun J i => h1 J H1 P1 (Stp.refl _) r1 i
        rw [← gd.hK]
        rcases sq with sq | sq
        · obtain ⟨xs, q, _⟩ := sq _ _ _ _ (Same.refl _) r1 o1
          refine ⟨ad, xs, rfl, .inl ⟨q, h2 _ ⟨_, _, walk_enumE, fun ρ σ H P2 s r o => ?_, fun i ρ σ H P2 x H' hi s r o y => ?_⟩⟩⟩
          · obtain ⟨xs, q, rr⟩ := sq ρ σ H P2 s r o
            exact ⟨xs, q, by rw [enumD_len]; exact rr.length⟩
          · obtain ⟨xs, q, rr⟩ := sq ρ σ H P2 s r o
            obtain ⟨T, x2, rfl, hT, rfl, y⟩ := y
            obtain ⟨d, e1, e2⟩ := rr.getV (y xs q)
            exact ⟨_, enumD_get e1, .pair rfl hT (.int _) e2⟩
        · obtain ⟨xs, q, _⟩ := sq _ _ _ _ (Same.refl _) r1 o1
          refine ⟨ad, xs, rfl, .inr ⟨q, h2 _ ⟨_, _, walk_enumT, fun ρ σ H P2 s r o => ?_, fun i ρ σ H P2 x H' hi s r o y => ?_⟩⟩⟩
          · obtain ⟨xs, q, rr⟩ := sq ρ σ H P2 s r o
            exact ⟨xs, q, by rw [enumD_len]; exact rr.length⟩
          · obtain ⟨xs, q, rr⟩ := sq ρ σ H P2 s r o
            obtain ⟨T, x2, rfl, hT, rfl, y⟩ := y
            obtain ⟨d, e1, e2⟩ := rr.getV (y xs q)
            exact ⟨_, enumD_get e1, .pair rfl hT (.int _) e2⟩
      | exc x ρ2 => exact absurd e1 dSeqs_exc
      | bad => rw [e1] at h1; exact h1.elim
  · exact h1.elim
end
end Den

set_option Elab.async false
set_option linter.all false
set_option maxRecDepth 100000
/-! DenI: for, while, lending a list of one's own. -/
namespace Den
open PySem PySem.Spec
open PyProof.Rows L2

def killS (ks : List Nat) (ρ : Rho) : Rho := { ρ with sl := ks.foldl (fun l i => l.set i .no) ρ.sl }
theorem RepW.kills {c : Cc} {ioA : List Addr} {σ : St} {H : Hp} {P : Pcs} : ∀ (ks : List Nat) {ρ : Rho}, RepW c ioA ρ σ H P → RepW c ioA (killS ks ρ) σ H P
  | [], _, r => r
  | i :: ks, ρ, r => RepW.kills ks (ρ := { ρ with sl := ρ.sl.set i .no }) r.kill
open Classical in
noncomputable def forGo (t : Tg) (ks : List Nat) (ok : Rho → Prop) (body : M Fl) : List PD → Rho → R Fl
  | [], ρ => if ok ρ then .ok .nx ρ else .bad
  | d :: ds, ρ => if ok ρ then (match bindT t d ρ.sl with
    | none => .bad
    | some sl => (match body { ρ with sl := sl } with
      | .ok .nx ρ' => forGo t ks ok body ds (killS ks ρ')
      | .ok .ct ρ' => forGo t ks ok body ds (killS ks ρ')
      | .ok .bk ρ' => .ok .nx (killS ks ρ')
      | .ok (.ret d) ρ' => .ok (.ret d) ρ'
      | .ok (.fre d) ρ' => .ok (.fre d) ρ'
      | .exc x ρ' => .exc x ρ'
      | .bad => .bad)) else .bad
noncomputable def dFor (t : Tg) (ks : List Nat) (fi : M (List PD × (Rho → Prop))) (body : M Fl) : M Fl := mbind fi fun s ρ => forGo t ks s.2 body s.1 (killS ks ρ)
theorem YV.rp {wk : Bool} {c : Cc} {ioA : List Addr} {ρ : Rho} {σ : St} {H H' : Hp} {P : Pcs} {x : V} {d : PD} (r : RepW c ioA ρ σ H P) (y : YV wk c.kc (P .g) H x d H') : ∃ P', Stp P P' ∧ RepW c ioA ρ σ H' P' ∧ PkT c.kc (P' .g) H' x d ∧ (wk = false → Rp c.kc (P' .g) x d) := by
  cases y with
  | same h => exact ⟨P, Stp.refl _, r, .inl (.inl h), fun _ => h⟩
  | pair hw hT ha hb =>
    refine ⟨_, stp_new (r.gnone hT), r.new hT, .inr ⟨_, [_, _], _, rfl, rfl, .inl (.inl upd_same), ?_⟩, fun z => by rw [hw] at z; cases z⟩
    rw [put_same]
    have sm : ∀ o, Same (P .g) (upd (P .g) _ o) := fun o b u e => by rw [upd_ne (ne_of_none e (r.gnone hT))]; exact e
    exact .cons (ha.mono (sm _)) (.cons (hb.mono (sm _)) .nil)
section
variable {X : Cx} {c : Cc} {W : WX} {tg e : Expr} {body : List Stmt} {pos : Pos} {t : Tg} {ks : List Nat} {fi : M (List PD × (Rho → Prop))} {g : M Fl}
theorem forGo_ok {ioA : List Addr} {ok : Rho → Prop} {ds : List PD} {ρ : Rho} {P : Pcs} {D : Ends} (h : tSat c ioA W (forGo t ks ok g ds) ρ P D) : ok ρ := by
  by_cases e : ok ρ
  · exact e
  · unfold tSat at h
    have : forGo t ks ok g ds ρ = .bad := by cases ds <;> · unfold forGo; exact if_neg e
    rw [this] at h
    exact h.elim
theorem ds_for (hi : DI X c W tg e fi) (hg : DG X c tg t) (hb : DSs X c W body g) (ks : List Nat) (hp : PassesOwn (model X.prog X.w) X.A X.env X.xe) (hc : X.calm = true) (ht : isTupE tg = isTupT t := by rfl) (hs : ∀ x, foldedSetIterable e X.env x = pure x := by intro _; rfl) :
    DS X c W (.For tg e body [] pos) (dFor t ks fi g) := fun gd ioA => by
  refine PS.imp (ps_for hp hc (hi gd ioA) (hg gd ioA) (hb gd ioA) hs) fun D σ H ⟨ρ, P, rp, h⟩ => ⟨ρ, P, rp, h.bind.mono fun J H1 ⟨a, ρ1, P1, s1, r1, v1, h1⟩ => ?_⟩
  obtain ⟨ds, ok⟩ := a
  obtain ⟨G, Y, w, hG, hY⟩ := v1
  have h1 : tSat c ioA W (forGo t ks ok g ds) (killS ks ρ1) P1 D := h1
  refine for_it w (D := D) (fun i σ H => ∃ ρ P, Stp P1 P ∧ RepW c ioA ρ σ H P ∧ tSat c ioA W (forGo t ks ok g (ds.drop i)) ρ P D) ⟨_, P1, Stp.refl _, r1.kills ks, h1⟩ (fun i σ H hi ⟨ρ, P, s, r, h⟩ => hG ρ σ H P s.g r (forGo_ok h)) (fun i x σ H H' hi ⟨ρ, P, s, r, h⟩ y => ?_) fun σ H ⟨ρ, P, s, r, h⟩ => ?_
  · obtain ⟨d, e1, yv⟩ := hY i ρ σ H P x H' hi s.g r (forGo_ok h) y
    have ed : ds.drop i = d :: ds.drop (i + 1) := by
      have hi' : i < ds.length := hi
      rw [List.drop_eq_getElem_cons hi', List.getElem?_eq_getElem hi'] at *
      simp at e1; rw [e1]
    obtain ⟨P2, s2, r2, rd, rd1⟩ := yv.rp r
    have o := forGo_ok h
    rw [ed] at h
    have h := h.back s2
    unfold tSat at h
    rw [forGo, if_pos o] at h
    cases eb : bindT t d ρ.sl with
    | none => simp only [eb] at h
    | some sl =>
      simp only [eb] at h
      refine ⟨ρ, P2, d, r2, rd, fun i z => rd1 (by rw [ht, z]; rfl), sl, eb, fun σ' P' s' _ r' => ⟨_, P', r', ?_⟩⟩
      unfold tSat
      cases eg : g { ρ with sl := sl } with
      | ok fl ρ' =>
        simp only [eg] at h
        cases fl with
        | nx => exact fun σ3 H3 P3 s3 r3 => ⟨_, P3, ((s.trans s2).trans s').trans s3, r3.kills ks, tSat.back (P0 := P2) h (s'.trans s3)⟩
        | ct => exact fun σ3 H3 P3 s3 r3 => ⟨_, P3, ((s.trans s2).trans s').trans s3, r3.kills ks, tSat.back (P0 := P2) h (s'.trans s3)⟩
        | bk => exact fun σ3 H3 P3 s3 r3 => h σ3 H3 P3 (s'.trans s3) (r3.kills ks)
        | ret d => exact fun v σ3 H3 P3 s3 r3 => h v σ3 H3 P3 (s'.trans s3) r3
        | fre d => exact fun v σ3 H3 P3 s3 r3 => h v σ3 H3 P3 (s'.trans s3) r3
      | exc x ρ' => simp only [eg] at h; exact fun cls dx σ3 H3 P3 s3 r3 => h cls dx σ3 H3 P3 (s'.trans s3) r3
      | bad => simp only [eg] at h
  · have o := forGo_ok h
    have e0 : ds.drop ds.length = [] := List.drop_length
    rw [e0] at h
    exact h.nx (by rw [forGo, if_pos o]) (Stp.refl _) r
/-! ### while -/
def whGo (tc : M Bool) (ks : List Nat) (g : M Fl) : Nat → M Fl
  | 0 => fun _ => .bad
  | n + 1 => mbind tc fun b => if b = true then (fun ρ => match g ρ with
    | .ok .nx ρ' => whGo tc ks g n (killS ks ρ')
    | .ok .ct ρ' => whGo tc ks g n (killS ks ρ')
    | .ok .bk ρ' => .ok .nx (killS ks ρ')
    | .ok (.ret d) ρ' => .ok (.ret d) ρ'
    | .ok (.fre d) ρ' => .ok (.fre d) ρ'
    | .exc x ρ' => .exc x ρ'
    | .bad => .bad) else mpure .nx
def dWhile (fu : Rho → Nat) (ks : List Nat) (tc : M Bool) (g : M Fl) : M Fl := fun ρ => whGo tc ks g (fu ρ) (killS ks ρ)
theorem ds_while {tc : M Bool} (fu : Rho → Nat) (hc : DT X c W e tc) (hb : DSs X c W body g) (ks : List Nat) (hp : PassesOwn (model X.prog X.w) X.A X.env X.xe) : DS X c W (.While e body [] pos) (dWhile fu ks tc g) := fun gd ioA => by
  refine PS.imp (ps_while hp (hc gd ioA) (hb gd ioA)) fun D σ H ⟨ρ, P, rp, h⟩ => ?_
  have h0 : tSat c ioA W (whGo tc ks g (fu ρ)) (killS ks ρ) P D := h
  refine ⟨fun m σ H => ∃ ρ P, RepW c ioA ρ σ H P ∧ tSat c ioA W (whGo tc ks g m) ρ P D, ⟨fu ρ, _, P, rp.kills ks, h0⟩, fun m σ H ⟨ρ, P, r, h⟩ => ?_⟩
  cases m with
  | zero => exact h.elim
  | succ n =>
    refine ⟨ρ, P, r, h.bind.mono fun b H1 ⟨b', ρ1, P1, s1, r1, v1, h1⟩ => ?_⟩
    have v1' : b' = b := v1
    subst v1'
    cases b' with
    | false => exact h1 _ H1 P1 (Stp.refl _) r1
    | true =>
      refine ⟨fun σ' H' => ∃ ρ P, RepW c ioA ρ σ' H' P ∧ tSat c ioA W (whGo tc ks g n) ρ P D, fun σ' H' q => ⟨n, Nat.lt_succ_self _, q⟩, ρ1, P1, r1, ?_⟩
      simp only [if_true] at h1
      unfold tSat at h1 ⊢
      cases eg : g ρ1 with
      | ok fl ρ' =>
        simp only [eg] at h1
        cases fl with
        | nx => exact fun σ3 H3 P3 s3 r3 => ⟨_, P3, r3.kills ks, tSat.back (P0 := P1) h1 s3⟩
        | ct => exact fun σ3 H3 P3 s3 r3 => ⟨_, P3, r3.kills ks, tSat.back (P0 := P1) h1 s3⟩
        | bk => exact fun σ3 H3 P3 s3 r3 => h1 σ3 H3 P3 s3 (r3.kills ks)
        | ret d => exact fun v σ3 H3 P3 s3 r3 => h1 v σ3 H3 P3 s3 r3
        | fre d => exact fun v σ3 H3 P3 s3 r3 => h1 v σ3 H3 P3 s3 r3
      | exc x ρ' => simp only [eg] at h1; exact fun cls dx σ3 H3 P3 s3 r3 => h1 cls dx σ3 H3 P3 s3 r3
      | bad => simp only [eg] at h1
end
/-! ### lending: a slot's own mutable stands among the handed-in ones meanwhile -/
theorem Pc.mv {H : Hp} {P : Pcs} {x y : Ix} (h : Pc H P) (n : x ≠ y) : Pc H (Den.put (Den.put P x emp) y (P x)) := by
  have h1 := (h.drop (x := y)).move (x := x) (y := y) n
  have e : Den.put (Den.put (Den.put P y emp) x emp) y (uni (Den.put P y emp y) (Den.put P y emp x)) = Den.put (Den.put P x emp) y (P x) := by
    funext z
    by_cases h1 : z = y
    · subst h1
      rw [put_same, put_same, put_same, put_ne n]
      funext a; rfl
    · rw [put_ne h1, put_ne h1]
      by_cases h2 : z = x
      · subst h2; rw [put_same, put_same]
      · rw [put_ne h2, put_ne h2, put_ne h1]
  rw [e] at h1
  exact h1
def lendR (i : Nat) (m : MC) (ρ : Rho) : Rho := { sl := ρ.sl.set i (.io ρ.io.length), io := ρ.io ++ [m] }
/-- back: the slot gets it again where it still stands there -/
def unS (i n : Nat) (m : Option MC) (k : Nat) : Slot → Slot
  | .io j => if j = n then (if k = i then (match m with
    | some m => .own m
    | none => .no) else .no) else .io j
  | s => s
def lendB (i n : Nat) (ρ : Rho) : Rho := { sl := ρ.sl.mapIdx (unS i n ρ.io[n]?), io := ρ.io.take n }
def slOkN (ρ : Rho) : Bool := ρ.sl.all fun s => match s with
  | .io j => decide (j < ρ.io.length)
  | _ => true
def dLend {α : Type} (i : Nat) (g : M α) : M α := fun ρ => match ρ.sl[i]? with
  | some (.own m) => if slOkN ρ = true then (match g (lendR i m ρ) with
    | .ok a ρ' => .ok a (lendB i ρ.io.length ρ')
    | .exc x ρ' => .exc x (lendB i ρ.io.length ρ')
    | .bad => .bad) else .bad
  | _ => .bad
section
variable {c : Cc} {ioA : List Addr} {ρ : Rho} {σ : St} {H : Hp} {P : Pcs} {i : Nat} {m : MC}
def lendP (P : Pcs) (i n : Nat) : Pcs := put (put P (.sl i) emp) (.io n) (P (.sl i))
theorem RepW.ioLen (r : RepW c ioA ρ σ H P) : ρ.io.length ≤ ioA.length := by
  rcases Nat.eq_zero_or_pos ρ.io.length with h | h
  · omega
  · obtain ⟨a, e, _⟩ := r.io (ρ.io.length - 1) (ρ.io[ρ.io.length - 1]'(by omega)) (List.getElem?_eq_getElem (by omega))
    have := List.getElem?_eq_some_iff.mp e
    obtain ⟨z, _⟩ := this
    omega
theorem RepW.lend (r : RepW c ioA ρ σ H P) (e : ρ.sl[i]? = some (.own m)) (ok : slOkN ρ = true) : ∃ a, RepW c (ioA.take ρ.io.length ++ [a]) (lendR i m ρ) σ H (lendP P i ρ.io.length) ∧ Stp P (lendP P i ρ.io.length) := by
  obtain ⟨a, e1, e2⟩ := r.so i _ e
  have gl := r.ioLen
  have hn : (ioA.take ρ.io.length).length = ρ.io.length := by rw [List.length_take]; omega
  have lo : ∀ j, j < ρ.io.length → (ioA.take ρ.io.length ++ [a])[j]? = ioA[j]? := fun j hj => by
    rw [List.getElem?_append_left (by omega), List.getElem?_take, if_pos hj]
  have hi : (ioA.take ρ.io.length ++ [a])[ρ.io.length]? = some a := by
    rw [List.getElem?_append_right (by omega), hn]; simp
  have g : lendP P i ρ.io.length .g = P .g := by unfold lendP; rw [put_ne (by simp), put_ne (by simp)]
  refine ⟨a, ⟨r.pc.mv (x := .sl i) (y := .io ρ.io.length) (by simp), by show σ.length = (ρ.sl.set i _).length; rw [List.length_set]; exact r.len, fun k s q => ?_, fun j m' q => ?_⟩, ⟨by rw [g]; exact Same.refl _, by unfold lendP; rw [put_ne (by simp), put_ne (by simp)]⟩⟩
  · have q' : (ρ.sl.set i (.io ρ.io.length))[k]? = some s := q
    rw [g]
    rw [List.getElem?_set] at q'
    by_cases hk : i = k
    · subst hk
      simp only [if_true] at q'
      split at q'
      · cases q'; exact ⟨a, hi, e1⟩
      · cases q'
    · rw [if_neg hk] at q'
      have so := r.so k s q'
      have pe : lendP P i ρ.io.length (.sl k) = P (.sl k) := by unfold lendP; rw [put_ne (by simp), put_ne (by simp; exact fun z => hk z.symm)]
      rw [pe]
      cases s with
      | io j =>
        have hj : j < ρ.io.length := by
          have := List.all_eq_true.mp ok (.io j) (List.mem_of_getElem? q')
          exact of_decide_eq_true this
        obtain ⟨b, f1, f2⟩ := so
        exact ⟨b, by rw [lo j hj]; exact f1, f2⟩
      | no => exact so
      | val d => exact so
      | own m => exact so
      | xc x => exact so
  · have q' : (ρ.io ++ [m])[j]? = some m' := q
    rw [g]
    by_cases hj : j < ρ.io.length
    · rw [List.getElem?_append_left hj] at q'
      obtain ⟨b, f1, f2⟩ := r.io j m' q'
      refine ⟨b, by rw [lo j hj]; exact f1, ?_⟩
      have pe : lendP P i ρ.io.length (.io j) = P (.io j) := by unfold lendP; rw [put_ne (by simp; omega), put_ne (by simp)]
      rw [pe]; exact f2
    · have ej : j = ρ.io.length := by
        have := List.getElem?_eq_some_iff.mp q'
        obtain ⟨z, _⟩ := this
        simp at z
        omega
      subst ej
      have em : m' = m := by rw [List.getElem?_append_right (Nat.le_refl _)] at q'; simpa using q'.symm
      subst em
      refine ⟨a, hi, ?_⟩
      have pe : lendP P i ρ.io.length (.io ρ.io.length) = P (.sl i) := by unfold lendP; rw [put_same]
      rw [pe]; exact e2
open Classical in
noncomputable def backP (P : Pcs) (ρ : Rho) (i n : Nat) : Pcs := if ρ.sl[i]? = some (.io n) then put (put P (.io n) emp) (.sl i) (P (.io n)) else P
theorem backP_of {P : Pcs} {ρ : Rho} {i n : Nat} {y : Ix} (h1 : y ≠ .io n) (h2 : y ≠ .sl i) : backP P ρ i n y = P y := by
  unfold backP
  split
  · rw [put_ne h2, put_ne h1]
  · rfl
theorem backP_none {P : Pcs} {ρ : Rho} {i n : Nat} {d : Addr} (h : ∀ y, P y d = none) (y : Ix) : backP P ρ i n y d = none := by
  unfold backP
  split
  · by_cases e : y = .sl i
    · subst e; rw [put_same]; exact h _
    · rw [put_ne e]
      by_cases e2 : y = .io n
      · subst e2; rw [put_same]; rfl
      · rw [put_ne e2]; exact h _
  · exact h y
theorem RepW.back {n : Nat} {a : Addr} (hl : n ≤ ioA.length) (r : RepW c (ioA.take n ++ [a]) ρ σ H P) : RepW c ioA (lendB i n ρ) σ H (backP P ρ i n) := by
  have hn : (ioA.take n).length = n := by rw [List.length_take]; omega
  have lo : ∀ j, j < n → (ioA.take n ++ [a])[j]? = ioA[j]? := fun j hj => by
    rw [List.getElem?_append_left (by omega), List.getElem?_take, if_pos hj]
  have hi : (ioA.take n ++ [a])[n]? = some a := by
    rw [List.getElem?_append_right (by omega), hn]; simp
  have g : backP P ρ i n .g = P .g := backP_of (by simp) (by simp)
  refine ⟨?_, by show σ.length = (ρ.sl.mapIdx _).length; rw [List.length_mapIdx]; exact r.len, fun k s q => ?_, fun j m' q => ?_⟩
  · unfold backP
    split
    · exact r.pc.mv (x := .io n) (y := .sl i) (by simp)
    · exact r.pc
  · rw [g]
    have q' : (ρ.sl.mapIdx (unS i n ρ.io[n]?))[k]? = some s := q
    rw [List.getElem?_mapIdx] at q'
    cases e : ρ.sl[k]? with
    | none => rw [e] at q'; cases q'
    | some s0 =>
      rw [e] at q'
      have q' : unS i n ρ.io[n]? k s0 = s := by simpa using q'
      have so := r.so k s0 e
      have pe : (s0 ≠ .io n) → backP P ρ i n (.sl k) = P (.sl k) := fun z => by
        unfold backP
        split
        · rename_i y
          have hk : k ≠ i := by
            rintro rfl
            rw [e] at y
            exact z (Option.some.inj y)
          rw [put_ne (by simpa using hk), put_ne (by simp)]
        · rfl
      cases s0 with
      | io j =>
        have q2 : (if j = n then (if k = i then (match ρ.io[n]? with
          | some m => Slot.own m
          | none => .no) else .no) else .io j) = s := q'
        obtain ⟨b, f1, f2⟩ := so
        by_cases hj : j = n
        · subst hj
          rw [if_pos rfl] at q2
          by_cases hk : k = i
          · subst hk
            rw [if_pos rfl] at q2
            cases em : ρ.io[j]? with
            | none => rw [em] at q2; subst q2; trivial
            | some m2 =>
              rw [em] at q2
              have q2 : Slot.own m2 = s := q2
              subst q2
              obtain ⟨b2, f3, f4⟩ := r.io j m2 em
              rw [f1] at f3; cases f3
              refine ⟨b, f2, ?_⟩
              unfold backP
              rw [if_pos e, put_same]
              exact f4
          · rw [if_neg hk] at q2
            subst q2; trivial
        · rw [if_neg hj] at q2
          subst q2
          have hj2 : j < n := by
            have := List.getElem?_eq_some_iff.mp f1
            obtain ⟨z, _⟩ := this
            simp at z
            omega
          exact ⟨b, by rw [← lo j hj2]; exact f1, f2⟩
      | no => subst q'; trivial
      | val d => subst q'; exact so
      | own m => subst q'; show SlOk c ioA (P .g) (.own m) _ _; rw [pe (by simp)]; exact so
      | xc x => subst q'; show SlOk c ioA (P .g) (.xc x) _ _; rw [pe (by simp)]; exact so
  · rw [g]
    have q' : (ρ.io.take n)[j]? = some m' := q
    rw [List.getElem?_take] at q'
    split at q'
    · rename_i hj
      obtain ⟨b, f1, f2⟩ := r.io j m' q'
      refine ⟨b, by rw [← lo j hj]; exact f1, ?_⟩
      rw [backP_of (by simp; omega) (by simp)]
      exact f2
    · cases q'
theorem XR.back {k : Kc} {x : Xc} {cls : Value} {dx : Option Addr} {n : Nat} (h : XR k x cls dx H P) : XR k x cls dx H (backP P ρ i n) := by
  obtain ⟨C, d, v, h1, h2, h3, h4, h5, h6⟩ := h
  exact ⟨C, d, v, h1, h2, h3, h4, by rw [backP_of (by simp) (by simp)]; exact h5, backP_none h6⟩
theorem stp_back {P0 : Pcs} {n : Nat} (s : Stp P0 P) : Stp P0 (backP P ρ i n) := s.trans ⟨by rw [backP_of (by simp) (by simp)]; exact Same.refl _, backP_of (by simp) (by simp)⟩
/-- what tells only of the frozen part and of what is put aside -/
class Gt {α β : Type} (VR : α → β → St → Hp → Pcs → Prop) : Prop where
  gt : ∀ a b σ H P P', P' .g = P .g → P' .t = P .t → VR a b σ H P → VR a b σ H P'
instance : Gt (VRe c) := ⟨fun _ _ _ _ _ _ h _ q => by unfold VRe at *; rw [h]; exact q⟩
instance : Gt (VRf c) := ⟨fun _ _ _ _ _ _ h h2 q => by unfold VRf at *; rw [h, h2]; exact q⟩
instance : Gt VRb := ⟨fun _ _ _ _ _ _ _ _ q => q⟩
instance : Gt (VRas c) := ⟨fun _ _ _ _ _ _ h _ q => by unfold VRas at *; rw [h]; exact q⟩
instance : Gt (VRk c) := ⟨fun a b σ H P P' h _ q => by
  cases a with
  | d x => have q' : Rp c.kc (P .g) b x := q; show Rp c.kc (P' .g) b x; rw [h]; exact q'
  | sl i => exact q⟩
theorem tMat.lend {α β : Type} {VR : α → β → St → Hp → Pcs → Prop} [Gt VR] {W : WX} {f : M α} {Q : β → Hp → Prop} (r : RepW c ioA ρ σ H P) (h : tMat c ioA W VR (dLend i f) ρ P σ Q) : ∃ ioA', tM c ioA' W VR f σ H Q := by
  unfold tMat dLend at h
  cases e : ρ.sl[i]? with
  | none => simp only [e] at h
  | some s =>
    cases s with
    | own m =>
      simp only [e] at h
      by_cases ok : slOkN ρ = true
      · rw [if_pos ok] at h
        obtain ⟨a, r2, s2⟩ := r.lend e ok
        have gl := r.ioLen
        refine ⟨_, _, _, r2, ?_⟩
        unfold tMat
        cases ef : f (lendR i m ρ) with
        | ok x ρ' => simp only [ef] at h; exact fun b H' P' s3 r3 v3 => h b H' _ (stp_back (s2.trans s3)) (r3.back gl) (Gt.gt _ _ _ _ _ _ (backP_of (by simp) (by simp)) (backP_of (by simp) (by simp)) v3)
        | exc x ρ' => simp only [ef] at h; exact fun cls dx H' P' s3 r3 v3 => h cls dx H' _ (stp_back (s2.trans s3)) (r3.back gl) v3.back
        | bad => simp only [ef] at h
      · rw [if_neg ok] at h; exact h.elim
    | _ => simp only [e] at h
theorem tSat.lend {W : WX} {f : M Fl} {D : Ends} (r : RepW c ioA ρ σ H P) (h : tSat c ioA W (dLend i f) ρ P D) : ∃ ioA', tS c ioA' W f D σ H := by
  unfold tSat dLend at h
  cases e : ρ.sl[i]? with
  | none => simp only [e] at h
  | some s =>
    cases s with
    | own m =>
      simp only [e] at h
      by_cases ok : slOkN ρ = true
      · rw [if_pos ok] at h
        obtain ⟨a, r2, s2⟩ := r.lend e ok
        have gl := r.ioLen
        refine ⟨_, _, _, r2, ?_⟩
        unfold tSat
        cases ef : f (lendR i m ρ) with
        | ok x ρ' =>
          simp only [ef] at h
          cases x with
          | nx => exact fun σ' H' P' s3 r3 => h σ' H' _ (stp_back (s2.trans s3)) (r3.back gl)
          | bk => exact fun σ' H' P' s3 r3 => h σ' H' _ (stp_back (s2.trans s3)) (r3.back gl)
          | ct => exact fun σ' H' P' s3 r3 => h σ' H' _ (stp_back (s2.trans s3)) (r3.back gl)
          | ret d => exact fun v σ' H' P' s3 r3 q => h v σ' H' _ (stp_back (s2.trans s3)) (r3.back gl) (by rw [backP_of (by simp) (by simp)]; exact q)
          | fre d => exact fun v σ' H' P' s3 r3 q => h v σ' H' _ (stp_back (s2.trans s3)) (r3.back gl) (Gt.gt _ _ _ _ _ _ (backP_of (by simp) (by simp)) (backP_of (by simp) (by simp)) q)
        | exc x ρ' => simp only [ef] at h; exact fun cls dx σ' H' P' s3 r3 v3 => h cls dx σ' H' _ (stp_back (s2.trans s3)) (r3.back gl) v3.back
        | bad => simp only [ef] at h
      · rw [if_neg ok] at h; exact h.elim
    | _ => simp only [e] at h
end
section
variable {X : Cx} {c : Cc} {W : WX} {e : Expr} {st : Stmt}
theorem de_lend (i : Nat) {f : M PD} (h : DE X c W e f) : DE X c W e (dLend i f) := fun gd ioA =>
  ⟨fun pins s σ H Q I ⟨ρ, P, r, q⟩ => by obtain ⟨ioA', q'⟩ := q.lend r; exact (h gd ioA').run pins s σ H Q I q'⟩
theorem df_lend (i : Nat) {f : M (List PD)} (h : DF X c W e f) : DF X c W e (dLend i f) := fun gd ioA =>
  ⟨fun pins s σ H Q I ⟨ρ, P, r, q⟩ => by obtain ⟨ioA', q'⟩ := q.lend r; exact (h gd ioA').run pins s σ H Q I q'⟩
theorem dt_lend (i : Nat) {f : M Bool} (h : DT X c W e f) : DT X c W e (dLend i f) := fun gd ioA =>
  ⟨fun pins s σ H Q I ⟨ρ, P, r, q⟩ => by obtain ⟨ioA', q'⟩ := q.lend r; exact (h gd ioA').run pins s σ H Q I q'⟩
theorem ds_lend (i : Nat) {g : M Fl} (h : DS X c W st g) : DS X c W st (dLend i g) := fun gd ioA =>
  ⟨fun pins s σ H D I ⟨ρ, P, r, q⟩ => by obtain ⟨ioA', q'⟩ := q.lend r; exact (h gd ioA').run pins s σ H D I q'⟩
end
end Den

set_option Elab.async false
set_option linter.all false
set_option maxRecDepth 100000
/-! DenJ: list comprehensions, by data. -/
namespace Den
open PySem PySem.Spec
open PyProof.Rows L2

def noW : WX := fun _ _ _ _ => False
open Classical in
noncomputable def compGo (t : Tg) (vs : List Nat) (ok : Rho → Prop) (tt : M Bool) (f : M PD) : List PD → Rho → R (List PD)
  | [], ρ => if ok ρ then .ok [] ρ else .bad
  | d :: ds, ρ => if ok ρ then (match bindT t d ρ.sl with
    | none => .bad
    | some sl => (match tt { ρ with sl := sl } with
      | .ok true ρ1 => (match f ρ1 with
        | .ok y ρ2 => (match compGo t vs ok tt f ds (killS vs ρ2) with
          | .ok ys ρ3 => .ok (y :: ys) ρ3
          | _ => .bad)
        | _ => .bad)
      | .ok false ρ1 => compGo t vs ok tt f ds (killS vs ρ1)
      | _ => .bad)) else .bad
def compEnd (vs : List Nat) (ρ0 ρ' : Rho) : Rho := { ρ' with sl := ρ'.sl.mapIdx fun k s => if k ∈ vs then (match ρ0.sl[k]? with
  | some (.val d) => .val d
  | some (.io j) => .io j
  | _ => .no) else s }
noncomputable def dComp (t : Tg) (vs : List Nat) (fi : M (List PD × (Rho → Prop))) (tt : M Bool) (f : M PD) : M (List PD) := mbind fi fun s ρ =>
  if s.1.length ≤ sizeLine then (match compGo t vs s.2 tt f s.1 (killS vs ρ) with
    | .ok ys ρ' => .ok ys (compEnd vs ρ ρ')
    | _ => .bad) else .bad
section
variable {c : Cc} {ioA : List Addr} {ρ : Rho} {σ : St} {H : Hp} {P : Pcs}
theorem kill_some : ∀ {vs : List Nat} {l : List Slot} {k : Nat} {s : Slot}, (vs.foldl (fun l i => l.set i .no) l)[k]? = some s → s = .no ∨ (k ∉ vs ∧ l[k]? = some s)
  | [], l, k, s, h => .inr ⟨by simp, h⟩
  | v :: vs, l, k, s, h => by
    rcases kill_some (vs := vs) (l := l.set v .no) h with e | ⟨h1, h2⟩
    · exact .inl e
    · rw [List.getElem?_set] at h2
      by_cases hk : v = k
      · subst hk
        simp only [if_true] at h2
        split at h2
        · exact .inl (Option.some.inj h2).symm
        · cases h2
      · rw [if_neg hk] at h2
        exact .inr ⟨by simp only [List.mem_cons, not_or]; exact ⟨fun e => hk e.symm, h1⟩, h2⟩
theorem kill_len : ∀ (vs : List Nat) (l : List Slot), (vs.foldl (fun l i => l.set i Slot.no) l).length = l.length
  | [], l => rfl
  | v :: vs, l => by rw [List.foldl_cons, kill_len vs, List.length_set]
theorem RepW.wipe (vs : List Nat) (r : RepW c ioA ρ σ H P) : RepW c ioA (killS vs ρ) (L2.wipe σ vs) H P where
  pc := r.pc
  len := by show (L2.wipe σ vs).length = (vs.foldl (fun l i => l.set i Slot.no) ρ.sl).length; rw [wipe_length, kill_len]; exact r.len
  so := fun i s e => by
    rcases kill_some e with rfl | ⟨h1, h2⟩
    · trivial
    · rw [wipe_out h1]; exact r.so i s h2
  io := r.io
theorem wipe_off {σ σ' : St} {is vs : List Nat} (h : Off is σ σ') (l : σ'.length = σ.length) (hs : ∀ i ∈ is, i ∈ vs) : L2.wipe σ' vs = L2.wipe σ vs := by
  apply List.ext_getElem?
  intro i
  by_cases hi : i ∈ vs
  · have key : ∀ (σ : St), (L2.wipe σ vs)[i]? = if i < σ.length then some none else none := by
      intro σ
      clear h l hs
      induction vs with
      | nil => simp at hi
      | cons v vs ih =>
        show ((L2.wipe σ vs).set v none)[i]? = _
        rw [List.getElem?_set]
        by_cases hv : v = i
        · subst hv
          simp only [if_true, wipe_length]
        · rw [if_neg hv]
          exact ih (by rcases List.mem_cons.mp hi with e | e; exact absurd e.symm hv; exact e)
    rw [key σ', key σ, l]
  · rw [wipe_out hi, wipe_out hi]
    exact h i fun z => hi (hs i z)
theorem wipe_wipe {σ : St} {vs : List Nat} : L2.wipe (L2.wipe σ vs) vs = L2.wipe σ vs := by
  refine wipe_off (is := vs) (σ := σ) (fun i hi => wipe_out hi) (wipe_length _ _) fun _ h => h
mutual
theorem bindT_len : ∀ {t : Tg} {d : PD} {sl sl' : List Slot}, bindT t d sl = some sl' → sl'.length = sl.length
  | .nm i, d, sl, sl', h => by rw [bindT] at h; cases h; simp
  | .tup ts, .tuple ds, sl, sl', h => by rw [bindT] at h; exact bindTs_len2 h
  | .tup ts, .none, _, _, h => by simp [bindT] at h
  | .tup ts, .bool _, _, _, h => by simp [bindT] at h
  | .tup ts, .int _, _, _, h => by simp [bindT] at h
  | .tup ts, .str _, _, _, h => by simp [bindT] at h
  | .tup ts, .list _, _, _, h => by simp [bindT] at h
  | .tup ts, .dict _, _, _, h => by simp [bindT] at h
theorem bindTs_len2 : ∀ {ts : List Tg} {ds : List PD} {sl sl' : List Slot}, bindTs ts ds sl = some sl' → sl'.length = sl.length
  | [], [], _, _, h => by rw [bindTs] at h; cases h; rfl
  | [], _ :: _, _, _, h => by simp [bindTs] at h
  | _ :: _, [], _, _, h => by simp [bindTs] at h
  | t :: ts, d :: ds, sl, sl', h => by
    rw [bindTs] at h
    cases e : bindT t d sl with
    | none => simp only [e] at h; cases h
    | some s2 => simp only [e] at h; rw [bindTs_len2 h, bindT_len e]
end
/-- behind the block -/
theorem RepW.blkEnd {vs : List Nat} {ρ' : Rho} {H' : Hp} {P0 P' : Pcs} (r : RepW c ioA ρ σ H P0) (r' : RepW c ioA ρ' (L2.wipe σ vs) H' P') (s : Same (P0 .g) (P' .g)) : RepW c ioA (compEnd vs ρ ρ') σ H' P' where
  pc := r'.pc
  len := by show σ.length = (List.mapIdx _ _).length; rw [List.length_mapIdx, ← r'.len, wipe_length]
  so := fun k sl e => by
    have e' : (ρ'.sl.mapIdx fun k s => if k ∈ vs then (match ρ.sl[k]? with
      | some (.val d) => Slot.val d
      | some (.io j) => .io j
      | _ => .no) else s)[k]? = some sl := e
    rw [List.getElem?_mapIdx] at e'
    cases e2 : ρ'.sl[k]? with
    | none => rw [e2] at e'; cases e'
    | some s2 =>
      rw [e2] at e'
      have e' := Option.some.inj e'
      by_cases hk : k ∈ vs
      · simp only [if_pos hk] at e'
        cases e3 : ρ.sl[k]? with
        | none => simp only [e3] at e'; subst e'; trivial
        | some s3 =>
          have so := r.so k s3 e3
          cases s3 with
          | val d => simp only [e3] at e'; subst e'; exact SlOk.mono (sl := .val d) (M := P' (.sl k)) s (by obtain ⟨v, a, b⟩ := so; exact ⟨v, a, b⟩)
          | io j => simp only [e3] at e'; subst e'; exact so
          | no => simp only [e3] at e'; subst e'; trivial
          | own m => simp only [e3] at e'; subst e'; trivial
          | xc x => simp only [e3] at e'; subst e'; trivial
      · simp only [if_neg hk] at e'
        subst e'
        have so := r'.so k s2 e2
        rw [wipe_out hk] at so
        exact so
  io := r'.io
end
theorem Gd.blk {X : Cx} {c : Cc} (g : Gd X c) {s : Shared} {H : Hp} {scope : Scope} {cenv : Env} {fp : List Addr} : Gd (X.blk s H scope cenv fp) c := ⟨g.hK, g.un⟩
/-- the tests -/
def DTs (X : Cx) (c : Cc) (W : WX) (es : List Expr) (f : M Bool) : Prop := Gd X c → ∀ ioA, PTs X es (tM c ioA W VRb f)
theorem dts_nil {X : Cx} {c : Cc} {W : WX} : DTs X c W [] (mpure true) := fun gd ioA => ⟨fun pins s σ H Q I ⟨ρ, P, r, h⟩ => pts_nil.run pins s σ H Q I (h.pure r (rfl : VRb true true σ H P))⟩
theorem dts_one {X : Cx} {c : Cc} {W : WX} {e : Expr} {f : M Bool} (h : DT X c W e f) : DTs X c W [e] f := fun gd ioA => pts_one (h gd ioA)
section
variable {X : Cx} {c : Cc} {W : WX} {tg iter elt : Expr} {ifs : List Expr} {scope : Scope} {own : List (Str × Nat)} {pos pos' spos py : Pos} {t : Tg} {fi : M (List PD × (Rho → Prop))} {tt : M Bool} {f : M PD}
/-- what the block is to keep, in any such context -/
def Bk (X : Cx) (scope : Scope) (T : Cx → Prop) : Prop := ∀ (s : Shared) (H : Hp) (C : Addr) (cl : List (Str × Addr)) (fp : List Addr), T (X.blk s H scope (compEnvC scope cl C X.env) fp)
theorem compGo_ok {t : Tg} {vs : List Nat} {ok : Rho → Prop} {ds : List PD} {ρ ρe : Rho} {ys : List PD} (h : compGo t vs ok tt f ds ρ = .ok ys ρe) : ok ρ := by
  by_cases e : ok ρ
  · exact e
  · have : compGo t vs ok tt f ds ρ = .bad := by cases ds <;> · unfold compGo; exact if_neg e
    rw [this] at h; cases h
theorem comp_core {ioA : List Addr} {σ : St} {H : Hp} {Q : VK} {vs : List Nat} {wk : Bool} (ht : wk = isTupT t) (hv : ∀ i ∈ ixT t, i ∈ vs) (h : tM c ioA W (VRf c) (dComp t vs fi tt f) σ H Q) :
    tLc (tM c ioA W (VRi wk c ioA) fi) (tG c ioA t) (tM c ioA noW VRb tt) (tM c ioA noW (VRe c) f) vs σ H Q := by
  obtain ⟨ρ, P, rp, h⟩ := h
  refine ⟨ρ, P, rp, h.bind.mono fun J H1 ⟨a, ρ1, P1, s1, r1, v1, h1⟩ => ?_⟩
  intro D hD
  obtain ⟨ds, ok⟩ := a
  obtain ⟨G, Y, w, hG, hY⟩ := v1
  unfold tMat at h1
  by_cases hz : ds.length ≤ sizeLine
  case neg => simp only [if_neg hz] at h1
  simp only [if_pos hz] at h1
  cases ec : compGo t vs ok tt f ds (killS vs ρ1) with
  | exc x ρe => simp only [ec] at h1
  | bad => simp only [ec] at h1
  | ok ys ρe =>
    simp only [ec] at h1
    have fn : ∀ x, P1 x D = none := fun x => r1.gnone hD
    refine lc_it w (D := D) (fun i H => ∃ ρ P vacc dacc, Same (P1 .g) (P .g) ∧ P .f = uni (P1 .f) (one D (.lst vacc)) ∧ RpAll c.kc (P .g) vacc dacc ∧ vacc.length ≤ i ∧ RepW c ioA ρ (L2.wipe σ vs) H P ∧ ∃ zs, compGo t vs ok tt f (ds.drop i) ρ = .ok zs ρe ∧ dacc ++ zs = ys) ?_ (fun i H hi ⟨ρ, P, va, da, h2, h3, h4, h5, h6, zs, h7, h8⟩ => hG ρ _ H P h2 h6 (compGo_ok h7)) (fun i x H H' hi ⟨ρ, P, va, da, h2, h3, h4, h5, h6, zs, h7, h8⟩ y => ?_) fun H ⟨ρ, P, va, da, h2, h3, h4, h5, h6, zs, h7, h8⟩ => ?_
    · have rw1 := r1.wipe vs
      refine ⟨killS vs ρ1, put P1 .f (uni (P1 .f) (one D (.lst []))), [], [], by rw [put_ne (by simp)]; exact Same.refl _, put_same, .nil, Nat.le_refl _, ⟨?_, rw1.len, fun i s e => ?_, fun j m e => ?_⟩, ys, ec, rfl⟩
      · refine r1.pc.put (fun a o e n => ⟨by rw [upd_ne (ne_of_none e hD)]; exact e, ?_⟩) fun a o e => ?_
        · have : a ≠ D := ne_of_none e hD
          exact uni_none n (one_ne this)
        · rcases uni_some e with e | ⟨_, e⟩
          · have := r1.pc.sub .f a o e
            rw [upd_ne (ne_of_none this hD)]; exact this
          · obtain ⟨rfl, rfl⟩ := one_some e
            exact upd_same
      · rw [put_ne (by simp), put_ne (by simp)]; exact rw1.so i s e
      · obtain ⟨b, e1, e2⟩ := rw1.io j m e
        exact ⟨b, e1, by rw [put_ne (by simp), put_ne (by simp)]; exact e2⟩
    · have o := compGo_ok h7
      obtain ⟨d, e1, yv⟩ := hY i ρ _ H P x H' hi h2 h6 o y
      have ed : ds.drop i = d :: ds.drop (i + 1) := by
        have hi' : i < ds.length := hi
        rw [List.drop_eq_getElem_cons hi', List.getElem?_eq_getElem hi'] at *
        simp at e1; rw [e1]
      rw [ed] at h7
      unfold compGo at h7
      rw [if_pos o] at h7
      obtain ⟨P2, s2, r2, rd, rd1⟩ := yv.rp h6
      cases eb : bindT t d ρ.sl with
      | none => simp only [eb] at h7; cases h7
      | some sl =>
        simp only [eb] at h7
        refine ⟨ρ, P2, d, r2, rd, fun i z => rd1 (by rw [ht, z]; rfl), sl, eb, fun σ3 P3 s3 o3 r3 => ?_⟩
        have hw3 : L2.wipe σ3 vs = L2.wipe σ vs := by
          have := wipe_off o3 (by rw [r3.len, r2.len]; exact bindT_len eb) hv
          rw [wipe_wipe] at this
          exact this
        refine ⟨hw3, _, P3, r3, ?_⟩
        -- the slots of a turn forgotten again
        have back : ∀ {ρ5 : Rho} {H5 : Hp} {P5 : Pcs}, RepW c ioA ρ5 σ3 H5 P5 → RepW c ioA (killS vs ρ5) (L2.wipe σ vs) H5 P5 := fun r => by
          have := r.wipe vs
          rw [hw3] at this
          exact this
        unfold tMat
        cases et : tt { ρ with sl := sl } with
        | exc x ρ' => simp only [et] at h7; cases h7
        | bad => simp only [et] at h7; cases h7
        | ok b ρ4 =>
          intro b' H4 P4 s4 r4 v4
          have v4' : b = b' := v4
          subst v4'
          cases b with
          | false =>
            simp only [et] at h7
            exact ⟨killS vs ρ4, P4, va, da, ((h2.trans s2.g).trans s3.g).trans s4.g, by rw [s4.f, s3.f, s2.f]; exact h3, ((h4.mono s2.g).mono s3.g).mono s4.g, by omega, back r4, zs, h7, h8⟩
          | true =>
            simp only [et] at h7
            simp only [if_true]
            refine ⟨_, P4, r4, ?_⟩
            unfold tMat
            cases ef : f ρ4 with
            | exc x ρ' => simp only [ef] at h7; cases h7
            | bad => simp only [ef] at h7; cases h7
            | ok yd ρ5 =>
              simp only [ef] at h7
              intro yv2 H5 P5 s5 r5 v5
              cases e6 : compGo t vs ok tt f (ds.drop (i + 1)) (killS vs ρ5) with
              | exc x ρ' => simp only [e6] at h7; cases h7
              | bad => simp only [e6] at h7; cases h7
              | ok ws ρ6 =>
                simp only [e6] at h7
                cases h7
                have f5 : P5 .f = uni (P1 .f) (one D (.lst va)) := by rw [s5.f, s4.f, s3.f, s2.f]; exact h3
                have sg : Same (P .g) (P5 .g) := ((s2.g.trans s3.g).trans s4.g).trans s5.g
                have hD5 : H5 D = some (.lst va) := r5.pc.sub .f D _ (by rw [f5, uni_r (fn .f)]; exact one_same)
                have v5' : Rp c.kc (P5 .g) yv2 yd := v5
                have rb := back r5
                have nf : ∀ x, x ≠ .f → P5 x D = none := fun x hx => (r5.pc.dis .f x (Ne.symm hx)).r (o := .lst va) (by rw [f5, uni_r (fn .f)]; exact one_same)
                refine ⟨va, hD5, by have hi' : i < ds.length := hi; omega, killS vs ρ5, put P5 .f (uni (P1 .f) (one D (.lst (va ++ [yv2])))), va ++ [yv2], da ++ [yd], by rw [put_ne (by simp)]; exact h2.trans sg, put_same, ?_, by simp; exact h5, ⟨?_, rb.len, fun k s e => ?_, fun j m e => ?_⟩, ws, e6, by rw [List.append_assoc]; exact h8⟩
                · rw [put_ne (by simp)]; exact (h4.mono sg).append (.cons v5' .nil)
                · refine ⟨fun x => ?_, fun x y n => ?_⟩
                  · by_cases hx : x = .f
                    · subst hx
                      rw [put_same]
                      intro a o e
                      rcases uni_some e with e | ⟨_, e⟩
                      · have hn : a ≠ D := ne_of_none e (fn .f)
                        rw [upd_ne hn]
                        exact r5.pc.sub .f a o (by rw [f5]; exact uni_l e)
                      · obtain ⟨rfl, rfl⟩ := one_some e
                        exact upd_same
                    · rw [put_ne hx]
                      intro a o e
                      have hn : a ≠ D := ne_of_none e (nf x hx)
                      rw [upd_ne hn]
                      exact r5.pc.sub x a o e
                  · have key : ∀ z, z ≠ .f → Disj (P5 z) (uni (P1 .f) (one D (.lst (va ++ [yv2])))) := fun z hz => Disj.of fun a o e => by
                      have q := (r5.pc.dis z .f hz).r e
                      rw [f5] at q
                      exact uni_none (uni_none_l q) (one_ne (ne_of_none e (nf z hz)))
                    by_cases hx : x = .f
                    · subst hx
                      rw [put_same, put_ne (Ne.symm n)]
                      exact (key y (Ne.symm n)).symm
                    · rw [put_ne hx]
                      by_cases hy : y = .f
                      · subst hy; rw [put_same]; exact key x hx
                      · rw [put_ne hy]; exact r5.pc.dis x y n
                · rw [put_ne (by simp), put_ne (by simp)]; exact rb.so k s e
                · obtain ⟨b, e1, e2⟩ := rb.io j m e
                  exact ⟨b, e1, by rw [put_ne (by simp), put_ne (by simp)]; exact e2⟩
    · have o := compGo_ok h7
      have e0 : ds.drop ds.length = [] := List.drop_length
      have h7' : compGo t vs ok tt f (ds.drop ds.length) ρ = .ok zs ρe := h7
      rw [e0] at h7'
      unfold compGo at h7'
      rw [if_pos o] at h7'
      cases h7'
      rw [List.append_nil] at h8
      subst h8
      have hP : Pc H (put (put P .f (P1 .f)) .t (one D (.lst va))) := h6.pc.split (x := .t) (y := .f) (by simp) h3 (Disj.of fun a o e => one_ne (ne_of_none e (fn .f)))
      have eg : put (put P .f (P1 .f)) .t (one D (.lst va)) .g = P .g := by rw [put_ne (by simp), put_ne (by simp)]
      refine h1 (.ref D) H (put (put P .f (P1 .f)) .t (one D (.lst va))) ⟨by rw [eg]; exact h2, by rw [put_ne (by simp), put_same]⟩ ?_ ⟨D, rfl, va, by rw [eg]; exact h4, put_same⟩
      refine RepW.blkEnd (vs := vs) r1 ⟨hP, h6.len, fun k s e => ?_, fun j m e => ?_⟩ (by rw [eg]; exact h2)
      · rw [eg, put_ne (by simp), put_ne (by simp)]; exact h6.so k s e
      · obtain ⟨b, e1, e2⟩ := h6.io j m e
        exact ⟨b, e1, by rw [eg, put_ne (by simp), put_ne (by simp)]; exact e2⟩
theorem df_lc (hc : X.calm = true) (hN : X.N.Nodup) (hi : DI X c W tg iter fi) (ok : BlkOk X.N X.env.scope scope own) (hv : ∀ i ∈ ixT t, i ∈ own.map (·.2))
    (hg : Bk X scope fun Y => DG Y c tg t) (ht : Bk X scope fun Y => DTs Y c noW ifs tt) (he : Bk X scope fun Y => DE Y c noW elt f) (tt' : isTupE tg = isTupT t := by rfl) (hs : ∀ x, foldedSetIterable iter X.env x = pure x := by intro _; rfl) :
    DF X c W (.ListComp elt [⟨tg, iter, ifs, 0⟩] scope pos) (dComp t (own.map (·.2)) fi tt f) := fun gd ioA => by
  exact PE.imp (pe_lc hc hN (hi gd ioA) ok (fun s H C cl fp => hg s H C cl fp gd.blk ioA) (fun s H C cl fp => ht s H C cl fp gd.blk ioA) (fun s H C cl fp => he s H C cl fp gd.blk ioA) hs) fun σ H Q h => comp_core tt' hv h
/-- name = [..] on one line -/
theorem ds_setLc (i : Nat) {y : Str} (hc : X.calm = true) (hN : X.N.Nodup) (hy : X.N[i]? = some y) (hyl : X.env.scope.names.lookup y = some .local) (hsw : swapsWith (.ListComp elt [⟨tg, iter, ifs, 0⟩] scope pos) (some (.Name y py)) spos.line X.env = pure true) (hi : DI X c W tg iter fi) (ok : BlkOk X.N X.env.scope scope own) (hv : ∀ i ∈ ixT t, i ∈ own.map (·.2))
    (hg : Bk X scope fun Y => DG Y c tg t) (ht : Bk X scope fun Y => DTs Y c noW ifs tt) (he : Bk X scope fun Y => DE Y c noW elt f) (tt' : isTupE tg = isTupT t := by rfl) (hs : ∀ x, foldedSetIterable iter X.env x = pure x := by intro _; rfl) :
    DS X c W (.Assign [.Name y py] (.ListComp elt [⟨tg, iter, ifs, 0⟩] scope pos) spos) (dSetF i (dComp t (own.map (·.2)) fi tt f)) := fun gd ioA => by
  refine PS.imp (ps_setLc hc hN hy hyl hsw (hi gd ioA) ok (fun s H C cl fp => hg s H C cl fp gd.blk ioA) (fun s H C cl fp => ht s H C cl fp gd.blk ioA) (fun s H C cl fp => he s H C cl fp gd.blk ioA) hs) fun D σ H ⟨ρ, P, rp, h⟩ => ?_
  refine comp_core (c := c) (ioA := ioA) (W := W) tt' hv ⟨ρ, P, rp, h.bind.mono fun v H1 ⟨xs, ρ1, P1, s1, r1, v1, h1⟩ => ?_⟩
  obtain ⟨p, rfl, hm⟩ := v1
  exact h1 _ H1 _ ⟨by rw [put_ne (by simp), put_ne (by simp)]; exact Same.refl _, by rw [put_ne (by simp), put_ne (by simp)]⟩ (r1.setOwn hm)
end
end Den

set_option Elab.async false
set_option linter.all false
set_option maxRecDepth 100000
/-! DenK: calls of built-ins, displays, subscripts, by data. -/
namespace Den
open PySem PySem.Spec
open PyProof.Rows L2

def looks : List Pk → Rho → Option (List PD)
  | [], _ => some []
  | p :: ps, ρ => (match look p ρ, looks ps ρ with
    | some d, some ds => some (d :: ds)
    | _, _ => none)
inductive PkAll (k : Kc) (G H : Hp) : List V → List PD → Prop
  | nil : PkAll k G H [] []
  | cons {v : V} {vs : List V} {d : PD} {ds : List PD} : PkR k G H v d → PkAll k G H vs ds → PkAll k G H (v :: vs) (d :: ds)
theorem looks_ok {c : Cc} {ioA : List Addr} {ρ : Rho} {σ : St} {H : Hp} {P : Pcs} (r : RepW c ioA ρ σ H P) : ∀ {ps : List Pk} {vs : List V} {ds : List PD}, VRks c σ P ps vs → looks ps ρ = some ds → PkAll c.kc (P .g) H vs ds
  | _, _, _, .nil, e => by cases e; exact .nil
  | _, _, _, .cons (p := p) (ps := ps) h t, e => by
    unfold looks at e
    cases e1 : look p ρ with
    | none => simp only [e1] at e; cases e
    | some d =>
      cases e2 : looks ps ρ with
      | none => simp only [e1, e2] at e; cases e
      | some ds =>
        simp only [e1, e2] at e
        cases e
        exact .cons (look_ok r (by cases p <;> exact h) e1) (looks_ok r t e2)
def dKs (f : M Pk) (r : M (List Pk)) : M (List Pk) := mbind f fun p => mbind r fun ps => mpure (p :: ps)
section
variable {X : Cx} {c : Cc} {W : WX} {e a b : Expr} {es : List Expr} {pos p : Pos} {f : M Pk} {fs : M (List Pk)} {fd : M PD} {fds : M (List PD)}
theorem dks_nil : DKs X c W [] (mpure []) := fun gd ioA => PA.imp pa_nil fun σ H Q ⟨ρ, P, rp, h⟩ => h.pure rp .nil
theorem dks_cons (ha : DK X c W e f) (hr : DKs X c W es fs) (hs : starEach (e :: es) X.env = (false, eval e X.env) :: starEach es X.env := by rfl) : DKs X c W (e :: es) (dKs f fs) := fun gd ioA => by
  refine PA.imp (pa_cons (ha gd ioA) (hr gd ioA) hs) fun σ H Q ⟨ρ, P, rp, h⟩ => ⟨ρ, P, rp, h.bind.mono fun x H1 ⟨d, ρ1, P1, s1, r1, v1, h1⟩ => ⟨ρ1, P1, r1, h1.bind.mono fun xs H2 ⟨ds, ρ2, P2, s2, r2, v2, h2⟩ => ?_⟩⟩
  refine h2.pure r2 (.cons ?_ v2)
  exact VRk.step (H := H1) (H' := emp) v1 s2
def dEs (f : M PD) (r : M (List PD)) : M (List PD) := mbind f fun p => mbind r fun ps => mpure (p :: ps)
theorem des_nil : DEs X c W [] (mpure []) := fun gd ioA => PA.imp pa_nil fun σ H Q ⟨ρ, P, rp, h⟩ => h.pure rp .nil
theorem des_cons (ha : DE X c W e fd) (hr : DEs X c W es fds) (hs : starEach (e :: es) X.env = (false, eval e X.env) :: starEach es X.env := by rfl) : DEs X c W (e :: es) (dEs fd fds) := fun gd ioA => by
  refine PA.imp (pa_cons (ha gd ioA) (hr gd ioA) hs) fun σ H Q ⟨ρ, P, rp, h⟩ => ⟨ρ, P, rp, h.bind.mono fun x H1 ⟨d, ρ1, P1, s1, r1, v1, h1⟩ => ⟨ρ1, P1, r1, h1.bind.mono fun xs H2 ⟨ds, ρ2, P2, s2, r2, v2, h2⟩ => ?_⟩⟩
  exact h2.pure r2 (RpAll.cons (Rp.mono s2.g v1) v2)
end
/-! ### what a built-in gives -/
def CalD (X : Cx) (k : Kc) (f : Value) (g : List PD → Option PD) : Prop := X.calm = true → k.K = X.K → ∃ r, CallR X f r ∧
  ∀ G H xs dxs dz Q, Same G H → PkAll k G H xs dxs → g dxs = some dz → OutOk k G H dz Q → r xs H Q
/-- a new list -/
def OutF (k : Kc) (G H : Hp) (ys : List PD) (Q : VK) : Prop := ∀ p vs, H p = none → RpAll k G vs ys → Q (.ref p) (upd H p (.lst vs))
def CalF (X : Cx) (k : Kc) (f : Value) (g : List PD → Option (List PD)) : Prop := X.calm = true → k.K = X.K → ∃ r, CallR X f r ∧
  ∀ G H xs dxs dz Q, Same G H → PkAll k G H xs dxs → g dxs = some dz → OutF k G H dz Q → r xs H Q
def dCB (g : List PD → Option PD) (as : M (List Pk)) : M PD := mbind as fun ps ρ => match looks ps ρ with
  | some ds => mopt (g ds) ρ
  | none => .bad
def dCBf (g : List PD → Option (List PD)) (as : M (List Pk)) : M (List PD) := mbind as fun ps ρ => match looks ps ρ with
  | some ds => mopt (g ds) ρ
  | none => .bad
theorem tMat.outF {c : Cc} {ioA : List Addr} {W : WX} {ρ : Rho} {P : Pcs} {σ : St} {H : Hp} {d : List PD} {Q : VK} (h : tMat c ioA W (VRf c) (mpure d) ρ P σ Q) (r : RepW c ioA ρ σ H P) : OutF c.kc (P .g) H d Q := fun p vs n q => by
  have eg : put P .t (one p (.lst vs)) .g = P .g := put_ne (by simp)
  refine h (.ref p) (upd H p (.lst vs)) (put P .t (one p (.lst vs))) ⟨by rw [eg]; exact Same.refl _, put_ne (by simp)⟩ ⟨?_, r.len, fun i s e => ?_, fun j m e => ?_⟩ ⟨p, rfl, vs, by rw [eg]; exact q, put_same⟩
  · exact r.pc.put (fun a o e _ => ⟨by rw [upd_ne (ne_of_none e n)]; exact e, one_ne (ne_of_none e n)⟩) (same_one upd_same)
  · rw [eg, put_ne (by simp)]; exact r.so i s e
  · obtain ⟨a, e1, e2⟩ := r.io j m e
    exact ⟨a, e1, by rw [eg, put_ne (by simp)]; exact e2⟩
section
variable {X : Cx} {c : Cc} {W : WX} {e : Expr} {es : List Expr} {x : Str} {pos p : Pos} {as : M (List Pk)} {id T : String} {g : List PD → Option PD} {gf : List PD → Option (List PD)}
theorem cb_core {ioA : List Addr} {r : List V → Hp → VK → Prop} {σ : St} {H : Hp} {Q : VK} (hr : ∀ G H xs dxs dz Q, Same G H → PkAll c.kc G H xs dxs → g dxs = some dz → OutOk c.kc G H dz Q → r xs H Q)
    (h : tM c ioA W (VRe c) (dCB g as) σ H Q) : tCB r (tM c ioA W (fun ps vs σ _ P => VRks c σ P ps vs) as) σ H Q := by
  obtain ⟨ρ, P, rp, h⟩ := h
  refine ⟨ρ, P, rp, h.bind.mono fun vs H1 ⟨ps, ρ1, P1, s1, r1, v1, h1⟩ => ?_⟩
  cases e1 : looks ps ρ1 with
  | none => unfold tMat at h1; simp only [e1] at h1
  | some ds =>
    cases e2 : g ds with
    | none => unfold tMat mopt at h1; simp only [e1, e2] at h1
    | some dz =>
      have h3 : tMat c ioA W (VRe c) (mpure dz) ρ1 P1 σ Q := by
        unfold tMat mpure
        unfold tMat mopt at h1
        simp only [e1, e2] at h1
        exact h1
      exact hr _ _ vs ds dz Q (r1.pc.sub .g) (looks_ok r1 v1 e1) e2 (h3.out r1)
theorem cbf_core {ioA : List Addr} {r : List V → Hp → VK → Prop} {σ : St} {H : Hp} {Q : VK} (hr : ∀ G H xs dxs dz Q, Same G H → PkAll c.kc G H xs dxs → gf dxs = some dz → OutF c.kc G H dz Q → r xs H Q)
    (h : tM c ioA W (VRf c) (dCBf gf as) σ H Q) : tCB r (tM c ioA W (fun ps vs σ _ P => VRks c σ P ps vs) as) σ H Q := by
  obtain ⟨ρ, P, rp, h⟩ := h
  refine ⟨ρ, P, rp, h.bind.mono fun vs H1 ⟨ps, ρ1, P1, s1, r1, v1, h1⟩ => ?_⟩
  cases e1 : looks ps ρ1 with
  | none => unfold tMat at h1; simp only [e1] at h1
  | some ds =>
    cases e2 : gf ds with
    | none => unfold tMat mopt at h1; simp only [e1, e2] at h1
    | some dz =>
      have h3 : tMat c ioA W (VRf c) (mpure dz) ρ1 P1 σ Q := by
        unfold tMat mpure
        unfold tMat mopt at h1
        simp only [e1, e2] at h1
        exact h1
      exact hr _ _ vs ds dz Q (r1.pc.sub .g) (looks_ok r1 v1 e1) e2 (h3.outF r1)
theorem de_cb (hc : CalD X c.kc (.builtin id) g) (cm : X.calm = true) (hv : bootBuiltins x = some (.builtin id)) (hg : Gl X x) (hm : X.mg x = none) (ha : DKs X c W (e :: es) as) (hn : x ≠ "__name__" := by decide) (hdb : (x == ("__debug__" : Str)) = false := by decide)
    (he : starEach (e :: es) X.env = (false, eval e X.env) :: starEach es X.env := by rfl) (hpl : (backTo pos (starEach es X.env)).any (·.1) = false := by rfl) : DE X c W (.Call (.Name x p) (e :: es) [] pos) (dCB g as) := fun gd ioA => by
  obtain ⟨r, h1, h2⟩ := hc cm gd.hK
  exact PE.imp (pe_callB h1 hg hm hv (ha gd ioA) hn hdb he hpl) fun σ H Q h => cb_core h2 h
theorem df_cb (hc : CalF X c.kc (.builtin id) gf) (cm : X.calm = true) (hv : bootBuiltins x = some (.builtin id)) (hg : Gl X x) (hm : X.mg x = none) (ha : DKs X c W (e :: es) as) (hn : x ≠ "__name__" := by decide) (hdb : (x == ("__debug__" : Str)) = false := by decide)
    (he : starEach (e :: es) X.env = (false, eval e X.env) :: starEach es X.env := by rfl) (hpl : (backTo pos (starEach es X.env)).any (·.1) = false := by rfl) : DF X c W (.Call (.Name x p) (e :: es) [] pos) (dCBf gf as) := fun gd ioA => by
  obtain ⟨r, h1, h2⟩ := hc cm gd.hK
  exact PE.imp (pe_callB h1 hg hm hv (ha gd ioA) hn hdb he hpl) fun σ H Q h => cbf_core h2 h
theorem de_cty (hc : CalD X c.kc (.type T) g) (cm : X.calm = true) (hv : bootBuiltins x = some (.type T)) (hg : Gl X x) (hm : X.mg x = none) (ha : DKs X c W (e :: es) as) (hn : x ≠ "__name__" := by decide) (hdb : (x == ("__debug__" : Str)) = false := by decide)
    (he : starEach (e :: es) X.env = (false, eval e X.env) :: starEach es X.env := by rfl) (hpl : (backTo pos (starEach es X.env)).any (·.1) = false := by rfl) : DE X c W (.Call (.Name x p) (e :: es) [] pos) (dCB g as) := fun gd ioA => by
  obtain ⟨r, h1, h2⟩ := hc cm gd.hK
  exact PE.imp (pe_callTy h1 hg hm hv (ha gd ioA) hn hdb he hpl) fun σ H Q h => cb_core h2 h
theorem df_cty (hc : CalF X c.kc (.type T) gf) (cm : X.calm = true) (hv : bootBuiltins x = some (.type T)) (hg : Gl X x) (hm : X.mg x = none) (ha : DKs X c W (e :: es) as) (hn : x ≠ "__name__" := by decide) (hdb : (x == ("__debug__" : Str)) = false := by decide)
    (he : starEach (e :: es) X.env = (false, eval e X.env) :: starEach es X.env := by rfl) (hpl : (backTo pos (starEach es X.env)).any (·.1) = false := by rfl) : DF X c W (.Call (.Name x p) (e :: es) [] pos) (dCBf gf as) := fun gd ioA => by
  obtain ⟨r, h1, h2⟩ := hc cm gd.hK
  exact PE.imp (pe_callTy h1 hg hm hv (ha gd ioA) hn hdb he hpl) fun σ H Q h => cbf_core h2 h
end
section
variable {k : Kc} {G H : Hp} {v : V}
theorem PkR.seq {d : PD} {ds : List PD} (s : Same G H) (h : PkR k G H v d) (e : seqOf d = some ds) : ∃ a xs, v = .ref a ∧ (SqL k.K H a xs ∨ SqT k.K H a xs) ∧ RpAll k G xs ds := by
  cases d with
  | list ys => cases e; obtain ⟨a, xs, e1, e2, e3⟩ := h.list s; exact ⟨a, xs, e1, .inl (.inl (.inl e2)), e3⟩
  | tuple ys => cases e; obtain ⟨a, xs, e1, e2, e3⟩ := h.tuple s; exact ⟨a, xs, e1, .inr e2, e3⟩
  | _ => cases e
theorem PkAll.one {vs : List V} {d : PD} (h : PkAll k G H vs [d]) : ∃ v, vs = [v] ∧ PkR k G H v d := by
  cases h with
  | cons a b => cases b; exact ⟨_, rfl, a⟩
theorem PkAll.two {vs : List V} {d d2 : PD} (h : PkAll k G H vs [d, d2]) : ∃ v w, vs = [v, w] ∧ PkR k G H v d ∧ PkR k G H w d2 := by
  cases h with
  | cons a b => cases b with
    | cons a2 b2 => cases b2; exact ⟨_, _, rfl, a, a2⟩
theorem rpKs_head : ∀ {es : List (Key × V)} {ds : List (PD × PD)}, RpKs k G es ds → ds.head?.map Prod.fst ≠ some PyData.none
  | _, _, .nil => by simp
  | _, _, .cons (f := .inl i) _ _ => by simp [kD]
  | _, _, .cons (f := .inr i) _ _ => by simp [kD]
theorem rpTs_head : ∀ {es : List (List Key × V)} {ds : List (PD × PD)}, RpTs k G es ds → ds.head?.map Prod.fst ≠ some PyData.none
  | _, _, .nil => by simp
  | _, _, .cons _ _ => by simp
/-- the script -/
theorem PkR.scr {ds : List PD} (s : Same G H) (h : PkR k G H v (.dict [(.none, .list ds)])) : ∃ a xs, v = .ref a ∧ SqL k.K H a xs ∧ RpAll k G xs ds := by
  rcases h with h | ⟨m, a, M, rfl, h, sm, e⟩
  · cases h with
    | scr h r => exact ⟨_, _, rfl, Same.seqL s h, r⟩
    | dK _ r => exact absurd rfl (rpKs_head r)
    | dT _ r => exact absurd rfl (rpTs_head r)
  · cases m with
    | lst xs => cases e
    | ll xss => cases e
    | dic es =>
      cases e
      rcases h with ⟨es, r, _⟩ | ⟨es, r, _⟩
      · exact absurd rfl (rpTs_head r)
      · exact absurd rfl (rpKs_head r)
    | ins n fs => cases e
/-- a dict, not an instance -/
theorem PkR.dict {kvs : List (PD × PD)} (s : Same G H) (hn : kvs.head?.map Prod.fst ≠ some PyData.none) (h : PkR k G H v (.dict kvs)) : ∃ a, v = .ref a ∧ ((∃ es, H a = some (.dK es) ∧ RpKs k G es kvs) ∨ ∃ es, H a = some (.dT es) ∧ RpTs k G es kvs) := by
  rcases h with h | ⟨m, a, M, rfl, h, sm, e⟩
  · cases h with
    | ins h1 h2 h3 => exact absurd rfl hn
    | scr _ _ => exact absurd rfl hn
    | dK h1 h2 => exact ⟨_, rfl, .inl ⟨_, s _ _ h1, h2⟩⟩
    | dT h1 h2 => exact ⟨_, rfl, .inr ⟨_, s _ _ h1, h2⟩⟩
  · cases m with
    | lst xs => cases e
    | ll xss => cases e
    | dic es =>
      cases e
      rcases h with ⟨es, r, rfl⟩ | ⟨es, r, rfl⟩
      · exact ⟨a, rfl, .inr ⟨es, sm _ _ one_same, r⟩⟩
      · exact ⟨a, rfl, .inl ⟨es, sm _ _ one_same, r⟩⟩
    | ins n fs => cases e; exact absurd rfl hn
/-- how many entries (the mark is none) -/
def dicN : List (PD × PD) → Nat
  | [] => 0
  | (.bool _, _) :: r => dicN r
  | _ :: r => dicN r + 1
theorem RpKs.length : ∀ {es : List (Key × V)} {ds : List (PD × PD)}, RpKs k G es ds → es.length = dicN ds
  | _, _, .nil => rfl
  | _, _, .cons (f := .inl i) _ r => by simp [RpKs.length r, kD, dicN]
  | _, _, .cons (f := .inr i) _ r => by simp [RpKs.length r, kD, dicN]
theorem RpTs.length : ∀ {es : List (List Key × V)} {ds : List (PD × PD)}, RpTs k G es ds → es.length = dicN ds
  | _, _, .nil => rfl
  | _, _, .cons _ r => by simp [RpTs.length r, dicN]
end
/-- a dict that is no instance -/
def isDic (kvs : List (PD × PD)) : Bool := match kvs with
  | (.none, _) :: _ => false
  | _ => true
theorem isDic_ne {kvs : List (PD × PD)} (h : isDic kvs = true) : kvs.head?.map Prod.fst ≠ some PyData.none := by
  intro e
  cases kvs with
  | nil => cases e
  | cons p r =>
    obtain ⟨a, b⟩ := p
    have e' : a = .none := by simpa using e
    subst e'
    cases h
def gLen : List PD → Option PD
  | [.list ds] => some (.int ds.length)
  | [.tuple ds] => some (.int ds.length)
  | [.str z] => if z.length ≤ sizeLine then some (.int z.length) else none
  | [.dict [(.none, .list ds)]] => some (.int ds.length)
  | [.dict kvs] => if isDic kvs = true then some (.int (dicN kvs)) else none
  | _ => none
section
variable {X : Cx} {k : Kc}
theorem c_len : CalD X k (.builtin "len") gLen := fun hc hK => by
  refine ⟨_, (CallR.or call_len_seq (CallR.or call_len_str (CallR.or call_lenD call_len_dT))), fun G H xs dxs dz Q s hp hg ho => ?_⟩
  unfold gLen at hg
  split at hg
  · cases hg
    obtain ⟨v, rfl, h⟩ := hp.one
    obtain ⟨a, xs, rfl, e2, e3⟩ := h.list s
    exact .inl ⟨a, xs, rfl, .inl (.inl (.inl e2)), by rw [e3.length]; exact ho.here s (.int _)⟩
  · cases hg
    obtain ⟨v, rfl, h⟩ := hp.one
    obtain ⟨a, xs, rfl, e2, e3⟩ := h.tuple s
    exact .inl ⟨a, xs, rfl, .inr (hK ▸ e2), by rw [e3.length]; exact ho.here s (.int _)⟩
  · split at hg
    · cases hg
      obtain ⟨v, rfl, h⟩ := hp.one
      cases h.str
      exact .inr (.inl ⟨_, rfl, by assumption, ho.here s (.int _)⟩)
    · cases hg
  · cases hg
    obtain ⟨v, rfl, h⟩ := hp.one
    obtain ⟨a, xs, rfl, e2, e3⟩ := h.scr s
    exact .inl ⟨a, xs, rfl, .inl (hK ▸ e2), by rw [e3.length]; exact ho.here s (.int _)⟩
  · split at hg
    · rename_i kvs _ hd
      cases hg
      obtain ⟨v, rfl, h⟩ := hp.one
      obtain ⟨a, rfl, ⟨es, e1, e2⟩ | ⟨es, e1, e2⟩⟩ := h.dict s (isDic_ne hd)
      · exact .inr (.inr (.inl ⟨a, es, rfl, e1, by rw [e2.length]; exact ho.here s (.int _)⟩))
      · exact .inr (.inr (.inr ⟨a, es, rfl, e1, by rw [e2.length]; exact ho.here s (.int _)⟩))
    · cases hg
  · cases hg
def gAbs : List PD → Option PD
  | [.int i] => some (.int (if i < 0 then -i else i))
  | _ => none
theorem c_abs : CalD X k (.builtin "abs") gAbs := fun hc hK => by
  refine ⟨_, call_abs, fun G H xs dxs dz Q s hp hg ho => ?_⟩
  unfold gAbs at hg
  split at hg
  · cases hg
    obtain ⟨v, rfl, h⟩ := hp.one
    cases h.int
    exact ⟨_, rfl, ho.here s (.int _)⟩
  · cases hg
def gInt : List PD → Option PD
  | [.int i] => some (.int i)
  | [.bool b] => some (.int (if b then 1 else 0))
  | _ => none
theorem c_int : CalD X k (.type "int") gInt := fun hc hK => by
  refine ⟨_, call_int1, fun G H xs dxs dz Q s hp hg ho => ?_⟩
  unfold gInt at hg
  split at hg
  · cases hg
    obtain ⟨v, rfl, h⟩ := hp.one
    cases h.int
    exact .inl ⟨_, rfl, ho.here s (.int _)⟩
  · cases hg
    obtain ⟨v, rfl, h⟩ := hp.one
    cases h.bl
    exact .inr ⟨_, rfl, ho.here s (.int _)⟩
  · cases hg
def gMax2 : List PD → Option PD
  | [.int i, .int j] => some (.int (if j > i then j else i))
  | _ => none
def gMin2 : List PD → Option PD
  | [.int i, .int j] => some (.int (if j < i then j else i))
  | _ => none
def gTup : List PD → Option PD
  | [.list ds] => some (.tuple ds)
  | [.tuple ds] => some (.tuple ds)
  | _ => none
/-- tuple(e), e a list or a tuple -/
def rTupF (K : PySem.W.Frag) : List V → Hp → VK → Prop := fun xs H Q => ∃ p ys, xs = [.ref p] ∧ ((SqL K H p ys ∧ ∀ (o : Obj) l, o.dict = none → H l = none → Q (.ref l) (upd H l (tupO o ys))) ∨ (SqT K H p ys ∧ Q (.ref p) H))
theorem cr_tupF : CallR X (.type "tuple") (rTupF X.K) := by
  rintro pins s σ H _ us Q I rel ⟨p, ys, rfl, either⟩
  obtain ⟨u, rfl, ru⟩ := vals1 rel
  obtain rfl : u = Value.ref p := ru
  rcases either with ⟨l, q⟩ | ⟨t, q⟩
  · obtain ⟨its, rv, at_, few⟩ := I.list l
    have many := rv.length
    refine call_tuple_list at_.isList (fun h' keep => ?_) (by rw [List.size_toArray]; omega)
    have J : Inv X pins σ H { s with heap := h' } := I.kept (t' := s.toks) keep
    exact ⟨.ref _, _, born_tup J rv few, rfl, q _ _ rfl (J.hok.fresh (Nat.le_refl _))⟩
  · obtain ⟨its, _, at_, _⟩ := I.tuple t
    exact call_tuple_same at_ ⟨.ref p, H, I, rfl, q⟩
theorem c_tup : CalD X k (.type "tuple") gTup := fun hc hK => by
  refine ⟨_, cr_tupF, fun G H xs dxs dz Q s hp hg ho => ?_⟩
  unfold gTup at hg
  split at hg
  · cases hg
    obtain ⟨v, rfl, h⟩ := hp.one
    obtain ⟨a, xs, rfl, e2, e3⟩ := h.list s
    exact ⟨a, xs, rfl, .inl ⟨.inl (.inl e2), ho.tup s e3⟩⟩
  · cases hg
    obtain ⟨v, rfl, h⟩ := hp.one
    obtain ⟨a, xs, rfl, e2, e3⟩ := h.tuple s
    refine ⟨a, xs, rfl, .inr ⟨hK ▸ e2, ?_⟩⟩
    rcases h with h | ⟨m, a, M, e, h, sm, e'⟩
    · exact ho.here s h
    · cases m <;> cases e'
  · cases hg
def gList : List PD → Option (List PD)
  | [d] => seqOf d
  | _ => none
theorem c_list : CalF X k (.type "list") gList := fun hc hK => by
  refine ⟨_, call_list_of, fun G H xs dxs dz Q s hp hg ho => ?_⟩
  unfold gList at hg
  split at hg
  · obtain ⟨v, rfl, h⟩ := hp.one
    obtain ⟨a, xs, rfl, e2, e3⟩ := h.seq s hg
    exact ⟨a, xs, rfl, hK ▸ e2, fun l n => ho l xs n e3⟩
  · cases hg
/-- ints, bools of a row -/
def intsD : List PD → Option (List Int)
  | [] => some []
  | .int i :: r => (intsD r).map (i :: ·)
  | _ => none
def boolsD : List PD → Option (List Bool)
  | [] => some []
  | .bool i :: r => (boolsD r).map (i :: ·)
  | _ => none
theorem intsD_rp {G : Hp} : ∀ {ds : List PD} {is : List Int} {vs : List V}, intsD ds = some is → RpAll k G vs ds → vs = is.map V.int
  | [], is, vs, e, h => by cases e; cases h; rfl
  | d :: ds, is, vs, e, h => by
    cases d with
    | int i =>
      unfold intsD at e
      cases e1 : intsD ds with
      | none => rw [e1] at e; cases e
      | some js =>
        rw [e1] at e
        cases e
        cases h with
        | cons a b => cases a; rw [intsD_rp e1 b]; rfl
    | _ => cases e
theorem boolsD_rp {G : Hp} : ∀ {ds : List PD} {is : List Bool} {vs : List V}, boolsD ds = some is → RpAll k G vs ds → vs = is.map V.bl
  | [], is, vs, e, h => by cases e; cases h; rfl
  | d :: ds, is, vs, e, h => by
    cases d with
    | bool i =>
      unfold boolsD at e
      cases e1 : boolsD ds with
      | none => rw [e1] at e; cases e
      | some js =>
        rw [e1] at e
        cases e
        cases h with
        | cons a b => cases a; rw [boolsD_rp e1 b]; rfl
    | _ => cases e
def gAll : List PD → Option PD
  | [.list ds] => (boolsD ds).map fun bs => .bool (bs.all id)
  | [.tuple ds] => (boolsD ds).map fun bs => .bool (bs.all id)
  | _ => none
def gAny : List PD → Option PD
  | [.list ds] => (boolsD ds).map fun bs => .bool (bs.any id)
  | [.tuple ds] => (boolsD ds).map fun bs => .bool (bs.any id)
  | _ => none
/-! all, any of a tuple of bools: the library's rules over data -/
theorem bools_read {h : PySem.Heap} : ∀ {bs : List Bool} {us : List Value}, Vals (bs.map V.bl) us → ReadsAll h us (bs.map PyData.bool) []
  | [], _, .nil => .nil
  | b :: _, _, .cons r t => by
    cases (show _ = Value.bool b from r)
    exact .cons (.bool b) (bools_read t)
theorem bools_plain : ∀ bs : List Bool, PyData.plainAll (bs.map PyData.bool) = true
  | [] => rfl
  | _ :: bs => bools_plain bs
def OfBools (K : PySem.W.Frag) (g : List Bool → Bool) : List V → Hp → VK → Prop := fun vs H Q => ∃ a bs, vs = [V.ref a] ∧ SqT K H a (bs.map V.bl) ∧ Q (.bl (g bs)) H
theorem truths (bs : List Bool) : (bs.map PyData.bool).all PyData.truthy = bs.all id ∧ (bs.map PyData.bool).any PyData.truthy = bs.any id := by
  constructor <;> induction bs <;> simp_all [PyData.truthy]
theorem tup_all (cm : X.calm = true) : CallR X (.builtin "all") (OfBools X.K fun bs => bs.all id) := by
  rintro pins s σ H _ us Q I rel ⟨a, bs, rfl, sq, q⟩
  obtain rfl := Vals.ref1 rel
  obtain ⟨its, r, t, _⟩ := I.tuple sq
  refine PySem.W.all_tuple_data (vs := its.toArray) (I.ok.hd cm) t (bools_read r) (bools_plain bs) (fun x hx => by obtain ⟨b, _, rfl⟩ := List.mem_map.mp hx; trivial) fun h' tk kept => ?_
  rw [(truths bs).1]
  exact ⟨.bl (bs.all id), H, I.kept kept, rfl, q⟩
theorem tup_any (cm : X.calm = true) : CallR X (.builtin "any") (OfBools X.K fun bs => bs.any id) := by
  rintro pins s σ H _ us Q I rel ⟨a, bs, rfl, sq, q⟩
  obtain rfl := Vals.ref1 rel
  obtain ⟨its, r, t, _⟩ := I.tuple sq
  refine PySem.W.any_tuple_data (vs := its.toArray) (I.ok.hd cm) t (bools_read r) (bools_plain bs) (fun x hx => by obtain ⟨b, _, rfl⟩ := List.mem_map.mp hx; trivial) fun h' tk kept => ?_
  rw [(truths bs).2]
  exact ⟨.bl (bs.any id), H, I.kept kept, rfl, q⟩
theorem c_all : CalD X k (.builtin "all") gAll := fun hc hK => by
  refine ⟨_, CallR.or (cr_all hc) (tup_all hc), fun G H xs dxs dz Q s hp hg ho => ?_⟩
  unfold gAll at hg
  split at hg
  · obtain ⟨v, rfl, h⟩ := hp.one
    obtain ⟨a, xs, rfl, e2, e3⟩ := h.list s
    obtain ⟨bs, e4, rfl⟩ := Option.map_eq_some_iff.mp hg
    rw [boolsD_rp e4 e3] at e2
    exact .inl ⟨a, bs, rfl, .inl (.inl e2), ho.here s (.bl _)⟩
  · obtain ⟨v, rfl, h⟩ := hp.one
    obtain ⟨a, xs, rfl, e2, e3⟩ := h.tuple s
    obtain ⟨bs, e4, rfl⟩ := Option.map_eq_some_iff.mp hg
    rw [boolsD_rp e4 e3] at e2
    exact .inr ⟨a, bs, rfl, hK ▸ e2, ho.here s (.bl _)⟩
  · cases hg
theorem c_any : CalD X k (.builtin "any") gAny := fun hc hK => by
  refine ⟨_, CallR.or (cr_any hc) (tup_any hc), fun G H xs dxs dz Q s hp hg ho => ?_⟩
  unfold gAny at hg
  split at hg
  · obtain ⟨v, rfl, h⟩ := hp.one
    obtain ⟨a, xs, rfl, e2, e3⟩ := h.list s
    obtain ⟨bs, e4, rfl⟩ := Option.map_eq_some_iff.mp hg
    rw [boolsD_rp e4 e3] at e2
    exact .inl ⟨a, bs, rfl, .inl (.inl e2), ho.here s (.bl _)⟩
  · obtain ⟨v, rfl, h⟩ := hp.one
    obtain ⟨a, xs, rfl, e2, e3⟩ := h.tuple s
    obtain ⟨bs, e4, rfl⟩ := Option.map_eq_some_iff.mp hg
    rw [boolsD_rp e4 e3] at e2
    exact .inr ⟨a, bs, rfl, hK ▸ e2, ho.here s (.bl _)⟩
  · cases hg
def gSum : List PD → Option PD
  | [.list ds] => (intsD ds).map fun bs => .int bs.sum
  | _ => none
theorem c_sum : CalD X k (.builtin "sum") gSum := fun hc hK => by
  refine ⟨_, cr_sum hc, fun G H xs dxs dz Q s hp hg ho => ?_⟩
  unfold gSum at hg
  split at hg
  · obtain ⟨v, rfl, h⟩ := hp.one
    obtain ⟨a, xs, rfl, e2, e3⟩ := h.list s
    obtain ⟨bs, e4, rfl⟩ := Option.map_eq_some_iff.mp hg
    rw [intsD_rp e4 e3] at e2
    exact ⟨a, bs, rfl, .inl (.inl e2), ho.here s (.int _)⟩
  · cases hg
/-- the greatest, the least of a row of ints (or of two) -/
def gMax : List PD → Option PD
  | [.list ds] => (match intsD ds with
    | some (i :: r) => some (.int (r.foldl max i))
    | _ => none)
  | ds => gMax2 ds
def gMin : List PD → Option PD
  | [.list ds] => (match intsD ds with
    | some (i :: r) => some (.int (r.foldl min i))
    | _ => none)
  | ds => gMin2 ds
theorem max_of : ∀ (r : List Int) (i m : Int), m ∈ i :: r → (∀ y ∈ i :: r, y ≤ m) → m = r.foldl max i
  | [], i, m, h1, h2 => by simpa using h1
  | j :: r, i, m, h1, h2 => by
    rw [List.foldl_cons]
    refine max_of r (max i j) m ?_ fun y hy => ?_
    · have hi := h2 i (by simp)
      have hj := h2 j (by simp)
      rcases List.mem_cons.mp h1 with e | h1
      · subst e; simp; left; omega
      · rcases List.mem_cons.mp h1 with e | h1
        · subst e; simp; left; omega
        · exact List.mem_cons_of_mem _ h1
    · rcases List.mem_cons.mp hy with e | hy
      · subst e
        have hi := h2 i (by simp)
        have hj := h2 j (by simp)
        omega
      · exact h2 y (by simp [hy])
theorem min_of : ∀ (r : List Int) (i m : Int), m ∈ i :: r → (∀ y ∈ i :: r, m ≤ y) → m = r.foldl min i
  | [], i, m, h1, h2 => by simpa using h1
  | j :: r, i, m, h1, h2 => by
    rw [List.foldl_cons]
    refine min_of r (min i j) m ?_ fun y hy => ?_
    · have hi := h2 i (by simp)
      have hj := h2 j (by simp)
      rcases List.mem_cons.mp h1 with e | h1
      · subst e; simp; left; omega
      · rcases List.mem_cons.mp h1 with e | h1
        · subst e; simp; left; omega
        · exact List.mem_cons_of_mem _ h1
    · rcases List.mem_cons.mp hy with e | hy
      · subst e
        have hi := h2 i (by simp)
        have hj := h2 j (by simp)
        omega
      · exact h2 y (by simp [hy])
theorem c_max : CalD X k (.builtin "max") gMax := fun hc hK => by
  refine ⟨_, CallR.or (cr_max hc) (call_max2 hc), fun G H xs dxs dz Q s hp hg ho => ?_⟩
  unfold gMax at hg
  split at hg
  · obtain ⟨v, rfl, h⟩ := hp.one
    obtain ⟨a, xs, rfl, e2, e3⟩ := h.list s
    split at hg
    · rename_i i r e4
      cases hg
      rw [intsD_rp e4 e3] at e2
      exact .inl ⟨a, i :: r, rfl, .inl (.inl e2), by simp, fun m h1 h2 => by rw [max_of r i m h1 h2]; exact ho.here s (.int _)⟩
    · cases hg
  · unfold gMax2 at hg
    split at hg
    · cases hg
      obtain ⟨v, w, rfl, h, h'⟩ := hp.two
      cases h.int; cases h'.int
      exact .inr ⟨_, _, rfl, ho.here s (.int _)⟩
    · cases hg
theorem c_min : CalD X k (.builtin "min") gMin := fun hc hK => by
  refine ⟨_, CallR.or (cr_min hc) (call_min2 hc), fun G H xs dxs dz Q s hp hg ho => ?_⟩
  unfold gMin at hg
  split at hg
  · obtain ⟨v, rfl, h⟩ := hp.one
    obtain ⟨a, xs, rfl, e2, e3⟩ := h.list s
    split at hg
    · rename_i i r e4
      cases hg
      rw [intsD_rp e4 e3] at e2
      exact .inl ⟨a, i :: r, rfl, .inl (.inl e2), by simp, fun m h1 h2 => by rw [min_of r i m h1 h2]; exact ho.here s (.int _)⟩
    · cases hg
  · unfold gMin2 at hg
    split at hg
    · cases hg
      obtain ⟨v, w, rfl, h, h'⟩ := hp.two
      cases h.int; cases h'.int
      exact .inr ⟨_, _, rfl, ho.here s (.int _)⟩
    · cases hg
end
end Den

set_option Elab.async false
set_option linter.all false
set_option maxRecDepth 100000
/-! DenL: displays, subscripts, slices, attributes, isinstance, by data. -/
namespace Den
open PySem PySem.Spec
open PyProof.Rows L2

theorem small_size {n : Nat} (h : n ≤ 10000) : n ≤ sizeLine := by have := sizeLine_eq; omega
def dTup (as : M (List PD)) : M PD := mbind as fun ds => if ds.length ≤ 10000 then mpure (.tuple ds) else fun _ => .bad
def dLst (as : M (List PD)) : M (List PD) := mbind as fun ds => if ds.length ≤ 10000 then mpure ds else fun _ => .bad
section
variable {X : Cx} {c : Cc} {W : WX} {e a b : Expr} {es : List Expr} {pos p p2 : Pos} {as : M (List PD)} {fa fb : M Pk} {f : M PD}
/-- a display: a tuple is made -/
def tTupF (t : TA) : TE := fun σ H Q => t σ H fun xs H1 => xs.length ≤ sizeLine ∧ ∀ (o : Obj) p, o.dict = none → H1 p = none → Q (.ref p) (upd H1 p (tupO o xs))
theorem pe_tupF {t : TA} {n : Nat} (h : PA X es t) : PE X (.Tuple es n pos) (tTupF t) := by
  constructor
  intro pins s σ H Q I q
  refine wpAny_Tuple_spliced (thn (h.run pos pins s σ H _ I q) ?_)
  rintro us s1 ⟨xs, H1, J, rel, few, q1⟩
  exact ⟨by rw [← rel.length]; exact few, .ref _, _, born_tup J rel few, rfl, q1 _ _ rfl (J.hok.fresh (Nat.le_refl _))⟩
theorem de_tup {n : Nat} (h : DEs X c W es as) : DE X c W (.Tuple es n pos) (dTup as) := fun gd ioA => by
  refine PE.imp (pe_tupF (h gd ioA)) fun σ H Q ⟨ρ, P, rp, h⟩ => ⟨ρ, P, rp, h.bind.mono fun vs H1 ⟨ds, ρ1, P1, s1, r1, v1, h1⟩ => ?_⟩
  by_cases hl : ds.length ≤ 10000
  · rw [if_pos hl] at h1
    have v1' : RpAll c.kc (P1 .g) vs ds := v1
    exact ⟨by rw [v1'.length]; exact small_size hl, (h1.out r1).tup (r1.pc.sub .g) v1'⟩
  · rw [if_neg hl] at h1; exact h1.elim
theorem df_lst (h : DEs X c W es as) : DF X c W (.List es pos) (dLst as) := fun gd ioA => by
  refine PE.imp (pe_lst (h gd ioA)) fun σ H Q ⟨ρ, P, rp, h⟩ => ⟨ρ, P, rp, h.bind.mono fun vs H1 ⟨ds, ρ1, P1, s1, r1, v1, h1⟩ => ?_⟩
  by_cases hl : ds.length ≤ 10000
  · rw [if_pos hl] at h1
    have v1' : RpAll c.kc (P1 .g) vs ds := v1
    exact ⟨by rw [v1'.length]; exact small_size hl, fun p n => h1.outF r1 p vs n v1'⟩
  · rw [if_neg hl] at h1; exact h1.elim
/-- a module's constant -/
theorem de_globS {x : Str} {z : Str} {t : Tok} (hg : Gl X x) (hm : X.mg x = some (.str z t)) (hd : (x == ("__debug__" : Str)) = false := by decide) : DE X c W (.Name x pos) (mpure (.str z)) := fun _ _ =>
  PE.imp (pe_glob (v := .str z) hg hm ⟨t, rfl⟩ hd) fun σ H Q ⟨ρ, P, rp, h⟩ => h.pure rp (.str z)
theorem de_globI {x : Str} {z : Int} {t : Tok} (hg : Gl X x) (hm : X.mg x = some (.int z t)) (hd : (x == ("__debug__" : Str)) = false := by decide) : DE X c W (.Name x pos) (mpure (.int z)) := fun _ _ =>
  PE.imp (pe_glob (v := .int z) hg hm ⟨t, rfl⟩ hd) fun σ H Q ⟨ρ, P, rp, h⟩ => h.pure rp (.int z)
/-- minus -/
def dNeg (f : M PD) : M PD := mbind f fun d => match d with
  | .int i => mpure (.int (-i))
  | _ => fun _ => .bad
theorem de_neg (h : DE X c W e f) : DE X c W (.UnaryOp .USub e pos) (dNeg f) := fun gd ioA => by
  refine PE.imp (pe_un un_neg (h gd ioA)) fun σ H Q ⟨ρ, P, rp, h⟩ => ⟨ρ, P, rp, h.bind.mono fun v H1 ⟨d, ρ1, P1, s1, r1, v1, h1⟩ => ?_⟩
  cases d with
  | int i =>
    have v1' : Rp c.kc (P1 .g) v (.int i) := v1
    cases v1'
    exact ⟨i, rfl, h1.pure r1 (.int _)⟩
  | _ => exact h1.elim
/-- a[b] -/
def pGet : PD → PD → Option PD
  | .list ds, .int i => atI ds i
  | .tuple ds, .int i => atI ds i
  | .dict [(.none, .list ds)], .int i => atI ds i
  | .str z, .int i => if z.length ≤ sizeLine then (atI z.cps.toList i).map fun ch => .str ⟨#[ch]⟩ else none
  | _, _ => none
theorem atI_rp {k : Kc} {G : Hp} {vs : List V} {ds : List PD} {i : Int} {d : PD} (h : RpAll k G vs ds) (e : atI ds i = some d) : ∃ v, atI vs i = some v ∧ Rp k G v d := by
  unfold atI at e ⊢
  rw [h.length]
  cases e1 : ixN ds.length i with
  | none => rw [e1] at e; cases e
  | some j =>
    rw [e1] at e
    obtain ⟨v, h1, h2⟩ := h.get (i := j) (by simpa using e)
    exact ⟨v, by simpa using h1, h2⟩
theorem de_ix (ha : DK X c W a fa) (hb : DK X c W b fb) (hs : PlainIx b := by intro _ _; rfl) : DE X c W (.Subscript a b pos) (dOp2 pGet fa fb) := fun gd ioA => by
  refine PE.imp (pe_ix ix_seq (ha gd ioA) (hb gd ioA) hs) fun σ H Q h => op2_core (fun G H x y dx dy dz Q s h1 h2 e ho => ?_) h
  unfold pGet at e
  split at e
  · obtain ⟨p, xs, rfl, q1, q2⟩ := h1.list s
    cases h2.int
    obtain ⟨v, q3, q4⟩ := atI_rp q2 e
    exact .inl ⟨p, xs, _, v, rfl, rfl, .inl (.inl q1), q3, ho.here s q4⟩
  · obtain ⟨p, xs, rfl, q1, q2⟩ := h1.tuple s
    cases h2.int
    obtain ⟨v, q3, q4⟩ := atI_rp q2 e
    exact .inr (.inl ⟨p, xs, _, v, rfl, rfl, gd.hK ▸ q1, q3, ho.here s q4⟩)
  · obtain ⟨p, xs, rfl, q1, q2⟩ := h1.scr s
    cases h2.int
    obtain ⟨v, q3, q4⟩ := atI_rp q2 e
    exact .inl ⟨p, xs, _, v, rfl, rfl, gd.hK ▸ q1, q3, ho.here s q4⟩
  · cases h1.str
    cases h2.int
    split at e
    · rename_i hz
      obtain ⟨ch, q1, rfl⟩ := Option.map_eq_some_iff.mp e
      exact .inr (.inr ⟨_, _, ch, rfl, rfl, hz, q1, ho.here s (.str _)⟩)
    · cases e
  · cases e
/-! ### slices -/
/-- the whole of a tuple, by its slice: the tuple itself -/
theorem tup_whole {prog : Program} {w : World} {A : Around} {E : Value → Shared → Prop} {s : Shared} {t sl : Addr} {its : Array Value} {vl vu : Value} {lo hi : Option Int} {Q : Value → Shared → Prop}
    (tup : IsTup s.heap t its) (cut : s.heap.IsSliceOf sl vl vu .none) (pl : IsPart vl lo) (pu : IsPart vu hi) (z : HT.sIx its.size 0 lo = 0) (n : HT.sIx its.size its.size hi = its.size) (fin : Q (.ref t) s) :
    wpAny (model prog w) A (getItem (.ref t) (.ref sl)) Q E s := by
  obtain ⟨_, there, isS, _⟩ := id cut
  have slT : s.TypeIs (.ref sl) "slice" := ⟨_, there, isS⟩
  -- the answer of the slot's own code
  have code : wpAny (model prog w) A.in1 (Builtin.«tuple.__getitem__» ⟨[.ref t, .ref sl], []⟩) (fun r s' => ∃ v, r = .done (.ret v) ∧ Q v s') E s := by
    have args : slotArgs "__getitem__" 1 ⟨[.ref t, .ref sl], []⟩ = (pure (.ref t, [.ref sl]) : Sem (Value × List Value)) := rfl
    unfold Builtin.«tuple.__getitem__»
    rw [args]
    apply wpAny_bind
    apply wpAny_pure
    apply wpAny_bind
    apply PyProof.Rows.tupleItemsOf_ tup
    apply wpAny_bind
    apply wpAny_typeOf slT
    rw [if_pos (by decide : (Value.type "slice" == Value.type "slice") = true)]
    apply wpAny_bind
    apply HT.sliceApplied_gen cut pl pu
    simp only [z, n, Nat.sub_zero, beq_self_eq_true, Bool.and_true, Int.ofNat_zero, if_true]
    unfold Builtin.Tuple.tupleIsExact
    wp_walk using wpAny_typeOf tup.typeIs
    exact ⟨_, rfl, fin⟩
  unfold getItem
  apply wpAny_holding
  apply wpAny_bind
  apply wpAny_sequenceKey tup.typeIs (by decide)
  apply wpAny_bind
  apply wpAny_callSpecial?_slot (name := Str.ofString "__getitem__") tup.typeIs PyProof.Rows.slot_tuple_getitem
  apply wpAny_call_entry PyProof.Rows.slot_tuple_getitem tup.typeIs PyProof.Rows.entry_tuple_getitem _ (PyProof.Rows.args_tuple_getitem _ _)
  exact wpAny_mono code (fun r s' ⟨v, e, q⟩ => ⟨v, e, wpAny_pure q⟩) fun _ _ h => h
/-- t[lo:hi], the whole of it: t itself -/
def rSlTW (K : PySem.W.Frag) : V → Option Int → Option Int → Hp → VK → Prop := fun x lo hi H Q => ∃ a xs, x = .ref a ∧ SqT K H a xs ∧ (HT.sIx xs.length 0 lo = 0 ∧ HT.sIx xs.length xs.length hi = xs.length) ∧ Q (.ref a) H
theorem sl_tupW : L2.SlR X (rSlTW X.K) := by
  rintro pins s σ H _ v vl vu lo hi sl Q I rel cut pl pu ⟨a, xs, rfl, sq, ⟨z, n⟩, q⟩
  cases rel
  obtain ⟨its, r, t, _⟩ := I.tuple sq
  have size : its.toArray.size = xs.length := r.length.symm
  exact ⟨"tuple", _, PyProof.Rows.slot_tuple_getitem.lookup, t.typeIs, tup_whole t cut pl pu (by rw [size]; exact z) (by rw [size]; exact n) ⟨.ref a, H, I, rfl, q⟩⟩
/-- .. and a part of it: a new tuple -/
def rSlTF (K : PySem.W.Frag) : V → Option Int → Option Int → Hp → VK → Prop := fun x lo hi H Q => ∃ a xs, x = .ref a ∧ SqT K H a xs ∧ ¬ (HT.sIx xs.length 0 lo = 0 ∧ HT.sIx xs.length xs.length hi = xs.length) ∧ ∀ (o : Obj) p, o.dict = none → H p = none → Q (.ref p) (upd H p (tupO o (cutV xs lo hi)))
theorem sl_tupF : L2.SlR X (rSlTF X.K) := by
  rintro pins s σ H _ v vl vu lo hi sl Q I rel cut pl pu ⟨a, xs, rfl, sq, part, q⟩
  cases rel
  obtain ⟨its, r, t, few⟩ := I.tuple sq
  have size : its.toArray.size = xs.length := r.length.symm
  refine ⟨"tuple", _, PyProof.Rows.slot_tuple_getitem.lookup, t.typeIs, HT.getItem_tuple_cut t cut pl pu (by rw [size]; exact part) ?_ (by rw [size]; exact few)⟩
  rw [size]
  have cutr : Vals (cutV xs lo hi) ((its.drop (HT.sIx xs.length 0 lo)).take (HT.sIx xs.length xs.length hi - HT.sIx xs.length 0 lo)) := (r.drop _).take _
  exact ⟨.ref _, _, born_tup I cutr (Nat.le_trans (cutV_length xs lo hi) few), rfl, q _ _ rfl (I.hok.fresh (Nat.le_refl _))⟩
/-- the items of xs[lo:hi] -/
def cutD (xs : List PD) (lo hi : Option Int) : List PD := (xs.drop (HT.sIx xs.length 0 lo)).take (HT.sIx xs.length xs.length hi - HT.sIx xs.length 0 lo)
theorem cut_rp {k : Kc} {G : Hp} {vs : List V} {ds : List PD} (lo hi : Option Int) (h : RpAll k G vs ds) : RpAll k G (cutV vs lo hi) (cutD ds lo hi) := by
  unfold cutV cutD
  rw [h.length]
  exact (h.drop _).take _
def pSl (d : PD) (lo hi : Option Int) : Option PD := match d with
  | .list ds => some (.list (cutD ds lo hi))
  | .tuple ds => some (.tuple (cutD ds lo hi))
  | .str z => if z.length ≤ sizeLine then some (.str (cutS z lo hi)) else none
  | _ => none
def dPart : Option (M PD) → M (Option Int)
  | none => mpure none
  | some f => mbind f fun d => match d with
    | .int i => mpure (some i)
    | _ => fun _ => .bad
def dSl (f : M Pk) (lo hi : Option (M PD)) : M PD := mbind f fun p => mbind (dPart lo) fun l => mbind (dPart hi) fun u => fun ρ => match look p ρ with
  | some d => mopt (pSl d l u) ρ
  | none => .bad
/-- a part of a slice -/
def DPo (X : Cx) (c : Cc) (W : WX) (e : Option Expr) (f : Option (M PD)) : Prop := Gd X c → ∀ ioA, PO X e (tM c ioA W (fun (a : Option Int) b _ _ _ => a = b) (dPart f))
theorem PO.imp {X : Cx} {e : Option Expr} {t t' : TO} (h : PO X e t) (i : ∀ σ H Q, t' σ H Q → t σ H Q) : PO X e t' := ⟨fun pins s σ H Q I q => h.run pins s σ H Q I (i σ H Q q)⟩
theorem dpo_none : DPo X c W none none := fun gd ioA => PO.imp po_none fun σ H Q ⟨ρ, P, rp, h⟩ => h.pure rp rfl
theorem dpo_some {f : M PD} (he : DE X c W e f) : DPo X c W (some e) (some f) := fun gd ioA => by
  refine PO.imp (po_some (he gd ioA)) fun σ H Q ⟨ρ, P, rp, h⟩ => ⟨ρ, P, rp, h.bind.mono fun v H1 ⟨d, ρ1, P1, s1, r1, v1, h1⟩ => ?_⟩
  cases d with
  | int i =>
    have v1' : Rp c.kc (P1 .g) v (.int i) := v1
    cases v1'
    exact ⟨i, rfl, h1.pure r1 rfl⟩
  | _ => exact h1.elim
theorem de_sl {lo hi : Option Expr} {fl fh : Option (M PD)} (he : DK X c W e fa) (hl : DPo X c W lo fl) (hh : DPo X c W hi fh) : DE X c W (.Subscript e (.Slice lo hi none p2) pos) (dSl fa fl fh) := fun gd ioA => by
  refine PE.imp (pe_slice (L2.SlR.or sl_list (L2.SlR.or sl_tupF (L2.SlR.or sl_tupW sl_str))) (he gd ioA) (hl gd ioA) (hh gd ioA)) fun σ H Q ⟨ρ, P, rp, h⟩ => ⟨ρ, P, rp, h.bind.mono fun v H1 ⟨p, ρ1, P1, s1, r1, v1, h1⟩ => ⟨ρ1, P1, r1, h1.bind.mono fun l H2 ⟨l', ρ2, P2, s2, r2, v2, h2⟩ => ⟨ρ2, P2, r2, h2.bind.mono fun u H3 ⟨u', ρ3, P3, s3, r3, v3, h3⟩ => ?_⟩⟩⟩
  have v2' : l' = l := v2
  have v3' : u' = u := v3
  subst v2' v3'
  have v1' : VRk c p v σ H3 P3 := VRk.step (H := H2) (VRk.step (H := H1) v1 s2) s3
  cases e1 : look p ρ3 with
  | none => unfold tMat at h3; simp only [e1] at h3
  | some d =>
    cases e2 : pSl d l' u' with
    | none => unfold tMat mopt at h3; simp only [e1, e2] at h3
    | some dz =>
      have h4 : tMat c ioA W (VRe c) (mpure dz) ρ3 P3 σ Q := by
        unfold tMat mpure
        unfold tMat mopt at h3
        simp only [e1, e2] at h3
        exact h3
      have ho := h4.out r3
      have s := r3.pc.sub .g
      have hk := look_ok r3 v1' e1
      unfold pSl at e2
      split at e2
      · cases e2
        obtain ⟨p, xs, rfl, q1, q2⟩ := hk.list s
        exact .inl ⟨p, xs, rfl, .inl (.inl q1), ho.lst s (cut_rp _ _ q2)⟩
      · cases e2
        obtain ⟨p, xs, rfl, q1, q2⟩ := hk.tuple s
        by_cases hw : HT.sIx xs.length 0 l' = 0 ∧ HT.sIx xs.length xs.length u' = xs.length
        · refine .inr (.inr (.inl ⟨p, xs, rfl, gd.hK ▸ q1, hw, ho.here s ?_⟩))
          have : ∀ ds : List PD, ds.length = xs.length → cutD ds l' u' = ds := fun ds hl => by
            unfold cutD
            rw [hl, hw.1, hw.2, List.drop_zero, Nat.sub_zero, ← hl, List.take_length]
          rw [this _ q2.length.symm]
          rcases hk with h | ⟨m, a, M, e, h, sm, e'⟩
          · exact h
          · cases m <;> cases e'
        · exact .inr (.inl ⟨p, xs, rfl, gd.hK ▸ q1, hw, ho.tup s (cut_rp _ _ q2)⟩)
      · split at e2
        · rename_i hz
          cases e2
          cases hk.str
          exact .inr (.inr (.inr ⟨_, rfl, hz, ho.here s (.str _)⟩))
        · cases e2
      · cases e2
/-! ### attributes -/
def lookF (f : Str) : List (PD × PD) → Option PD
  | (.str g, d) :: r => if f == g then some d else lookF f r
  | _ => none
/-- e.f, e an instance of one of the classes ns -/
def pFld (ns : List Str) (f : Str) : PD → Option PD
  | .dict ((.none, .str n) :: fs) => if n ∈ ns then lookF f fs else none
  | _ => none
def dFld (ns : List Str) (f : Str) (g : M Pk) : M PD := mbind g fun p ρ => match look p ρ with
  | some d => mopt (pFld ns f d) ρ
  | none => .bad
theorem lookF_rp {k : Kc} {G : Hp} {f : Str} : ∀ {fs : List (Str × V)} {ds : List (PD × PD)} {d : PD}, RpFs k G fs ds → lookF f ds = some d → ∃ v, fs.lookup f = some v ∧ Rp k G v d
  | _, _, _, .nil, e => by cases e
  | _, _, _, .cons (f := g) (v := v) h r, e => by
    unfold lookF at e
    rw [List.lookup_cons]
    cases hb : f == g with
    | true => rw [hb] at e; cases e; exact ⟨v, rfl, h⟩
    | false => rw [hb] at e; exact lookF_rp r e
theorem PkR.ins {k : Kc} {G H : Hp} {v : V} {n : Str} {fs : List (PD × PD)} (s : Same G H) (h : PkR k G H v (.dict ((.none, .str n) :: fs))) : ∃ a C dx vs, v = .ref a ∧ H a = some (.ins C dx vs) ∧ k.kl n = some C ∧ RpFs k G vs fs := by
  rcases h with h | ⟨m, a, M, rfl, h, sm, e⟩
  · cases h with
    | ins h1 h2 h3 => exact ⟨_, _, _, _, rfl, s _ _ h1, h2, h3⟩
    | dK h1 h2 => exact absurd rfl (rpKs_head h2)
    | dT h1 h2 => exact absurd rfl (rpTs_head h2)
  · cases m with
    | lst xs => cases e
    | ll xss => cases e
    | dic es =>
      cases e
      rcases h with ⟨es, r, rfl⟩ | ⟨es, r, rfl⟩
      · exact absurd rfl (rpTs_head r)
      · exact absurd rfl (rpKs_head r)
    | ins n' fs' =>
      obtain ⟨C, dx, vs, e1, r, q, rfl⟩ := h
      cases e
      exact ⟨a, C, dx, vs, rfl, sm _ _ upd_same, e1, r⟩
/-- the classes ns are plain ones, f is no name of theirs -/
def FldC (k : Kc) (ns : List Str) (f : Str) : Prop := ∀ n ∈ ns, ∀ C, k.kl n = some C → Cls k.K C ∧ NoAttr k.K C f
theorem de_fld {ns : List Str} {f : Str} (he : DK X c W e fa) (hf : FldC c.kc ns f) (hb : attributeBase e f X.env (eval e X.env) = eval e X.env := by rfl) : DE X c W (.Attribute e f pos) (dFld ns f fa) := fun gd ioA => by
  refine PE.imp (pe_fld (he gd ioA) hb) fun σ H Q ⟨ρ, P, rp, h⟩ => ⟨ρ, P, rp, h.bind.mono fun v H1 ⟨p, ρ1, P1, s1, r1, v1, h1⟩ => ?_⟩
  cases e1 : look p ρ1 with
  | none => unfold tMat at h1; simp only [e1] at h1
  | some d =>
    cases e2 : pFld ns f d with
    | none => unfold tMat mopt at h1; simp only [e1, e2] at h1
    | some dz =>
      have h4 : tMat c ioA W (VRe c) (mpure dz) ρ1 P1 σ Q := by
        unfold tMat mpure
        unfold tMat mopt at h1
        simp only [e1, e2] at h1
        exact h1
      have hk := look_ok r1 v1 e1
      unfold pFld at e2
      split at e2
      · rename_i n fs
        split at e2
        · rename_i hn
          obtain ⟨a, C, dx, vs, rfl, q1, q2, q3⟩ := hk.ins (r1.pc.sub .g)
          obtain ⟨c1, c2⟩ := hf n hn C q2
          obtain ⟨v, q4, q5⟩ := lookF_rp q3 e2
          exact ⟨a, C, dx, vs, v, rfl, q1, gd.hK ▸ c1, gd.hK ▸ c2, q4, (h4.out r1).here (r1.pc.sub .g) q5⟩
        · cases e2
      · cases e2
/-! ### isinstance -/
/-- the built-in class of a datum -/
def tyD : PD → Option String
  | .none => some "NoneType"
  | .bool _ => some "bool"
  | .int _ => some "int"
  | .str _ => some "str"
  | .list _ => some "list"
  | .tuple _ => some "tuple"
  | .dict kvs => if isDic kvs = true then some "dict" else none
theorem ty_of {k : Kc} {G H : Hp} {v : V} {d : PD} {t : String} (s : Same G H) (h : PkR k G H v d) (e : tyD d = some t) : TyX k.K H v (.type t) := by
  unfold tyD at e
  split at e
  · cases e; cases h.non; exact .base .non
  · cases e; cases h.bl; exact .base (.bl _)
  · cases e; cases h.int; exact .base (.int _)
  · cases e; cases h.str; exact .base (.str _)
  · cases e
    obtain ⟨a, xs, rfl, h1, _⟩ := h.list s
    exact .base (.lst h1)
  · cases e
    obtain ⟨a, xs, rfl, h1, _⟩ := h.tuple s
    rcases h1 with (h1 | ⟨o, h1⟩) | ⟨o, its, n, h1, h2, _⟩
    · exact .base (.tup h1)
    · exact .fTuple h1
    · exact .kTuple h1 h2
  · split at e
    · rename_i hd
      cases e
      obtain ⟨a, rfl, ⟨es, e1, _⟩ | ⟨es, e1, _⟩⟩ := h.dict s (isDic_ne hd)
      · exact .base (.dK e1)
      · exact .base (.dT e1)
    · cases e
def tyNames : List String := ["NoneType", "bool", "int", "str", "list", "tuple", "dict"]
theorem tyD_mem {d : PD} {t : String} (e : tyD d = some t) : t ∈ tyNames := by
  unfold tyD at e
  split at e
  all_goals first
    | (cases e; simp [tyNames]; done)
    | (split at e <;> cases e; simp [tyNames])
/-- is a thing of type t one of T -/
def isaT (t T : String) : Bool := t == T || (t == "bool" && T == "int")
def gIsi (Ts : List String) (d : PD) : Option PD := (tyD d).map fun t => .bool (Ts.any (isaT t))
theorem isa_kit : ∀ t ∈ tyNames, ∀ T ∈ tyNames, kitB t T = some (isaT t T) := by decide +kernel
theorem kit_any {K : PySem.W.Frag} {t : String} (ht : t ∈ tyNames) : ∀ {Ts : List String}, (∀ T ∈ Ts, T ∈ tyNames) → PySem.W.kitAny K (.type t) (Ts.map Value.type) = some (Ts.any (isaT t))
  | [], _ => kitAny_nil
  | T :: Ts, h => by
    have h1 := isa_kit t ht T (h T (by simp))
    refine kitAny_cons (kit_ty h1) (fun hb => ?_) fun hb => ?_
    · rw [List.any_cons, hb, Bool.false_or]
      exact kit_any ht fun T' h' => h T' (by simp [h'])
    · rw [List.any_cons, hb, Bool.true_or]
end
end Den

set_option Elab.async false
set_option linter.all false
set_option maxRecDepth 100000
/-! DenM: isinstance calls; lists that change. -/
namespace Den
open PySem PySem.Spec
open PyProof.Rows L2

/-! ### isinstance -/
def tTys (Ts : List String) : TA := fun _ H Q => Q (Ts.map V.ty) H
/-- names of built-in types -/
inductive TyNs (X : Cx) : List Expr → List String → Prop
  | nil : TyNs X [] []
  | cons {x : Str} {T : String} {p : Pos} {es : List Expr} {Ts : List String} (hg : Gl X x) (hm : X.mg x = none) (hv : bootBuiltins x = some (.type T)) (hn : x ≠ "__name__") (hd : (x == ("__debug__" : Str)) = false)
      (hs : starEach (.Name x p :: es) X.env = (false, eval (.Name x p) X.env) :: starEach es X.env) (r : TyNs X es Ts) : TyNs X (.Name x p :: es) (T :: Ts)
theorem pa_tys {X : Cx} : ∀ {es : List Expr} {Ts : List String}, TyNs X es Ts → PA X es (tTys Ts)
  | _, _, .nil => PA.imp pa_nil fun _ _ _ h => h
  | _, _, .cons hg hm hv hn hd hs r => PA.imp (pa_cons (pe_bltn (v := .ty _) hg hm hv (show RelV (V.ty _) _ from rfl) hn hd) (pa_tys r) hs) fun _ _ _ h => h
def dIsi (Ts : List String) (f : M Pk) : M PD := mbind f fun p ρ => match look p ρ with
  | some d => mopt (gIsi Ts d) ρ
  | none => .bad
section
variable {X : Cx} {c : Cc} {W : WX} {e : Expr} {pos p p2 p3 : Pos} {fa : M Pk} {T : String} {Ts : List String} {x : Str}
theorem clsv_all : ∀ Ts : List String, Paired ClsV (Ts.map V.ty) (Ts.map Value.type)
  | [] => .nil
  | T :: Ts => .cons (.ty T) (clsv_all Ts)
/-- what such a call has in hand -/
theorem isi_hand {ioA : List Addr} {ρ : Rho} {P : Pcs} {σ : St} {H : Hp} {Q : VK} {v : V} {pk : Pk} (r : RepW c ioA ρ σ H P) (hv : VRk c pk v σ H P)
    (h : tMat c ioA W (VRe c) (fun ρ => match look pk ρ with
      | some d => mopt (gIsi Ts d) ρ
      | none => .bad) ρ P σ Q) : ∃ d t, PkR c.kc (P .g) H v d ∧ tyD d = some t ∧ t ∈ tyNames ∧ ∀ G' H', Ext (P .g) H G' H' → Q (.bl (Ts.any (isaT t))) H' := by
  cases e1 : look pk ρ with
  | none => unfold tMat at h; simp only [e1] at h
  | some d =>
    cases e2 : gIsi Ts d with
    | none => unfold tMat mopt at h; simp only [e1, e2] at h
    | some dz =>
      have h4 : tMat c ioA W (VRe c) (mpure dz) ρ P σ Q := by
        unfold tMat mpure
        unfold tMat mopt at h
        simp only [e1, e2] at h
        exact h
      obtain ⟨t, e3, rfl⟩ := Option.map_eq_some_iff.mp e2
      exact ⟨d, t, look_ok r hv e1, e3, tyD_mem e3, fun G' H' ex => h4.out r (.bl _) G' H' ex (.bl _)⟩
theorem de_isi (he : DK X c W e fa) (hT : TyNs X [.Name x p2] [T]) (hTn : T ∈ tyNames) (hg : Gl X "isinstance") (hm : X.mg "isinstance" = none)
    (hs : starEach [e, .Name x p2] X.env = (false, eval e X.env) :: starEach [.Name x p2] X.env := by rfl) (hpl : (backTo pos (starEach [.Name x p2] X.env)).any (·.1) = false := by rfl) :
    DE X c W (.Call (.Name "isinstance" p) [e, .Name x p2] [] pos) (dIsi [T] fa) := fun gd ioA => by
  refine PE.imp (pe_callB call_isi hg hm boot_isinstance (pa_cons (he gd ioA) (pa_tys hT) hs) (by decide) (by decide) hs hpl) fun σ H Q ⟨ρ, P, rp, h⟩ => ⟨ρ, P, rp, h.bind.mono fun v H1 ⟨pk, ρ1, P1, s1, r1, v1, h1⟩ => ?_⟩
  obtain ⟨d, t, hk, ht, htn, q⟩ := isi_hand r1 v1 h1
  refine ⟨v, .ty T, .type t, .type T, isaT t T, rfl, .ty T, gd.hK ▸ ty_of (r1.pc.sub .g) hk ht, kit_ty (isa_kit t htn T hTn), ?_⟩
  have := q _ _ (Ext.refl (r1.pc.sub .g))
  simpa using this
theorem de_isiT {k : Nat} {es : List Expr} (he : DK X c W e fa) (hT : TyNs X es Ts) (hTn : ∀ T ∈ Ts, T ∈ tyNames) (hl : Ts.length ≤ 100) (hg : Gl X "isinstance") (hm : X.mg "isinstance" = none)
    (hs : starEach [e, .Tuple es k p2] X.env = (false, eval e X.env) :: starEach [.Tuple es k p2] X.env := by rfl) (hs2 : starEach [.Tuple es k p2] X.env = (false, eval (.Tuple es k p2) X.env) :: starEach [] X.env := by rfl) (hpl : (backTo pos (starEach [.Tuple es k p2] X.env)).any (·.1) = false := by rfl) :
    DE X c W (.Call (.Name "isinstance" p) [e, .Tuple es k p2] [] pos) (dIsi Ts fa) := fun gd ioA => by
  refine PE.imp (pe_callB call_isiT hg hm boot_isinstance (pa_cons (he gd ioA) (pa_cons (pe_tup (pa_tys hT)) pa_nil hs2) hs) (by decide) (by decide) hs hpl) fun σ H Q ⟨ρ, P, rp, h⟩ => ⟨ρ, P, rp, h.bind.mono fun v H1 ⟨pk, ρ1, P1, s1, r1, v1, h1⟩ => ?_⟩
  obtain ⟨d, t, hk, ht, htn, q⟩ := isi_hand r1 v1 h1
  refine ⟨by rw [List.length_map]; exact small_size (by omega), fun tp n => ?_⟩
  have ex := Ext.new (o := .tup (Ts.map V.ty)) (r1.pc.sub .g) n
  refine ⟨v, tp, Ts.map V.ty, .type t, Ts.map Value.type, _, rfl, upd_same, clsv_all Ts, gd.hK ▸ ty_of (G := P1 .g) (fun a o e => (ex.k a o (r1.pc.sub .g a o e)).1) ?_ ht, kit_any htn hTn, q _ _ ex⟩
  rcases hk with hk | ⟨m, a, M, rfl, hm, sm, e⟩
  · exact .inl hk
  · exact .inr ⟨m, a, M, rfl, hm, fun b o eb => (ex.k b o (sm b o eb)).1, e⟩
end
/-! ### where a mutable stands -/
theorem RepW.own_at {c : Cc} {ioA : List Addr} {ρ : Rho} {σ : St} {H : Hp} {P : Pcs} {i : Nat} {x : Ix} {m : MC} (r : RepW c ioA ρ σ H P) (ex : ixOf ρ i = some x) (em : getC ρ x = some m) :
    ∃ a, σ[i]? = some (some (.ref a)) ∧ MR c.kc (P .g) m a (P x) ∧ ((∃ i, x = .sl i ∧ σ[i]? = some (some (.ref a))) ∨ ∃ j, x = .io j ∧ ioA[j]? = some a) := by
  unfold ixOf at ex
  cases q : ρ.sl[i]? with
  | none => simp only [q] at ex; cases ex
  | some s =>
    have so := r.so i s q
    cases s with
    | own m0 =>
      simp only [q] at ex
      cases ex
      have em' : (match ρ.sl[i]? with | some (.own m) => some m | _ => none) = some m := em
      simp only [q] at em'
      cases em'
      obtain ⟨a, e1, e2⟩ := so
      exact ⟨a, e1, e2, .inl ⟨i, rfl, e1⟩⟩
    | io j =>
      simp only [q] at ex
      cases ex
      obtain ⟨a, e1, e2⟩ := so
      obtain ⟨b, e3, e4⟩ := r.io j m em
      rw [e1] at e3
      cases e3
      exact ⟨a, e2, e4, .inr ⟨j, rfl, e1⟩⟩
    | _ => simp only [q] at ex; cases ex
/-- a mutable is rewritten -/
theorem RepW.updC {c : Cc} {ioA : List Addr} {ρ : Rho} {σ : St} {H H' : Hp} {P : Pcs} {x : Ix} {m' : MC} {a : Addr} {M' : Hp} (r : RepW c ioA ρ σ H P) (hx : (∃ i, x = .sl i ∧ σ[i]? = some (some (.ref a))) ∨ ∃ j, x = .io j ∧ ioA[j]? = some a)
    (hk : ∀ b o, H b = some o → P x b = none → H' b = some o ∧ M' b = none) (hs : Same M' H') (hm : MR c.kc (P .g) m' a M') : RepW c ioA (setC ρ x m') σ H' (put P x M') ∧ Stp P (put P x M') := by
  have hxg : x ≠ .g := by rcases hx with ⟨_, rfl, _⟩ | ⟨_, rfl, _⟩ <;> simp
  have hxf : x ≠ .f := by rcases hx with ⟨_, rfl, _⟩ | ⟨_, rfl, _⟩ <;> simp
  have eg : put P x M' .g = P .g := put_ne (Ne.symm hxg)
  refine ⟨?_, ⟨by rw [eg]; exact Same.refl _, put_ne (Ne.symm hxf)⟩⟩
  rcases hx with ⟨i, rfl, hσ⟩ | ⟨j, rfl, hσ⟩
  · refine ⟨r.pc.put hk hs, by show σ.length = (ρ.sl.set i _).length; rw [List.length_set]; exact r.len, fun i2 sl e => ?_, fun j m2 e => ?_⟩
    · rw [eg]
      have e' : (ρ.sl.set i (.own m'))[i2]? = some sl := e
      rw [List.getElem?_set] at e'
      by_cases hi : i = i2
      · subst hi
        simp only [if_true] at e'
        split at e'
        · cases e'
          rw [put_same]
          exact ⟨a, hσ, hm⟩
        · cases e'
      · rw [if_neg hi] at e'
        rw [put_ne (by simp; exact fun z => hi z.symm)]
        exact r.so i2 sl e'
    · obtain ⟨b, e1, q⟩ := r.io j m2 e
      rw [eg, put_ne (by simp)]
      exact ⟨b, e1, q⟩
  · refine ⟨r.pc.put hk hs, r.len, fun i2 sl e => ?_, fun j2 m2 e => ?_⟩
    · rw [eg, put_ne (by simp)]
      exact r.so i2 sl e
    · have e' : (ρ.io.set j m')[j2]? = some m2 := e
      rw [List.getElem?_set] at e'
      rw [eg]
      by_cases hj : j = j2
      · subst hj
        simp only [if_true] at e'
        split at e'
        · cases e'
          rw [put_same]
          exact ⟨a, hσ, hm⟩
        · cases e'
      · rw [if_neg hj] at e'
        obtain ⟨b, e1, q⟩ := r.io j2 m2 e'
        rw [put_ne (by simp; exact fun z => hj z.symm)]
        exact ⟨b, e1, q⟩
def getM (i : Nat) (ρ : Rho) : Option MC := match ixOf ρ i with
  | some x => getC ρ x
  | none => none
def setM (i : Nat) (m : MC) (ρ : Rho) : Rho := match ixOf ρ i with
  | some x => setC ρ x m
  | none => ρ
/-- the list of a slot, to be rewritten -/
theorem RepW.lst_at {c : Cc} {ioA : List Addr} {ρ : Rho} {σ : St} {H : Hp} {P : Pcs} {i : Nat} {xs : List PD} (r : RepW c ioA ρ σ H P) (e : getM i ρ = some (.lst xs)) : ∃ a vs, σ[i]? = some (some (.ref a)) ∧ H a = some (.lst vs) ∧ RpAll c.kc (P .g) vs xs ∧
    ∀ ws ys, RpAll c.kc (P .g) ws ys → ∃ P', Stp P P' ∧ RepW c ioA (setM i (.lst ys) ρ) σ (upd H a (.lst ws)) P' ∧ P' .g = P .g := by
  unfold getM at e
  cases ex : ixOf ρ i with
  | none => rw [ex] at e; cases e
  | some x =>
    rw [ex] at e
    obtain ⟨a, e1, ⟨vs, e2, e3⟩, hx⟩ := r.own_at ex e
    have hxg : x ≠ .g := by rcases hx with ⟨_, rfl, _⟩ | ⟨_, rfl, _⟩ <;> simp
    have ha : P x a = some (.lst vs) := by rw [e3]; exact one_same
    refine ⟨a, vs, e1, r.pc.sub x a _ ha, e2, fun ws ys hw => ?_⟩
    have hk : ∀ b o, H b = some o → P x b = none → upd H a (.lst ws) b = some o ∧ one a (.lst ws) b = none := fun b o eb n => by
      have hb : b ≠ a := fun z => by rw [z, ha] at n; cases n
      exact ⟨by rw [upd_ne hb]; exact eb, one_ne hb⟩
    obtain ⟨r2, s2⟩ := r.updC (m' := .lst ys) (H' := upd H a (.lst ws)) (M' := one a (.lst ws)) hx hk (same_one upd_same) ⟨ws, hw, rfl⟩
    exact ⟨put P x (one a (.lst ws)), s2, by unfold setM; rw [ex]; exact r2, put_ne (Ne.symm hxg)⟩
/-! ### a list's methods -/
/-- what the method does to the list, and what it gives -/
def LstM (X : Cx) (k : Kc) (id : String) (g : List PD → List PD → Option (List PD × PD)) : Prop := X.calm = true → k.K = X.K → ∃ r, MtR X id r ∧
  ∀ G H l vs ws xs ds xs' d Q, Same G H → H l = some (.lst ws) → RpAll k G ws xs → RpAll k G vs ds → g xs ds = some (xs', d) → (∀ v ws', Rp k G v d → RpAll k G ws' xs' → Q v (upd H l (.lst ws'))) → r (.ref l) vs H Q
def getL (i : Nat) (ρ : Rho) : Option (List PD) := match getM i ρ with
  | some (.lst xs) => some xs
  | _ => none
theorem getL_ok {i : Nat} {ρ : Rho} {xs : List PD} (h : getL i ρ = some xs) : getM i ρ = some (.lst xs) := by
  unfold getL at h
  split at h
  · rename_i e; cases h; exact e
  · cases h
def dMeth (i : Nat) (g : List PD → List PD → Option (List PD × PD)) (as : M (List PD)) : M PD := fun ρ => match getL i ρ with
  | some _ => mbind as (fun ds ρ' => match getL i ρ' with
    | some xs => (match g xs ds with
      | some (xs', d) => .ok d (setM i (.lst xs') ρ')
      | none => .bad)
    | none => .bad) ρ
  | none => .bad
section
variable {X : Cx} {c : Cc} {W : WX} {e : Expr} {es : List Expr} {apos cpos p : Pos} {x name : Str} {id : String} {g : List PD → List PD → Option (List PD × PD)} {as : M (List PD)}
theorem meth_core {ioA : List Addr} {r : V → List V → Hp → VK → Prop} {i : Nat} (hr : ∀ G H l vs ws xs ds xs' d Q, Same G H → H l = some (.lst ws) → RpAll c.kc G ws xs → RpAll c.kc G vs ds → g xs ds = some (xs', d) → (∀ v ws', Rp c.kc G v d → RpAll c.kc G ws' xs' → Q v (upd H l (.lst ws'))) → r (.ref l) vs H Q)
    {σ : St} {H : Hp} {Q : VK} (h : tM c ioA W (VRe c) (dMeth i g as) σ H Q) : tBM X.K "list" r (tVar i) (tM c ioA W (VRas c) as) σ H Q := by
  obtain ⟨ρ, P, rp, h⟩ := h
  unfold tMat dMeth at h
  cases e0 : getL i ρ with
  | none => simp only [e0] at h
  | some xs0 =>
    simp only [e0] at h
    obtain ⟨a, vs0, h1, h2, _⟩ := rp.lst_at (getL_ok e0)
    refine ⟨.ref a, h1, .inl ⟨rfl, _, .inl (.inl h2)⟩, ρ, P, rp, ?_⟩
    have h : tMat c ioA W (VRe c) (mbind as fun ds ρ' => match getL i ρ' with
      | some xs => (match g xs ds with
        | some (xs', d) => R.ok d (setM i (.lst xs') ρ')
        | none => .bad)
      | none => .bad) ρ P σ Q := h
    refine h.bind.mono fun vs H1 ⟨ds, ρ1, P1, s1, r1, v1, h3⟩ => ?_
    unfold tMat at h3
    cases e1 : getL i ρ1 with
    | none => simp only [e1] at h3
    | some xs =>
      simp only [e1] at h3
      cases e2 : g xs ds with
      | none => simp only [e2] at h3
      | some z =>
        obtain ⟨xs', d⟩ := z
        simp only [e2] at h3
        obtain ⟨b, ws, h5, h6, h7, h8⟩ := r1.lst_at (getL_ok e1)
        rw [h1] at h5; cases h5
        refine hr _ _ _ _ _ _ _ _ _ _ (r1.pc.sub .g) h6 h7 v1 e2 fun v ws' hv hw => ?_
        obtain ⟨P', s', r', eg⟩ := h8 ws' xs' hw
        exact h3 v _ P' s' r' (by show Rp c.kc (P' .g) v d; rw [eg]; exact hv)
theorem de_meth (i : Nat) (hm : LstM X c.kc id g) (cm : X.calm = true) (slot : PySem.Slot "list" name id) (hty : typeOf (.builtin id) = pure (.type "method_descriptor")) (ha : DEs X c W (e :: es) as) (hN : X.N[i]? = some x := by rfl)
    (hv : Vis X.env.scope x := by first | exact Or.inl rfl | exact Or.inr (Or.inl rfl) | exact Or.inr (Or.inr rfl)) (hd : (x == ("__debug__" : Str)) = false := by decide) (hcd : (x == ("__classdict__" : Str)) = false := by decide)
    (hbase : attributeBase (.Name x p) name X.env (eval (.Name x p) X.env) = eval (.Name x p) X.env := by rfl)
    (hfew : ((backTo cpos (starEach (e :: es) X.env)).all (fun x => !x.1) && (backToKw cpos (keywordEach [] X.env)).all (fun x => x.1.isSome) && decide ((e :: es).length + ([] : List Keyword).length + (if ([] : List Keyword).isEmpty then 0 else 1) < 30)) = true := by rfl)
    (hline : (apos.endLine == cpos.line) = true := by rfl) (hs : starEach (e :: es) X.env = (false, eval e X.env) :: starEach es X.env := by rfl) (hplain : (backTo cpos (starEach es X.env)).any (·.1) = false := by rfl) :
    DE X c W (.Call (.Attribute (.Name x p) name apos) (e :: es) [] cpos) (dMeth i g as) := fun gd ioA => by
  obtain ⟨r, h1, h2⟩ := hm cm gd.hK
  exact PE.imp (pe_bm PySem.F.plainAttrs_list slot hty h1 (pe_var hN hv hd hcd) (ha gd ioA) hbase hfew hline hs hplain) fun σ H Q h => meth_core h2 h
theorem de_meth0 (i : Nat) (hm : LstM X c.kc id g) (cm : X.calm = true) (slot : PySem.Slot "list" name id) (hty : typeOf (.builtin id) = pure (.type "method_descriptor")) (hN : X.N[i]? = some x := by rfl)
    (hv : Vis X.env.scope x := by first | exact Or.inl rfl | exact Or.inr (Or.inl rfl) | exact Or.inr (Or.inr rfl)) (hd : (x == ("__debug__" : Str)) = false := by decide) (hcd : (x == ("__classdict__" : Str)) = false := by decide)
    (hbase : attributeBase (.Name x p) name X.env (eval (.Name x p) X.env) = eval (.Name x p) X.env := by rfl)
    (hline : (apos.endLine == cpos.line) = true := by rfl) :
    DE X c W (.Call (.Attribute (.Name x p) name apos) [] [] cpos) (dMeth i g (mpure [])) := fun gd ioA => by
  obtain ⟨r, h1, h2⟩ := hm cm gd.hK
  refine PE.imp (pe_bm0 PySem.F.plainAttrs_list slot hty h1 (pe_var hN hv hd hcd) hbase (hline := hline)) fun σ H Q h => ?_
  obtain ⟨v, hv, ty, ρ, P, rp, h⟩ := meth_core (X := X) h2 h
  exact ⟨v, hv, ty, h.pure rp .nil⟩
end
def mAppend (xs : List PD) : List PD → Option (List PD × PD)
  | [d] => if xs.length < 10000000 then some (xs ++ [d], .none) else none
  | _ => none
def mExtend (xs : List PD) : List PD → Option (List PD × PD)
  | [.list ys] => if xs.length + ys.length < 10000000 then some (xs ++ ys, .none) else none
  | _ => none
def mPop (xs : List PD) : List PD → Option (List PD × PD)
  | [] => xs.getLast?.map fun d => (xs.dropLast, d)
  | [.int i] => if smallI i = true then ((ixN xs.length i).bind fun j => xs[j]?.map fun d => (xs.eraseIdx j, d)) else none
  | _ => none
section
variable {X : Cx} {k : Kc}
theorem m_append : LstM X k "list.append" mAppend := fun hc hK => ⟨_, mt_append, fun G H l vs ws xs ds xs' d Q s hl hw hv hg q => by
  unfold mAppend at hg
  split at hg
  · split at hg
    · rename_i hz
      cases hg
      cases hv with
      | cons a b =>
        cases b
        refine ⟨l, ws, _, rfl, rfl, hl, ?_, q _ _ .non (hw.append (.cons a .nil))⟩
        rw [hw.length]; have := sizeLine_eq; omega
    · cases hg
  · cases hg⟩
theorem m_extend : LstM X k "list.extend" mExtend := fun hc hK => ⟨_, mt_extend, fun G H l vs ws xs ds xs' d Q s hl hw hv hg q => by
  unfold mExtend at hg
  split at hg
  · split at hg
    · rename_i hz
      cases hg
      cases hv with
      | cons a b =>
        cases b
        cases a with
        | lst h1 h2 =>
          refine ⟨l, _, ws, _, rfl, rfl, hl, s _ _ h1, ?_, q _ _ .non (hw.append h2)⟩
          rw [hw.length, h2.length]; have := sizeLine_eq; omega
    · cases hg
  · cases hg⟩
theorem RpAll.dropLast {G : Hp} {vs : List V} {ds : List PD} (h : RpAll k G vs ds) : RpAll k G vs.dropLast ds.dropLast := by
  rw [List.dropLast_eq_take, List.dropLast_eq_take, h.length]
  exact h.take _
theorem m_pop : LstM X k "list.pop" mPop := fun hc hK => ⟨_, L2.MtR.or mt_pop mt_popAt, fun G H l vs ws xs ds xs' d Q s hl hw hv hg q => by
  unfold mPop at hg
  split at hg
  · cases hv
    obtain ⟨y, e1, e2⟩ := Option.map_eq_some_iff.mp hg
    cases e2
    rw [List.getLast?_eq_getElem?] at e1
    obtain ⟨v, e3, e4⟩ := hw.get e1
    rw [← hw.length] at e3
    exact .inl ⟨l, ws, v, rfl, rfl, hl, e3, q v _ e4 hw.dropLast⟩
  · cases hv with
    | cons a b =>
      cases b; cases a
      split at hg
      case isFalse => cases hg
      rename_i i hi
      have hi' : -(2 ^ 62) ≤ i ∧ i < 2 ^ 62 := of_decide_eq_true hi
      obtain ⟨j, e1, e2⟩ := Option.bind_eq_some_iff.mp hg
      obtain ⟨y, e3, e4⟩ := Option.map_eq_some_iff.mp e2
      cases e4
      obtain ⟨v, e5, e6⟩ := hw.get e3
      rw [← hw.length] at e1
      obtain ⟨h1, h2, h3, h4⟩ := ixN_seq e1
      exact .inr ⟨l, ws, _, j, v, rfl, rfl, hl, by omega, by omega, h1, e5, q v _ e6 (hw.eraseIdx j)⟩
  · cases hg⟩
end
end Den

set_option Elab.async false
set_option linter.all false
set_option maxRecDepth 100000
/-! DenN: stores: subscripts, op=, tuples with new lists, fields. -/
namespace Den
open PySem PySem.Spec
open PyProof.Rows L2

/-! ### x[i] = e -/
def dSetI (i : Nat) (fi fv : M PD) : M Fl := mbind fv fun d ρ => match getL i ρ with
  | some _ => mbind fi (fun ix ρ' => match ix, getL i ρ' with
    | .int k, some xs => (match ixN xs.length k with
      | some j => .ok .nx (setM i (.lst (xs.set j d)) ρ')
      | none => .bad)
    | _, _ => .bad) ρ
  | none => .bad
section
variable {X : Cx} {c : Cc} {W : WX} {e ie : Expr} {es : List Expr} {pos pos' p tp : Pos} {x : Str} {fi fv f : M PD}
theorem ds_setI (i : Nat) (hv : DE X c W e fv) (hi : DE X c W ie fi) (hN : X.N[i]? = some x := by rfl) (hvs : Vis X.env.scope x := by first | exact Or.inl rfl | exact Or.inr (Or.inl rfl) | exact Or.inr (Or.inr rfl)) (hd : (x == ("__debug__" : Str)) = false := by decide)
    (hcd : (x == ("__classdict__" : Str)) = false := by decide)
    (ha : ∀ v, assign (.Subscript (.Name x p) ie tp) X.env v = (do
      let ov ← holding [v] (eval (.Name x p) X.env)
      let iv ← holding [v, ov] (eval ie X.env)
      standAt tp
      holding [v, ov, iv] (setItem ov iv v)
      release [v, ov, iv] []) := by intro _; rfl)
    (hs : swapsWithSole [.Subscript (.Name x p) ie tp] e pos.line X.env = pure false := by rfl) (hw : swappedStores [.Subscript (.Name x p) ie tp] e X.env = pure none := by rfl)
    (h1 : (assignEach [.Subscript (.Name x p) ie tp] X.env).map (·.2) = [assign (.Subscript (.Name x p) ie tp) X.env] := by rfl) :
    DS X c W (.Assign [.Subscript (.Name x p) ie tp] e pos) (dSetI i fi fv) := fun gd ioA => by
  refine PS.imp (ps_asg (hv gd ioA) (pg_sub (pe_var hN hvs hd hcd) (hi gd ioA) set_list ha) hs hw h1) fun D σ H ⟨ρ, P, rp, h⟩ => ⟨ρ, P, rp, h.bind.mono fun v H1 ⟨d, ρ1, P1, s1, r1, v1, h1⟩ => ?_⟩
  unfold tSat at h1
  cases e0 : getL i ρ1 with
  | none => simp only [e0] at h1
  | some xs0 =>
    simp only [e0] at h1
    obtain ⟨a, vs0, q1, q2, _⟩ := r1.lst_at (getL_ok e0)
    refine ⟨.ref a, q1, ρ1, P1, r1, ?_⟩
    have h1 : tSat c ioA W (mbind fi fun ix ρ' => match ix, getL i ρ' with
      | .int k, some xs => (match ixN xs.length k with
        | some j => R.ok Fl.nx (setM i (.lst (xs.set j d)) ρ')
        | none => .bad)
      | _, _ => .bad) ρ1 P1 D := h1
    refine h1.bind.mono fun iv H2 ⟨ix, ρ2, P2, s2, r2, v2, h2⟩ => ?_
    unfold tSat at h2
    cases ix with
    | int k =>
      cases e1 : getL i ρ2 with
      | none => simp only [e1] at h2
      | some xs =>
        simp only [e1] at h2
        cases e2 : ixN xs.length k with
        | none => simp only [e2] at h2
        | some j =>
          simp only [e2] at h2
          have v2' : Rp c.kc (P2 .g) iv (.int k) := v2
          cases v2'
          obtain ⟨b, ws, q3, q4, q5, q6⟩ := r2.lst_at (getL_ok e1)
          rw [q1] at q3; cases q3
          obtain ⟨P', s', r', eg⟩ := q6 (ws.set j v) (xs.set j d) (q5.set j (Rp.mono s2.g v1))
          exact ⟨a, ws, k, j, rfl, rfl, q4, by rw [q5.length]; exact e2, h2 σ _ P' s' r'⟩
    | _ => simp only at h2
/-! ### x op= e, ints -/
def dAugI (i : Nat) (h : Int → Int → Int) (f : M PD) : M Fl := fun ρ => match ρ.sl[i]? with
  | some (.val (.int a)) => mbind f (fun d ρ' => match d with
    | .int b => .ok .nx { ρ' with sl := ρ'.sl.set i (.val (.int (h a b))) }
    | _ => .bad) ρ
  | _ => .bad
theorem ds_augI (i : Nat) {op : Operator} {h : Int → Int → Int} (ho : PIp X op (ipI h)) (he : DE X c W e f) (hN : X.N.Nodup) (hi : X.N[i]? = some x := by rfl) (hx : Loc X.env.scope x := by first | exact Or.inl rfl | exact Or.inr rfl)
    (hf : X.fn x = true ∨ X.env.scope.names.lookup x = some .local := by first | exact .inl rfl | exact .inr rfl | assumption) : DS X c W (.AugAssign (.Name x pos') op e pos) (dAugI i h f) := fun gd ioA => by
  refine PS.imp (ps_aug hN hi hx (he gd ioA) ho hf) fun D σ H ⟨ρ, P, rp, hh⟩ => ?_
  have key : ∃ a, ρ.sl[i]? = some (.val (.int a)) := by
    unfold tSat dAugI at hh
    cases e0 : ρ.sl[i]? with
    | none => simp only [e0] at hh
    | some s =>
      cases s with
      | val d =>
        cases d with
        | int a => exact ⟨a, rfl⟩
        | _ => simp only [e0] at hh
      | _ => simp only [e0] at hh
  obtain ⟨a, ea⟩ := key
  have hh' : tSat c ioA W (mbind f fun d ρ' => match d with
    | .int b => R.ok Fl.nx { ρ' with sl := ρ'.sl.set i (.val (.int (h a b))) }
    | _ => .bad) ρ P D := by
    unfold tSat dAugI at hh
    simp only [ea] at hh
    exact hh
  obtain ⟨v, e1, e2⟩ := rp.so i _ ea
  cases e2
  refine ⟨.int a, e1, ρ, P, rp, hh'.bind.mono fun w H1 ⟨d, ρ1, P1, s1, r1, v1, h1⟩ => ?_⟩
  cases d with
  | int b =>
    have v1' : Rp c.kc (P1 .g) w (.int b) := v1
    cases v1'
    exact ⟨a, b, rfl, rfl, h1 _ H1 _ stp_drop (r1.setVal (.int _))⟩
  | _ => exact h1.elim
end
/-! ### x, y, .. = e, f, .. with new lists among them -/
inductive El where
  | val (f : M PD) | fre (f : M (List PD))
inductive Ev where
  | val (d : PD) | own (j : Nat)
def elsM : List El → Nat → M (List Ev)
  | [], _ => mpure []
  | .val f :: r, n => mbind f fun d => mbind (elsM r n) fun es => mpure (.val d :: es)
  | .fre f :: r, n => mbind f fun xs ρ => if slOkN ρ = true ∧ ρ.io.length = n then mbind (elsM r (n + 1)) (fun es => mpure (.own n :: es)) { ρ with io := ρ.io ++ [.lst xs] } else .bad
def nFre : List El → Nat
  | [] => 0
  | .val _ :: r => nFre r
  | .fre _ :: r => nFre r + 1
def VREv (c : Cc) (ioA : List Addr) (P : Pcs) : Ev → V → Prop
  | .val d, v => Rp c.kc (P .g) v d
  | .own j, v => ∃ a, ioA[j]? = some a ∧ v = .ref a
inductive VREvs (c : Cc) (ioA : List Addr) (P : Pcs) : List Ev → List V → Prop
  | nil : VREvs c ioA P [] []
  | cons {e : Ev} {v : V} {es : List Ev} {vs : List V} : VREv c ioA P e v → VREvs c ioA P es vs → VREvs c ioA P (e :: es) (v :: vs)
def tElAt (c : Cc) (W : WX) (g : M (List Ev)) (k : Nat) (ioA : List Addr) (ρ : Rho) (P : Pcs) (σ : St) (Q : List V → Hp → Prop) : Prop := match g ρ with
  | .ok evs ρ' => ∀ as vs H' P', as.length = k → Stp P P' → RepW c (ioA ++ as) ρ' σ H' P' → VREvs c (ioA ++ as) P' evs vs → Q vs H'
  | .exc x ρ' => ∀ as cls dx H' P', Stp P P' → RepW c (ioA ++ as) ρ' σ H' P' → XR c.kc x cls dx H' P' → W cls dx σ H'
  | .bad => False
def tEl (c : Cc) (W : WX) (els : List El) (n : Nat) (ioA : List Addr) : TA := fun σ H Q => ∃ ρ P, RepW c ioA ρ σ H P ∧ ioA.length = n ∧ tElAt c W (elsM els n) (nFre els) ioA ρ P σ Q
def DEls (X : Cx) (c : Cc) (W : WX) (es : List Expr) (els : List El) : Prop := Gd X c → ∀ n ioA, PA X es (tEl c W els n ioA)
theorem RepW.push {c : Cc} {ioA : List Addr} {ρ : Rho} {σ : St} {H : Hp} {P : Pcs} {p : Addr} {m : MC} (r : RepW c ioA ρ σ H P) (hm : MR c.kc (P .g) m p (P .t)) (hl : ρ.io.length = ioA.length) :
    RepW c (ioA ++ [p]) { ρ with io := ρ.io ++ [m] } σ H (put (put P .t emp) (.io ρ.io.length) (P .t)) ∧ Stp P (put (put P .t emp) (.io ρ.io.length) (P .t)) := by
  have eg : put (put P .t emp) (.io ρ.io.length) (P .t) .g = P .g := by rw [put_ne (by simp), put_ne (by simp)]
  refine ⟨⟨Pc.mv (x := .t) (y := .io ρ.io.length) r.pc (by simp), r.len, fun i s e => ?_, fun j m' e => ?_⟩, ⟨by rw [eg]; exact Same.refl _, by rw [put_ne (by simp), put_ne (by simp)]⟩⟩
  · rw [eg, put_ne (by simp), put_ne (by simp)]
    have so := r.so i s e
    cases s with
    | io j =>
      obtain ⟨b, f1, f2⟩ := so
      have := List.getElem?_eq_some_iff.mp f1
      obtain ⟨z, _⟩ := this
      exact ⟨b, by rw [List.getElem?_append_left z]; exact f1, f2⟩
    | no => exact so
    | val d => exact so
    | own m => exact so
    | xc x => exact so
  · rw [eg]
    have e' : (ρ.io ++ [m])[j]? = some m' := e
    by_cases hj : j < ρ.io.length
    · rw [List.getElem?_append_left hj] at e'
      obtain ⟨b, f1, f2⟩ := r.io j m' e'
      refine ⟨b, by rw [List.getElem?_append_left (by omega)]; exact f1, ?_⟩
      rw [put_ne (by simp; omega), put_ne (by simp)]
      exact f2
    · have ej : j = ρ.io.length := by
        have := List.getElem?_eq_some_iff.mp e'
        obtain ⟨z, _⟩ := this
        simp at z
        omega
      subst ej
      have em : m' = m := by rw [List.getElem?_append_right (Nat.le_refl _)] at e'; simpa using e'.symm
      subst em
      refine ⟨p, ?_, by rw [put_same]; exact hm⟩
      rw [hl, List.getElem?_append_right (Nat.le_refl _)]
      simp
theorem VREvs.length {c : Cc} {ioA : List Addr} {P : Pcs} : ∀ {es : List Ev} {vs : List V}, VREvs c ioA P es vs → vs.length = es.length
  | _, _, .nil => rfl
  | _, _, .cons _ r => by simp [VREvs.length r]
theorem VREv.step {c : Cc} {ioA as : List Addr} {P P' : Pcs} {e : Ev} {v : V} (h : VREv c ioA P e v) (s : Stp P P') : VREv c (ioA ++ as) P' e v := by
  cases e with
  | val d => exact Rp.mono s.g h
  | own j =>
    obtain ⟨a, h1, h2⟩ := h
    have := List.getElem?_eq_some_iff.mp h1
    obtain ⟨z, _⟩ := this
    exact ⟨a, by rw [List.getElem?_append_left z]; exact h1, h2⟩
section
variable {X : Cx} {c : Cc} {W : WX} {e : Expr} {es : List Expr} {pos pos' p tp : Pos} {f : M PD} {ff : M (List PD)} {els : List El}
theorem dels_nil : DEls X c W [] [] := fun gd n ioA => PA.imp pa_nil fun σ H Q ⟨ρ, P, rp, hl, h⟩ => h [] [] H P rfl (Stp.refl _) (by rw [List.append_nil]; exact rp) .nil
theorem dels_val (ha : DE X c W e f) (hr : DEls X c W es els) (hs : starEach (e :: es) X.env = (false, eval e X.env) :: starEach es X.env := by rfl) : DEls X c W (e :: es) (.val f :: els) := fun gd n ioA => by
  refine PA.imp (pa_cons (ha gd ioA) (hr gd n ioA) hs) fun σ H Q ⟨ρ, P, rp, hl, h⟩ => ⟨ρ, P, rp, ?_⟩
  unfold tElAt elsM mbind at h
  unfold tMat
  cases e1 : f ρ with
  | bad => simp only [e1] at h
  | exc x ρ1 =>
    simp only [e1] at h
    exact fun cls dx H' P' s r q => h [] cls dx H' P' s (by rw [List.append_nil]; exact r) q
  | ok d ρ1 =>
    simp only [e1] at h
    intro v H1 P1 s1 r1 v1
    refine ⟨ρ1, P1, r1, hl, ?_⟩
    unfold tElAt
    cases e2 : elsM els n ρ1 with
    | bad => simp only [e2] at h
    | exc x ρ2 => simp only [e2] at h; exact fun as cls dx H' P' s r q => h as cls dx H' P' (s1.trans s) r q
    | ok evs ρ2 =>
      simp only [e2] at h
      intro as vs H2 P2 hk s2 r2 v2
      exact h as (v :: vs) H2 P2 hk (s1.trans s2) r2 (.cons (Rp.mono s2.g v1) v2)
theorem dels_fre (ha : DF X c W e ff) (hr : DEls X c W es els) (hs : starEach (e :: es) X.env = (false, eval e X.env) :: starEach es X.env := by rfl) : DEls X c W (e :: es) (.fre ff :: els) := fun gd n ioA => by
  refine ⟨fun pos pins s σ H Q I ⟨ρ, P, rp, hl, h⟩ => ?_⟩
  rw [hs]
  show wpAny _ _ (spliced ((false, eval e X.env) :: backTo pos (starEach es X.env))) _ _ s
  unfold tElAt elsM mbind at h
  have h0 : tM c ioA W (VRf c) ff σ H (fun v H1 => ∃ p xs ρ1 P1, v = .ref p ∧ ff ρ = .ok xs ρ1 ∧ Stp P P1 ∧ RepW c ioA ρ1 σ H1 P1 ∧ MR c.kc (P1 .g) (.lst xs) p (P1 .t)) := by
    refine ⟨ρ, P, rp, ?_⟩
    unfold tMat
    cases e1 : ff ρ with
    | bad => simp only [e1] at h
    | exc x ρ1 =>
      simp only [e1] at h
      exact fun cls dx H' P' s r q => h [] cls dx H' P' s (by rw [List.append_nil]; exact r) q
    | ok xs ρ1 =>
      intro v H1 P1 s1 r1 v1
      obtain ⟨p, e, hm⟩ := v1
      exact ⟨p, xs, ρ1, P1, e, rfl, s1, r1, hm⟩
  refine Calls.spliced_cons (thn ((ha gd ioA).run pins s σ H _ I h0) fun u s1 ⟨x, H1, I1, r1, p, xs, ρ1, P1, ex, e1, st1, rw1, hm⟩ => ?_)
  subst ex
  simp only [e1] at h
  by_cases hc : slOkN ρ1 = true ∧ ρ1.io.length = n
  case neg => rw [if_neg hc] at h; exact h.elim
  rw [if_pos hc] at h
  have hlen : ρ1.io.length = ioA.length := by rw [hl]; exact hc.2
  obtain ⟨r2, st2⟩ := rw1.push hm hlen
  have h3 : tEl c W els (n + 1) (ioA ++ [p]) σ H1 (fun vs H2 => Q (.ref p :: vs) H2) := by
    refine ⟨_, _, r2, by simp [hl], ?_⟩
    unfold tElAt
    cases e2 : elsM els (n + 1) { ρ1 with io := ρ1.io ++ [.lst xs] } with
    | bad => simp only [e2] at h
    | exc x ρ2 =>
      simp only [e2] at h
      exact fun as cls dx H' P' s r q => h (p :: as) cls dx H' P' ((st1.trans st2).trans s) (by simpa using r) q
    | ok evs ρ2 =>
      simp only [e2] at h
      intro as vs H2 P2 hk s2 r3 v2
      refine h (p :: as) (.ref p :: vs) H2 P2 (by simp [nFre, hk]) ((st1.trans st2).trans s2) (by simpa using r3) (.cons ⟨p, ?_, rfl⟩ (by simpa using v2))
      rw [← hl, List.getElem?_append_right (Nat.le_refl _)]
      simp
  exact thn ((hr gd (n + 1) (ioA ++ [p])).run pos pins s1 σ H1 _ I1 h3) fun us s2 ⟨vs, H2, I2, r3, q2⟩ => ⟨.ref p :: vs, H2, I2, .cons r1 r3, q2⟩
end
/-! what happens behind: the slots are set, the new lists go to their slots -/
def evS : Ev → Slot
  | .val d => .val d
  | .own j => .io j
def setE : List Nat → List Ev → Rho → Rho
  | i :: is, e :: es, ρ => setE is es { ρ with sl := ρ.sl.set i (evS e) }
  | _, _, ρ => ρ
def setsV : List Nat → List V → St → St
  | i :: is, v :: vs, σ => setsV is vs (σ.set i (some v))
  | _, _, σ => σ
def popS : Nat → List Nat → Rho → Rho
  | _, [], ρ => ρ
  | n, i :: ps, ρ => lendB i n (popS (n + 1) ps ρ)
/-- the slots of the new lists -/
def freS : List Nat → List El → List Nat
  | i :: is, .fre _ :: es => i :: freS is es
  | _ :: is, .val _ :: es => freS is es
  | _, _ => []
def cutS (n : Nat) : Slot → Slot
  | .io j => if j < n then .io j else .no
  | s => s
def cutIo (n : Nat) (ρ : Rho) : Rho := { sl := ρ.sl.map (cutS n), io := ρ.io.take n }
def dMix (is : List Nat) (els : List El) : M Fl := fun ρ => if slOkN ρ = true then (match elsM els ρ.io.length ρ with
  | .ok evs ρ' => .ok .nx (popS ρ.io.length (freS is els) (setE is evs ρ'))
  | .exc x ρ' => .exc x (cutIo ρ.io.length ρ')
  | .bad => .bad) else .bad
section
variable {c : Cc} {ioA : List Addr} {ρ : Rho} {σ : St} {H : Hp} {P : Pcs}
theorem RepW.setEv {i : Nat} {v : V} {w : Ev} (r : RepW c ioA ρ σ H P) (h : VREv c ioA P w v) : RepW c ioA { ρ with sl := ρ.sl.set i (evS w) } (σ.set i (some v)) H (put P (.sl i) emp) where
  pc := r.pc.drop
  len := by simpa using r.len
  so := fun j s e => by
    rw [show put P (.sl i) emp .g = P .g from put_ne (by simp)]
    rw [List.getElem?_set] at e
    by_cases hj : i = j
    · subst hj
      simp only [if_true] at e
      split at e
      · rename_i hl
        have ev : (σ.set i (some v))[i]? = some (some v) := by rw [List.getElem?_set_self (by rw [r.len]; exact hl)]
        cases e
        cases w with
        | val d => exact ⟨v, ev, h⟩
        | own j => obtain ⟨a, h1, rfl⟩ := h; exact ⟨a, h1, ev⟩
      · cases e
    · rw [if_neg hj] at e
      rw [List.getElem?_set_ne hj, put_ne (by simp; exact fun z => hj z.symm)]
      exact r.so j s e
  io := fun j m e => by
    rw [show put P (.sl i) emp .g = P .g from put_ne (by simp), put_ne (by simp)]
    exact r.io j m e
theorem RepW.setEs : ∀ {is : List Nat} {vs : List V} {es : List Ev} {ρ : Rho} {σ : St} {P : Pcs}, RepW c ioA ρ σ H P → VREvs c ioA P es vs → ∃ P', Stp P P' ∧ RepW c ioA (setE is es ρ) (setsV is vs σ) H P'
  | [], vs, es, ρ, σ, P, r, h => by
    refine ⟨P, Stp.refl _, ?_⟩
    cases es <;> cases vs <;> exact r
  | i :: is, _, _, ρ, σ, P, r, .nil => ⟨P, Stp.refl _, r⟩
  | i :: is, _, _, ρ, σ, P, r, .cons h t => by
    have r1 := r.setEv (i := i) h
    have ht : ∀ {es : List Ev} {vs : List V}, VREvs c ioA P es vs → VREvs c ioA (put P (.sl i) emp) es vs := fun q => by
      induction q with
      | nil => exact .nil
      | cons a b ih =>
        refine .cons ?_ ih
        have := a.step (as := []) (stp_drop (P := P) (i := i) (M := emp))
        rw [List.append_nil] at this
        exact this
    obtain ⟨P', s', r'⟩ := RepW.setEs (is := is) r1 (ht t)
    exact ⟨P', stp_drop.trans s', r'⟩
theorem RepW.wide {bs : List Addr} (r : RepW c ioA ρ σ H P) : RepW c (ioA ++ bs) ρ σ H P where
  pc := r.pc
  len := r.len
  so := fun i s e => by
    have so := r.so i s e
    cases s with
    | io j =>
      obtain ⟨b, f1, f2⟩ := so
      have := List.getElem?_eq_some_iff.mp f1
      obtain ⟨z, _⟩ := this
      exact ⟨b, by rw [List.getElem?_append_left z]; exact f1, f2⟩
    | no => exact so
    | val d => exact so
    | own m => exact so
    | xc x => exact so
  io := fun j m e => by
    obtain ⟨b, f1, f2⟩ := r.io j m e
    have := List.getElem?_eq_some_iff.mp f1
    obtain ⟨z, _⟩ := this
    exact ⟨b, by rw [List.getElem?_append_left z]; exact f1, f2⟩
theorem RepW.norm (r : RepW c ioA ρ σ H P) (ok : slOkN ρ = true) : RepW c (ioA.take ρ.io.length) ρ σ H P := by
  have gl := r.ioLen
  have lo : ∀ j, j < ρ.io.length → (ioA.take ρ.io.length)[j]? = ioA[j]? := fun j hj => by rw [List.getElem?_take, if_pos hj]
  refine ⟨r.pc, r.len, fun i s e => ?_, fun j m e => ?_⟩
  · have so := r.so i s e
    cases s with
    | io j =>
      have hj : j < ρ.io.length := by
        have := List.all_eq_true.mp ok (.io j) (List.mem_of_getElem? e)
        exact of_decide_eq_true this
      obtain ⟨b, f1, f2⟩ := so
      exact ⟨b, by rw [lo j hj]; exact f1, f2⟩
    | no => exact so
    | val d => exact so
    | own m => exact so
    | xc x => exact so
  · obtain ⟨b, f1, f2⟩ := r.io j m e
    have := List.getElem?_eq_some_iff.mp e
    obtain ⟨z, _⟩ := this
    exact ⟨b, by rw [lo j z]; exact f1, f2⟩
theorem RepW.pops : ∀ {ps : List Nat} {as : List Addr} {n : Nat} {ioA : List Addr} {ρ : Rho} {P : Pcs}, as.length = ps.length → ioA.length = n → RepW c (ioA ++ as) ρ σ H P → ∃ P', Stp P P' ∧ RepW c ioA (popS n ps ρ) σ H P'
  | [], [], n, ioA, ρ, P, _, hl, r => ⟨P, Stp.refl _, by rw [List.append_nil] at r; exact r⟩
  | i :: ps, a :: as, n, ioA, ρ, P, hk, hl, r => by
    obtain ⟨P1, s1, r1⟩ := RepW.pops (ps := ps) (as := as) (n := n + 1) (ioA := ioA ++ [a]) (by simpa using hk) (by simp [hl]) (by simpa using r)
    have e : ioA.take n ++ [a] = ioA ++ [a] := by rw [← hl, List.take_length]
    rw [← e] at r1
    exact ⟨_, stp_back s1, r1.back (i := i) (by omega)⟩
theorem RepW.cut {as : List Addr} {n : Nat} (hl : ioA.length = n) (r : RepW c (ioA ++ as) ρ σ H P) : RepW c ioA (cutIo n ρ) σ H P where
  pc := r.pc
  len := by show σ.length = (ρ.sl.map _).length; rw [List.length_map]; exact r.len
  so := fun i s e => by
    have e' : (ρ.sl.map (cutS n))[i]? = some s := e
    rw [List.getElem?_map] at e'
    cases e2 : ρ.sl[i]? with
    | none => rw [e2] at e'; cases e'
    | some s2 =>
      rw [e2] at e'
      have e' := Option.some.inj e'
      have so := r.so i s2 e2
      cases s2 with
      | io j =>
        have e' : (if j < n then Slot.io j else .no) = s := e'
        by_cases hj : j < n
        · rw [if_pos hj] at e'
          subst e'
          obtain ⟨b, f1, f2⟩ := so
          exact ⟨b, by rw [List.getElem?_append_left (by omega)] at f1; exact f1, f2⟩
        · rw [if_neg hj] at e'
          subst e'; trivial
      | no => subst e'; trivial
      | val d => subst e'; exact so
      | own m => subst e'; exact so
      | xc x => subst e'; exact so
  io := fun j m e => by
    have e' : (ρ.io.take n)[j]? = some m := e
    rw [List.getElem?_take] at e'
    split at e'
    · rename_i hj
      obtain ⟨b, f1, f2⟩ := r.io j m e'
      exact ⟨b, by rw [List.getElem?_append_left (by omega)] at f1; exact f1, f2⟩
    · cases e'
end
theorem freS_len : ∀ {is : List Nat} {els : List El}, is.length = els.length → (freS is els).length = nFre els
  | [], [], _ => rfl
  | i :: is, .fre _ :: es, h => by show (freS is es).length + 1 = nFre es + 1; rw [freS_len (by simpa using h)]
  | i :: is, .val _ :: es, h => by show (freS is es).length = nFre es; exact freS_len (by simpa using h)
theorem elsM_len : ∀ {els : List El} {n : Nat} {ρ ρ' : Rho} {evs : List Ev}, elsM els n ρ = .ok evs ρ' → evs.length = els.length
  | [], _, _, _, _, h => by unfold elsM mpure at h; cases h; rfl
  | .val f :: r, n, ρ, ρ', evs, h => by
    unfold elsM mbind at h
    cases e1 : f ρ with
    | ok d ρ1 =>
      simp only [e1] at h
      cases e2 : elsM r n ρ1 with
      | ok es ρ2 => simp only [e2, mpure] at h; cases h; simp [elsM_len e2]
      | exc x ρ2 => simp only [e2] at h; cases h
      | bad => simp only [e2] at h; cases h
    | exc x ρ1 => simp only [e1] at h; cases h
    | bad => simp only [e1] at h; cases h
  | .fre f :: r, n, ρ, ρ', evs, h => by
    unfold elsM mbind at h
    cases e1 : f ρ with
    | ok d ρ1 =>
      simp only [e1] at h
      split at h
      · cases e2 : elsM r (n + 1) { ρ1 with io := ρ1.io ++ [.lst d] } with
        | ok es ρ2 => simp only [e2, mpure] at h; cases h; simp [elsM_len e2]
        | exc x ρ2 => simp only [e2] at h; cases h
        | bad => simp only [e2] at h; cases h
      · cases h
    | exc x ρ1 => simp only [e1] at h; cases h
    | bad => simp only [e1] at h; cases h
theorem mix_core {c : Cc} {ioA : List Addr} {W : WX} {is : List Nat} {els : List El} {ρ : Rho} {P : Pcs} {σ : St} {H : Hp} {D : Ends} (hl : is.length = els.length) (r : RepW c ioA ρ σ H P) (h : tSat c ioA W (dMix is els) ρ P D) :
    tEl c W els ρ.io.length (ioA.take ρ.io.length) σ H (fun vs H' => ∃ evs : List Ev, evs.length = els.length ∧ vs.length = els.length ∧ D.nx (setsV is vs σ) H' ∧ ∀ p o, H' p = none → D.nx (setsV is vs σ) (upd H' p o)) := by
  unfold tSat dMix at h
  by_cases ok : slOkN ρ = true
  case neg => rw [if_neg ok] at h; exact h.elim
  rw [if_pos ok] at h
  have gl := r.ioLen
  have hn : (ioA.take ρ.io.length).length = ρ.io.length := by rw [List.length_take]; omega
  have ea : ioA.take ρ.io.length ++ ioA.drop ρ.io.length = ioA := List.take_append_drop _ _
  refine ⟨ρ, P, r.norm ok, hn, ?_⟩
  unfold tElAt
  cases e1 : elsM els ρ.io.length ρ with
  | bad => simp only [e1] at h
  | exc x ρ' =>
    simp only [e1] at h
    intro as cls dx H' P' s r' q
    have r2 := (r'.cut hn).wide (bs := ioA.drop ρ.io.length)
    rw [ea] at r2
    exact h cls dx σ H' P' s r2 q
  | ok evs ρ' =>
    simp only [e1] at h
    intro as vs H' P' hk s r' q
    have hlen := elsM_len e1
    obtain ⟨P1, s1, r1⟩ := RepW.setEs (is := is) r' q
    obtain ⟨P2, s2, r2⟩ := RepW.pops (ps := freS is els) (n := ρ.io.length) (by rw [hk, freS_len hl]) hn r1
    have r3 := r2.wide (bs := ioA.drop ρ.io.length)
    rw [ea] at r3
    have hv : vs.length = evs.length := q.length
    exact ⟨evs, hlen, by rw [hv, hlen], h _ H' P2 ((s.trans s1).trans s2) r3, fun p o hp => h _ _ _ (((s.trans s1).trans s2).trans (stp_new (r3.gnone hp))) (r3.new hp)⟩
theorem tEl.mono {c : Cc} {W : WX} {els : List El} {n : Nat} {ioA : List Addr} {σ : St} {H : Hp} {Q Q' : List V → Hp → Prop} (h : tEl c W els n ioA σ H Q) (i : ∀ vs H', Q vs H' → Q' vs H') : tEl c W els n ioA σ H Q' := by
  obtain ⟨ρ, P, r, hl, h⟩ := h
  refine ⟨ρ, P, r, hl, ?_⟩
  unfold tElAt at h ⊢
  cases e : elsM els n ρ with
  | ok evs ρ' => simp only [e] at h; exact fun as vs H' P' hk s r' q => i _ _ (h as vs H' P' hk s r' q)
  | exc x ρ' => simp only [e] at h; exact h
  | bad => simp only [e] at h
section
variable {X : Cx} {c : Cc} {W : WX} {e : Expr} {es : List Expr} {pos px py pz pt p2 : Pos} {els : List El} {x y z : Str} {a b d : Expr} {kt k2 : Nat}
theorem ds_par (i j : Nat) (hc : X.calm = true) (hN : X.N.Nodup) (hE : DEls X c W [a, b] els) (hl : els.length = 2) (hij : i ≠ j) (hi : X.N[i]? = some x := by rfl) (hj : X.N[j]? = some y := by rfl)
    (hx : X.env.scope.names.lookup x = some .local := by rfl) (hy : X.env.scope.names.lookup y = some .local := by rfl)
    (hw : swappedStores [.Tuple [.Name x px, .Name y py] kt pt] (.Tuple [a, b] k2 p2) X.env = pure (some [x, y]) := by rfl)
    (hs : swapsWithSole [.Tuple [.Name x px, .Name y py] kt pt] (.Tuple [a, b] k2 p2) pos.line X.env = pure false := by rfl) :
    DS X c W (.Assign [.Tuple [.Name x px, .Name y py] kt pt] (.Tuple [a, b] k2 p2) pos) (dMix [i, j] els) := fun gd ioA => by
  refine ⟨fun pins s σ H D I ⟨ρ, P, rp, h⟩ => ?_⟩
  refine (L2.ps_par hc hN hi hj hij hx hy (hE gd ρ.io.length (ioA.take ρ.io.length)) hw hs).run pins s σ H D I ?_
  refine (mix_core (by rw [hl]; rfl) rp h).mono fun vs H' ⟨evs, h1, h2, h3, _⟩ => ?_
  rw [hl] at h2
  match vs, h2, h3 with
  | [v, w], _, h3 => exact ⟨v, w, rfl, h3⟩
theorem ds_par3 (i j l : Nat) (hc : X.calm = true) (hN : X.N.Nodup) (hE : DEls X c W [a, b, d] els) (hl : els.length = 3) (hij : i ≠ j) (hil : i ≠ l) (hjl : j ≠ l) (hi : X.N[i]? = some x := by rfl) (hj : X.N[j]? = some y := by rfl) (hk : X.N[l]? = some z := by rfl)
    (hx : X.env.scope.names.lookup x = some .local := by rfl) (hy : X.env.scope.names.lookup y = some .local := by rfl) (hz : X.env.scope.names.lookup z = some .local := by rfl)
    (hw : swappedStores [.Tuple [.Name x px, .Name y py, .Name z pz] kt pt] (.Tuple [a, b, d] k2 p2) X.env = pure (some [x, y, z]) := by rfl)
    (hs : swapsWithSole [.Tuple [.Name x px, .Name y py, .Name z pz] kt pt] (.Tuple [a, b, d] k2 p2) pos.line X.env = pure false := by rfl) :
    DS X c W (.Assign [.Tuple [.Name x px, .Name y py, .Name z pz] kt pt] (.Tuple [a, b, d] k2 p2) pos) (dMix [i, j, l] els) := fun gd ioA => by
  refine ⟨fun pins s σ H D I ⟨ρ, P, rp, h⟩ => ?_⟩
  refine (L2.ps_par3 hc hN hi hj hk hij hil hjl hx hy hz (hE gd ρ.io.length (ioA.take ρ.io.length)) hw hs).run pins s σ H D I ?_
  refine (mix_core (by rw [hl]; rfl) rp h).mono fun vs H' ⟨evs, h1, h2, h3, _⟩ => ?_
  rw [hl] at h2
  match vs, h2, h3 with
  | [v, w, u], _, h3 => exact ⟨v, w, u, rfl, h3⟩
/-- the targets: names alone, at the slots is -/
inductive NmTs (X : Cx) : List Expr → List Nat → Prop
  | nil : NmTs X [] []
  | cons {i : Nat} {x : Str} {p : Pos} {es : List Expr} {is : List Nat} (hi : X.N[i]? = some x) (hx : Loc X.env.scope x) (hf : X.fn x = true ∨ X.env.scope.names.lookup x = some .local)
      (hs : (assignEach (.Name x p :: es) X.env).map (·.2) = assign (.Name x p) X.env :: (assignEach es X.env).map (·.2)) (r : NmTs X es is) : NmTs X (.Name x p :: es) (i :: is)
theorem pgs_nms (hN : X.N.Nodup) : ∀ {es : List Expr} {is : List Nat}, NmTs X es is → PGs X es (fun vs σ H Q => vs.length = is.length ∧ Q (setsV is vs σ) H)
  | _, _, .nil => PGs.imp pgs_nil fun vs σ H Q ⟨h1, h2⟩ => by
    cases vs with
    | nil => exact ⟨rfl, h2⟩
    | cons v vs => simp at h1
  | _, _, .cons hi hx hf hs r => PGs.imp (pgs_cons (pg_name hN hi hx hf) (pgs_nms hN r) hs) fun vs σ H Q ⟨h1, h2⟩ => by
    cases vs with
    | nil => simp at h1
    | cons v vs => exact ⟨v, vs, rfl, by simpa using h1, h2⟩
/-- by a tuple of its own -/
theorem ds_parN {ts : List Expr} {is : List Nat} (hc : X.calm = true) (hN : X.N.Nodup) (hE : DEls X c W es els) (hl : is.length = els.length) (hb : els.length ≤ 1000) (hT : NmTs X ts is) (hn : (assignEach ts X.env).length = is.length := by rfl)
    (hst : (assignEach ts X.env).findIdx? (·.1) = none := by rfl)
    (hs : swapsWithSole [.Tuple ts kt pt] (.Tuple es k2 p2) pos.line X.env = pure false := by rfl) (hw : swappedStores [.Tuple ts kt pt] (.Tuple es k2 p2) X.env = pure none := by rfl)
    (h1 : (assignEach [.Tuple ts kt pt] X.env).map (·.2) = [assign (.Tuple ts kt pt) X.env] := by rfl) : DS X c W (.Assign [.Tuple ts kt pt] (.Tuple es k2 p2) pos) (dMix is els) := fun gd ioA => by
  refine ⟨fun pins s σ H D I ⟨ρ, P, rp, h⟩ => ?_⟩
  refine (ps_asg (pe_tup (hE gd ρ.io.length (ioA.take ρ.io.length))) (pg_tup hc (pgs_nms hN hT) hn hst) hs hw h1).run pins s σ H D I ?_
  refine (mix_core hl rp h).mono fun vs H' ⟨evs, e1, e2, _, e3⟩ => ⟨by rw [e2]; exact small_size (by omega), fun q hq => ⟨q, vs, rfl, .inl (.inl upd_same), by rw [e2, hl], by rw [e2, hl], e3 q _ hq⟩⟩
end
/-! ### self.f = e -/
def putD (f : Str) (d : PD) : List (Str × PD) → List (Str × PD)
  | [] => [(f, d)]
  | (g, x) :: r => if g = f then (g, d) :: r else (g, x) :: putD f d r
theorem putD_rp {k : Kc} {G : Hp} {f : Str} {v : V} {d : PD} (hv : Rp k G v d) : ∀ {fs : List (Str × PD)} {vs : List (Str × V)}, RpFs k G vs (fs.map fun p => (.str p.1, p.2)) → RpFs k G (putF f v vs) ((putD f d fs).map fun p => (.str p.1, p.2))
  | [], vs, h => by cases h; exact .cons hv .nil
  | (g, x) :: r, vs, h => by
    cases h with
    | cons a b =>
      unfold putF putD
      by_cases hg : g = f
      · rw [if_pos hg, if_pos hg]; exact .cons hv b
      · rw [if_neg hg, if_neg hg]; exact .cons a (putD_rp hv b)
def dFldS (i : Nat) (ns : List Str) (f : Str) (fv : M PD) : M Fl := mbind fv fun d ρ => match getM i ρ with
  | some (.ins n fs) => if n ∈ ns ∧ fs.length < 1000 then .ok .nx (setM i (.ins n (putD f d fs)) ρ) else .bad
  | _ => .bad
theorem RpFs.length {k : Kc} {G : Hp} : ∀ {es : List (Str × V)} {ds : List (PD × PD)}, RpFs k G es ds → es.length = ds.length
  | _, _, .nil => rfl
  | _, _, .cons _ r => by simp [RpFs.length r]
section
variable {X : Cx} {c : Cc} {W : WX} {e : Expr} {pos p tp : Pos} {x f : Str} {ns : List Str} {fv : M PD}
theorem ds_fldS (i : Nat) (hv : DE X c W e fv) (hf : FldC c.kc ns f) (hN : X.N[i]? = some x := by rfl) (hvs : Vis X.env.scope x := by first | exact Or.inl rfl | exact Or.inr (Or.inl rfl) | exact Or.inr (Or.inr rfl)) (hd : (x == ("__debug__" : Str)) = false := by decide)
    (hcd : (x == ("__classdict__" : Str)) = false := by decide) (hs : swapsWith e (some (.Attribute (.Name x p) f tp)) pos.line X.env = pure false := by rfl) : DS X c W (.Assign [.Attribute (.Name x p) f tp] e pos) (dFldS i ns f fv) := fun gd ioA => by
  refine PS.imp (ps_fld (pe_var hN hvs hd hcd) (hv gd ioA) hs) fun D σ H ⟨ρ, P, rp, h⟩ => ⟨ρ, P, rp, h.bind.mono fun v H1 ⟨d, ρ1, P1, s1, r1, v1, h1⟩ => ?_⟩
  unfold tSat at h1
  cases e0 : getM i ρ1 with
  | none => simp only [e0] at h1
  | some m =>
    cases m with
    | ins n fs =>
      simp only [e0] at h1
      by_cases hn : n ∈ ns ∧ fs.length < 1000
      case neg => rw [if_neg hn] at h1; exact h1.elim
      rw [if_pos hn] at h1
      have e0' := e0
      unfold getM at e0
      cases ex : ixOf ρ1 i with
      | none => rw [ex] at e0; cases e0
      | some y =>
        rw [ex] at e0
        obtain ⟨a, q1, ⟨C, dx, vs, q2, q3, q4, q5⟩, hx⟩ := r1.own_at ex e0
        have ha : P1 y a = some (.ins C dx vs) := by rw [q5]; exact upd_same
        obtain ⟨c1, c2⟩ := hf n hn.1 C q2
        have hl : vs.length < 1000 := by rw [q3.length, List.length_map]; exact hn.2
        have hk : ∀ b o, H1 b = some o → P1 y b = none → upd H1 a (.ins C dx (putF f v vs)) b = some o ∧ upd (one dx (.own a)) a (.ins C dx (putF f v vs)) b = none := fun b o eb nb => by
          have hb : b ≠ a := fun z => by rw [z, ha] at nb; cases nb
          rw [q5] at nb
          rw [upd_ne hb] at nb
          exact ⟨by rw [upd_ne hb]; exact eb, by rw [upd_ne hb]; exact nb⟩
        have hsm : Same (upd (one dx (.own a)) a (.ins C dx (putF f v vs))) (upd H1 a (.ins C dx (putF f v vs))) := fun b o eb => by
          by_cases hb : b = a
          · subst hb; rw [upd_same] at eb ⊢; exact eb
          · rw [upd_ne hb] at eb ⊢
            exact r1.pc.sub y b o (by rw [q5, upd_ne hb]; exact eb)
        obtain ⟨r2, s2⟩ := r1.updC (m' := .ins n (putD f d fs)) (H' := upd H1 a (.ins C dx (putF f v vs))) (M' := upd (one dx (.own a)) a (.ins C dx (putF f v vs))) hx hk hsm ⟨C, dx, _, q2, putD_rp v1 q3, q4, rfl⟩
        have es : setM i (.ins n (putD f d fs)) ρ1 = setC ρ1 y (.ins n (putD f d fs)) := by unfold setM; rw [ex]
        rw [es] at h1
        exact ⟨.ref a, q1, a, C, dx, vs, rfl, r1.pc.sub y a _ ha, gd.hK ▸ c1, gd.hK ▸ c2, hl, h1 σ _ _ s2 r2⟩
    | _ => simp only [e0] at h1
end
end Den

set_option Elab.async false
set_option linter.all false
set_option maxRecDepth 100000
set_option maxHeartbeats 1000000
/-! DenX: an own exception class over own classes over Exception, its __init__: super().__init__(text); self.f = a. -/
namespace Den
open PySem PySem.W PySem.Calls
open PySem.Spec PyProof.Rows

/-- what stands behind the own classes in the order of such a class -/
def exBase : List Value := ["Exception", "BaseException", "object"].map Value.type
/-- what the written part says of such a class: all of it by the library's own tests -/
structure ClsX (K : PySem.W.Frag) (C : Addr) : Prop where
  made : PySem.W.excInitIn K C exBase "Exception.__new__" = true
  over : PySem.W.excOver K C exBase = true
  dict : PySem.W.hasDictIn K C = true
  sets : PySem.W.findIn K (.ref C) "__setattr__" = some (some (.builtin "object.__setattr__"))
  base : ∀ T ∈ ["BaseException", "Exception"], PySem.W.subIn K (.ref C) (.type T) = some true
  type : PySem.W.typeIn K (.ref C) = some (.type "type")
  kept : PySem.W.keepIn K (.ref C) = true
section
open Builtin Builtin.ObjectAttr
variable {prog : Program} {w : World} {A : Around} {E : Value → Shared → Prop} {K : PySem.W.Frag} {s : Shared} {C x t1 : Addr} {c2 v : Value} {f : Str} {tk : Tok}
/-- what a heap is after the first field of an exception at x is laid -/
structure Fielded (h h' : PySem.Heap) (C x t1 dx : Addr) (c2 : Value) (f : Str) (v : Value) : Prop where
  rest : ∀ y o, y ≠ x → h.get? y = some o → h'.get? y = some o
  new : h.objs.size ≤ dx
  apart : dx ≠ x
  obj : h'.get? x = some (PySem.W.excObj C t1 (some dx) c2)
  ns : h'.Ns1 dx fun y => if y = f then some v else none
theorem first_field {b : Bool} {Q : Fin → Shared → Prop} (X : K.In s.heap) (T : ClsX K C) (there : s.heap.get? x = some (PySem.W.excObj C t1 none c2))
    (fin : ∀ s' dx, Fielded s.heap s'.heap C x t1 dx c2 f v → s'.gens = s.gens → s'.drawn = s.drawn → s'.os = s.os → Q (.done (.ret .none)) s') :
    wpAny (model prog w) A (storeInOwnDict (.ref x) (.ref C) (.str f tk) f v b) Q E s := by
  have nodict := any_some T.dict
  have low : x < s.heap.objs.size := Heap.lt_size there
  rcases nodict with ⟨cd, known, yes⟩
  have pushed := Heap.get?_push_of_some { cls := .type "dict", data := .dict #[] } there
  unfold storeInOwnDict ownDictForStores ownStreamTells
  dsimp only
  refine wpAny_bind (wpAny_pure (wpAny_bind (PySem.W.instanceDict_exc there (PySem.W.looks_clsIn X known) yes ?_)))
  have ne : x ≠ s.heap.objs.size := Nat.ne_of_lt low
  have fresh : ∀ (F : Obj → Obj) (m : PySem.Heap), m.Ns s.heap.objs.size (fun _ => none) → (m.update x F).Ns s.heap.objs.size fun _ => none := fun F m n => by
    obtain ⟨o, es, ep, at_, all⟩ := n
    exact ⟨o, es, ep, by rw [Heap.get?_update_ne m _ x F ne.symm]; exact at_, all⟩
  refine PySem.HandSPX.store_in_new (fresh _ _ (Heap.Ns.new s.heap (.type "dict"))) fun h' tk' ns same => fin _ _ ⟨fun y o n e => ?_, Nat.le_refl _, ne.symm, ?_, ns⟩ rfl rfl rfl
  · have n2 : y ≠ s.heap.objs.size := Nat.ne_of_lt (Heap.lt_size e)
    rw [same.2 y n2, Heap.get?_update_ne _ y x _ n]
    exact Heap.get?_push_of_some _ e
  · rw [same.2 x ne]
    exact Heap.get?_update_self _ pushed rfl
end
/-- .. and of its __init__ -/
structure IniX (P : Program) (K : PySem.W.Frag) (C fI cc cda : Addr) (qual : Str) (params : Arguments) (body : List Stmt) (scope : Scope) : Prop where
  fn : ∃ oc od osl kV doc pm an ct, K.lookup fI = some ⟨oc, od, .func (fnX "__init__" qual params body scope [("__class__", cc)] .none kV doc pm an (.ref cda) ct), osl⟩
  ini : PySem.W.findIn K (.ref C) "__init__" = some (some (.ref fI))
  typ : PySem.W.typeIn K (.ref fI) = some (.type "function")
  code : PySem.W.codeIn K (.ref cda) qual = true
  cdo : ∃ c1 d1 vs s1 file tf, K.lookup cda = some ⟨c1, d1, .fields vs, s1⟩ ∧ vs[2]? = some (.str file tf) ∧ (P.main.file == file) = true
  cell : ∃ c2 d2 s2, K.lookup cc = some ⟨c2, d2, .cell (some (.ref C)), s2⟩
  opq : PySem.W.nsIn K cStatics "thirdparty.any" = some none
  sup : PySem.W.ks_superIn K C C "__init__" = some (some (.builtin "Exception.__init__"))
  self : PySem.W.mroIn K C (.ref C) = some true
  top : (P.main.scope.names.lookup ("super" : Str)).isSome = false
section
variable {prog : Program} {w : World} {A : Around} {R : Result → Shared → Prop} {h : PySem.Heap} {g : Array GenState} {d : Drawn} {t : Nat} {os : OsState} {K : PySem.W.Frag} {mg mb : Str → Option Value} {C fI cc cda e t0 : Addr} {qual f a sf : Str} {params : Arguments} {scope : Scope} {u : Value} {z : Str} {j j2 : Nat}
  {p0 p1 p2 p3 p4 p5 p6 p7 p8 p9 : Pos} {arg : Arg}
/-- __init__(self, a): super().__init__(text); self.f = a -/
theorem init_run (T : ClsX K C) (Y : IniX prog K C fI cc cda qual params [.Expr (.Call (.Attribute (.Call (.Name "super" p0) [] [] p1) "__init__" p2) [.Constant (.str z) j p3] [] p4) p5, .Assign [.Attribute (.Name sf p6) f p7] (.Name a p8) p9] scope)
    (hroom : A.depth < recursionLimit) (X : K.In h) (hlim : h.NoLimit) (G : h.Ns mainGlobals mg) (hms : mg "super" = none) (B : h.Ns builtinsNs mb) (hbs : mb "super" = bootBuiltins "super")
    (hx1 : ∀ env : Env, env.scope = scope → ∃ pl : Sem Bool, eval (.Call (.Attribute (.Call (.Name "super" p0) [] [] p1) "__init__" p2) [.Constant (.str z) j p3] [] p4) env = (do
      let ov ← attributeBase (.Call (.Name "super" p0) [] [] p1) "__init__" env (eval (.Call (.Name "super" p0) [] [] p1) env)
      standAt p2.atName
      let (f, first) ← holding [ov] (getMethod ov "__init__" pl)
      callWith p4 f first (backTo p4 (starEach [.Constant (.str z) j p3] env)) []))
    (hx2 : ∀ env : Env, env.scope = scope → interactive env = false ∧ swapsWith (.Call (.Attribute (.Call (.Name "super" p0) [] [] p1) "__init__" p2) [.Constant (.str z) j p3] [] p4) none p5.line env = pure false ∧ swapsWith (.Name a p8) (some (.Attribute (.Name sf p6) f p7)) p9.line env = pure false)
    (hpar : (params.posonlyargs ++ params.args).head? = some arg) (harg : arg.arg = sf)
    (hbind : ∀ (kV doc pm : Value) (an : Option Addr) (ct : Value) (bd : List Stmt), bindArgs (fnX "__init__" qual params bd scope [("__class__", cc)] .none kV doc pm an (.ref cda) ct) ⟨[.ref e, u], []⟩ = pure [(sf, .ref e), (a, u)])
    (hks : scope.names.lookup ("super" : Str) = some .globalImplicit) (hkc : scope.names.lookup ("__class__" : Str) = some .free) (hka : scope.names.lookup a = some .local) (hkf : scope.names.lookup sf = some .local) (hne : a ≠ sf)
    (hk : scope.kind = .function) (hco : scope.isCoroutine = false) (hgen : scope.isGenerator = false) (hnc : ∀ x ∈ scope.names, x.2 ≠ .cell) (hda : (a == ("__debug__" : Str)) = false) (hds : (sf == ("__debug__" : Str)) = false)
    (hf : PySem.W.findIn K (.ref C) f = some none) (he : h.get? e = some (PySem.HandSPX.excO C t0)) (heC : e ≠ C) (hKe : K.lookup e = none)
    (hq : ∀ h' t' dx t1, (∀ b o, b ≠ e → h.get? b = some o → h'.get? b = some o) → h.objs.size ≤ dx → dx ≠ e → h'.get? e = some ({ cls := .ref C, dict := some dx, data := .fields #[.ref t1, .none, .none, .none, .bool false, .none] } : Obj) →
      h'.Ns1 dx (fun y => if y = f then some u else none) → R (.ok (.ret .none)) ⟨h', g, d, t', os⟩) :
    codeAny (model prog w) A (.call (.ref fI) ⟨[.ref e, u], []⟩) R ⟨h, g, d, t, os⟩ := by
  obtain ⟨nm, N, q, bs, bm, hdct, sn, sub, ab, col, dd, k0, k1, k2, k3, k5, hC, _⟩ := PySem.W.excInit_of X T.made
  obtain ⟨cd, hcl, _⟩ := any_some T.over
  obtain ⟨oc, od, osl, kV, doc, pm, an, ct, hF⟩ := Y.fn
  obtain ⟨c1, d1, vs, s1, file, tf, hcd, hvs, hfile⟩ := Y.cdo
  obtain ⟨c2, d2, s2, hcell⟩ := Y.cell
  subst harg
  refine ks_codeAny_call_defAt (binds := [(arg.arg, .ref e), (a, u)]) hroom (X _ _ hF) rfl hlim (codeRec_of X Y.code) rfl (BindsTo.of_eq (hbind ..)) hnc (fun x hx => ?_) (fun h1 hns hk1 => ?_) hco hgen hk
  · simp at hx
    rcases hx with rfl | rfl
    · exact hkf
    · exact hka
  have X1 : K.In h1 := fun b o eb => hk1 b o (X b o eb)
  have G1 : h1.Ns mainGlobals mg := G.keeps hk1
  have B1 : h1.Ns builtinsNs mb := B.keeps hk1
  generalize henv : (callEnv (fnX "__init__" qual params [.Expr (.Call (.Attribute (.Call (.Name "super" p0) [] [] p1) "__init__" p2) [.Constant (.str z) j p3] [] p4) p5, .Assign [.Attribute (.Name arg.arg p6) f p7] (.Name a p8) p9] scope [("__class__", cc)] .none kV doc pm an (.ref cda) ct) (PySem.Shared.heap ⟨h, g, d, t, os⟩).objs.size fI) = env
  have ev : env = newEnv scope h.objs.size mainGlobals [("__class__", cc)] (qual ++ ".<locals>.") (some fI) (.ref cda) none builtinsNs := henv.symm
  have es : env.scope = scope := by rw [ev]; rfl
  obtain ⟨pl, hx1⟩ := hx1 env es
  obtain ⟨hi, hsw, hsa⟩ := hx2 env es
  have kk : env.scope.kind = .function := by rw [es]; exact hk
  have kf : ∀ {x : Str} {k : NameKind}, scope.names.lookup x = some k → env.kindOf x = some k := fun {x k} e => by
    show env.scope.names.lookup x = some k
    rw [es]; exact e
  have hL : env.locals = h.objs.size := by rw [ev]; rfl
  have hns' : h1.Ns env.locals (fun x => [(arg.arg, Value.ref e), (a, u)].reverse.lookup x) := by rw [hL]; exact hns
  have hlt : e < h.objs.size := Heap.lt_size he
  refine ks_wpAt_execs_cons (ks_wpAt_Expr_any (ks_wpAt_MethodCall ?_ hx1) hi hsw)
  refine ks_wpAt_super_base (kf hks) (kf hkc) rfl (by rw [ev]; rfl) (X1 _ _ hF) rfl hpar (by rw [ev]; rfl) (X1 _ _ hcd) rfl hvs hfile Y.top ?_
  refine ks_loadName_global kk (kf hks) (loadGlobal_builtin (by rw [ev]; exact G1) hms (by rw [ev]; exact B1) (hbs.trans ?_) ⟨rfl, ?_⟩)
  · decide +kernel
  refine wpAny_loadName_free kk (kf hkc) (c := cc) (by rw [ev]; rfl) ⟨_, X1 _ _ hcell, rfl⟩ ?_
  have hl1 : ([(arg.arg, Value.ref e), (a, u)].reverse.lookup arg.arg) = some (.ref e) := by
    have hb : (arg.arg == a) = false := by simpa using Ne.symm hne
    simp [List.lookup, hb]
  have hl2 : ([(arg.arg, Value.ref e), (a, u)].reverse.lookup a) = some u := by simp [List.lookup]
  refine wpAny_loadName_local (v := .ref e) kk (kf hkf) hns' hl1 ?_
  have he1 : h1.get? e = some (PySem.HandSPX.excO C t0) := hk1 _ _ he
  have hC1 := hk1 _ _ hC
  refine ks_wpAny_isType_cls hC1 rfl ⟨rfl, ?_⟩
  refine ks_wpAny_call_super hC1 rfl he1 rfl (fun c z => nomatch z) (looks_mroIn X1 Y.self) (fun h2 hso hk2 => ?_)
  have X2 : K.In h2 := fun b o eb => hk2 b o (X1 b o eb)
  have he2 : h2.get? e = some (PySem.HandSPX.excO C t0) := hk2 _ _ he1
  have I2 : PySem.W.InstAt h2 e (PySem.HandSPX.excO C t0) C none := ⟨he2, rfl, rfl, trivial⟩
  have hsup : PySem.W.alongIn K "__init__" ((cd.mro.dropWhile (· != .ref C)).drop 1) = some (some (.builtin "Exception.__init__")) := by
    have e := Y.sup
    unfold PySem.W.ks_superIn at e
    rwa [hcl] at e
  refine PySem.ESX.getMethod_super (x := e) hso (PySem.W.looks_opaque X2 Y.opq) ((PySem.W.looks_clsIn X2 hcl).andThen .now) rfl X2 hsup heC (by decide) (I2.type.andThen (PySem.W.looks_subIn X2 (T.base _ (by simp)))) ?_
  have up3 : ∀ b o, h2.get? b = some o → (h2.push (PySem.ESX.bw e)).get? b = some o := fun b o eb => Heap.get?_push_of_some _ eb
  refine PySem.ESX.callWith_bound (x := e) (e := .Constant (.str z) j p3) (rest := []) (Calls.spliced_cons (Calls.Constant_str (x := z) (k := j) (pos := p3) (Calls.spliced_nil ⟨?_, ?_⟩))) rfl rfl
  · exact Heap.get?_push_size _ rfl
  have X3 : K.In (h2.push (PySem.ESX.bw e)) := fun b o eb => up3 b o (X2 b o eb)
  refine PySem.ESX.call_bw (up3 _ _ (hk2 _ _ hC1)) (up3 _ _ he2) (Heap.get?_push_size _ rfl) (by show 1 ≤ sizeLine; decide) (fun h4 t1 hk4 he4 => ?_)
  have hkk : ∀ b o, b ≠ e → h.get? b = some o → h4.get? b = some o := fun b o hb q => hk4 b o hb (up3 b o (hk2 b o (hk1 b o q)))
  have X4 : K.In h4 := fun b o eb => hk4 b o (fun z => by rw [z, hKe] at eb; cases eb) (X3 b o eb)
  show PySem.wpAt _ _ _ (execs [.Assign [.Attribute (.Name arg.arg p6) f p7] (.Name a p8) p9] env) _ _ _
  refine wpAt_of_wpAny (wpAny_execs_cons (plainObj_wpAny_Assign_Attribute ?_ hsa))
  have hns4 : h4.Ns env.locals (fun x => [(arg.arg, Value.ref e), (a, u)].reverse.lookup x) := by
    obtain ⟨o, es', ep, ho, hr⟩ := hns'
    exact ⟨o, es', ep, hk4 _ _ (by rw [hL]; exact Nat.ne_of_gt hlt) (up3 _ _ (hk2 _ _ ho)), hr⟩
  refine PySem.ESX.ldL hns4 hl2 (PySem.ESX.ldL hns4 hl1 ?_ kk (kf hkf) hds) kk (kf hka) hda
  have no : PySem.W.takerIn K C f = some none := by
    unfold PySem.W.takerIn
    rw [hf]
    rfl
  have I4 : PySem.W.InstAt h4 e (PySem.HandSPX.excO C t1) C none := ⟨he4, rfl, rfl, trivial⟩
  refine PySem.W.set_plain X4 I4 T.sets (PySem.W.osa_openX PySem.F.store_Exception X4 I4 T.over no fun b => first_field X4 T he4 fun s5 dx N5 e1 e2 e3 => ?_)
  obtain ⟨h5, g5, d5, t5, o5⟩ := s5
  obtain rfl : g5 = g := e1
  obtain rfl : d5 = d := e2
  obtain rfl : o5 = os := e3
  refine wpAny_execs_nil (hq h5 t5 dx t1 (fun b o hb q => N5.rest b o hb (hkk b o hb q)) ?_ N5.apart N5.obj N5.ns)
  obtain ⟨o, _, _, ho, _⟩ := hns4
  have := Heap.lt_size ho
  rw [hL] at this
  exact Nat.le_trans (Nat.le_of_lt this) N5.new
end
end Den

set_option Elab.async false
set_option linter.all false
set_option maxRecDepth 100000
set_option maxHeartbeats 1000000
/-! DenY: raise C(e); try. -/
namespace Den
open PySem PySem.Spec
open PyProof.Rows L2

/-- the text of such an __init__, and what its scope tells -/
structure TxtX (qual : Str) (params : Arguments) (body : List Stmt) (scope : Scope) (f a sf : Str) : Prop where
  ex : ∃ (z : Str) (j : Nat) (p0 p1 p2 p3 p4 p5 p6 p7 p8 p9 : Pos) (arg : Arg), body = [.Expr (.Call (.Attribute (.Call (.Name "super" p0) [] [] p1) "__init__" p2) [.Constant (.str z) j p3] [] p4) p5, .Assign [.Attribute (.Name sf p6) f p7] (.Name a p8) p9] ∧
    (∀ env : Env, env.scope = scope → ∃ pl : Sem Bool, eval (.Call (.Attribute (.Call (.Name "super" p0) [] [] p1) "__init__" p2) [.Constant (.str z) j p3] [] p4) env = (do
      let ov ← attributeBase (.Call (.Name "super" p0) [] [] p1) "__init__" env (eval (.Call (.Name "super" p0) [] [] p1) env)
      standAt p2.atName
      let (f, first) ← holding [ov] (getMethod ov "__init__" pl)
      callWith p4 f first (backTo p4 (starEach [.Constant (.str z) j p3] env)) [])) ∧
    (∀ env : Env, env.scope = scope → interactive env = false ∧ swapsWith (.Call (.Attribute (.Call (.Name "super" p0) [] [] p1) "__init__" p2) [.Constant (.str z) j p3] [] p4) none p5.line env = pure false ∧ swapsWith (.Name a p8) (some (.Attribute (.Name sf p6) f p7)) p9.line env = pure false) ∧
    (params.posonlyargs ++ params.args).head? = some arg ∧ arg.arg = sf
  bind : ∀ (cda cc e : Addr) (u : Value) (kV doc pm : Value) (an : Option Addr) (ct : Value) (bd : List Stmt), bindArgs (PySem.W.fnX "__init__" qual params bd scope [("__class__", cc)] .none kV doc pm an (.ref cda) ct) ⟨[.ref e, u], []⟩ = pure [(sf, .ref e), (a, u)]
  hks : scope.names.lookup ("super" : Str) = some .globalImplicit
  hkc : scope.names.lookup ("__class__" : Str) = some .free
  hka : scope.names.lookup a = some .local
  hkf : scope.names.lookup sf = some .local
  hne : a ≠ sf
  hk : scope.kind = .function
  hco : scope.isCoroutine = false
  hgen : scope.isGenerator = false
  hnc : ∀ x ∈ scope.names, x.2 ≠ .cell
  hda : (a == ("__debug__" : Str)) = false
  hds : (sf == ("__debug__" : Str)) = false
/-- an own exception class by name -/
structure CalX (P : Program) (K : PySem.W.Frag) (mg : Str → Option Value) (C : Addr) (x f : Str) : Prop where
  gl : mg x = some (.ref C)
  sup : mg "super" = none
  cls : ClsX K C
  ini : ∃ (fI cc cda : Addr) (qual : Str) (params : Arguments) (body : List Stmt) (scope : Scope) (a sf : Str), IniX P K C fI cc cda qual params body scope ∧ TxtX qual params body scope f a sf
  no : PySem.W.findIn K (.ref C) f = some none
def tMkX (C : Addr) (f : Str) (te : TE) : St → Hp → XK → Prop := fun σ H Q => te σ H fun v H1 => ∀ d, H1 d = none → Q (.ref C) (some d) (upd H1 d (.xd [(f, v)]))
section
variable {X : Cx} {pins : List (Addr × Obj)} {σ : St} {H : Hp} {s s' : Shared} {Q : XK} {h0 : PySem.Heap} {C at_ e1 dx : Addr} {f : Str} {v : V} {u : Value}
/-- an exception with one field, made: the dict is ours, the object itself is nobody's -/
theorem made_x (I : Inv X pins σ H s) (rel : RelV v u) (hi : s.heap.objs.size ≤ at_) (hid : s.heap.objs.size ≤ dx) (keep : ∀ b o, b ≠ at_ → s.heap.get? b = some o → s'.heap.get? b = some o)
    (ne : dx ≠ at_) (ob : s'.heap.get? at_ = some (PySem.W.excObj C e1 (some dx) .none)) (ns : s'.heap.Ns1 dx fun y => if y = f then some u else none) (og : s'.gens = s.gens) (oo : s'.os = s.os)
    (r : Raises X (.ref C)) (q : Q (.ref C) (some dx) (upd H dx (.xd [(f, v)]))) : MkP X pins σ Q (.ref at_) s' := by
  obtain ⟨G, same, gone⟩ := restrict s'.heap fun b => b != at_
  have inG : ∀ {b}, b ≠ at_ → G.get? b = s'.heap.get? b := fun {b} n => same b (bne_iff_ne.mpr n)
  have old : ∀ b o, s.heap.get? b = some o → b ≠ at_ := fun b o z w => absurd (Heap.lt_size z) (by rw [w]; exact Nat.not_lt.mpr hi)
  have off : G.get? at_ = none := gone at_ (by simp)
  have nsG : G.Ns1 dx fun y => if y = f then some u else none := by
    rcases ns with ⟨o, es, ep, z, c⟩
    exact ⟨o, es, ep, by rw [inG ne, z], c⟩
  have fields : ∀ y, RelO ([(f, v)].lookup y) (if y = f then some u else none) := fun y => by
    by_cases hy : y = f
    · rw [hy]; simp only [List.lookup, beq_self_eq_true, if_true]; exact rel
    · have : (y == f) = false := by simpa using hy
      simp [List.lookup, this, hy, RelO]
  have laid := I.laid (h' := G) (t' := s'.toks) (a := dx) (o := .xd [(f, v)]) (fun b o z => (inG (old b o z)).trans (keep b o (old b o z) z)) hid ⟨_, nsG, fields⟩
  refine ⟨at_, _, _, { s with heap := G, toks := s'.toks }, _, .ref C, some dx, rfl, laid, fun b o z => ?_, off, ob, ⟨rfl, rfl⟩, rfl, rfl, ?_, oo, og ▸ I.bare, r, q⟩
  · have : b ≠ at_ := fun w => by rw [w, off] at z; cases z
    exact (inG this).symm.trans z
  · rw [upd_ne (Ne.symm ne)]
    exact I.hok.fresh hi
/-- C(e) -/
theorem pmk_x {x : Str} {e : Expr} {te : TE} {k : Nat} {p pos : Pos} (T : CalX X.prog X.K X.mg C x f) (room : Room (k + 1) X.A) (hg : Gl X x) (he : PE X e te)
    (hdb : (x == ("__debug__" : Str)) = false := by decide) (hs : starEach [e] X.env = (false, eval e X.env) :: starEach [] X.env := by rfl) (hpl : (backTo pos (starEach [] X.env)).any (·.1) = false := by rfl) :
    PMk X (.Call (.Name x p) [e] [] pos) (tMkX C f te) := fun pins s σ H Q I h => by
  obtain ⟨fI, cc, cda, qual, params, body, scope, a, sf, Y, W⟩ := T.ini
  obtain ⟨z, j, p0, p1, p2, p3, p4, p5, p6, p7, p8, p9, arg, rfl, hx1, hx2, hpar, harg⟩ := W.ex
  have one : PA X [e] (tCons te tNil) := pa_cons he pa_nil hs
  refine wpAny_Call_Name_kw (ld_glob I hg T.gl ?_ hdb)
  refine PySem.W.callWith_K (h₀ := X.base) I.ok.mod.kin T.cls.kept (thn (one.run pos pins s σ H (fun vs H1 => match vs with
    | [v] => ∀ d, H1 d = none → Q (.ref C) (some d) (upd H1 d (.xd [(f, v)]))
    | _ => False) I h) fun us s1 ap => ?_) hs hpl
  obtain ⟨vs, H1, I1, r1, q1⟩ := ap
  match vs, q1, r1 with
  | [], q1, _ => exact q1.elim
  | _ :: _ :: _, q1, _ => exact q1.elim
  | [v], q1, r1 =>
    cases r1 with
    | cons rv rn =>
    cases rn
    refine ⟨I1.kIn, ?_⟩
    obtain ⟨nm, N, qn, bs, bm, hdct, sn, sub, ab, col, dd, k0, k1, k2, k3, k5, hC, hbm⟩ := PySem.W.excInit_of I1.kIn T.cls.made
    obtain ⟨hp, g, dr, tk, os⟩ := s1
    rename_i u
    generalize ex : hp.objs.size + 1 = ea
    have up : ∀ b o, hp.get? b = some o → ((hp.push (PySem.W.kdv_tup [u])).push (PySem.HandSPX.excO C hp.objs.size)).get? b = some o := fun b o z => Heap.get?_push_of_some _ (Heap.get?_push_of_some _ z)
    have low : ∀ b o, hp.get? b = some o → b ≠ ea := fun b o z => by
      have y : b < hp.objs.size := Heap.lt_size z
      rw [← ex]
      exact Nat.ne_of_lt (Nat.lt_succ_of_lt y)
    have there : ((hp.push (PySem.W.kdv_tup [u])).push (PySem.HandSPX.excO C hp.objs.size)).get? ea = some (PySem.HandSPX.excO C hp.objs.size) := by
      rw [← ex]
      heap_get
    obtain ⟨mb, B1, B2⟩ := I1.mod.blt
    have kin := I1.kIn.keeps up
    refine wpAny_call (PySem.HandSPX.call_own F.excBase_Exception hbm hC (PySem.W.looks_findIn I1.kIn Y.ini) (fun self => PySem.W.bind_fn I1.kIn self Y.typ) (by show 1 ≤ sizeLine; decide) ?_)
    simp only [ex]
    refine init_run (K := X.K) (mg := X.mg) (mb := mb) T.cls Y (Room.depth (room.make C [u] [])) kin (I1.nolimit.keeps up) ((I1.mod.glob.keeps I1.bk).keeps up) T.sup ((B1.keeps I1.bk).keeps up) (B2 _ (by decide)) hx1 hx2 hpar harg (fun kV doc pm an ct bd => W.bind cda cc _ _ kV doc pm an ct bd)
      W.hks W.hkc W.hka W.hkf W.hne W.hk W.hco W.hgen W.hnc W.hda W.hds T.no there (fun z => low C _ hC z.symm) ?_ fun h' t' dx t1 keep hid ne ob ns => ⟨rfl, ?_⟩
    · cases kl : X.K.lookup ea with
      | none => rfl
      | some o => exact absurd rfl (low ea o (I1.kIn _ _ kl))
    · have hi : hp.objs.size ≤ ea := by rw [← ex]; exact Nat.le_succ _
      have hd : hp.objs.size ≤ dx := Nat.le_trans (by simp only [PySem.Heap.push, Array.size_push]; exact Nat.le_trans (Nat.le_succ _) (Nat.le_succ _)) hid
      exact made_x I1 rv hi hd (fun b o n z => keep b o n (up b o z)) ne ob ns rfl rfl (raises_own (T.cls.base _ (by simp)) T.cls.type) (q1 dx (I1.hok.fresh hd))
end
/-! ### raise -/
def dRaise (cls : Str) (f : M PD) : M Fl := mbind f fun d ρ => .exc ⟨cls, d⟩ ρ
theorem ds_raise {X : Cx} {c : Cc} {W : WX} {x : Str} {C : Addr} {e : Expr} {f : M PD} {p pos pos' : Pos} {k : Nat} (cm : X.calm = true) (cl : Cl X W (k + 1)) (hk : c.kc.kl x = some C) (T : CalX X.prog X.K X.mg C x (xfn x)) (hg : Gl X x) (he : DE X c W e f)
    (hdb : (x == ("__debug__" : Str)) = false := by decide) (hs : starEach [e] X.env = (false, eval e X.env) :: starEach [] X.env := by rfl) (hpl : (backTo pos (starEach [] X.env)).any (·.1) = false := by rfl) :
    DS X c W (.Raise (some (.Call (.Name x p) [e] [] pos)) none pos') (dRaise x f) := fun gd ioA => by
  refine PS.imp (L2.ps_raise cm cl.tk (pmk_x T cl.room hg (he gd ioA) hdb hs hpl)) fun D σ H ⟨ρ, P, rp, h⟩ => ⟨ρ, P, rp, h.bind.mono fun v H1 ⟨d, ρ1, P1, s1, r1, v1, h1⟩ => fun dx hdx => ?_⟩
  have nx : ∀ y, P1 y dx = none := fun y => r1.gnone hdx
  have r2 : RepW c ioA ρ1 σ (upd H1 dx (.xd [(xfn x, v)])) P1 := ⟨⟨fun y a o e => by rw [upd_ne (ne_of_none e (nx y))]; exact r1.pc.sub y a o e, r1.pc.dis⟩, r1.len, r1.so, r1.io⟩
  exact h1 (.ref C) (some dx) σ _ P1 (Stp.refl _) r2 ⟨C, dx, v, hk, rfl, rfl, upd_same, v1, nx⟩
/-! ### try -/
def clX : Slot → Slot
  | .xc _ => .no
  | s => s
def clrX (ρ : Rho) : Rho := { ρ with sl := ρ.sl.map clX }
theorem RepW.clr {c c' : Cc} {ioA : List Addr} {ρ : Rho} {σ : St} {H : Hp} {P : Pcs} (r : RepW c ioA ρ σ H P) (hk : c'.kc = c.kc) : RepW c' ioA (clrX ρ) σ H P where
  pc := r.pc
  len := by show σ.length = (ρ.sl.map clX).length; rw [List.length_map]; exact r.len
  so := fun i s e => by
    have e' : (ρ.sl.map clX)[i]? = some s := e
    rw [List.getElem?_map] at e'
    cases e2 : ρ.sl[i]? with
    | none => rw [e2] at e'; cases e'
    | some s2 =>
      rw [e2] at e'
      have e' := Option.some.inj e'
      have so := r.so i s2 e2
      cases s2 with
      | xc x => subst e'; trivial
      | no => subst e'; trivial
      | io j => subst e'; exact so
      | val d =>
        subst e'
        obtain ⟨v, h1, h2⟩ := so
        exact ⟨v, h1, by rw [hk]; exact h2⟩
      | own m =>
        subst e'
        obtain ⟨v, h1, h2⟩ := so
        exact ⟨v, h1, by rw [hk]; exact h2⟩
  io := fun j m e => by
    obtain ⟨a, h1, h2⟩ := r.io j m e
    exact ⟨a, h1, by rw [hk]; exact h2⟩
/-- in a clause: the caught one is a, of class cls, its dict at d -/
def cX (c : Cc) (a : Addr) (cls : Value) (d : Option Addr) : Cc := ⟨c.kc, fun a' cls' d' => a' = a ∧ cls' = cls ∧ some d' = d⟩
theorem RepW.setXc {c : Cc} {ioA : List Addr} {ρ : Rho} {σ : St} {H : Hp} {P : Pcs} {i : Nat} {x : Xc} {a C d : Addr} {v : V} (r : RepW c ioA ρ σ H P) (h1 : c.kc.kl x.cls = some C) (h2 : c.xa a (.ref C) d) (h3 : H d = some (.xd [(xfn x.cls, v)])) (h4 : Rp c.kc (P .g) v x.arg) (h5 : ∀ y, P y d = none) :
    RepW c ioA { ρ with sl := ρ.sl.set i (.xc x) } (σ.set i (some (.ref a))) H (put P (.sl i) (one d (.xd [(xfn x.cls, v)]))) ∧ Stp P (put P (.sl i) (one d (.xd [(xfn x.cls, v)]))) := by
  have eg : put P (.sl i) (one d (.xd [(xfn x.cls, v)])) .g = P .g := put_ne (by simp)
  have dj : ∀ y, Disj (P y) (one d (.xd [(xfn x.cls, v)])) := fun y => Disj.of fun b o e => one_ne (ne_of_none e (h5 y))
  refine ⟨⟨⟨fun y => ?_, fun y z n => ?_⟩, by simpa using r.len, fun j s e => ?_, fun j m e => ?_⟩, ⟨by rw [eg]; exact Same.refl _, put_ne (by simp)⟩⟩
  · by_cases hy : y = .sl i
    · subst hy; rw [put_same]; exact same_one h3
    · rw [put_ne hy]; exact r.pc.sub y
  · by_cases hy : y = .sl i
    · subst hy
      rw [put_same, put_ne (Ne.symm n)]
      exact (dj z).symm
    · rw [put_ne hy]
      by_cases hz : z = .sl i
      · subst hz; rw [put_same]; exact dj y
      · rw [put_ne hz]; exact r.pc.dis y z n
  · rw [eg]
    rw [List.getElem?_set] at e
    by_cases hj : i = j
    · subst hj
      simp only [if_true] at e
      split at e
      · rename_i hl
        cases e
        rw [put_same]
        exact ⟨a, C, d, v, by rw [List.getElem?_set_self (by rw [r.len]; exact hl)], h1, h2, rfl, h4⟩
      · cases e
    · rw [if_neg hj] at e
      rw [List.getElem?_set_ne hj, put_ne (by simp; exact fun z => hj z.symm)]
      exact r.so j s e
  · rw [eg, put_ne (by simp)]
    exact r.io j m e
theorem RepW.setNo {c : Cc} {ioA : List Addr} {ρ : Rho} {σ : St} {H : Hp} {P : Pcs} {i : Nat} {ov : Option V} (r : RepW c ioA ρ σ H P) : RepW c ioA { ρ with sl := ρ.sl.set i .no } (σ.set i ov) H P where
  pc := r.pc
  len := by simpa using r.len
  so := fun j s e => by
    rw [List.getElem?_set] at e
    by_cases hj : i = j
    · subst hj
      simp only [if_true] at e
      split at e
      · cases e; trivial
      · cases e
    · rw [if_neg hj] at e
      rw [List.getElem?_set_ne hj]
      exact r.so j s e
  io := r.io
/-- a clause of class h takes an exception of class n -/
def mt (n h : Str) : Bool := n == h || h == ("LateError" : Str)
def endC (i : Nat) (ρ : Rho) : Rho := { clrX ρ with sl := (clrX ρ).sl.set i .no }
def dTryAs (i : Nat) (xs : List Str) (h : Str) (g gs : M Fl) : M Fl := fun ρ => match g ρ with
  | .exc x ρ' => if x.cls ∈ xs then (if mt x.cls h = true then (match gs { clrX ρ' with sl := (clrX ρ').sl.set i (.xc x) } with
    | .ok fl ρ2 => .ok fl (endC i ρ2)
    | _ => .bad) else .exc x ρ') else .bad
  | r => r
/-- without a name; several clauses -/
def dTryGo (x : Xc) : List (Str × M Fl) → M Fl
  | [], ρ => .exc x ρ
  | (h, gs) :: r, ρ => if mt x.cls h = true then (match gs (clrX ρ) with
    | .ok fl ρ2 => .ok fl (clrX ρ2)
    | _ => .bad) else dTryGo x r ρ
def dTry (xs : List Str) (g : M Fl) (hs : List (Str × M Fl)) : M Fl := fun ρ => match g ρ with
  | .exc x ρ' => if x.cls ∈ xs then dTryGo x hs ρ' else .bad
  | r => r
/-- the clause's class, by name -/
structure HdC (X : Cx) (c : Cc) (xs : List Str) (x : Str) (C : Addr) : Prop where
  nm : Names X x (.ref C)
  mt : ∀ n ∈ xs, ∀ Cn, c.kc.kl n = some Cn → PySem.W.exmOne c.kc.K (.ref Cn) (.ref C) = some (mt n x)
section
variable {X : Cx} {c : Cc} {W : WX} {x n : Str} {C : Addr} {xs : List Str} {body suite : List Stmt} {b₀ : Stmt} {np pos pos' : Pos} {g gs : M Fl}
/-- in the body of a try -/
def BkT (X : Cx) (T : Cx → WX → Prop) : Prop := ∀ (W : WX) (pn : List (Addr × Obj)) (xe : Value → Shared → Prop), Takes (X.tr pn xe) W → PassesOwn (model X.prog X.w) X.A X.env xe → T (X.tr pn xe) W
/-- in a clause's suite -/
def BkS (X : Cx) (c : Cc) (T : Cx → Cc → Prop) : Prop := ∀ (a : Addr) (oe : Obj) (cls : Value) (d : Option Addr) (pn : List (Addr × Obj)), Zc cls d oe → (∃ vs, oe.data = .fields vs) → T (X.suite a ((a, oe) :: pn)) (cX c a cls d)
theorem Gd.toSu (gd : Gd X c) {a : Addr} {pn : List (Addr × Obj)} {cls : Value} {d : Option Addr} : Gd (X.suite a pn) (cX c a cls d) := ⟨gd.hK, gd.un⟩
theorem ds_tryAs (i : Nat) (hs : X.stack = X.env :: X.outer) (hf : X.env.frame = some X.env.locals) (hN : X.N.Nodup) (hi : X.N[i]? = some n) (hln : X.env.kindOf n = some .local) (hc : HdC X c xs x C) (tk : Takes X W)
    (hb : BkT X fun Y V => DSs Y c V body g) (hsu : BkS X c fun Y c' => DSs Y c' noW (b₀ :: suite) gs) : DS X c W (.Try body [.ExceptHandler (some (.Name x np)) (some n) (b₀ :: suite) pos'] [] [] pos) (dTryAs i xs x g gs) := fun gd ioA => by
  refine PS.imp (L2.ps_try_as (tb := fun V => tS c ioA V g) (ts := fun a cls d => tS (cX c a cls d) ioA noW gs) hs hf hN hi hln hc.nm tk (fun V pn xe t po => hb V pn xe t po ⟨gd.hK, gd.un⟩ ioA) (fun a oe cls d pn hz hv => hsu a oe cls d pn hz hv gd.toSu ioA)) fun D σ H ⟨ρ, P, rp, h⟩ => ⟨ρ, P, rp, ?_⟩
  unfold tSat dTryAs at h
  unfold tSat
  cases e : g ρ with
  | bad => simp only [e] at h
  | ok fl ρ' => simp only [e] at h; cases fl <;> exact h
  | exc y ρ' =>
    simp only [e] at h
    intro cls dx σ' H' P' s r q
    by_cases hy : y.cls ∈ xs
    case neg => rw [if_neg hy] at h; exact h.elim
    rw [if_pos hy] at h
    obtain ⟨Cn, d, v, q1, rfl, rfl, q4, q5, q6⟩ := id q
    refine ⟨mt y.cls x, gd.hK ▸ hc.mt y.cls hy Cn q1, fun hb a ha => ?_, fun hb => ?_⟩
    · rw [if_pos hb] at h
      have r1 : RepW (cX c a (.ref Cn) (some d)) ioA (clrX ρ') σ' H' P' := r.clr rfl
      obtain ⟨r2, s2⟩ := r1.setXc (i := i) (a := a) (x := y) q1 ⟨rfl, rfl, rfl⟩ q4 q5 q6
      refine ⟨_, _, r2, ?_⟩
      unfold tSat
      cases e2 : gs { clrX ρ' with sl := (clrX ρ').sl.set i (.xc y) } with
      | bad => simp only [e2] at h
      | exc _ _ => simp only [e2] at h
      | ok fl ρ2 =>
        simp only [e2] at h
        have bk : ∀ {σ3 : St} {H3 : Hp} {P3 : Pcs}, RepW (cX c a (.ref Cn) (some d)) ioA ρ2 σ3 H3 P3 → RepW c ioA (endC i ρ2) (σ3.set i none) H3 P3 := fun r3 => (RepW.clr (c' := c) r3 rfl).setNo
        have bk2 : ∀ {σ3 : St} {H3 : Hp} {P3 : Pcs}, RepW (cX c a (.ref Cn) (some d)) ioA ρ2 σ3 H3 P3 → RepW c ioA (endC i ρ2) σ3 H3 P3 := fun r3 => (RepW.clr (c' := c) r3 rfl).kill
        cases fl with
        | nx => exact fun σ3 H3 P3 s3 r3 => h _ H3 P3 ((s.trans s2).trans s3) (bk r3)
        | bk => exact fun σ3 H3 P3 s3 r3 => h _ H3 P3 ((s.trans s2).trans s3) (bk r3)
        | ct => exact fun σ3 H3 P3 s3 r3 => h _ H3 P3 ((s.trans s2).trans s3) (bk r3)
        | ret d => exact fun v σ3 H3 P3 s3 r3 w => h v _ H3 P3 ((s.trans s2).trans s3) (bk2 r3) w
        | fre d => exact fun v σ3 H3 P3 s3 r3 w => h v _ H3 P3 ((s.trans s2).trans s3) (bk2 r3) w
    · rw [if_neg (by rw [hb]; decide)] at h
      exact h _ _ σ' H' P' s r q
/-- clauses without a name -/
inductive Hds (X : Cx) (c : Cc) (xs : List Str) : List ExceptHandler → List (Str × M Fl) → Prop
  | nil : Hds X c xs [] []
  | cons {x : Str} {C : Addr} {b₀ : Stmt} {suite : List Stmt} {np pos' : Pos} {gs : M Fl} {hds : List ExceptHandler} {l : List (Str × M Fl)} (hc : HdC X c xs x C) (hsu : BkS X c fun Y c' => DSs Y c' noW (b₀ :: suite) gs) (r : Hds X c xs hds l) :
      Hds X c xs (.ExceptHandler (some (.Name x np)) none (b₀ :: suite) pos' :: hds) ((x, gs) :: l)
theorem try_many {ioA : List Addr} (gd : Gd X c) : ∀ {hds : List ExceptHandler} {l : List (Str × M Fl)}, Hds X c xs hds l → ∃ l2 : List (Value × (Addr → Value → Option Addr → TS)), HdsOk X hds l2 ∧
    ∀ (y : Xc) (ρ' : Rho) (P P' : Pcs) (σ' : St) (H' : Hp) (D : Ends) (cls : Value) (dx : Option Addr), y.cls ∈ xs → Stp P P' → RepW c ioA ρ' σ' H' P' → XR c.kc y cls dx H' P' → tSat c ioA W (dTryGo y l) ρ' P D → wMany X.K W D l2 cls dx σ' H'
  | _, _, .nil => ⟨[], .nil, fun y ρ' P P' σ' H' D cls dx hy s r q h => h cls dx σ' H' P' s r q⟩
  | _, _, .cons (x := x) (C := C) (gs := gs) (l := lr) hc hsu hr => by
    obtain ⟨l2, hk, ih⟩ := try_many (ioA := ioA) gd hr
    refine ⟨(.ref C, fun a cls d => tS (cX c a cls d) ioA noW gs) :: l2, .cons hc.nm (fun a oe cls d pn hz hv => hsu a oe cls d pn hz hv gd.toSu ioA) hk, fun y ρ' P P' σ' H' D cls dx hy s r q h => ?_⟩
    obtain ⟨Cn, d, v, q1, rfl, rfl, q4, q5, q6⟩ := id q
    refine ⟨mt y.cls x, gd.hK ▸ hc.mt y.cls hy Cn q1, fun hb a ha => ?_, fun hb => ?_⟩
    · unfold tSat dTryGo at h
      rw [if_pos hb] at h
      have r1 : RepW (cX c a (.ref Cn) (some d)) ioA (clrX ρ') σ' H' P' := r.clr rfl
      refine ⟨_, _, r1, ?_⟩
      unfold tSat
      cases e2 : gs (clrX ρ') with
      | bad => simp only [e2] at h
      | exc _ _ => simp only [e2] at h
      | ok fl ρ2 =>
        simp only [e2] at h
        have bk : ∀ {σ3 : St} {H3 : Hp} {P3 : Pcs}, RepW (cX c a (.ref Cn) (some d)) ioA ρ2 σ3 H3 P3 → RepW c ioA (clrX ρ2) σ3 H3 P3 := fun r3 => RepW.clr (c' := c) r3 rfl
        cases fl with
        | nx => exact fun σ3 H3 P3 s3 r3 => h _ H3 P3 (s.trans s3) (bk r3)
        | bk => exact fun σ3 H3 P3 s3 r3 => h _ H3 P3 (s.trans s3) (bk r3)
        | ct => exact fun σ3 H3 P3 s3 r3 => h _ H3 P3 (s.trans s3) (bk r3)
        | ret d => exact fun v σ3 H3 P3 s3 r3 w => h v _ H3 P3 (s.trans s3) (bk r3) w
        | fre d => exact fun v σ3 H3 P3 s3 r3 w => h v _ H3 P3 (s.trans s3) (bk r3) w
    · have h' : tSat c ioA W (dTryGo y lr) ρ' P D := by
        unfold tSat dTryGo at h
        rw [if_neg (by rw [hb]; decide)] at h
        exact h
      exact ih y ρ' P P' σ' H' D _ _ hy s r q h'
theorem ds_try {h₀ : ExceptHandler} {hds : List ExceptHandler} {l : List (Str × M Fl)} (hs : X.stack = X.env :: X.outer) (hf : X.env.frame = some X.env.locals) (tk : Takes X W)
    (hb : BkT X fun Y V => DSs Y c V body g) (hh : Hds X c xs (h₀ :: hds) l) : DS X c W (.Try body (h₀ :: hds) [] [] pos) (dTry xs g l) := fun gd ioA => by
  obtain ⟨l2, hk, ih⟩ := try_many (W := W) (ioA := ioA) gd hh
  refine PS.imp (L2.ps_try_many (tb := fun V => tS c ioA V g) hs hf tk (fun V pn xe t po => hb V pn xe t po ⟨gd.hK, gd.un⟩ ioA) hk) fun D σ H ⟨ρ, P, rp, h⟩ => ⟨ρ, P, rp, ?_⟩
  unfold tSat dTry at h
  unfold tSat
  cases e : g ρ with
  | bad => simp only [e] at h
  | ok fl ρ' => simp only [e] at h; cases fl <;> exact h
  | exc y ρ' =>
    simp only [e] at h
    intro cls dx σ' H' P' s r q
    by_cases hy : y.cls ∈ xs
    case neg => rw [if_neg hy] at h; exact h.elim
    rw [if_pos hy] at h
    exact ih y ρ' P P' σ' H' D cls dx hy s r q h
/-- e.f, e the caught one -/
def dXf (i : Nat) (xs : List Str) (f : Str) : M PD := fun ρ => match ρ.sl[i]? with
  | some (.xc x) => if x.cls ∈ xs ∧ f = xfn x.cls then .ok x.arg ρ else .bad
  | _ => .bad
theorem de_xf (i : Nat) {f : Str} {p : Pos} (hT : ∀ n ∈ xs, ∀ Cn, c.kc.kl n = some Cn → XfC c.kc.K Cn ∧ PySem.W.findIn c.kc.K (.ref Cn) f = some none) (hN : X.N[i]? = some n := by rfl) (hv : Vis X.env.scope n := by first | exact Or.inl rfl | exact Or.inr (Or.inl rfl) | exact Or.inr (Or.inr rfl))
    (hd : (n == ("__debug__" : Str)) = false := by decide) (hcd : (n == ("__classdict__" : Str)) = false := by decide) (hb : attributeBase (.Name n p) f X.env (eval (.Name n p) X.env) = eval (.Name n p) X.env := by rfl) :
    BkS X c fun Y c' => DE Y c' noW (.Attribute (.Name n p) f pos) (dXf i xs f) := fun a oe cls d pn hz hf gd ioA => by
  refine ⟨fun pins s σ H Q I ⟨ρ, P, rp, h⟩ => ?_⟩
  unfold tMat dXf at h
  cases e : ρ.sl[i]? with
  | none => simp only [e] at h
  | some s0 =>
    cases s0 with
    | xc y =>
      simp only [e] at h
      by_cases hy : y.cls ∈ xs ∧ f = xfn y.cls
      case neg => rw [if_neg hy] at h; exact h.elim
      rw [if_pos hy] at h
      obtain ⟨a', Cn, dd, v, q1, q2, ⟨rfl, rfl, q3⟩, q4, q5⟩ := rp.so i _ e
      obtain ⟨T, hno⟩ := hT y.cls hy.1 Cn q2
      have hH : H dd = some (.xd [(xfn y.cls, v)]) := rp.pc.sub (.sl i) dd _ (by rw [q4]; exact one_same)
      refine (pe_xf (X := X) (gd.hK ▸ T) (gd.hK ▸ hno) hz hf (pe_var hN hv hd hcd) hb).run pins s σ H Q I ⟨_, q1, rfl, rfl, dd, _, v, q3.symm, hH, ?_, h v H P (Stp.refl _) rp q5⟩
      rw [hy.2]
      simp [List.lookup]
    | _ => simp only [e] at h
end
end Den

set_option Elab.async false
set_option linter.all false
set_option maxRecDepth 100000
/-! DenP: from a body to a def by name. -/
namespace Den
open PySem PySem.Spec
open PyProof.Rows L2

def slotOf : Ar → Slot
  | .val d => .val d
  | .io j => .io j
/-- the slots at a def's entry -/
def rho0 (n : Nat) (as : List Ar) (ms : List MC) : Rho := ⟨as.map slotOf ++ List.replicate (n - as.length) .no, ms⟩
/-- what a def does, by its body -/
def outB : R Fl → Rt × List MC
  | .ok .nx ρ => (.ret .none, ρ.io)
  | .ok (.ret d) ρ => (.ret d, ρ.io)
  | .ok (.fre xs) ρ => (.fre xs, ρ.io)
  | .exc x ρ => (.exc x, ρ.io)
  | _ => (.bad, [])
def runB (n np : Nat) (g : M Fl) : FD := fun as ms => if as.length = np then outB (g (rho0 n as ms)) else (.bad, [])
theorem runB_len {n np : Nat} {g : M Fl} (as : List Ar) (ms : List MC) (h : as.length ≠ np) : (runB n np g as ms).1 = .bad := by
  unfold runB
  rw [if_neg h]
/-- the plain context of a def's body: nothing is caught yet -/
def c0 (kc : Kc) : Cc := ⟨kc, fun _ _ _ => False⟩
/-- what leaves the body is the caller's -/
def wOf (E : XK) : WX := fun cls d _ H => E cls d H
theorem rep_start {kc : Kc} {N : List Str} {as : List Ar} {ms : List MC} {ioA : List Addr} {vs : List V} {H : Hp} {P : Pcs} (ri : RepIo kc ioA ms H P) (ra : ArAll kc ioA (P .g) as vs) : RepW (c0 kc) ioA (rho0 N.length as ms) (L2.start N vs) H P where
  pc := ri.pc
  len := by
    show (L2.start N vs).length = (as.map slotOf ++ List.replicate (N.length - as.length) Slot.no).length
    unfold L2.start
    simp [ra.length]
  io := ri.io
  so := fun i s e => by
    have e' : (as.map slotOf ++ List.replicate (N.length - as.length) Slot.no)[i]? = some s := e
    have lv : (vs.map some).length = as.length := by rw [List.length_map, ra.length]
    have la : (as.map slotOf).length = as.length := List.length_map _
    by_cases hi : i < as.length
    · rw [List.getElem?_append_left (by rw [la]; exact hi), List.getElem?_map] at e'
      unfold L2.start
      rw [List.getElem?_append_left (by rw [lv]; exact hi), List.getElem?_map]
      cases q : as[i]? with
      | none => rw [q] at e'; cases e'
      | some a =>
        rw [q] at e'
        obtain ⟨v, hv, ok⟩ := ra.get q
        rw [hv]
        have e' := Option.some.inj e'
        subst e'
        cases a with
        | val d => exact ⟨v, rfl, ok⟩
        | io j =>
          obtain ⟨a, h1, rfl⟩ := ok
          exact ⟨a, h1, rfl⟩
    · rw [List.getElem?_append_right (by rw [la]; exact Nat.le_of_not_lt hi)] at e'
      have := List.eq_of_mem_replicate (List.mem_of_getElem? e')
      subst this
      trivial
theorem sat_start {kc : Kc} {ioA : List Addr} {g : M Fl} {ρ : Rho} {P : Pcs} {Q : VK} {E : XK} (io : ∀ {ρ' : Rho} {σ' : St} {H' : Hp} {P' : Pcs}, RepW (c0 kc) ioA ρ' σ' H' P' → RepIo kc ioA ρ'.io H' P')
    (h : RtOk kc ioA P Q E (outB (g ρ))) : tSat (c0 kc) ioA (wOf E) g ρ P (ends Q) := by
  unfold tSat
  cases e : g ρ with
  | bad => rw [e] at h; exact h
  | exc x ρ' => rw [e] at h; exact fun cls dx σ' H' P' s r q => h cls dx H' P' s (io r) q
  | ok fl ρ' =>
    rw [e] at h
    cases fl with
    | nx => exact fun σ' H' P' s r => h .non H' P' s (io r) .non
    | bk => exact h.elim
    | ct => exact h.elim
    | ret d => exact fun v σ' H' P' s r q => h v H' P' s (io r) q
    | fre xs => exact fun v σ' H' P' s r q => h v H' P' s (io r) q
section
variable {P : Program} {w : World} {K : PySem.W.Frag} {mg : Str → Option Value} {base : PySem.Heap} {kc : Kc} {k : Nat} {x qual : Str} {params : Arguments} {body : List Stmt} {scope : Scope} {f : Addr} {fd : FuncData} {N ps : List Str}
/-- the context of its body -/
abbrev cxB (P : Program) (w : World) (K : PySem.W.Frag) (mg : Str → Option Value) (base : PySem.Heap) (N : List Str) (qual : Str) (scope : Scope) (f : Addr) (cdv : Value) (A : Around) (outer : List Env) (s : Shared) (H : Hp) (E : XK) : Cx :=
  cxOf (L2.CX P w) P w K mg base N qual scope f cdv A outer s H E
/-- the body by data, wherever the def is called -/
def Body (P : Program) (w : World) (K : PySem.W.Frag) (mg : Str → Option Value) (base : PySem.Heap) (kc : Kc) (k : Nat) (N : List Str) (qual : Str) (scope : Scope) (f : Addr) (body : List Stmt) (g : M Fl) : Prop :=
  ∀ (cdv : Value) (A : Around) (outer : List Env) (s : Shared) (H : Hp) (E : XK), Cl (cxB P w K mg base N qual scope f cdv A outer s H E) (wOf E) k → DSs (cxB P w K mg base N qual scope f cdv A outer s H E) (c0 kc) (wOf E) body g
theorem fn_body {g : M Fl} (hK : kc.K = K) (F : FunD K x qual params body scope [] [] f fd) (S : FnScope N ps scope) (B : Body P w K mg base kc k N qual scope f body g) : FnG P w K mg base (k + 1) f fd ps (spOf kc (runB N.length ps.length g)) := by
  refine fnG_of F S (fun vs H Q E h => spOf_len runB_len h) fun cdv A outer s H vs Q E room gu prom => ?_
  obtain ⟨as, ms, ioA, P0, ri, ra, rt⟩ := prom
  have cl : Cl (cxB P w K mg base N qual scope f cdv A outer s H E) (wOf E) k := ⟨room, gu, takes_of rfl rfl rfl rfl, passes_of rfl⟩
  refine ⟨_, B cdv A outer s H E cl ⟨hK, ?_⟩ ioA, rho0 N.length as ms, P0, rep_start ri ra, sat_start (fun r => ⟨r.pc, r.io⟩) ?_⟩
  · have := room.un
    show (A.deeper _).units + 190 < cLine
    omega
  · unfold runB at rt
    by_cases hl : as.length = ps.length
    · rwa [if_pos hl] at rt
    · rw [if_neg hl] at rt
      exact rt.elim
theorem cal_of {g : M Fl} (hm : mg x = some (.ref f)) (hK : kc.K = K) (F : FunD K x qual params body scope [] [] f fd) (S : FnScope N ps scope)
    (hb : ∀ (kV doc pm : Value) (an : Option Addr) (cdv ct : Value) (us : List Value), us.length = ps.length → bindArgs (PySem.W.fnOf x qual params body scope .none kV doc pm an cdv ct) ⟨us, []⟩ = pure (ps.zip us))
    (B : Body P w K mg base kc k N qual scope f body g) : Cal P w K mg base kc (k + 1) x (runB N.length ps.length g) where
  ex := ⟨f, fd, ps, hm, F.kp, F.bindsN hb, fn_body hK F S B⟩
end
end Den

set_option Elab.async false
set_option linter.all false
set_option maxRecDepth 100000
/-! DenQ: the law's call, at the heap behind the module's top. -/
namespace Den
open PySem PySem.Spec
open PyProof.Rows L2

/-- the script as it is handed to a law -/
def scrD (ns : List Int) : PD := .dict [(.none, .list (ns.map PyData.int))]
/-- where a law's call begins -/
structure Entry (K : PySem.W.Frag) (mg : Str → Option Value) (s : Shared) (a : Addr) (vs : List Value) (ns : List Int) : Prop where
  kin : K.In s.heap
  glob : s.heap.Ns mainGlobals mg
  blt : ∃ mb, s.heap.Ns builtinsNs mb ∧ ∀ x : Str, x ≠ "__name__" → mb x = bootBuiltins x
  lim : s.heap.NoLimit
  still : s.gens = #[]
  list : s.heap.get? a = some { cls := .type "list", data := .seq vs.toArray }
  nums : IntsAre vs ns
  short : ns.length ≤ sizeLine
abbrev scrO (vs : List Value) : Obj := { cls := .type "list", data := .seq vs.toArray }
/-- the script is followed, unless it is a thing of the written part itself -/
def follow (K : PySem.W.Frag) (a : Addr) (vs : List Value) (ns : List Int) : Hp := fun b => if b = a ∧ K.lookup a = none then some (.frz (scrO vs) (.lst (ns.map V.int))) else none
section
variable {P : Program} {w : World} {K : PySem.W.Frag} {mg : Str → Option Value} {s : Shared} {a b : Addr} {vs : List Value} {ns : List Int} {u : HO} {o : Obj}
theorem follow_some (h : follow K a vs ns b = some u) : (b = a ∧ K.lookup a = none) ∧ u = .frz (scrO vs) (.lst (ns.map V.int)) := by
  unfold follow at h
  by_cases q : b = a ∧ K.lookup a = none
  · rw [if_pos q] at h; exact ⟨q, (Option.some.inj h).symm⟩
  · rw [if_neg q] at h; cases h
theorem follow_off (h : b ≠ a) : follow K a vs ns b = none := if_neg fun q => h q.1
theorem Entry.apart (En : Entry K mg s a vs ns) (h : s.heap.get? b = some o) {es : Array DictEntry} {ep : Nat} (d : o.data = .dict es ep) : b ≠ a := fun q => by
  rw [q, En.list] at h
  cases h
  cases d
theorem Entry.ok (En : Entry K mg s a vs ns) : HOk P w (follow K a vs ns) s.heap := fun b u h => by
  obtain ⟨⟨rfl, _⟩, rfl⟩ := follow_some h
  exact ⟨En.list, by rw [List.length_map]; exact En.short, vs, 0, vals_ints En.nums, En.list⟩
theorem Entry.sq (En : Entry K mg s a vs ns) : SqL K (follow K a vs ns) a (ns.map V.int) := by
  cases q : K.lookup a with
  | none => exact .inl (.inr ⟨_, if_pos ⟨rfl, q⟩⟩)
  | some o =>
    have z := En.kin _ _ q
    rw [En.list] at z
    cases z
    have r := vals_ints En.nums
    exact .inr ⟨_, vs.toArray, 0, q, rfl, rfl, rfl, by rw [List.size_toArray, ← r.length, List.length_map]; exact En.short, r⟩
theorem rp_ints {k : Kc} {G : Hp} : ∀ ns : List Int, RpAll k G (ns.map V.int) (ns.map PyData.int)
  | [] => .nil
  | n :: r => .cons (.int n) (rp_ints r)
/-- the part of the heap that nobody changes -/
abbrev ground (K : PySem.W.Frag) (s : Shared) (a : Addr) (vs : List Value) (ns : List Int) : PySem.Heap := hidT s.heap (follow K a vs ns)
theorem Entry.still_ns (En : Entry K mg s a vs ns) {m : Str → Option Value} (h : s.heap.Ns b m) : (ground K s a vs ns).Ns b m := by
  obtain ⟨o, es, ep, g, d, r⟩ := h
  exact ⟨o, es, ep, hidT_get g (follow_off (En.apart g d)), d, r⟩
theorem Entry.mod (En : Entry K mg s a vs ns) : Mod K mg (ground K s a vs ns) where
  kin := fun b o q => hidT_get (En.kin b o q) (by
    cases z : follow K a vs ns b with
    | none => rfl
    | some u =>
      obtain ⟨⟨rfl, no⟩, _⟩ := follow_some z
      rw [no] at q
      cases q)
  glob := En.still_ns En.glob
  blt := En.blt.imp fun _ h => ⟨En.still_ns h.1, h.2⟩
  nolimit := En.lim.imp fun _ h => ⟨En.still_ns h.1, h.2⟩
theorem Entry.env (En : Entry K mg s a vs ns) : Env0 P w K mg (ground K s a vs ns) callerA [] s (follow K a vs ns) where
  frames := rfl
  mod := En.mod
  bs := fun _ _ h => of_hidT h
  bsz := Nat.le_of_eq (hidT_size _ _)
  funs := trivial
  frf := fun _ h => by cases h
  hok := En.ok
  bare := En.still ▸ .empty
/-- the pieces at the entry: what is frozen, and nothing else -/
def onlyG (G : Hp) : Pcs := put (fun _ => emp) .g G
theorem onlyG_pc {G : Hp} : Pc G (onlyG G) where
  sub := fun x => by
    by_cases e : x = .g
    · subst e; unfold onlyG; rw [put_same]; exact Same.refl _
    · unfold onlyG; rw [put_ne e]; exact same_emp
  dis := fun x y n => by
    unfold onlyG
    by_cases e : x = .g
    · rw [put_ne (x := .g) (y := y) (fun z => n (e.trans z.symm))]; exact fun _ => .inr rfl
    · rw [put_ne e]; exact fun _ => .inl rfl
theorem onlyG_g {G : Hp} : onlyG G .g = G := put_same
/-- a law whose def answers True -/
theorem law_answers {kc : Kc} {k : Nat} {F : FD} {fa : Addr} {fd : FuncData} {x : Str} (En : Entry K mg s a vs ns) (hK : kc.K = K) (room : Room k callerA)
    (fn : FnG P w K mg (ground K s a vs ns) k fa fd [x] (spOf kc F)) (bnd : BindsTo s fd ⟨[.ref a], []⟩ [(x, .ref a)]) (yes : F [.val (scrD ns)] [] = (.ret (.bool true), [])) :
    codeAny (model P w) callerA (.call (.ref fa) ⟨[.ref a], []⟩) (fun r s' => r = .ok (.ret (.bool true)) ∧ OldK s.heap s'.heap ∧ s'.os = s.os ∧ AllBare s'.gens) s := by
  have prom : spOf kc F [.ref a] (follow K a vs ns) (fun v _ => v = .bl true) fun _ _ _ => False := by
    refine ⟨[.val (scrD ns)], [], [], onlyG (follow K a vs ns), ⟨onlyG_pc, fun j m e => by simp at e⟩, .cons ?_ .nil, ?_⟩
    · show Rp kc (onlyG _ .g) (.ref a) (scrD ns)
      rw [onlyG_g]
      exact .scr (hK ▸ En.sq) (rp_ints ns)
    · rw [yes]
      rintro v H' P' _ _ r
      cases r
      rfl
  refine codeAny_mono (fn.run callerA [] s _ ⟨[.ref a], []⟩ [.ref a] [.ref a] _ _ room rfl En.env bnd (.cons rfl .nil) prom) fun r s' h => ?_
  match r, h with
  | .ok (.ret u), h =>
    obtain ⟨v, G, os, bare, un, ok, rv, rfl⟩ := h
    have ru : u = .bool true := rv
    refine ⟨by rw [ru], .of_keep fun b o q => ?_, os, bare⟩
    cases z : follow K a vs ns b with
    | none => exact un.keep b o q z (by simp [frs]) (by simp)
    | some y =>
      obtain ⟨⟨rfl, _⟩, rfl⟩ := follow_some z
      rw [En.list] at q
      cases q
      exact (ok _ _ (un.frzs _ _ _ z)).1
  | .error e, h =>
    obtain ⟨_, _, _, _, _, _, _, _, _, _, _, _, no⟩ := h
    exact no.elim
end
end Den

set_option Elab.async false
set_option linter.all false
set_option maxRecDepth 100000
/-! DenR: C(..) of an own class: its __init__ by data, then the instance is frozen. -/
namespace Den
open PySem PySem.Spec
open PyProof.Rows L2

section
variable {X : Cx} {W : WX} {k : Nat} {C f : Addr} {fd : FuncData} {ps : List Str} {sp : Sp} {pins : List (Addr × Obj)} {σ : St} {H : Hp} {s : Shared} {Q : VK} {us : List Value} {vs : List V}
/-- nothing that a class's call puts around is a repr's guard -/
theorem guards_make (A : Around) (as : Args) : (A.under (.builtin "type.__call__" as)).guards = A.guards := by
  cases A with
  | mk a b c g u => cases g <;> rfl
/-- an instance is made, then its __init__ runs -/
theorem makeG (M : Mk X.K C f) (F : FnG X.prog X.w X.K X.mg X.base k f fd ps sp) (cl : Cl X W (k + 1)) (bnd : Binds X.K fd ps []) (I : Inv X pins σ H s) (rel : Vals vs us)
    (prom : ∀ x dx, H x = none → H dx = none → dx ≠ x → sp (.ref x :: vs) (upd (upd H dx (.own x)) x (.ins C dx [])) (fun v G => v = .non ∧ Q (.ref x) G) (WE W σ)) : wpAny (model X.prog X.w) X.A (call (.ref C) us) (EP X pins σ Q) X.xe s := by
  have p := prom (s.heap.objs.size + 1) s.heap.objs.size (I.hok.fresh (Nat.le_succ s.heap.objs.size)) (I.hok.fresh (Nat.le_refl _)) (Nat.ne_of_lt (Nat.lt_succ_self _))
  generalize self : s.heap.objs.size + 1 = x at p
  have J := Inv.made (C := C) I
  have rel' : Vals (V.ref x :: vs) (Value.ref x :: us) := .cons rfl rel
  have many : (Value.ref x :: us).length = ps.length := by rw [← rel'.length]; exact F.len _ _ _ _ p
  have b := bnd { s with heap := (s.heap.push PySem.W.emptyDict).push (PySem.W.instObj C s.heap.objs.size) } (Value.ref x :: us) J.kIn (by rw [List.append_nil]; exact many)
  rw [List.append_nil] at b
  rw [self] at J
  have ran := F.run (X.A.under (.builtin "type.__call__" ⟨.ref C :: us, []⟩)) X.stack _ _ ⟨Value.ref x :: us, []⟩ (Value.ref x :: us) (V.ref x :: vs) _ _ (cl.room.make C us []) (by rw [guards_make]; exact cl.gu) (J.env0.make C us []) b rel' p
  refine wpAny_call (make_map I.kIn M.makes M.init (beq_iff_eq.mp M.fn) ?_)
  rw [self]
  refine codeAny_mono ran fun res s' back => ?_
  match res, back with
  | .error e, back => exact passAt cl.tk σ pins _ _ e s' J back
  | .ok (.ret u), back =>
    obtain ⟨_, G, J', rv, rfl, q⟩ := J.after back
    exact ⟨rv, .ref x, G, J', rfl, q⟩
end

/-! ### by data -/
def dNew (n : Str) (F : FD) (ds : List PD) : M PD := fun ρ => match F (.io 0 :: ds.map Ar.val) [.ins n []] with
  | (.ret .none, [.ins m fs]) => .ok (insD m fs) ρ
  | (.exc x, [_]) => .exc x ρ
  | _ => .bad
/-- one slot more, behind the others -/
def more (ρ : Rho) (s : Slot) : Rho := { ρ with sl := ρ.sl ++ [s] }
theorem more_at {ρ : Rho} {s : Slot} : (more ρ s).sl[ρ.sl.length]? = some s := by
  show (ρ.sl ++ [s])[ρ.sl.length]? = _
  simp
theorem more_set {ρ : Rho} {s t : Slot} : { more ρ s with sl := (more ρ s).sl.set ρ.sl.length t } = more ρ t := by
  show Rho.mk ((ρ.sl ++ [s]).set ρ.sl.length t) ρ.io = Rho.mk (ρ.sl ++ [t]) ρ.io
  simp
section
variable {c : Cc} {ioA : List Addr} {ρ : Rho} {σ : St} {H : Hp} {P : Pcs} {s : Slot} {v : Option V}
theorem RepW.less (r : RepW c ioA (more ρ s) (σ ++ [v]) H P) : RepW c ioA ρ σ H P where
  pc := r.pc
  io := r.io
  len := by
    have : (σ ++ [v]).length = (ρ.sl ++ [s]).length := r.len
    simpa using this
  so := fun i t e => by
    have l : (σ ++ [v]).length = (ρ.sl ++ [s]).length := r.len
    have hi : i < ρ.sl.length := by
      have := (List.getElem?_eq_some_iff.mp e).1
      exact this
    have q := r.so i t (by show (ρ.sl ++ [s])[i]? = some t; rw [List.getElem?_append_left hi]; exact e)
    rwa [List.getElem?_append_left (by simp at l; omega)] at q
/-- a new instance stands in a slot of its own -/
theorem RepW.born {n : Str} {C x dx : Addr} (r : RepW c ioA ρ σ H P) (hk : c.kc.kl n = some C) (hx : H x = none) (hd : H dx = none) (ne : dx ≠ x) :
    RepW c ioA (more ρ (.own (.ins n []))) (σ ++ [some (.ref x)]) (upd (upd H dx (.own x)) x (.ins C dx [])) (put P (.sl ρ.sl.length) (upd (one dx (.own x)) x (.ins C dx []))) where
  pc := r.pc.put (fun a o e _ => by
      have n1 := ne_of_none e hx
      have n2 := ne_of_none e hd
      exact ⟨by rw [upd_ne n1, upd_ne n2]; exact e, by rw [upd_ne n1, one_ne n2]⟩) fun a o e => by
    by_cases h1 : a = x
    · subst h1; rw [upd_same] at e ⊢; exact e
    · rw [upd_ne h1] at e ⊢
      obtain ⟨rfl, rfl⟩ := one_some e
      exact upd_same
  len := by
    show (σ ++ [_]).length = (ρ.sl ++ [_]).length
    rw [List.length_append, List.length_append, r.len]
    rfl
  io := fun j m e => by
    obtain ⟨a, h1, h2⟩ := r.io j m e
    rw [put_ne (by simp), put_ne (by simp)]
    exact ⟨a, h1, h2⟩
  so := fun i t e => by
    rw [show put P (.sl ρ.sl.length) (upd (one dx (.own x)) x (.ins C dx [])) .g = P .g from put_ne (by simp)]
    have e' : (ρ.sl ++ [Slot.own (.ins n [])])[i]? = some t := e
    by_cases hi : i < ρ.sl.length
    · rw [List.getElem?_append_left hi] at e'
      rw [List.getElem?_append_left (by rw [r.len]; exact hi), put_ne (by simp; omega)]
      exact r.so i t e'
    · have lt := (List.getElem?_eq_some_iff.mp e').1
      simp at lt
      have : i = ρ.sl.length := by omega
      subst this
      simp at e'
      subst e'
      rw [put_same]
      exact ⟨x, by rw [← r.len]; simp, C, dx, [], hk, .nil, ne, rfl⟩
end
/-- a class by name whose __init__ does F -/
structure CalC (P : Program) (w : World) (K : PySem.W.Frag) (mg : Str → Option Value) (base : PySem.Heap) (kc : Kc) (k : Nat) (x : Str) (F : FD) : Prop where
  ex : ∃ (C f : Addr) (fd : FuncData) (ps : List Str), mg x = some (.ref C) ∧ kc.kl x = some C ∧ Mk K C f ∧ Binds K fd ps [] ∧ FnG P w K mg base k f fd ps (spOf kc F)
theorem vreas_vals {c : Cc} {σ : St} {P : Pcs} : ∀ {vs : List V} {ds : List PD}, RpAll c.kc (P .g) vs ds → VReas c σ P (ds.map Ea.val) vs
  | _, _, .nil => .nil
  | _, _, .cons h r => .cons h (vreas_vals r)
theorem ars_vals : ∀ ds : List PD, arsOf (ds.map Ea.val) = ds.map Ar.val
  | [] => rfl
  | _ :: r => by simp [arsOf, ars_vals r]
theorem ios_vals : ∀ ds : List PD, iosOf (ds.map Ea.val) = []
  | [] => rfl
  | _ :: r => by simp [iosOf, ios_vals r]
section
variable {X : Cx} {c : Cc} {W : WX} {x : Str} {F : FD} {k j : Nat} {e : Expr} {es : List Expr} {fs : M (List PD)} {p pos : Pos}
theorem de_new (T : CalC X.prog X.w X.K X.mg X.base c.kc k x F) (cl : Cl X W j) (hk : k + 1 ≤ j) (hg : Gl X x) (ha : DEs X c W (e :: es) fs) (nd : (x == ("__debug__" : Str)) = false := by decide) (fl : Flat X pos e es := by exact ⟨rfl, rfl⟩) :
    DE X c W (.Call (.Name x p) (e :: es) [] pos) (mbind fs (dNew x F)) := fun gd ioA => by
  obtain ⟨C, f, fd, ps, hm, hC, M, bnd, G⟩ := T.ex
  have low : Cl X W (k + 1) := ⟨cl.room.mono hk, cl.gu, cl.tk, cl.po⟩
  constructor
  rintro pins s σ H Q I ⟨ρ, P, rp, h⟩
  apply wpAny_Call_Name_kw
  apply ld_glob I hg hm _ nd
  have run := (ha gd ioA).run pos pins s σ H _ I ⟨ρ, P, rp, h.bind⟩
  refine PySem.W.callWith_K (h₀ := X.base) I.ok.mod.kin M.kp (thn run ?_) fl.head fl.tail
  rintro us s1 ⟨vs, H1, I1, rel, ds, ρ1, P1, s1', r1, v1, h1⟩
  refine ⟨I1.kIn, makeG M G low bnd I1 rel fun o dx ho hdx ne => ?_⟩
  have r2 := r1.born hC ho hdx ne
  have st : Stp P1 (put P1 (.sl ρ1.sl.length) (upd (one dx (.own o)) o (.ins C dx []))) := ⟨by rw [put_ne (by simp)]; exact Same.refl _, put_ne (by simp)⟩
  have eg : put P1 (.sl ρ1.sl.length) (upd (one dx (.own o)) o (.ins C dx [])) .g = P1 .g := put_ne (by simp)
  refine call_core (c := c) (ioA := ioA) (W := fun cls d _ G => W cls d σ G) (es := .io ρ1.sl.length :: ds.map Ea.val) r2 (.cons (by show (σ ++ [some (V.ref o)])[ρ1.sl.length]? = _; rw [← r1.len]; simp) (vreas_vals (by rw [eg]; exact v1))) ?_
  unfold tMat dNew at h1
  unfold tMat callTail
  have e1 : iosOf (Ea.io ρ1.sl.length :: ds.map Ea.val) = [ρ1.sl.length] := by simp [iosOf, ios_vals]
  have e2 : arsOf (Ea.io ρ1.sl.length :: ds.map Ea.val) = .io 0 :: ds.map Ar.val := by simp [arsOf, ars_vals]
  have e3 : ixOf (more ρ1 (.own (.ins x []))) ρ1.sl.length = some (.sl ρ1.sl.length) := by unfold ixOf; rw [more_at]
  have e4 : getC (more ρ1 (.own (.ins x []))) (.sl ρ1.sl.length) = some (.ins x []) := by
    show (match (more ρ1 (.own (.ins x []))).sl[ρ1.sl.length]? with
      | some (.own m) => some m
      | _ => none) = _
    rw [more_at]
  simp only [e1, e2, e3, e4]
  have eset : ∀ m, setC (more ρ1 (.own (.ins x []))) (.sl ρ1.sl.length) m = more ρ1 (.own m) := fun m => more_set
  cases eF : F (.io 0 :: ds.map Ar.val) [.ins x []] with
  | mk rt ms =>
    rw [eF] at h1
    have nothing : (match (rt, ms) with
      | (.ret .none, [.ins m fs]) => R.ok (insD m fs) ρ1
      | (.exc x, [_]) => R.exc x ρ1
      | _ => R.bad) ≠ R.bad := fun z => by simp only [z] at h1
    match ms, nothing, h1 with
    | [], nothing, _ => exact (nothing (by cases rt with
      | ret d => cases d <;> rfl
      | _ => rfl)).elim
    | m0 :: _ :: _, nothing, _ => exact (nothing (by cases rt with
      | ret d => cases d <;> first | rfl | (cases m0 <;> rfl)
      | _ => rfl)).elim
    | [m], nothing, h1 =>
      dsimp only
      rw [eset]
      match rt, m, nothing, h1 with
      | .exc y, _, _, h1 =>
        intro cls dy G P' st' r3 q
        exact h1 cls dy G P' (st.trans st') r3.less q
      | .ret .none, .ins m fs, _, h1 =>
        intro b G P' st' r3 rb
        have rb : Rp c.kc (P' .g) b .none := rb
        cases rb
        refine ⟨rfl, ?_⟩
        have r4 := r3.freeze (i := ρ1.sl.length) more_at
        have so := r4.so ρ1.sl.length (.val (insD m fs)) (by simp [more]; rfl)
        obtain ⟨v, hv, rv⟩ := so
        rw [← r1.len] at hv
        simp at hv
        subst hv
        rw [more_set] at r4
        refine h1 _ G _ ((st.trans st').trans ⟨by rw [put_same]; exact same_uni_l, by rw [put_ne (by simp), put_ne (by simp)]⟩) r4.less rv
end
end Den

set_option Elab.async false
set_option linter.all false
set_option maxRecDepth 100000
/-! DenS: methods of own classes, by data. -/
namespace Den
open PySem PySem.Spec
open PyProof.Rows L2

/-- the class n's method m does F -/
structure CalM (P : Program) (w : World) (K : PySem.W.Frag) (mg : Str → Option Value) (base : PySem.Heap) (kc : Kc) (k : Nat) (n m : Str) (F : FD) : Prop where
  ex : ∃ (C g : Addr) (fd : FuncData) (ps : List Str), kc.kl n = some C ∧ Cls K C ∧ Meth K C m g ∧ Binds K fd ps [] ∧ FnG P w K mg base k g fd ps (spOf kc F)
/-- an instance of n whose own attributes do not hide m -/
def isIns (n m : Str) : PD → Bool
  | .dict ((.none, .str n') :: fs) => n' == n && (lookF m fs).isNone
  | _ => false
/-- a call's result as a datum -/
def plainR (f : M (Sum PD (List PD))) : M PD := mbind f fun r => match r with
  | .inl d => mpure d
  | .inr _ => fun _ => .bad
def dCallM (n m : Str) (F : FD) (fo : M PD) (fs : M (List PD)) : M PD := mbind fo fun o => if isIns n m o = true then mbind fs fun ds => plainR (callTail F (.val o :: ds.map Ea.val)) else fun _ => .bad
theorem lookF_off {k : Kc} {G : Hp} {f : Str} : ∀ {fs : List (Str × V)} {ds : List (PD × PD)}, RpFs k G fs ds → lookF f ds = none → fs.lookup f = none
  | _, _, .nil, _ => rfl
  | _, _, .cons (f := g) h r, e => by
    unfold lookF at e
    rw [List.lookup_cons]
    cases hb : f == g with
    | true => rw [hb] at e; cases e
    | false => rw [hb] at e; exact lookF_off r e
theorem isIns_of {n m : Str} {d : PD} (h : isIns n m d = true) : ∃ fs, d = .dict ((.none, .str n) :: fs) ∧ lookF m fs = none := by
  unfold isIns at h
  split at h
  · rw [Bool.and_eq_true, beq_iff_eq] at h
    obtain ⟨rfl, h⟩ := h
    exact ⟨_, rfl, Option.isNone_iff_eq_none.mp h⟩
  · cases h
section
variable {X : Cx} {c : Cc} {W : WX} {n m : Str} {F : FD} {k j : Nat} {o e : Expr} {es : List Expr} {fo : M PD} {fs : M (List PD)} {pos apos : Pos} {pl : Sem Bool}
/-- what stands behind the found method: the arguments, then its call -/
theorem tail_call {ioA : List Addr} {ρ : Rho} {P : Pcs} {σ : St} {H : Hp} {Q : VK} {F : FD} {es : List Ea} {vs : List V} (r : RepW c ioA ρ σ H P) (hv : VReas c σ P es vs) (h : tMat c ioA W (VRe c) (plainR (callTail F es)) ρ P σ Q) : spOf c.kc F vs H Q (WE W σ) :=
  call_core r hv (h.bind.mono fun v G ⟨y, ρ1, P1, s1, r1, v1, h1⟩ => by
    cases y with
    | inl d => exact h1.pure r1 v1
    | inr xs => exact h1.elim)
theorem de_callM (T : CalM X.prog X.w X.K X.mg X.base c.kc k n m F) (cl : Cl X W j) (hk : k ≤ j) (ho : DE X c W o fo) (ha : DEs X c W (e :: es) fs) (fl : Flat X pos e es := by exact ⟨rfl, rfl⟩)
    (arm : eval (.Call (.Attribute o m apos) (e :: es) [] pos) X.env = (do
      let ov ← eval o X.env
      standAt apos.atName
      let (f, first) ← holding [ov] (getMethod ov m pl)
      callWith pos f first (backTo pos (starEach (e :: es) X.env)) (backToKw pos (keywordEach [] X.env))) := by rfl) :
    DE X c W (.Call (.Attribute o m apos) (e :: es) [] pos) (dCallM n m F fo fs) := fun gd ioA => by
  obtain ⟨C, g, fd, ps, hC, cls, met, bnd, G⟩ := T.ex
  have low : Cl X W k := ⟨cl.room.mono hk, cl.gu, cl.tk, cl.po⟩
  constructor
  rintro pins s σ H Q I ⟨ρ, P, rp, h⟩
  have self := (ho gd ioA).run pins s σ H _ I ⟨ρ, P, rp, h.bind⟩
  apply PySem.W.methodCall_KW (pl := pl) _ arm
  refine thn self ?_
  rintro u s1 ⟨v, H1, I1, rv, d, ρ1, P1, _, r1, v1, h1⟩
  by_cases q : isIns n m d = true
  case neg => rw [if_neg q] at h1; exact h1.elim
  rw [if_pos q] at h1
  obtain ⟨fs', rfl, no⟩ := isIns_of q
  have pk : PkR c.kc (P1 .g) H1 v _ := .inl v1
  obtain ⟨a, C', dx, vs, rfl, there, hC', flds⟩ := pk.ins (r1.pc.sub .g)
  rw [hC] at hC'
  cases hC'
  obtain rfl : u = Value.ref a := rv
  apply getmeth_ok I1 there cls met (lookF_off flds no)
  have args := (ha gd ioA).run pos pins s1 σ H1 _ I1 ⟨ρ1, P1, r1, h1.bind⟩
  refine PySem.W.callWith_K (h₀ := X.base) (first := [.ref a]) I.ok.mod.kin met.kp (thn args ?_) fl.head fl.tail
  rintro us s2 ⟨ws, H2, I2, rel, ds, ρ2, P2, st, r2, v2, h2⟩
  exact ⟨I2.kIn, run_fnG (us := .ref a :: us) (vs := .ref a :: ws) G low bnd I2 (.cons rfl rel) (tail_call r2 (.cons (p := .val _) (Rp.mono st.g v1) (vreas_vals v2)) h2)⟩
end
end Den

set_option Elab.async false
set_option linter.all false
set_option maxRecDepth 4000
/-! DenT: len(set(e)), e of ints. -/
namespace Den
open PySem PySem.Spec
open PyProof.Rows L2

/-- each number once, as it is met last -/
def dd : List Int → List Int
  | [] => []
  | n :: r => if n ∈ r then dd r else n :: dd r
theorem dd_mem {k : Int} : ∀ {ns : List Int}, k ∈ dd ns ↔ k ∈ ns
  | [] => Iff.rfl
  | n :: r => by
    unfold dd
    by_cases h : n ∈ r
    · rw [if_pos h, dd_mem (ns := r), List.mem_cons]
      exact ⟨.inr, fun z => z.elim (fun e => e ▸ h) id⟩
    · rw [if_neg h, List.mem_cons, List.mem_cons, dd_mem (ns := r)]
theorem dd_nodup : ∀ ns : List Int, (dd ns).Nodup
  | [] => List.Pairwise.nil
  | n :: r => by
    unfold dd
    by_cases h : n ∈ r
    · rw [if_pos h]; exact dd_nodup r
    · rw [if_neg h]
      exact List.nodup_cons.mpr ⟨fun z => h (dd_mem.mp z), dd_nodup r⟩
theorem dd_many {l ns : List Int} (n : l.Nodup) (m : ∀ k, k ∈ l ↔ k ∈ ns) : l.length = (dd ns).length :=
  List.Perm.length_eq ((List.perm_ext_iff_of_nodup n (dd_nodup ns)).mpr fun k => (m k).trans dd_mem.symm)
theorem dd_le : ∀ ns : List Int, (dd ns).length ≤ ns.length
  | [] => Nat.le_refl _
  | n :: r => by
    unfold dd
    by_cases h : n ∈ r
    · rw [if_pos h]; exact Nat.le_succ_of_le (dd_le r)
    · rw [if_neg h]; exact Nat.succ_le_succ (dd_le r)
theorem met_nodup (val : Nat → Int) : ∀ i, (firstMet val i).Nodup
  | 0 => List.Pairwise.nil
  | i + 1 => by
    rw [firstMet_succ]
    unfold step_dedup
    by_cases h : (firstMet val i).any (· == val i) = true
    · rw [if_pos h]; exact met_nodup val i
    · rw [if_neg h]
      refine List.nodup_append.mpr ⟨met_nodup val i, by simp, fun a ha b hb e => h ?_⟩
      rw [List.mem_singleton] at hb
      subst hb
      subst e
      exact List.any_eq_true.mpr ⟨_, ha, beq_self_eq_true _⟩
theorem met_many (ns : List Int) : (firstMet (fun i => ns.getD i 0) ns.length).length = (dd ns).length := by
  refine dd_many (met_nodup _ _) fun k => ?_
  have any := firstMet_any (fun i => ns.getD i 0) ns.length k
  have all : (List.range ns.length).map (fun i => ns.getD i 0) = ns := by
    refine List.ext_getElem (by simp) fun i h1 h2 => ?_
    simp [List.getD, List.getElem?_eq_getElem h2]
  rw [all] at any
  have i1 : ∀ l : List Int, l.any (· == k) = true ↔ k ∈ l := fun l => by simp [List.any_eq_true]
  rw [← i1, ← i1, any]
/-- a set of so many ints -/
def cntO (P : Program) (w : World) (p : Addr) (n : Nat) : HO := .ext fun h => ∃ S, h.SetOf (intKind P w) p S n
theorem cntO_ok {P : Program} {w : World} {H : Hp} {h : PySem.Heap} {p : Addr} {S : Int → Bool} {n : Nat} (r : h.SetOf (intKind P w) p S n) : ObjOk P w H h p (cntO P w p n) := by
  have there : ∃ o, h.get? p = some o := r.imp fun _ z => z.choose_spec.choose_spec.choose_spec.1
  refine ⟨⟨S, r⟩, there, fun h1 h2 ⟨S', o, es, ep, t, g, rest⟩ keep => ⟨S', o, es, ep, t, keep o g, rest⟩⟩
section
variable {X : Cx} {c : Cc} {W : WX} {e : Expr} {f : M Pk} {p1 p2 p3 p4 : Pos}
def rSetC (X : Cx) : List V → Hp → VK → Prop := fun xs H Q => ∃ a ns, xs = [.ref a] ∧ (SqL X.K H a (ns.map V.int) ∨ SqT X.K H a (ns.map V.int)) ∧ ns.length ≤ 4000 ∧ ∀ p, H p = none → Q (.ref p) (upd H p (cntO X.prog X.w p (dd ns).length))
def rLenC (X : Cx) : List V → Hp → VK → Prop := fun xs H Q => ∃ p n, xs = [.ref p] ∧ H p = some (cntO X.prog X.w p n) ∧ n ≤ 4000 ∧ Q (.int n) H
theorem cr_setC (cm : X.calm = true) : CallR X (.type "set") (rSetC X) := by
  rintro pins s σ H xs us Q I rel ⟨a, ns, rfl, sq, few, q⟩
  obtain ⟨u, rfl, ru⟩ := vals1 rel
  obtain rfl : u = Value.ref a := ru
  have fresh : H s.heap.objs.size = none := I.hok.fresh (Nat.le_refl _)
  have scan : ns.length + 1 < scanBound := by unfold scanBound; omega
  rcases sq with sq | sq
  · obtain ⟨its, rv, pl, _⟩ := I.list sq
    have many : its.toArray.size = ns.length := by rw [List.size_toArray, ← rv.length, List.length_map]
    refine call_set_list (I.ok.hd cm) pl.isList (ns := ns) (by simpa using rv.ints) (by rw [many]; exact scan) fun h' tk so keep => ?_
    rw [many, met_many] at so
    exact ⟨.ref _, _, I.laid (t' := tk) (fun b o g => keep b o (Heap.lt_size g) g) (Nat.le_refl _) (cntO_ok so), rfl, q _ fresh⟩
  · obtain ⟨its, rv, pl, _⟩ := I.tuple sq
    refine call_set_tupI ns (I.ok.hd cm) pl (by simpa using rv.ints) scan fun h' tk n so _ keep => ?_
    obtain ⟨o, es, ep, t, _, _, _, _, nod, mem, _, _, size, _⟩ := id so
    have cnt : n = (dd ns).length := by
      rw [← size, ← dd_many nod fun k => by rw [← mem k]; simp]
      simp
    rw [cnt] at so
    exact ⟨.ref _, _, I.laid (t' := tk) keep (Nat.le_refl _) (cntO_ok (SetR.setOf so)), rfl, q _ fresh⟩
theorem cr_lenC : CallR X (.builtin "len") (rLenC X) := by
  rintro pins s σ H xs us Q I rel ⟨p, n, rfl, at_, few, q⟩
  obtain ⟨u, rfl, ru⟩ := vals1 rel
  obtain rfl : u = Value.ref p := ru
  obtain ⟨S, o, es, ep, t, g, exact_, d, _, _, _, fits, size⟩ := (I.hok p _ at_).1
  subst size
  exact call_len_set g exact_ d fits (by omega) ⟨.int es.size, H, I.tok _, ⟨_, rfl⟩, q⟩
def pLenSet : PD → Option PD
  | .tuple ds => (intsD ds).bind fun ns => if ns.length ≤ 4000 then some (.int (dd ns).length) else none
  | .list ds => (intsD ds).bind fun ns => if ns.length ≤ 4000 then some (.int (dd ns).length) else none
  | _ => none
def dLenSet (f : M Pk) : M PD := mbind f fun p ρ => match look p ρ with
  | some d => mopt (pLenSet d) ρ
  | none => .bad
theorem de_lenSet (cm : X.calm = true) (he : DK X c W e f) (hg1 : Gl X "len") (hm1 : X.mg "len" = none) (hg2 : Gl X "set") (hm2 : X.mg "set" = none) (hs : starEach [e] X.env = (false, eval e X.env) :: starEach [] X.env := by rfl) :
    DE X c W (.Call (.Name "len" p1) [.Call (.Name "set" p2) [e] [] p3] [] p4) (dLenSet f) := fun gd ioA => by
  refine PE.imp (pe_callB cr_lenC hg1 hm1 PySem.boot_len (pa_cons (pe_callTy (cr_setC cm) hg2 hm2 PyProof.Rows.boot_set (pa_cons (he gd ioA) pa_nil hs) (by decide) (by decide) hs rfl) pa_nil)) fun σ H Q ⟨ρ, P, rp, h⟩ => ⟨ρ, P, rp, h.bind.mono fun v H1 ⟨p, ρ1, P1, s1, r1, v1, h1⟩ => ?_⟩
  cases e1 : look p ρ1 with
  | none => unfold tMat at h1; simp only [e1] at h1
  | some d =>
    cases e2 : pLenSet d with
    | none => unfold tMat mopt at h1; simp only [e1, e2] at h1
    | some dz =>
      have h3 : tMat c ioA W (VRe c) (mpure dz) ρ1 P1 σ Q := by
        unfold tMat mpure
        unfold tMat mopt at h1
        simp only [e1, e2] at h1
        exact h1
      have out := h3.out r1
      have pk := look_ok r1 v1 e1
      have sub := r1.pc.sub .g
      have fin : ∀ (ns : List Int) (a : Addr), v = .ref a → (SqL X.K H1 a (ns.map V.int) ∨ SqT X.K H1 a (ns.map V.int)) → ns.length ≤ 4000 → dz = .int (dd ns).length → rSetC X [v] H1 fun x H2 => rLenC X [x] H2 Q := by
        rintro ns a rfl sq few rfl
        exact ⟨a, ns, rfl, sq, few, fun p np => ⟨p, _, rfl, upd_same, Nat.le_trans (dd_le ns) few, out _ _ _ (Ext.new sub np) (.int _)⟩⟩
      unfold pLenSet at e2
      split at e2
      · rename_i ds
        cases e3 : intsD ds with
        | none => rw [e3] at e2; cases e2
        | some ns =>
          rw [e3, Option.bind_some] at e2
          split at e2
          · rename_i few
            obtain ⟨a, xs, ev, sq, rp⟩ := pk.tuple sub
            obtain rfl := intsD_rp e3 rp
            exact fin ns a ev (.inr (gd.hK ▸ sq)) few (Option.some.inj e2).symm
          · cases e2
      · rename_i ds
        cases e3 : intsD ds with
        | none => rw [e3] at e2; cases e2
        | some ns =>
          rw [e3, Option.bind_some] at e2
          split at e2
          · rename_i few
            obtain ⟨a, xs, ev, sq, rp⟩ := pk.list sub
            obtain rfl := intsD_rp e3 rp
            exact fin ns a ev (.inl (.inl (.inl sq))) few (Option.some.inj e2).symm
          · cases e2
      · cases e2
end
end Den

set_option Elab.async false
set_option linter.all false
set_option maxRecDepth 100000
/-! DenU: dict(rows), rows a tuple of pairs whose first is a tuple of ints and texts. -/
namespace Den
open PySem PySem.Spec
open PyProof.Rows L2

/-- a row: where it is, where its key is, the key, the value -/
abbrev DRow := Addr × Addr × List Key × V
section
variable {X : Cx} {pins : List (Addr × Obj)} {σ : St} {H : Hp} {s : Shared}
theorem pair_get {α β : Type} {F : α → β → Prop} : ∀ {l : List α} {m : List β} {i : Nat} {b : β}, Paired F l m → m[i]? = some b → ∃ a, l[i]? = some a ∧ F a b
  | _, _, _, _, .nil, e => by simp at e
  | _, _, 0, _, .cons h _, e => by simp at e; subst e; exact ⟨_, rfl, h⟩
  | _, _, i + 1, _, .cons _ r, e => by
    obtain ⟨a, h1, h2⟩ := pair_get (i := i) r (by simpa using e)
    exact ⟨a, by simpa using h1, h2⟩
/-- the rows, read in the heap -/
theorem rows_at (I : Inv X pins σ H s) : ∀ rs : List DRow, (∀ r ∈ rs, SqT X.K H r.1 [.ref r.2.1, r.2.2.2] ∧ H r.2.1 = some (.tup (r.2.2.1.map kV))) →
    ∃ xs : List (List Key × Addr × Value), KT H (rs.map fun r => (r.2.2.1, r.2.2.2)) xs ∧ Paired (fun (r : DRow) x => (x.1 = r.2.2.1 ∧ x.2.1 = r.2.1) ∧ s.heap.IsTuple r.1 #[.ref r.2.1, x.2.2] ∧ (tupleKind (mixKind X.prog X.w)).is s.heap x.1 x.2.1) rs xs
  | [], _ => ⟨[], .nil, .nil⟩
  | r :: rs, h => by
    obtain ⟨xs, h1, h2⟩ := rows_at I rs fun q hq => h q (List.mem_cons_of_mem _ hq)
    obtain ⟨t, k⟩ := h r List.mem_cons_self
    obtain ⟨its, rel, at_, _⟩ := I.tuple t
    cases rel with
    | @cons _ u _ us a b =>
    cases b with
    | @cons _ y _ ys c d =>
    cases d
    obtain rfl : u = Value.ref r.2.1 := a
    exact ⟨(r.2.2.1, r.2.1, y) :: xs, .cons ⟨rfl, k, c⟩ h1, .cons ⟨⟨rfl, rfl⟩, at_, key_of I.hok k⟩ h2⟩
end
def rDictT (X : Cx) : List V → Hp → VK → Prop := fun xs H Q => ∃ (a : Addr) (rs : List DRow) (o : Obj), xs = [.ref a] ∧ o.dict = none ∧ H a = some (.frz o (.tup (rs.map fun r => V.ref r.1))) ∧
  (∀ r ∈ rs, SqT X.K H r.1 [.ref r.2.1, r.2.2.2] ∧ H r.2.1 = some (.tup (r.2.2.1.map kV))) ∧ (rs.map fun r => r.2.2.1).Nodup ∧ ∀ p, H p = none → Q (.ref p) (upd H p (.dT (rs.map fun r => (r.2.2.1, r.2.2.2))))
theorem cr_dictT {X : Cx} (cm : X.calm = true) (hu : X.A.units + 2 < cLine) : CallR X (.type "dict") (rDictT X) := by
  rintro pins s σ H _ us Q I rel ⟨a, rs, o, rfl, nd, frz, all, once, q⟩
  obtain ⟨u, rfl, ru⟩ := vals1 rel
  obtain rfl : u = Value.ref a := ru
  obtain ⟨there, few, its, rv, o', there', hc, n, hd⟩ := (show ObjOk X.prog X.w H s.heap a (.frz o (.tup (rs.map fun r => V.ref r.1))) from I.hok a _ frz)
  rw [there] at there'
  cases there'
  have ei : its = (rs.map fun r => r.1).map Value.ref := refs_at (by rw [List.map_map]; exact rv)
  subst ei
  obtain ⟨xs, kt, pr⟩ := rows_at I rs all
  have many : rs.length = xs.length := pr.length
  have keys : (xs.map (·.1)).Nodup := by
    have : ∀ {l : List (List Key × V)} {m : List (List Key × Addr × Value)}, KT H l m → m.map (·.1) = l.map (·.1) := fun z => by
      induction z with
      | nil => rfl
      | cons h _ ih => simp [ih, h.1]
    rw [this kt, List.map_map]
    exact once
  let ps : List (Value × Value) := xs.map fun x => (Value.ref x.2.1, x.2.2)
  have arg := PairArg.tuple (prog := X.prog) (w := X.w) a ((rs.map fun r => r.1).map Value.ref).toArray (fun j => (rs.map fun r => r.1).getD j 0) ps
  have row : ∀ {j : Nat} {x : List Key × Addr × Value}, xs[j]? = some x → ∃ r, rs[j]? = some r ∧ (x.1 = r.2.2.1 ∧ x.2.1 = r.2.1) ∧ s.heap.IsTuple r.1 #[.ref r.2.1, x.2.2] ∧ (tupleKind (mixKind X.prog X.w)).is s.heap x.1 x.2.1 := fun e => pair_get pr e
  have psN : ps.length = xs.length := List.length_map _
  have ok : PlainSeq "tuple" s.heap a ((rs.map fun r => r.1).map Value.ref).toArray ∧ PairItems s.heap ((rs.map fun r => r.1).map Value.ref).toArray (fun j => (rs.map fun r => r.1).getD j 0) ps := by
    refine ⟨⟨o, n, there, hc, nd, hd⟩, by rw [List.size_toArray, List.length_map, List.length_map, psN, many], fun j k v e => ?_⟩
    have e' : (xs.map fun x => (Value.ref x.2.1, x.2.2))[j]? = some (k, v) := e
    rw [List.getElem?_map] at e'
    cases ex : xs[j]? with
    | none => rw [ex] at e'; cases e'
    | some x =>
      rw [ex] at e'
      cases e'
      obtain ⟨r, er, ⟨_, e2⟩, at_, _⟩ := row ex
      have here : (rs.map fun r => r.1).getD j 0 = r.1 := by simp [List.getD, List.getElem?_map, er]
      refine ⟨?_, .inl ?_⟩
      · show _ = some (Value.ref ((rs.map fun r => r.1).getD j 0))
        rw [here]
        simp [List.getElem?_map, er]
      · show s.heap.IsTuple ((rs.map fun r => r.1).getD j 0) _
        rw [here, e2]
        exact at_
  refine PySem.call_dict_pairsH (knd := tupleKind (mixKind X.prog X.w)) (ps := xs) arg (I.ok.hd cm) (show X.A.in1.in1.units < cLine from hu) ok ⟨psN.symm, fun i k v e => ?_⟩ (fun h' keep x hx => ?_) (by rw [psN, ← many]; simpa using few) fun h' tk d keep => ?_
  · have e' : (xs.map fun x => (Value.ref x.2.1, x.2.2))[i]? = some (k, v) := e
    rw [List.getElem?_map] at e'
    cases ex : xs[i]? with
    | none => rw [ex] at e'; cases e'
    | some x =>
      rw [ex] at e'
      cases e'
      exact ⟨x.1, x.2.1, rfl, rfl⟩
  · obtain ⟨j, hj⟩ := List.mem_iff_getElem?.mp hx
    obtain ⟨r, _, _, _, is⟩ := row hj
    obtain ⟨o, items, n, g, rest⟩ := is
    exact ⟨o, items, n, keep _ _ (Nat.ne_of_lt (Heap.lt_size g)) (by simp) g, rest⟩
  · rw [storedAllH_nil_of_nodup xs keys] at d
    have fresh : H s.heap.objs.size = none := I.hok.fresh (Nat.le_refl _)
    have new : ObjOk X.prog X.w (upd H s.heap.objs.size (.dT (rs.map fun r => (r.2.2.1, r.2.2.2)))) h' s.heap.objs.size (.dT (rs.map fun r => (r.2.2.1, r.2.2.2))) := by
      obtain ⟨od, es, ep, g, exact_, data, ents, _, nodup⟩ := d
      refine ⟨by rw [List.length_map]; simpa using few, beq_eq_false_iff_ne.mpr (Nat.ne_of_gt I.big), xs, ?_, od, es, ep, g, exact_, data, ents, nodup⟩
      refine Paired.mono (fun p q z => ?_) kt
      exact ⟨z.1, by rw [upd_ne (ne_of_none z.2.1 fresh)]; exact z.2.1, z.2.2⟩
    exact ⟨.ref _, _, I.laid (t' := tk) (fun b o g => keep b o (by simp) g) (Nat.le_refl _) new, rfl, q _ fresh⟩
end Den

set_option Elab.async false
set_option linter.all false
set_option maxRecDepth 100000
/-! DenV: dict(rows) and d.get(key), by data. -/
namespace Den
open PySem PySem.Spec
open PyProof.Rows L2

def keyD : PD → Option Key
  | .int i => some (.inl i)
  | .str x => some (.inr x)
  | _ => none
def keysD : List PD → Option (List Key)
  | [] => some []
  | d :: r => (keyD d).bind fun k => (keysD r).map (k :: ·)
/-- a tuple as a key: not empty, of ints and texts -/
def tkeyD : PD → Option (List Key)
  | .tuple (d :: r) => keysD (d :: r)
  | _ => none
def rowD : PD → Option (List Key × PD)
  | .tuple [k, v] => (tkeyD k).map (·, v)
  | _ => none
def rowsD : List PD → Option (List (List Key × PD))
  | [] => some []
  | d :: r => (rowD d).bind fun q => (rowsD r).map (q :: ·)
/-- a dict of tuples as keys -/
def tdic (rs : List (List Key × PD)) : PD := .dict (rs.map (fun r => (.tuple (r.1.map kD), r.2)) ++ [(.bool true, .none)])
def gDict : List PD → Option PD
  | [.tuple ds] => (rowsD ds).bind fun rs => if (rs.map (·.1)).Nodup then some (tdic rs) else none
  | _ => none
section
variable {k : Kc} {G H : Hp}
theorem keysD_rp : ∀ {ds : List PD} {ks : List Key} {vs : List V}, keysD ds = some ks → RpAll k G vs ds → vs = ks.map kV
  | [], ks, vs, e, h => by cases e; cases h; rfl
  | d :: ds, ks, vs, e, h => by
    unfold keysD at e
    cases e1 : keyD d with
    | none => rw [e1] at e; cases e
    | some q =>
      rw [e1, Option.bind_some] at e
      cases e2 : keysD ds with
      | none => rw [e2] at e; cases e
      | some qs =>
        rw [e2] at e
        cases e
        cases h with
        | cons h r =>
          rw [keysD_rp e2 r]
          cases d with
          | int i => cases e1; cases h; rfl
          | str x => cases e1; cases h; rfl
          | _ => cases e1
theorem keyish_of : ∀ {ks : List Key}, ks ≠ [] → keyish (ks.map kV) = true
  | [], h => absurd rfl h
  | q :: qs, _ => by
    have all : ∀ l : List Key, (l.map kV).all (fun x => match x with
      | .int _ => true
      | .str _ => true
      | _ => false) = true := fun l => by
      rw [List.all_map]
      exact List.all_eq_true.mpr fun x _ => by cases x <;> rfl
    exact all (q :: qs)
theorem keyish_ref {p : Addr} {r : List V} : keyish (.ref p :: r) = false := rfl
/-- a key, as it is followed -/
theorem tkey_rp {d : PD} {ks : List Key} {v : V} (e : tkeyD d = some ks) (h : Rp k G v d) : ∃ t, v = .ref t ∧ G t = some (.tup (ks.map kV)) := by
  unfold tkeyD at e
  split at e
  · rename_i a r
    cases h with
    | @tup t xs _ h rr =>
      have ex := keysD_rp e rr
      subst ex
      have ne : ks ≠ [] := fun z => by subst z; cases rr
      obtain ⟨o, _, at_⟩ := h
      unfold tupO at at_
      rw [if_pos (keyish_of ne)] at at_
      exact ⟨t, rfl, at_⟩
  · cases e
theorem rows_rp (s : Same G H) {K : PySem.W.Frag} : ∀ {ds : List PD} {rs : List (List Key × PD)} {vs : List V}, rowsD ds = some rs → RpAll k G vs ds → ∃ rows : List DRow, vs = rows.map (fun r => V.ref r.1) ∧
    (∀ r ∈ rows, SqT K H r.1 [.ref r.2.1, r.2.2.2] ∧ H r.2.1 = some (.tup (r.2.2.1.map kV))) ∧ rows.map (fun r => r.2.2.1) = rs.map (·.1) ∧ RpTs k G (rows.map fun r => (r.2.2.1, r.2.2.2)) (rs.map (fun r => (PyData.tuple (r.1.map kD), r.2)) ++ [(.bool true, .none)])
  | [], rs, vs, e, h => by
    cases e
    cases h
    exact ⟨[], rfl, fun r hr => (List.not_mem_nil hr).elim, rfl, RpTs.nil⟩
  | d :: ds, rs, vs, e, h => by
    unfold rowsD at e
    cases e1 : rowD d with
    | none => rw [e1] at e; cases e
    | some q =>
      rw [e1, Option.bind_some] at e
      cases e2 : rowsD ds with
      | none => rw [e2] at e; cases e
      | some qs =>
        rw [e2] at e
        cases e
        cases h with
        | cons h hr =>
          obtain ⟨rows, h1, h2, h3, h4⟩ := rows_rp s e2 hr
          unfold rowD at e1
          split at e1
          · rename_i kd vd
            cases e3 : tkeyD kd with
            | none => simp only [e3, Option.map_none] at e1; cases e1
            | some ks =>
              simp only [e3, Option.map_some] at e1
              cases e1
              cases h with
              | @tup p xs _ h rr =>
                cases rr with
                | @cons kv _ _ _ a b =>
                cases b with
                | @cons vv _ _ _ c d =>
                cases d
                obtain ⟨t, rfl, at_⟩ := tkey_rp e3 a
                refine ⟨(p, t, ks, vv) :: rows, by rw [h1]; rfl, fun r hr => ?_, by simp [h3], .cons c h4⟩
                rcases List.mem_cons.mp hr with rfl | hr
                · exact ⟨h.seqT s, s _ _ at_⟩
                · exact h2 r hr
          · cases e1
end
section
variable {X : Cx} {k : Kc}
theorem c_dictT (hu : X.A.units + 2 < cLine) : CalD X k (.type "dict") gDict := fun cm hK => by
  refine ⟨_, cr_dictT cm hu, fun G H xs dxs dz Q s hp hg ho => ?_⟩
  unfold gDict at hg
  split at hg
  · rename_i ds
    cases e : rowsD ds with
    | none => rw [e] at hg; cases hg
    | some rs =>
      rw [e, Option.bind_some] at hg
      split at hg
      · rename_i once
        cases hg
        obtain ⟨v, rfl, h⟩ := hp.one
        obtain ⟨a, ws, rfl, ⟨o, nd, at_⟩, rp⟩ := h.tupS s
        obtain ⟨rows, rfl, h2, h3, h4⟩ := rows_rp (K := X.K) s e rp
        have notKey : ¬ keyish (rows.map fun r => V.ref r.1) = true := by
          cases rows with
          | nil => exact Bool.false_ne_true
          | cons r rs => exact Bool.false_ne_true
        unfold tupO at at_
        rw [if_neg notKey] at at_
        exact ⟨a, rows, o, rfl, nd, at_, h2, by rw [h3]; exact once, fun p np => ho _ _ _ (Ext.new s np) (.dT upd_same (h4.mono (Ext.new s np).g))⟩
      · cases hg
  · cases hg
end
end Den

set_option Elab.async false
set_option linter.all false
set_option maxRecDepth 100000
/-! DenW: d.get(key), key a tuple of ints and texts. -/
namespace Den
open PySem PySem.Spec
open PyProof.Rows L2

/-- what stands at a key -/
def atT (ks : List Key) : List (PD × PD) → Option (Option PD)
  | [(.bool true, .none)] => some none
  | (.tuple f, d) :: r => if keysD f = some ks then some (some d) else atT ks r
  | _ => none
theorem keysD_kD : ∀ ks : List Key, keysD (ks.map kD) = some ks
  | [] => rfl
  | .inl i :: r => by simp [keysD, kD, keyD, keysD_kD r]
  | .inr x :: r => by simp [keysD, kD, keyD, keysD_kD r]
section
variable {k : Kc} {G H : Hp}
theorem rpTs_at {ks : List Key} : ∀ {es : List (List Key × V)} {ds : List (PD × PD)}, RpTs k G es ds → ∃ o, atT ks ds = some o ∧ ((o = none ∧ valV es ks = none) ∨ ∃ d v, o = some d ∧ valV es ks = some v ∧ Rp k G v d)
  | _, _, .nil => ⟨none, rfl, .inl ⟨rfl, rfl⟩⟩
  | _, _, .cons (f := f) (v := v) (d := d) h r => by
    by_cases e : f = ks
    · subst e
      exact ⟨some d, by simp [atT, keysD_kD], .inr ⟨d, v, rfl, by simp [valV], h⟩⟩
    · obtain ⟨o, h1, h2⟩ := rpTs_at (ks := ks) r
      have ne : keysD (f.map kD) ≠ some ks := fun z => e (Option.some.inj ((keysD_kD f).symm.trans z))
      refine ⟨o, ?_, ?_⟩
      · unfold atT
        simp only [if_neg ne]
        exact h1
      · have : ∀ l : List (List Key × V), valV ((f, v) :: l) ks = valV l ks := fun l => by unfold valV; rw [List.find?_cons]; simp [e]
        rw [this]
        exact h2
theorem rpKs_at {ks : List Key} : ∀ {es : List (Key × V)} {ds : List (PD × PD)}, RpKs k G es ds → atT ks ds = none
  | _, _, .nil => rfl
  | _, _, .cons (f := .inl _) _ _ => rfl
  | _, _, .cons (f := .inr _) _ _ => rfl
end
def dGet (fo : M Pk) (fk : M PD) : M PD := mbind fo fun p ρ => match look p ρ with
  | some (.dict kvs) => if isDic kvs = true then mbind fk (fun key ρ' => match look p ρ', tkeyD key with
    | some (.dict kvs'), some ks => if isDic kvs' = true then (match atT ks kvs' with
      | some o => .ok (o.getD .none) ρ'
      | none => .bad) else .bad
    | _, _ => .bad) ρ else .bad
  | _ => .bad
section
variable {X : Cx} {c : Cc} {W : WX} {o e : Expr} {fo : M Pk} {fk : M PD} {apos cpos : Pos}
theorem de_get (ho : DK X c W o fo) (hk : DE X c W e fk) (m : M1 X o "get" apos e cpos := by exact ⟨rfl, rfl, rfl, rfl⟩) : DE X c W (.Call (.Attribute o "get" apos) [e] [] cpos) (dGet fo fk) := fun gd ioA => by
  have un := gd.un
  refine PE.imp (pe_dget1 (by omega) (ho gd ioA) (hk gd ioA) m) fun σ H Q ⟨ρ, P, rp, h⟩ => ⟨ρ, P, rp, h.bind.mono fun v H1 ⟨p, ρ1, P1, s1, r1, v1, h1⟩ => ?_⟩
  have first : ∀ {kvs}, look p ρ1 = some (.dict kvs) → isDic kvs = true → ∃ a, v = .ref a ∧ IsD H1 a := fun {kvs} e1 di => by
    obtain ⟨a, ev, z⟩ := (look_ok r1 v1 e1).dict (r1.pc.sub .g) (isDic_ne di)
    exact ⟨a, ev, z.imp (fun ⟨es, q, _⟩ => ⟨es, .inl q⟩) fun ⟨es, q, _⟩ => ⟨es, .inl q⟩⟩
  cases e1 : look p ρ1 with
  | none => unfold tMat at h1; simp only [e1] at h1
  | some d =>
    cases d with
    | dict kvs =>
      by_cases di : isDic kvs = true
      case neg => unfold tMat at h1; simp only [e1, if_neg di] at h1
      obtain ⟨a, rfl, isd⟩ := first e1 di
      refine ⟨a, rfl, isd, ρ1, P1, r1, ?_⟩
      have h2 : tMat c ioA W (VRe c) (mbind fk fun key ρ' => match look p ρ', tkeyD key with
        | some (.dict kvs'), some ks => if isDic kvs' = true then (match atT ks kvs' with
          | some o => R.ok (o.getD .none) ρ'
          | none => .bad) else .bad
        | _, _ => .bad) ρ1 P1 σ Q := by
        unfold tMat at h1 ⊢
        simp only [e1, if_pos di] at h1
        exact h1
      refine h2.bind.mono fun y H2 ⟨key, ρ2, P2, s2, r2, v2, h3⟩ => ?_
      have v1' : VRk c p (.ref a) σ H2 P2 := VRk.step (H := H1) v1 s2
      unfold tMat at h3
      cases e2 : look p ρ2 with
      | none => simp only [e2] at h3
      | some d2 =>
        cases d2 with
        | dict kvs2 =>
          cases e3 : tkeyD key with
          | none => simp only [e2, e3] at h3
          | some ks =>
            by_cases di2 : isDic kvs2 = true
            case neg => simp only [e2, e3, if_neg di2] at h3
            cases e4 : atT ks kvs2 with
            | none => simp only [e2, e3, if_pos di2, e4] at h3
            | some r =>
              simp only [e2, e3, if_pos di2, e4] at h3
              obtain ⟨b, eb, z⟩ := (look_ok r2 v1' e2).dict (r2.pc.sub .g) (isDic_ne di2)
              cases eb
              rcases z with ⟨es, q, rr⟩ | ⟨es, q, rr⟩
              · rw [rpKs_at rr] at e4
                cases e4
              · obtain ⟨o, h5, h6⟩ := rpTs_at (ks := ks) rr
                rw [e4] at h5
                cases h5
                have v2' : Rp c.kc (P2 .g) y key := v2
                obtain ⟨t, rfl, at_⟩ := tkey_rp e3 v2'
                refine ⟨valV es ks, .inr ⟨es, ks, t, .inl q, rfl, r2.pc.sub .g _ _ at_, rfl⟩, ?_⟩
                refine h3 _ H2 P2 (Stp.refl _) r2 ?_
                rcases h6 with ⟨rfl, h6⟩ | ⟨d, v, rfl, h6, h7⟩
                · rw [h6]; exact .non
                · rw [h6]; exact h7
        | _ => simp only [e2] at h3
    | _ => unfold tMat at h1; simp only [e1] at h1
end
end Den

set_option Elab.async false
set_option linter.all false
set_option maxRecDepth 100000
/-! DenO: repr(e), by data. -/
namespace Den
open PySem PySem.Spec
open PyProof.Rows L2

/-- what can be shown: no dict, not deep, not long -/
def showOk (d : PD) : Bool := plainD d && d.showable && !d.hasDict && decide (d.depth ≤ 100) && decide (d.shown.length ≤ sizeLine)
def gRepr : List PD → Option PD
  | [d] => if showOk d = true then some (.str d.shown) else none
  | _ => none
def rRepr (X : Cx) : List V → Hp → VK → Prop := fun xs H Q => ∃ v d, xs = [v] ∧ Dp X.K H v d ∧ showOk d = true ∧ Q (.str d.shown) H
section
variable {X : Cx} {k : Kc}
theorem cr_repr (gu : X.A.guards = some []) (hu : X.A.units + 190 < cLine) : CallR X (.builtin "repr") (rRepr X) := by
  rintro pins s σ H _ us Q I rel ⟨v, d, rfl, dp, ok, q⟩
  obtain ⟨u, rfl, ru⟩ := vals1 rel
  obtain ⟨as, reads⟩ := Dp.reads I d v u dp ru
  unfold showOk at ok
  simp only [Bool.and_eq_true, decide_eq_true_eq, Bool.not_eq_true'] at ok
  obtain ⟨⟨⟨⟨_, sh⟩, nd⟩, deep⟩, long⟩ := ok
  have end_ : ∀ (s' : Shared) (t : Tok), Inv X pins σ H s' → EP X pins σ Q (.str d.shown t) s' := fun s' t J => ⟨.str d.shown, H, J, ⟨t, rfl⟩, q⟩
  have big : ∀ a : Addr, Reads s.heap (.ref a) d as → wpAny (model X.prog X.w) X.A (call (.builtin "repr") [.ref a]) (EP X pins σ Q) X.xe s := fun a r =>
    repr_of_reads' r sh (fun z => by rw [nd] at z; cases z) gu (by omega) (fun _ _ e => e) (fun h' t tk keep => end_ _ t (I.kept keep)) long
  cases dp with
  | non => cases ru; exact P.repr_of_none (end_ _ _ (I.tok _))
  | bl b => cases ru; exact P.repr_of_bool (by cases b <;> exact end_ _ _ (I.tok _))
  | int i =>
    obtain ⟨t, rfl⟩ := ru
    exact P.repr_of_int (of_decide_eq_true sh) (end_ _ _ (I.tok _))
  | str x =>
    obtain ⟨t, rfl⟩ := ru
    exact P.repr_of_str (end_ _ _ (I.tok _)) long
  | lst _ _ => cases ru; exact big _ reads
  | tup _ _ => cases ru; exact big _ reads
theorem c_repr (gu : X.A.guards = some []) (hu : X.A.units + 190 < cLine) : CalD X k (.builtin "repr") gRepr := fun cm hK => by
  refine ⟨_, cr_repr gu hu, fun G H xs dxs dz Q s hp hg ho => ?_⟩
  unfold gRepr at hg
  split at hg
  · split at hg
    · rename_i d ok
      cases hg
      obtain ⟨v, rfl, h⟩ := hp.one
      have pl : plainD d = true := by
        unfold showOk at ok
        simp only [Bool.and_eq_true] at ok
        exact ok.1.1.1.1
      exact ⟨v, d, rfl, hK ▸ h.dp s pl, ok, ho.here s (.str _)⟩
    · cases hg
  · cases hg
end
end Den

set_option Elab.async false
set_option linter.all false
set_option maxRecDepth 100000
/-! DenZ: what the printed proofs lean on. -/
namespace Den
open PySem PySem.Spec
open PyProof.Rows L2
theorem takes_no {X : Cx} : Takes X noW := fun _ _ h => by
  obtain ⟨_, _, _, _, _, _, _, _, _, _, _, _, _, _, _, _, no⟩ := h
  exact no.elim
/-- in a comprehension's block -/
theorem Cl.blk {X : Cx} {W : WX} {k : Nat} {s : Shared} {H : Hp} {scope : Scope} {cenv : Env} {fp : List Addr} (cl : Cl X W k) : Cl (X.blk s H scope cenv fp) noW k := ⟨cl.room, cl.gu, takes_no, .never⟩
/-- in the body of a try -/
theorem Cl.tr {X : Cx} {W V : WX} {k : Nat} {pn : List (Addr × Obj)} {xe : Value → Shared → Prop} (cl : Cl X W k) (t : Takes (X.tr pn xe) V) (po : PassesOwn (model X.prog X.w) X.A X.env xe) : Cl (X.tr pn xe) V k := ⟨cl.room, cl.gu, t, po⟩
theorem blk_of (N : List Str) (sc : Scope) {scope : Scope} {own : List (Str × Nat)} (h1 : scope.kind = .function) (h2 : ∀ y ∈ scope.names, scope.names.lookup y.1 = some y.2) (h3 : ∀ p ∈ own, N[p.2]? = some p.1)
    (h4 : ∀ y ∈ scope.names, y.2 = .free → sc.names.lookup y.1 = some .cell ∨ sc.names.lookup y.1 = some .free) (h5 : ∀ y ∈ scope.names, y.2 = .local ∨ y.2 = .cell → y.1 ∈ own.map (·.1) ∨ y.1 ∉ N) : BlkOk N sc scope own := ⟨h1, h2, h3, h4, h5⟩
theorem hu2 {X : Cx} {W : WX} {k : Nat} (cl : Cl X W k) : X.A.units + 2 < cLine := by
  have := cl.room.un
  omega
theorem hu190 {X : Cx} {W : WX} {k : Nat} (cl : Cl X W k) : X.A.units + 190 < cLine := by
  have := cl.room.un
  omega
def inCls (st : Stmt) (j : Nat) : Stmt := match st with
  | .ClassDef _ _ _ b _ _ _ _ _ _ _ => b.getD j st
  | _ => st
end Den

set_option Elab.async false
set_option linter.all false
set_option maxRecDepth 100000
/-! DenPl: what a piece by data does, asked piece by piece; loops by an invariant. Plain Lean: no program in sight. -/
namespace Den
open PySem PySem.Spec
open PyProof.Rows L2

/-- m, begun at ρ, ends well: with Q, or with an exception and E -/
@[irreducible] def Wp {α : Type} (m : M α) (ρ : Rho) (Q : α → Rho → Prop) (E : Xc → Rho → Prop) : Prop := match m ρ with
  | .ok a ρ' => Q a ρ'
  | .exc x ρ' => E x ρ'
  | .bad => False
/-- there is one, and of it Q -/
def Ho {α : Type} (o : Option α) (Q : α → Prop) : Prop := match o with
  | some a => Q a
  | none => False
@[simp] theorem ho_some {α : Type} {a : α} {Q : α → Prop} : Ho (some a) Q = Q a := rfl
@[simp] theorem ho_none {α : Type} {Q : α → Prop} : Ho none Q = False := rfl
theorem ho_of {α : Type} {o : Option α} {a : α} {Q : α → Prop} (h : o = some a) (q : Q a) : Ho o Q := by rw [h]; exact q
@[simp] theorem ho_bind {α β : Type} {o : Option α} {f : α → Option β} {Q : β → Prop} : Ho (o.bind f) Q = Ho o fun a => Ho (f a) Q := by cases o <;> first | rfl | (unfold Wp; rfl)
@[simp] theorem ho_map {α β : Type} {o : Option α} {f : α → β} {Q : β → Prop} : Ho (o.map f) Q = Ho o fun a => Q (f a) := by cases o <;> first | rfl | (unfold Wp; rfl)
def asBo : PD → Option Bool
  | .bool b => some b
  | _ => none
def asIo : PD → Option Int
  | .int i => some i
  | _ => none
@[simp] theorem asBo_b {b : Bool} : asBo (.bool b) = some b := rfl
@[simp] theorem asIo_i {i : Int} : asIo (.int i) = some i := rfl
section
variable {α β : Type} {ρ : Rho} {E : Xc → Rho → Prop}
theorem Wp.mono {m : M α} {Q Q' : α → Rho → Prop} {E' : Xc → Rho → Prop} (h : Wp m ρ Q E) (hQ : ∀ a ρ', Q a ρ' → Q' a ρ') (hE : ∀ x ρ', E x ρ' → E' x ρ') : Wp m ρ Q' E' := by
  unfold Wp at h ⊢
  cases e : m ρ with
  | ok a ρ' => rw [e] at h; exact hQ _ _ h
  | exc x ρ' => rw [e] at h; exact hE _ _ h
  | bad => rw [e] at h; exact h
@[simp] theorem wp_pure {a : α} {Q : α → Rho → Prop} : Wp (mpure a) ρ Q E = Q a ρ := by unfold Wp; rfl
@[simp] theorem wp_bind {m : M α} {f : α → M β} {Q : β → Rho → Prop} : Wp (mbind m f) ρ Q E = Wp m ρ (fun a ρ' => Wp (f a) ρ' Q E) E := by
  unfold Wp mbind
  cases m ρ <;> first | rfl | (unfold Wp; rfl)
@[simp] theorem wp_bad {Q : α → Rho → Prop} : Wp (fun _ => R.bad) ρ Q E = False := by unfold Wp; rfl
@[simp] theorem wp_opt {o : Option α} {Q : α → Rho → Prop} : Wp (mopt o) ρ Q E = Ho o fun a => Q a ρ := by
  unfold Wp mopt
  cases o <;> first | rfl | (unfold Wp; rfl)
theorem wp_ite {b : Prop} [Decidable b] {m m' : M α} {Q : α → Rho → Prop} : Wp (if b then m else m') ρ Q E = if b then Wp m ρ Q E else Wp m' ρ Q E := by
  split <;> first | rfl | (unfold Wp; rfl)
end
section
variable {ρ : Rho} {E : Xc → Rho → Prop} {i : Nat}
/-! ### names -/
@[simp] theorem wp_dVar {Q : PD → Rho → Prop} {i : Nat} : Wp (dVar i) ρ Q E = match ρ.sl[i]? with
  | some (.val d) => Q d ρ
  | some (.own m) => Q m.pd { ρ with sl := ρ.sl.set i (.val m.pd) }
  | _ => False := by
  unfold Wp dVar
  cases ρ.sl[i]? with
  | none => rfl
  | some s => cases s <;> first | rfl | (unfold Wp; rfl)
@[simp] theorem wp_dkVar {Q : Pk → Rho → Prop} {i : Nat} : Wp (dkVar i) ρ Q E = match ρ.sl[i]? with
  | some .no => False
  | some _ => Q (.sl i) ρ
  | none => False := by
  unfold Wp dkVar
  cases ρ.sl[i]? with
  | none => rfl
  | some s => cases s <;> first | rfl | (unfold Wp; rfl)
@[simp] theorem wp_dkE {f : M PD} {Q : Pk → Rho → Prop} : Wp (dkE f) ρ Q E = Wp f ρ (fun d ρ' => Q (.d d) ρ') E := by simp [dkE]
@[simp] theorem look_d {d : PD} : look (.d d) ρ = some d := rfl
/-! ### operators -/
@[simp] theorem wp_op2 {g : PD → PD → Option PD} {a b : M Pk} {Q : PD → Rho → Prop} : Wp (dOp2 g a b) ρ Q E = Wp a ρ (fun p ρ1 => Wp b ρ1 (fun q ρ2 => Ho (look p ρ2) fun x => Ho (look q ρ2) fun y => Ho (g x y) fun z => Q z ρ2) E) E := by
  unfold dOp2
  simp only [wp_bind]
  congr; funext p ρ1; congr; funext q ρ2
  unfold Wp
  cases h1 : look p ρ2 with
  | none => simp [h1]
  | some x =>
    cases h2 : look q ρ2 with
    | none => simp [h1, h2]
    | some y =>
      cases h3 : g x y <;> simp [mopt, h1, h2, h3]
@[simp] theorem wp_asB {f : M PD} {Q : Bool → Rho → Prop} : Wp (asB f) ρ Q E = Wp f ρ (fun d ρ' => Ho (asBo d) fun b => Q b ρ') E := by
  unfold asB
  simp only [wp_bind]
  congr; funext d ρ'
  cases d <;> first | rfl | (unfold Wp; rfl)
@[simp] theorem wp_chain {g g' : PD → PD → Option PD} {a b d : M Pk} {Q : PD → Rho → Prop} : Wp (dChain g g' a b d) ρ Q E = Wp a ρ (fun p ρ1 => Wp b ρ1 (fun q ρ2 => Ho (look p ρ2) fun x => Ho (look q ρ2) fun y => Ho (g x y) fun v => Ho (asBo v) fun c =>
    if c = true then Wp d ρ2 (fun r ρ3 => Ho (look q ρ3) fun y2 => Ho (look r ρ3) fun z => Ho (g' y2 z) fun u => Q u ρ3) E else Q (.bool false) ρ2) E) E := by
  unfold dChain
  simp only [wp_bind]
  congr; funext p ρ1; congr; funext q ρ2
  unfold Wp
  cases h1 : look p ρ2 with
  | none => simp [h1]
  | some x =>
    cases h2 : look q ρ2 with
    | none => simp [h1, h2]
    | some y =>
      cases h3 : g x y with
      | none => simp [h1, h2, h3]
      | some z =>
        cases z with
        | bool c =>
          cases c with
          | false => simp [h1, h2, h3]
          | true =>
            simp only [h1, h2, mbind, ho_some, h3, asBo_b, if_true]
            cases d ρ2 with
            | ok r ρ3 =>
              dsimp only
              cases h4 : look q ρ3 with
              | none => simp
              | some y2 =>
                cases h5 : look r ρ3 with
                | none => simp
                | some z => cases h6 : g' y2 z <;> simp [mopt, h6]
            | exc _ _ => rfl
            | bad => rfl
        | _ => simp [h1, h2, h3, asBo]
@[simp] theorem wp_dTru {f : M Pk} {Q : Bool → Rho → Prop} : Wp (dTru f) ρ Q E = Wp f ρ (fun p ρ' => Ho (look p ρ') fun d => Ho (tru d) fun b => Q b ρ') E := by
  unfold dTru
  simp only [wp_bind]
  congr; funext p ρ1
  unfold Wp
  cases h1 : look p ρ1 with
  | none => simp [h1]
  | some d => cases h2 : tru d <;> simp [mopt, h1, h2]
@[simp] theorem wp_dAndV {f g : M PD} {Q : PD → Rho → Prop} : Wp (dAndV f g) ρ Q E = Wp f ρ (fun d ρ' => Ho (tru d) fun b => if b = true then Wp g ρ' Q E else Q d ρ') E := by
  unfold dAndV
  simp only [wp_bind]
  congr; funext d ρ1
  cases h : tru d with
  | none => simp
  | some b => cases b <;> simp
@[simp] theorem wp_dOrV {f g : M PD} {Q : PD → Rho → Prop} : Wp (dOrV f g) ρ Q E = Wp f ρ (fun d ρ' => Ho (tru d) fun b => if b = true then Q d ρ' else Wp g ρ' Q E) E := by
  unfold dOrV
  simp only [wp_bind]
  congr; funext d ρ1
  cases h : tru d with
  | none => simp
  | some b => cases b <;> simp
@[simp] theorem wp_dNotV {f : M PD} {Q : PD → Rho → Prop} : Wp (dNotV f) ρ Q E = Wp f ρ (fun d ρ' => Ho (tru d) fun b => Q (.bool (!b)) ρ') E := by
  unfold dNotV
  simp only [wp_bind]
  congr; funext d ρ1
  cases h : tru d <;> simp
@[simp] theorem wp_tAndB {f g : M Bool} {Q : Bool → Rho → Prop} : Wp (tAndB f g) ρ Q E = Wp f ρ (fun b ρ' => if b = true then Wp g ρ' Q E else Q false ρ') E := by
  unfold tAndB
  simp only [wp_bind]
  congr; funext b ρ1
  cases b <;> simp
@[simp] theorem wp_tOrB {f g : M Bool} {Q : Bool → Rho → Prop} : Wp (tOrB f g) ρ Q E = Wp f ρ (fun b ρ' => if b = true then Q true ρ' else Wp g ρ' Q E) E := by
  unfold tOrB
  simp only [wp_bind]
  congr; funext b ρ1
  cases b <;> simp
@[simp] theorem wp_tNotB {f : M Bool} {Q : Bool → Rho → Prop} : Wp (tNotB f) ρ Q E = Wp f ρ (fun b ρ' => Q (!b) ρ') E := by simp [tNotB]
@[simp] theorem wp_dIte {t : M Bool} {f g : M PD} {Q : PD → Rho → Prop} : Wp (dIte t f g) ρ Q E = Wp t ρ (fun b ρ' => if b = true then Wp f ρ' Q E else Wp g ρ' Q E) E := by
  unfold dIte
  simp only [wp_bind, wp_ite]
@[simp] theorem wp_dKs {f : M Pk} {r : M (List Pk)} {Q : List Pk → Rho → Prop} : Wp (dKs f r) ρ Q E = Wp f ρ (fun p ρ1 => Wp r ρ1 (fun ps ρ2 => Q (p :: ps) ρ2) E) E := by simp [dKs]
@[simp] theorem wp_dEs {f : M PD} {r : M (List PD)} {Q : List PD → Rho → Prop} : Wp (dEs f r) ρ Q E = Wp f ρ (fun p ρ1 => Wp r ρ1 (fun ps ρ2 => Q (p :: ps) ρ2) E) E := by simp [dEs]
@[simp] theorem wp_dCB {g : List PD → Option PD} {as : M (List Pk)} {Q : PD → Rho → Prop} : Wp (dCB g as) ρ Q E = Wp as ρ (fun ps ρ' => Ho (looks ps ρ') fun ds => Ho (g ds) fun z => Q z ρ') E := by
  unfold dCB
  simp only [wp_bind]
  congr; funext ps ρ1
  unfold Wp
  cases h1 : looks ps ρ1 with
  | none => simp [h1]
  | some ds => cases h2 : g ds <;> simp [mopt, h1, h2]
@[simp] theorem wp_dCBf {g : List PD → Option (List PD)} {as : M (List Pk)} {Q : List PD → Rho → Prop} : Wp (dCBf g as) ρ Q E = Wp as ρ (fun ps ρ' => Ho (looks ps ρ') fun ds => Ho (g ds) fun z => Q z ρ') E := by
  unfold dCBf
  simp only [wp_bind]
  congr; funext ps ρ1
  unfold Wp
  cases h1 : looks ps ρ1 with
  | none => simp [h1]
  | some ds => cases h2 : g ds <;> simp [mopt, h1, h2]
@[simp] theorem looks_nil : looks [] ρ = some [] := rfl
@[simp] theorem looks_cons {p : Pk} {ps : List Pk} {Q : List PD → Prop} : Ho (looks (p :: ps) ρ) Q = Ho (look p ρ) fun d => Ho (looks ps ρ) fun ds => Q (d :: ds) := by
  show Ho (match look p ρ, looks ps ρ with
    | some d, some ds => some (d :: ds)
    | _, _ => none) Q = _
  cases look p ρ <;> cases looks ps ρ <;> first | rfl | (unfold Wp; rfl)
@[simp] theorem wp_dTup {as : M (List PD)} {Q : PD → Rho → Prop} : Wp (dTup as) ρ Q E = Wp as ρ (fun ds ρ' => ds.length ≤ 10000 ∧ Q (.tuple ds) ρ') E := by
  unfold dTup
  simp only [wp_bind, wp_ite, wp_pure, wp_bad]
  congr; funext ds ρ1
  by_cases h : ds.length ≤ 10000 <;> simp [h]
@[simp] theorem wp_dLst {as : M (List PD)} {Q : List PD → Rho → Prop} : Wp (dLst as) ρ Q E = Wp as ρ (fun ds ρ' => ds.length ≤ 10000 ∧ Q ds ρ') E := by
  unfold dLst
  simp only [wp_bind, wp_ite, wp_pure, wp_bad]
  congr; funext ds ρ1
  by_cases h : ds.length ≤ 10000 <;> simp [h]
@[simp] theorem wp_dNeg {f : M PD} {Q : PD → Rho → Prop} : Wp (dNeg f) ρ Q E = Wp f ρ (fun d ρ' => Ho (asIo d) fun i => Q (.int (-i)) ρ') E := by
  unfold dNeg
  simp only [wp_bind]
  congr; funext d ρ1
  cases d <;> first | rfl | (unfold Wp; rfl)
@[simp] theorem wp_dFld {ns : List Str} {f : Str} {g : M Pk} {Q : PD → Rho → Prop} : Wp (dFld ns f g) ρ Q E = Wp g ρ (fun p ρ' => Ho (look p ρ') fun d => Ho (pFld ns f d) fun z => Q z ρ') E := by
  unfold dFld
  simp only [wp_bind]
  congr; funext p ρ1
  unfold Wp
  cases h1 : look p ρ1 with
  | none => simp [h1]
  | some d => cases h2 : pFld ns f d <;> simp [mopt, h1, h2]
@[simp] theorem wp_dIsi {Ts : List String} {f : M Pk} {Q : PD → Rho → Prop} : Wp (dIsi Ts f) ρ Q E = Wp f ρ (fun p ρ' => Ho (look p ρ') fun d => Ho (gIsi Ts d) fun z => Q z ρ') E := by
  unfold dIsi
  simp only [wp_bind]
  congr; funext p ρ1
  unfold Wp
  cases h1 : look p ρ1 with
  | none => simp [h1]
  | some d => cases h2 : gIsi Ts d <;> simp [mopt, h1, h2]
@[simp] theorem wp_dLenSet {f : M Pk} {Q : PD → Rho → Prop} : Wp (dLenSet f) ρ Q E = Wp f ρ (fun p ρ' => Ho (look p ρ') fun d => Ho (pLenSet d) fun z => Q z ρ') E := by
  unfold dLenSet
  simp only [wp_bind]
  congr; funext p ρ1
  unfold Wp
  cases h1 : look p ρ1 with
  | none => simp [h1]
  | some d => cases h2 : pLenSet d <;> simp [mopt, h1, h2]
@[simp] theorem wp_part_none {Q : Option Int → Rho → Prop} : Wp (dPart none) ρ Q E = Q none ρ := by unfold Wp; rfl
@[simp] theorem wp_part_some {f : M PD} {Q : Option Int → Rho → Prop} : Wp (dPart (some f)) ρ Q E = Wp f ρ (fun d ρ' => Ho (asIo d) fun i => Q (some i) ρ') E := by
  show Wp (mbind f fun d => match d with
    | .int i => mpure (some i)
    | _ => fun _ => .bad) ρ Q E = _
  simp only [wp_bind]
  congr; funext d ρ1
  cases d <;> first | rfl | (unfold Wp; rfl)
@[simp] theorem wp_dSl {f : M Pk} {lo hi : Option (M PD)} {Q : PD → Rho → Prop} : Wp (dSl f lo hi) ρ Q E = Wp f ρ (fun p ρ1 => Wp (dPart lo) ρ1 (fun l ρ2 => Wp (dPart hi) ρ2 (fun u ρ3 => Ho (look p ρ3) fun d => Ho (pSl d l u) fun z => Q z ρ3) E) E) E := by
  unfold dSl
  simp only [wp_bind]
  congr; funext p ρ1; congr; funext l ρ2; congr; funext u ρ3
  unfold Wp
  cases h1 : look p ρ3 with
  | none => simp [h1]
  | some d => cases h2 : pSl d l u <;> simp [mopt, h1, h2]
theorem wp_congr {α : Type} {m m' : M α} {Q : α → Rho → Prop} (h : m ρ = m' ρ) : Wp m ρ Q E = Wp m' ρ Q E := by unfold Wp; rw [h]
def dicO : PD → Option (List (PD × PD))
  | .dict kvs => if isDic kvs = true then some kvs else none
  | _ => none
@[simp] theorem wp_dGet {fo : M Pk} {fk : M PD} {Q : PD → Rho → Prop} : Wp (dGet fo fk) ρ Q E = Wp fo ρ (fun p ρ1 => Ho (look p ρ1) fun d => Ho (dicO d) fun _ => Wp fk ρ1 (fun key ρ2 => Ho (look p ρ2) fun d2 => Ho (dicO d2) fun kvs => Ho (tkeyD key) fun ks => Ho (Den.atT ks kvs) fun o => Q (o.getD .none) ρ2) E) E := by
  unfold dGet
  simp only [wp_bind]
  congr; funext p ρ1
  cases h1 : look p ρ1 with
  | none => unfold Wp; simp [h1]
  | some d =>
    cases d with
    | dict kvs =>
      by_cases hd : isDic kvs = true
      · rw [wp_congr (m' := mbind fk (fun key ρ' => match look p ρ', tkeyD key with
          | some (.dict kvs'), some ks => if isDic kvs' = true then (match Den.atT ks kvs' with
            | some o => .ok (o.getD .none) ρ'
            | none => .bad) else .bad
          | _, _ => .bad)) (by simp only [h1, hd, if_true] <;> rfl)]
        simp only [ho_some, dicO, hd, if_true, wp_bind]
        congr; funext key ρ2
        unfold Wp
        cases h2 : look p ρ2 with
        | none => simp [h2]
        | some d2 =>
          cases d2 with
          | dict kvs' =>
            cases h3 : tkeyD key with
            | none => by_cases hd2 : isDic kvs' = true <;> simp [h2, h3, hd2]
            | some ks =>
              by_cases hd2 : isDic kvs' = true
              · cases h4 : Den.atT ks kvs' <;> simp [h2, h3, hd2, h4]
              · simp [h2, h3, hd2]
          | _ => simp [h2]
      · unfold Wp; simp [h1, hd, dicO]
    | _ => unfold Wp; simp [h1, dicO]
/-! ### statements -/
@[simp] theorem wp_dNext {Q : Fl → Rho → Prop} : Wp dNext ρ Q E = Q .nx ρ := by unfold Wp; rfl
@[simp] theorem wp_dSeq {g h : M Fl} {Q : Fl → Rho → Prop} : Wp (dSeq g h) ρ Q E = Wp g ρ (fun fl ρ' => match fl with
  | .nx => Wp h ρ' Q E
  | fl => Q fl ρ') E := by
  unfold dSeq
  simp only [wp_bind]
  congr; funext fl ρ1
  cases fl <;> simp
@[simp] theorem wp_dDrop {f : M PD} {Q : Fl → Rho → Prop} : Wp (dDrop f) ρ Q E = Wp f ρ (fun _ ρ' => Q .nx ρ') E := by simp [dDrop]
@[simp] theorem wp_dRet {f : M PD} {Q : Fl → Rho → Prop} : Wp (dRet f) ρ Q E = Wp f ρ (fun d ρ' => Q (.ret d) ρ') E := by simp [dRet]
@[simp] theorem wp_dRetF {f : M (List PD)} {Q : Fl → Rho → Prop} : Wp (dRetF f) ρ Q E = Wp f ρ (fun d ρ' => Q (.fre d) ρ') E := by simp [dRetF]
@[simp] theorem wp_dIf {t : M Bool} {g h : M Fl} {Q : Fl → Rho → Prop} : Wp (dIf t g h) ρ Q E = Wp t ρ (fun b ρ' => if b = true then Wp g ρ' Q E else Wp h ρ' Q E) E := by
  unfold dIf
  simp only [wp_bind, wp_ite]
@[simp] theorem wp_dSet {f : M PD} {Q : Fl → Rho → Prop} {i : Nat} : Wp (dSet i f) ρ Q E = Wp f ρ (fun d ρ' => Q .nx { ρ' with sl := ρ'.sl.set i (.val d) }) E := by
  unfold dSet
  simp only [wp_bind]
  first | rfl | (unfold Wp; rfl)
@[simp] theorem wp_dSetF {f : M (List PD)} {Q : Fl → Rho → Prop} {i : Nat} : Wp (dSetF i f) ρ Q E = Wp f ρ (fun d ρ' => Q .nx { ρ' with sl := ρ'.sl.set i (.own (.lst d)) }) E := by
  unfold dSetF
  simp only [wp_bind]
  first | rfl | (unfold Wp; rfl)
@[simp] theorem wp_dAsg {t : Tg} {f : M PD} {Q : Fl → Rho → Prop} : Wp (dAsg t f) ρ Q E = Wp f ρ (fun d ρ' => Ho (bindT t d ρ'.sl) fun sl => Q .nx { ρ' with sl := sl }) E := by
  unfold dAsg
  simp only [wp_bind]
  congr; funext d ρ1
  unfold Wp
  cases h : bindT t d ρ1.sl <;> simp [h]
@[simp] theorem wp_dRaise {cls : Str} {f : M PD} {Q : Fl → Rho → Prop} : Wp (dRaise cls f) ρ Q E = Wp f ρ (fun d ρ' => E ⟨cls, d⟩ ρ') E := by
  unfold dRaise
  simp only [wp_bind]
  first | rfl | (unfold Wp; rfl)
@[simp] theorem wp_dMeth {g : List PD → List PD → Option (List PD × PD)} {as : M (List PD)} {Q : PD → Rho → Prop} {i : Nat} : Wp (dMeth i g as) ρ Q E = Ho (getL i ρ) fun _ => Wp as ρ (fun ds ρ' => Ho (getL i ρ') fun xs => Ho (g xs ds) fun r => Q r.2 (setM i (.lst r.1) ρ')) E := by
  cases h : getL i ρ with
  | none => unfold Wp dMeth; simp [h]
  | some xs0 =>
  rw [wp_congr (m' := mbind as (fun ds ρ' => match getL i ρ' with
    | some xs => (match g xs ds with
      | some (xs', d) => .ok d (setM i (.lst xs') ρ')
      | none => .bad)
    | none => .bad)) (by unfold dMeth; simp only [h] <;> rfl), ho_some]
  rw [wp_bind]
  congr; funext ds ρ1
  unfold Wp
  cases h2 : getL i ρ1 with
  | none => simp [h2]
  | some xs => cases hg : g xs ds <;> simp [h2, hg]
@[simp] theorem wp_dSetI {fi fv : M PD} {Q : Fl → Rho → Prop} {i : Nat} : Wp (dSetI i fi fv) ρ Q E = Wp fv ρ (fun d ρ1 => Ho (getL i ρ1) fun _ => Wp fi ρ1 (fun ix ρ2 => Ho (asIo ix) fun k => Ho (getL i ρ2) fun xs => Ho (ixN xs.length k) fun j => Q .nx (setM i (.lst (xs.set j d)) ρ2)) E) E := by
  unfold dSetI
  simp only [wp_bind]
  congr; funext d ρ1
  cases h : getL i ρ1 with
  | none => unfold Wp; simp [h]
  | some xs0 =>
  rw [wp_congr (m' := mbind fi (fun ix ρ' => match ix, getL i ρ' with
    | .int k, some xs => (match ixN xs.length k with
      | some j => .ok Fl.nx (setM i (.lst (xs.set j d)) ρ')
      | none => .bad)
    | _, _ => .bad)) (by simp only [h] <;> rfl), ho_some]
  rw [wp_bind]
  congr; funext ix ρ2
  unfold Wp
  cases ix with
  | int k =>
    cases h2 : getL i ρ2 with
    | none => simp [h2]
    | some xs => cases h3 : ixN xs.length k <;> simp [h2, h3]
  | _ => simp [asIo]
def asIns : MC → Option (Str × List (Str × PD))
  | .ins n fs => some (n, fs)
  | _ => none
@[simp] theorem wp_dFldS {ns : List Str} {f : Str} {fv : M PD} {Q : Fl → Rho → Prop} {i : Nat} : Wp (dFldS i ns f fv) ρ Q E = Wp fv ρ (fun d ρ1 => Ho (getM i ρ1) fun m => Ho (asIns m) fun y => (y.1 ∈ ns ∧ y.2.length < 1000) ∧ Q .nx (setM i (.ins y.1 (putD f d y.2)) ρ1)) E := by
  unfold dFldS
  simp only [wp_bind]
  congr; funext d ρ1
  unfold Wp
  cases h : getM i ρ1 with
  | none => simp [h]
  | some m =>
    cases m with
    | ins n fs =>
      by_cases h2 : n ∈ ns ∧ fs.length < 1000
      · simp [h, h2, asIns]
      · simp only [h, asIns, ho_some, h2, false_and, if_false]
    | _ => simp [h, asIns]
/-! ### calls -/
def inlO : Sum PD (List PD) → Option PD
  | .inl d => some d
  | .inr _ => none
def inrO : Sum PD (List PD) → Option (List PD)
  | .inl _ => none
  | .inr d => some d
@[simp] theorem inlO_l {d : PD} : inlO (.inl d) = some d := rfl
@[simp] theorem inrO_r {d : List PD} : inrO (.inr d) = some d := rfl
/-- behind a call: what it hands back -/
def Wr (rt : Rt) (ρ : Rho) (Q : Sum PD (List PD) → Rho → Prop) (E : Xc → Rho → Prop) : Prop := match rt with
  | .ret d => Q (.inl d) ρ
  | .fre xs => Q (.inr xs) ρ
  | .exc x => E x ρ
  | .bad => False
theorem wp_rtM {rt : Rt} {Q : Sum PD (List PD) → Rho → Prop} : Wp (rtM rt) ρ Q E = Wr rt ρ Q E := by
  unfold Wp rtM Wr
  cases rt <;> first | rfl | (unfold Wp; rfl)
@[simp] theorem wr_ret {d : PD} {Q : Sum PD (List PD) → Rho → Prop} : Wr (.ret d) ρ Q E = Q (.inl d) ρ := rfl
@[simp] theorem wr_fre {d : List PD} {Q : Sum PD (List PD) → Rho → Prop} : Wr (.fre d) ρ Q E = Q (.inr d) ρ := rfl
@[simp] theorem wr_exc {x : Xc} {Q : Sum PD (List PD) → Rho → Prop} : Wr (.exc x) ρ Q E = E x ρ := rfl
/-- with one mutable handed in at x -/
def Wr1 (r : Rt × List MC) (x : Ix) (ρ : Rho) (Q : Sum PD (List PD) → Rho → Prop) (E : Xc → Rho → Prop) : Prop := match r with
  | (rt, [m']) => Wr rt (setC ρ x m') Q E
  | _ => False
@[simp] theorem wr1_one {rt : Rt} {m : MC} {x : Ix} {Q : Sum PD (List PD) → Rho → Prop} : Wr1 (rt, [m]) x ρ Q E = Wr rt (setC ρ x m) Q E := rfl
theorem wp_tail {F : FD} {es : List Ea} {Q : Sum PD (List PD) → Rho → Prop} : Wp (callTail F es) ρ Q E = match iosOf es with
  | [] => Wr (F (arsOf es) []).1 ρ Q E
  | [i] => Ho (ixOf ρ i) fun x => Ho (getC ρ x) fun m => Wr1 (F (arsOf es) [m]) x ρ Q E
  | _ => False := by
  unfold callTail Wp
  match h : iosOf es with
  | [] =>
    simp only
    unfold rtM Wr
    cases (F (arsOf es) []).1 <;> first | rfl | (unfold Wp; rfl)
  | [i] =>
    simp only
    cases h1 : ixOf ρ i with
    | none => simp
    | some x =>
      cases h2 : getC ρ x with
      | none => simp [h2]
      | some m =>
        simp only [ho_some, h2]
        unfold Wr1
        cases h3 : F (arsOf es) [m] with
        | mk rt ms =>
          match ms with
          | [] => simp
          | [m'] => simp only; unfold rtM Wr; cases rt <;> first | rfl | (unfold Wp; rfl)
          | _ :: _ :: _ => simp
  | _ :: _ :: _ => simp
@[simp] theorem wp_args_nil {Q : List Ea → Rho → Prop} : Wp (dArgs []) ρ Q E = Q [] ρ := by unfold Wp; rfl
@[simp] theorem wp_args_val {f : M PD} {r : List Sa} {Q : List Ea → Rho → Prop} : Wp (dArgs (.val f :: r)) ρ Q E = Wp f ρ (fun d ρ1 => Wp (dArgs r) ρ1 (fun es ρ2 => Q (.val d :: es) ρ2) E) E := by simp [dArgs]
@[simp] theorem wp_args_io {i : Nat} {r : List Sa} {Q : List Ea → Rho → Prop} : Wp (dArgs (.io i :: r)) ρ Q E = Ho (ixOf ρ i) fun _ => Wp (dArgs r) ρ (fun es ρ2 => Q (.io i :: es) ρ2) E := by
  simp only [dArgs, wp_bind, wp_pure]
  unfold Wp mHas
  cases h : ixOf ρ i <;> simp [h]
@[simp] theorem wp_dCall {F : FD} {args : List Sa} {Q : PD → Rho → Prop} : Wp (dCall F args) ρ Q E = Wp (dArgs args) ρ (fun es ρ' => Wp (callTail F es) ρ' (fun r ρ2 => Ho (inlO r) fun d => Q d ρ2) E) E := by
  unfold dCall dCallX
  simp only [wp_bind]
  congr; funext es ρ1; congr; funext r ρ2
  cases r <;> first | rfl | (unfold Wp; rfl)
@[simp] theorem wp_dCallF {F : FD} {args : List Sa} {Q : List PD → Rho → Prop} : Wp (dCallF F args) ρ Q E = Wp (dArgs args) ρ (fun es ρ' => Wp (callTail F es) ρ' (fun r ρ2 => Ho (inrO r) fun d => Q d ρ2) E) E := by
  unfold dCallF dCallX
  simp only [wp_bind]
  congr; funext es ρ1; congr; funext r ρ2
  cases r <;> first | rfl | (unfold Wp; rfl)
@[simp] theorem wp_dCallM {n m : Str} {F : FD} {fo : M PD} {fs : M (List PD)} {Q : PD → Rho → Prop} : Wp (dCallM n m F fo fs) ρ Q E = Wp fo ρ (fun o ρ1 => isIns n m o = true ∧ Wp fs ρ1 (fun ds ρ2 => Wp (callTail F (.val o :: ds.map Ea.val)) ρ2 (fun r ρ3 => Ho (inlO r) fun d => Q d ρ3) E) E) E := by
  unfold dCallM plainR
  simp only [wp_bind, wp_ite, wp_bad]
  congr; funext o ρ1
  by_cases h : isIns n m o = true
  · simp only [h, if_true, true_and]
    congr; funext ds ρ2; congr; funext r ρ3
    cases r <;> first | rfl | (unfold Wp; rfl)
  · simp [h]
theorem wp_dNew {n : Str} {F : FD} {ds : List PD} {Q : PD → Rho → Prop} : Wp (dNew n F ds) ρ Q E = match F (.io 0 :: ds.map Ar.val) [.ins n []] with
  | (.ret .none, [.ins m fs]) => Q (insD m fs) ρ
  | (.exc x, [_]) => E x ρ
  | _ => False := by
  unfold Wp dNew
  split <;> rename_i h <;> split at h <;> simp_all
/-! ### a piece whose answer is known -/
theorem ok_of_wp {α : Type} {m : M α} {a : α} {ρ' : Rho} (h : Wp m ρ (fun x r => x = a ∧ r = ρ') (fun _ _ => False)) : m ρ = .ok a ρ' := by
  unfold Wp at h
  cases e : m ρ with
  | ok x r => rw [e] at h; rw [h.1, h.2]
  | exc x r => rw [e] at h; exact h.elim
  | bad => rw [e] at h; exact h.elim
theorem wp_of {α : Type} {m : M α} {a : α} {ρ' : Rho} {Q : α → Rho → Prop} (h : m ρ = .ok a ρ') : Wp m ρ Q E = Q a ρ' := by
  unfold Wp
  rw [h]
/-! ### a def's answer -/
theorem runB_post {n np : Nat} {g : M Fl} {as : List Ar} {ms : List MC} {T : Rt × List MC → Prop} (h : as.length = np) (hw : Wp g (rho0 n as ms) (fun fl ρ => T (outB (.ok fl ρ))) (fun x ρ => T (.exc x, ρ.io))) : T (runB n np g as ms) := by
  unfold runB
  rw [if_pos h]
  unfold Wp at hw
  cases e : g (rho0 n as ms) with
  | ok fl ρ => rw [e] at hw; exact hw
  | exc x ρ => rw [e] at hw; exact hw
  | bad => rw [e] at hw; exact hw.elim
theorem runB_eq {n np : Nat} {g : M Fl} {as : List Ar} {ms : List MC} {r : Rt × List MC} (h : as.length = np) (hw : Wp g (rho0 n as ms) (fun fl ρ => outB (.ok fl ρ) = r) (fun x ρ => (.exc x, ρ.io) = r)) : runB n np g as ms = r := runB_post (T := fun z => z = r) h hw
/-! ### loops -/
/-- behind a turn of a for -/
def turnQ (ks : List Nat) (N : Rho → Prop) (Q : Fl → Rho → Prop) : Fl → Rho → Prop := fun fl ρ => match fl with
  | .nx => N (killS ks ρ)
  | .ct => N (killS ks ρ)
  | .bk => Q .nx (killS ks ρ)
  | fl => Q fl ρ
theorem wp_forGo {t : Tg} {ks : List Nat} {ok : Rho → Prop} {body : M Fl} {Q : Fl → Rho → Prop} (I : Nat → Rho → Prop) (ds : List PD) (hok : ∀ i ρ, I i ρ → ok ρ) (hd : ∀ ρ, I ds.length ρ → Q .nx ρ)
    (hs : ∀ i ρ d, ds[i]? = some d → I i ρ → ∃ sl, bindT t d ρ.sl = some sl ∧ Wp body { ρ with sl := sl } (turnQ ks (I (i + 1)) Q) E) :
    ∀ {ρ : Rho}, I 0 ρ → Wp (forGo t ks ok body ds) ρ Q E := by
  have main : ∀ (n i : Nat) (ρ : Rho), ds.length - i = n → i ≤ ds.length → I i ρ → Wp (forGo t ks ok body (ds.drop i)) ρ Q E := by
    intro n
    induction n with
    | zero =>
      intro i ρ hn hi h
      have : i = ds.length := by omega
      subst this
      rw [List.drop_length]
      unfold Wp forGo
      rw [if_pos (hok _ _ h)]
      exact hd _ h
    | succ n ih =>
      intro i ρ hn hi h
      have hlt : i < ds.length := by omega
      rw [List.drop_eq_getElem_cons hlt]
      obtain ⟨sl, h1, h2⟩ := hs i ρ ds[i] (by simp [hlt]) h
      unfold Wp forGo
      rw [if_pos (hok _ _ h)]
      simp only [h1]
      unfold Wp at h2
      cases e : body { ρ with sl := sl } with
      | bad => rw [e] at h2; exact h2.elim
      | exc x ρ' => rw [e] at h2; exact h2
      | ok fl ρ' =>
        rw [e] at h2
        cases fl with
        | nx => have q := ih (i + 1) _ (by omega) hlt h2; unfold Wp at q; exact q
        | ct => have q := ih (i + 1) _ (by omega) hlt h2; unfold Wp at q; exact q
        | bk => exact h2
        | ret d => exact h2
        | fre d => exact h2
  intro ρ h
  simpa using main _ 0 ρ rfl (Nat.zero_le _) h
@[simp] theorem killS_nil {ρ : Rho} : killS [] ρ = ρ := rfl
theorem wp_dFor {t : Tg} {ks : List Nat} {fi : M (List PD × (Rho → Prop))} {body : M Fl} {Q : Fl → Rho → Prop} : Wp (dFor t ks fi body) ρ Q E = Wp fi ρ (fun s ρ' => Wp (forGo t ks s.2 body s.1) (killS ks ρ') Q E) E := by
  unfold dFor
  simp only [wp_bind]
  first | rfl | (unfold Wp; rfl)
/-- a comprehension, the list so far -/
theorem wp_compGo {t : Tg} {vs : List Nat} {ok : Rho → Prop} {tt : M Bool} {f : M PD} {Q : List PD → Rho → Prop} (I : Nat → List PD → Rho → Prop) (ds : List PD) (hok : ∀ i ys ρ, I i ys ρ → ok ρ) (hd : ∀ ys ρ, I ds.length ys ρ → Q ys ρ)
    (hs : ∀ i ys ρ d, ds[i]? = some d → I i ys ρ → ∃ sl, bindT t d ρ.sl = some sl ∧ Wp tt { ρ with sl := sl } (fun b ρ1 => if b = true then Wp f ρ1 (fun y ρ2 => I (i + 1) (ys ++ [y]) (killS vs ρ2)) (fun _ _ => False) else I (i + 1) ys (killS vs ρ1)) (fun _ _ => False)) :
    ∀ {ρ : Rho}, I 0 [] ρ → Wp (compGo t vs ok tt f ds) ρ Q (fun _ _ => False) := by
  have main : ∀ (n i : Nat) (ys : List PD) (ρ : Rho), ds.length - i = n → i ≤ ds.length → I i ys ρ → Wp (compGo t vs ok tt f (ds.drop i)) ρ (fun zs ρ' => Q (ys ++ zs) ρ') (fun _ _ => False) := by
    intro n
    induction n with
    | zero =>
      intro i ys ρ hn hi h
      have : i = ds.length := by omega
      subst this
      rw [List.drop_length]
      unfold Wp compGo
      rw [if_pos (hok _ _ _ h)]
      simpa using hd _ _ h
    | succ n ih =>
      intro i ys ρ hn hi h
      have hlt : i < ds.length := by omega
      rw [List.drop_eq_getElem_cons hlt]
      obtain ⟨sl, h1, h2⟩ := hs i ys ρ ds[i] (by simp [hlt]) h
      unfold Wp compGo
      rw [if_pos (hok _ _ _ h)]
      simp only [h1]
      unfold Wp at h2
      cases e : tt { ρ with sl := sl } with
      | bad => rw [e] at h2; exact h2.elim
      | exc x ρ' => rw [e] at h2; exact h2.elim
      | ok b ρ1 =>
        rw [e] at h2
        cases b with
        | false =>
          have h3 := ih (i + 1) ys (killS vs ρ1) (by omega) hlt (by simpa using h2)
          unfold Wp at h3
          exact h3
        | true =>
          simp only [if_true] at h2
          dsimp only
          cases e2 : f ρ1 with
          | bad => rw [e2] at h2; exact h2.elim
          | exc x ρ' => rw [e2] at h2; exact h2.elim
          | ok y ρ2 =>
            rw [e2] at h2
            have h3 := ih (i + 1) (ys ++ [y]) (killS vs ρ2) (by omega) hlt h2
            unfold Wp at h3
            dsimp only
            cases e3 : compGo t vs ok tt f (ds.drop (i + 1)) (killS vs ρ2) with
            | ok zs ρ3 => rw [e3] at h3; simpa using h3
            | exc _ _ => rw [e3] at h3; exact h3.elim
            | bad => rw [e3] at h3; exact h3.elim
  intro ρ h
  have := main _ 0 [] ρ rfl (Nat.zero_le _) h
  simpa using this
theorem wp_dComp {t : Tg} {vs : List Nat} {fi : M (List PD × (Rho → Prop))} {tt : M Bool} {f : M PD} {Q : List PD → Rho → Prop} : Wp (dComp t vs fi tt f) ρ Q E = Wp fi ρ (fun s ρ' => s.1.length ≤ sizeLine ∧ Wp (compGo t vs s.2 tt f s.1) (killS vs ρ') (fun ys ρ2 => Q ys (compEnd vs ρ' ρ2)) (fun _ _ => False)) E := by
  unfold dComp
  simp only [wp_bind]
  congr; funext s ρ1
  unfold Wp
  by_cases h : s.1.length ≤ sizeLine
  · simp only [h, if_true, true_and]
    cases compGo t vs s.2 tt f s.1 (killS vs ρ1) <;> simp
  · simp [h]
/-! ### what a loop goes over -/
@[simp] theorem wp_dRange1 {f : M (List PD)} {Q : List PD × (Rho → Prop) → Rho → Prop} : Wp (dRange1 f) ρ Q E = Wp f ρ (fun ds ρ' => ∃ j, ds = [.int j] ∧ smallI j = true ∧ Q (rngI 0 j.toNat, fun _ => True) ρ') E := by
  unfold dRange1
  simp only [wp_bind]
  congr; funext ds ρ1
  split
  · rename_i j
    by_cases h : smallI j = true <;> simp [h]
  · rename_i h
    simp only [wp_bad, eq_iff_iff, false_iff]
    rintro ⟨j, rfl, _⟩
    exact h j rfl
@[simp] theorem wp_dRange2 {f : M (List PD)} {Q : List PD × (Rho → Prop) → Rho → Prop} : Wp (dRange2 f) ρ Q E = Wp f ρ (fun ds ρ' => ∃ i j, ds = [.int i, .int j] ∧ (smallI i && smallI j) = true ∧ Q (rngI i (j - i).toNat, fun _ => True) ρ') E := by
  unfold dRange2
  simp only [wp_bind]
  congr; funext ds ρ1
  split
  · rename_i i j
    by_cases h : (smallI i && smallI j) = true
    · simp only [h, if_true]; simp; exact ⟨fun z => ⟨i, j, ⟨rfl, rfl⟩, by simpa using h, z⟩, fun ⟨_, _, ⟨e1, e2⟩, _, z⟩ => by subst e1 e2; exact z⟩
    · simp only [h]; simp; intro h1 h2; simp [h1, h2] at h
  · rename_i h
    simp only [wp_bad, eq_iff_iff, false_iff]
    rintro ⟨i, j, rfl, _⟩
    exact h i j rfl
theorem wp_dSeqs {p : Pk} {Q : List PD × (Rho → Prop) → Rho → Prop} : Wp (dSeqs p) ρ Q E = Ho (look p ρ) fun d => Ho (lkOf p ρ) fun ok => Ho (seqOf d) fun ds => Q (ds, ok) ρ := by
  unfold Wp dSeqs
  cases look p ρ with
  | none => rfl
  | some d =>
    cases lkOf p ρ with
    | none => rfl
    | some ok => cases h : seqOf d <;> simp [h]
@[simp] theorem wp_dIterS {f : M Pk} {Q : List PD × (Rho → Prop) → Rho → Prop} : Wp (dIterS f) ρ Q E = Wp f ρ (fun p ρ' => Wp (dSeqs p) ρ' Q E) E := by simp [dIterS]
@[simp] theorem wp_dEnum {f : M (List Pk)} {Q : List PD × (Rho → Prop) → Rho → Prop} : Wp (dEnum f) ρ Q E = Wp f ρ (fun ps ρ' => ∃ p, ps = [p] ∧ Wp (dSeqs p) ρ' (fun s ρ2 => Q (enumD s.1, s.2) ρ2) E) E := by
  unfold dEnum
  simp only [wp_bind]
  congr; funext ps ρ1
  split
  · rename_i p; simp
  · rename_i h
    simp only [wp_bad, eq_iff_iff, false_iff]
    rintro ⟨p, rfl, _⟩
    exact h p rfl
/-- over a list, a tuple, a text -/
theorem wp_dIterV {f : M Pk} {Q : List PD × (Rho → Prop) → Rho → Prop} : Wp (dIterV f) ρ Q E = Wp f ρ (fun p ρ' => match look p ρ' with
  | some (.str z) => Q (chrs z, fun _ => True) ρ'
  | _ => Wp (dSeqs p) ρ' Q E) E := by
  unfold dIterV
  simp only [wp_bind]
  congr; funext p ρ1
  unfold Wp
  cases h : look p ρ1 with
  | none => simp [h]
  | some d => cases d <;> simp [h]
end
end Den

set_option Elab.async false
set_option linter.all false
set_option maxRecDepth 100000
/-! DenPm: loops turn by turn; what data may be compared and shown. -/
namespace Den
open PySem PySem.Spec
open PyProof.Rows L2
section
variable {ρ : Rho} {E : Xc → Rho → Prop} {t : Tg} {ks vs : List Nat} {ok : Rho → Prop} {body : M Fl} {tt : M Bool} {f : M PD} {d : PD} {ds : List PD}
@[simp] theorem wp_for_nil {Q : Fl → Rho → Prop} : Wp (forGo t ks ok body []) ρ Q E = (ok ρ ∧ Q .nx ρ) := by
  unfold Wp forGo
  by_cases h : ok ρ <;> simp [h]
@[simp] theorem wp_for_cons {Q : Fl → Rho → Prop} : Wp (forGo t ks ok body (d :: ds)) ρ Q E = (ok ρ ∧ Ho (bindT t d ρ.sl) fun sl => Wp body { ρ with sl := sl } (turnQ ks (fun ρ' => Wp (forGo t ks ok body ds) ρ' Q E) Q) E) := by
  unfold Wp
  rw [forGo]
  by_cases h : ok ρ
  · rw [if_pos h]
    simp only [h, true_and]
    cases hb : bindT t d ρ.sl with
    | none => rfl
    | some sl =>
      simp only [ho_some]
      cases body { ρ with sl := sl } with
      | ok fl ρ' => cases fl <;> rfl
      | _ => rfl
  · rw [if_neg h]
    simp [h]
@[simp] theorem wp_comp_nil {Q : List PD → Rho → Prop} : Wp (compGo t vs ok tt f []) ρ Q E = (ok ρ ∧ Q [] ρ) := by
  unfold Wp compGo
  by_cases h : ok ρ <;> simp [h]
@[simp] theorem wp_comp_cons {Q : List PD → Rho → Prop} : Wp (compGo t vs ok tt f (d :: ds)) ρ Q (fun _ _ => False) = (ok ρ ∧ Ho (bindT t d ρ.sl) fun sl => Wp tt { ρ with sl := sl } (fun b ρ1 =>
    if b = true then Wp f ρ1 (fun y ρ2 => Wp (compGo t vs ok tt f ds) (killS vs ρ2) (fun ys ρ3 => Q (y :: ys) ρ3) (fun _ _ => False)) (fun _ _ => False)
    else Wp (compGo t vs ok tt f ds) (killS vs ρ1) Q (fun _ _ => False)) (fun _ _ => False)) := by
  unfold Wp
  rw [compGo]
  by_cases h : ok ρ
  · rw [if_pos h]
    simp only [h, true_and]
    cases hb : bindT t d ρ.sl with
    | none => rfl
    | some sl =>
      simp only [ho_some]
      cases tt { ρ with sl := sl } with
      | ok b ρ1 =>
        cases b with
        | true =>
          dsimp only
          cases f ρ1 with
          | ok y ρ2 =>
            simp only [if_true]
            cases compGo t vs ok tt f ds (killS vs ρ2) <;> rfl
          | _ => rfl
        | false =>
          simp only [Bool.false_eq_true, if_false]
      | _ => rfl
  · rw [if_neg h]
    simp [h]
end
section
variable {ρ : Rho} {E : Xc → Rho → Prop} {t : Tg} {ks vs : List Nat} {ok : Rho → Prop} {tt : M Bool} {f : M PD}
/-- the i-th thing of each, all else as it was -/
theorem wp_compMap (h : PD → PD) : ∀ (ds : List PD) {Q : List PD → Rho → Prop}, ok ρ → (∀ d ∈ ds, Ho (bindT t d ρ.sl) fun sl => Wp f { ρ with sl := sl } (fun y ρ2 => y = h d ∧ killS vs ρ2 = ρ) (fun _ _ => False)) → Q (ds.map h) ρ →
    Wp (compGo t vs ok (mpure true) f ds) ρ Q (fun _ _ => False)
  | [], Q, hok, _, q => by simpa using ⟨hok, q⟩
  | d :: r, Q, hok, hs, q => by
    rw [wp_comp_cons]
    refine ⟨hok, ?_⟩
    have h1 := hs d List.mem_cons_self
    cases e : bindT t d ρ.sl with
    | none => rw [e] at h1; exact h1.elim
    | some sl =>
      rw [e] at h1
      simp only [ho_some, wp_pure, if_true] at h1 ⊢
      refine h1.mono (fun y ρ2 ⟨e1, e2⟩ => ?_) fun _ _ z => z
      rw [e2]
      exact wp_compMap (Q := fun ys ρ3 => _) h r hok (fun x hx => hs x (List.mem_cons_of_mem _ hx)) (by subst e1; exact q)
theorem wp_compFil (p : PD → Bool) (h : PD → PD) : ∀ (ds : List PD) {Q : List PD → Rho → Prop}, ok ρ → (∀ d ∈ ds, Ho (bindT t d ρ.sl) fun sl => Wp tt { ρ with sl := sl } (fun b ρ1 => b = p d ∧ if b = true then Wp f ρ1 (fun y ρ2 => y = h d ∧ killS vs ρ2 = ρ) (fun _ _ => False) else killS vs ρ1 = ρ) (fun _ _ => False)) → Q ((ds.filter p).map h) ρ →
    Wp (compGo t vs ok tt f ds) ρ Q (fun _ _ => False)
  | [], Q, hok, _, q => by simpa using ⟨hok, q⟩
  | d :: r, Q, hok, hs, q => by
    rw [wp_comp_cons]
    refine ⟨hok, ?_⟩
    have h1 := hs d List.mem_cons_self
    cases e : bindT t d ρ.sl with
    | none => rw [e] at h1; exact h1.elim
    | some sl =>
      rw [e] at h1
      simp only [ho_some] at h1 ⊢
      refine h1.mono (fun b ρ1 ⟨e1, e2⟩ => ?_) fun _ _ z => z
      subst e1
      cases hp : p d with
      | true =>
        rw [hp] at e2
        simp only [if_true] at e2 ⊢
        refine e2.mono (fun y ρ2 ⟨e3, e4⟩ => ?_) fun _ _ z => z
        rw [e4]
        exact wp_compFil (Q := fun ys ρ3 => _) p h r hok (fun x hx => hs x (List.mem_cons_of_mem _ hx)) (by subst e3; rw [List.filter_cons, hp] at q; exact q)
      | false =>
        rw [hp] at e2
        simp only [Bool.false_eq_true, if_false] at e2 ⊢
        rw [e2]
        exact wp_compFil (Q := Q) p h r hok (fun x hx => hs x (List.mem_cons_of_mem _ hx)) (by rw [List.filter_cons, hp] at q; exact q)
@[simp] theorem wp_dLend {α : Type} {i : Nat} {g : M α} {Q : α → Rho → Prop} : Wp (dLend i g) ρ Q E = match ρ.sl[i]? with
  | some (.own m) => slOkN ρ = true ∧ Wp g (lendR i m ρ) (fun a ρ' => Q a (lendB i ρ.io.length ρ')) (fun x ρ' => E x (lendB i ρ.io.length ρ'))
  | _ => False := by
  unfold Wp dLend
  cases ρ.sl[i]? with
  | none => rfl
  | some s =>
    cases s with
    | own m =>
      by_cases h : slOkN ρ = true
      · simp only [h, if_true, true_and]
        cases g (lendR i m ρ) <;> rfl
      · simp [h]
    | _ => rfl
theorem boolsD_map {α : Type} (p : α → Bool) : ∀ xs : List α, boolsD (xs.map fun x => PyData.bool (p x)) = some (xs.map p)
  | [] => rfl
  | x :: r => by simp [boolsD, boolsD_map p r]
end
/-- what a turn of a loop leads to -/
inductive Nx (α : Type) where
  | go (a : α) | out (fl : Fl) | ex (x : Xc)
def foldN {α : Type} (step : α → PD → Nx α) : α → List PD → Nx α
  | a, [] => .go a
  | a, d :: r => match step a d with
    | .go a' => foldN step a' r
    | o => o
def isRt : Fl → Bool
  | .ret _ => true
  | .fre _ => true
  | _ => false
section
variable {ρ : Rho} {E : Xc → Rho → Prop} {t : Tg} {ks vs : List Nat} {ok : Rho → Prop} {body : M Fl}
/-- a for whose turns go from state to state, or end all; Inv tells how many turns are left, too -/
theorem wp_forN {α : Type} {Q : Fl → Rho → Prop} (st : α → Rho) (step : α → PD → Nx α) (Inv : Nat → α → Prop) (io : List MC) (hok : ∀ n a, Inv n a → ok (st a)) : ∀ (ds : List PD) (a : α)
    (turn : ∀ n a, Inv (n + 1) a → ∀ d ∈ ds, Ho (bindT t d (st a).sl) fun sl => Wp body { st a with sl := sl } (fun fl ρ' => match step a d with
      | .go a' => fl = .nx ∧ Inv n a' ∧ killS ks ρ' = st a'
      | .out fl' => fl = fl' ∧ isRt fl' = true ∧ ρ'.io = io
      | .ex _ => False) (fun y ρ' => match step a d with
      | .ex x => y = x ∧ ρ'.io = io
      | _ => False)), Inv ds.length a → (match foldN step a ds with
      | .go a' => Inv 0 a' → Q .nx (st a')
      | .out fl => isRt fl = true → ∀ ρ', ρ'.io = io → Q fl ρ'
      | .ex x => ∀ ρ', ρ'.io = io → E x ρ') → Wp (forGo t ks ok body ds) (st a) Q E
  | [], a, turn, hi, q => by
    rw [wp_for_nil]
    exact ⟨hok 0 a hi, q hi⟩
  | d :: r, a, turn, hi, q => by
    rw [wp_for_cons]
    refine ⟨hok _ a hi, ?_⟩
    have h1 := turn _ a hi d List.mem_cons_self
    cases e : bindT t d (st a).sl with
    | none => rw [e] at h1; exact h1.elim
    | some sl =>
      rw [e] at h1
      simp only [ho_some] at h1 ⊢
      unfold foldN at q
      cases e2 : step a d with
      | go a' =>
        simp only [e2] at h1 q
        refine h1.mono (fun fl ρ' ⟨e3, e4, e5⟩ => ?_) fun _ _ z => z.elim
        subst e3
        show Wp _ (killS ks ρ') Q E
        rw [e5]
        exact wp_forN st step Inv io hok r a' (fun n a ha x hx => turn n a ha x (List.mem_cons_of_mem _ hx)) e4 q
      | out fl' =>
        simp only [e2] at h1 q
        refine h1.mono (fun fl ρ' ⟨e3, e4, e5⟩ => ?_) fun _ _ z => z.elim
        subst e3
        have := q e4 ρ' e5
        cases fl <;> first | exact this | cases e4
      | ex x =>
        simp only [e2] at h1 q
        refine h1.mono (fun fl ρ' z => z.elim) fun y ρ' ⟨e3, e5⟩ => ?_
        subst e3
        exact q ρ' e5
end
section
variable {ρ : Rho} {E : Xc → Rho → Prop} {t : Tg} {ks vs : List Nat} {ok : Rho → Prop} {body : M Fl}
/-- a for over known things, to its end -/
theorem wp_forT {α β : Type} (enc : β → PD) {Q : Fl → Rho → Prop} (st : α → Rho) (step : α → β → α) (Inv : Nat → α → Prop) (hok : ∀ n a, Inv n a → ok (st a)) : ∀ (xs : List β) (a : α)
    (turn : ∀ n a, Inv (n + 1) a → ∀ x ∈ xs, Ho (bindT t (enc x) (st a).sl) fun sl => Wp body { st a with sl := sl } (fun fl ρ' => fl = .nx ∧ Inv n (step a x) ∧ killS ks ρ' = st (step a x)) (fun _ _ => False)),
    Inv xs.length a → (Inv 0 (xs.foldl step a) → Q .nx (st (xs.foldl step a))) → Wp (forGo t ks ok body (xs.map enc)) (st a) Q E
  | [], a, turn, hi, q => by
    rw [List.map_nil, wp_for_nil]
    exact ⟨hok 0 a hi, q hi⟩
  | x :: r, a, turn, hi, q => by
    rw [List.map_cons, wp_for_cons]
    refine ⟨hok _ a hi, ?_⟩
    have h1 := turn _ a hi x List.mem_cons_self
    cases e : bindT t (enc x) (st a).sl with
    | none => rw [e] at h1; exact h1.elim
    | some sl =>
      rw [e] at h1
      simp only [ho_some] at h1 ⊢
      refine h1.mono (fun fl ρ' ⟨e3, e4, e5⟩ => ?_) fun _ _ z => z.elim
      subst e3
      show Wp _ (killS ks ρ') Q E
      rw [e5]
      exact wp_forT enc st step Inv hok r _ (fun n a ha x hx => turn n a ha x (List.mem_cons_of_mem _ hx)) e4 q
end
/-- fine data: no dict, no long text -/
def fine : Nat → PD → Bool
  | _, .none => true
  | _, .bool _ => true
  | _, .int _ => true
  | _, .str z => decide (z.length ≤ 1000) && PyData.strOk z
  | n + 1, .list xs => decide (xs.length ≤ 1000) && xs.all (fine n)
  | n + 1, .tuple xs => decide (xs.length ≤ 1000) && xs.all (fine n)
  | _, _ => false
theorem foldN_no {α : Type} {step : α → PD → Nx α} (h : ∀ a d fl, step a d ≠ .out fl) : ∀ (ds : List PD) (a : α) (fl : Fl), foldN step a ds ≠ .out fl
  | [], _, _, e => by cases e
  | d :: r, a, fl, e => by
    unfold foldN at e
    cases e2 : step a d with
    | go a' => simp only [e2] at e; exact foldN_no h r a' fl e
    | out fl' => exact h a d fl' e2
    | ex x => simp only [e2] at e; cases e
def rtN {α : Type} (f : α → PD) (o : Nx α) : Rt := match o with
  | .go a => .ret (f a)
  | .ex x => .exc x
  | .out _ => .bad
@[simp] theorem rtN_go {α : Type} (f : α → PD) (a : α) : rtN f (.go a) = .ret (f a) := rfl
@[simp] theorem rtN_ex {α : Type} (f : α → PD) (x : Xc) : rtN f (.ex x) = .exc x := rfl
/-- numbered from k on -/
def enF : Int → List PD → List PD
  | _, [] => []
  | k, d :: r => .tuple [.int k, d] :: enF (k + 1) r
theorem enumD_eq (ds : List PD) : enumD ds = enF 0 ds := by
  have main : ∀ (ds : List PD) (k : Nat), (List.range' k ds.length).zipWith (fun i d => PyData.tuple [.int (i : Nat), d]) ds = enF k ds := by
    intro ds
    induction ds with
    | nil => intro k; rfl
    | cons d r ih =>
      intro k
      rw [List.length_cons, List.range'_succ, List.zipWith_cons_cons, ih (k + 1)]
      rfl
  unfold enumD
  rw [List.range_eq_range']
  exact main ds 0
def rgF : Int → Nat → List PD
  | _, 0 => []
  | k, n + 1 => .int k :: rgF (k + 1) n
theorem rngI_eq (lo : Int) (n : Nat) : rngI lo n = rgF lo n := by
  have main : ∀ (n : Nat) (k : Nat), (List.range' k n).map (fun i : Nat => PyData.int (lo + (i : Nat))) = rgF (lo + k) n := by
    intro n
    induction n with
    | zero => intro k; rfl
    | succ n ih =>
      intro k
      rw [List.range'_succ, List.map_cons, ih (k + 1)]
      show _ = PyData.int (lo + k) :: rgF (lo + k + 1) n
      rw [show lo + ((k + 1 : Nat) : Int) = lo + k + 1 by omega]
  unfold rngI
  rw [List.range_eq_range', main n 0]
  simp
@[simp] theorem rgF_len (k : Int) (n : Nat) : (rgF k n).length = n := by
  induction n generalizing k with
  | zero => rfl
  | succ n ih => simp [rgF, ih]
@[simp] theorem enF_len (k : Int) (ds : List PD) : (enF k ds).length = ds.length := by
  induction ds generalizing k with
  | nil => rfl
  | cons d r ih => simp [enF, ih]
theorem enF_mem {k : Int} {ds : List PD} {d : PD} (h : d ∈ enF k ds) : ∃ i x, d = .tuple [.int i, x] ∧ x ∈ ds := by
  induction ds generalizing k with
  | nil => cases h
  | cons e r ih =>
    rcases List.mem_cons.mp h with rfl | h
    · exact ⟨k, e, rfl, List.mem_cons_self⟩
    · obtain ⟨i, x, h1, h2⟩ := ih h
      exact ⟨i, x, h1, List.mem_cons_of_mem _ h2⟩
/-! ### what the operations answer -/
@[simp] theorem bindT_nm (i : Nat) (d : PD) (sl : List Slot) : bindT (.nm i) d sl = some (sl.set i (.val d)) := by rw [bindT]
@[simp] theorem bindT_tup (ts : List Tg) (ds : List PD) (sl : List Slot) : bindT (.tup ts) (.tuple ds) sl = bindTs ts ds sl := by rw [bindT]
@[simp] theorem bindTs_nil (sl : List Slot) : bindTs [] [] sl = some sl := by rw [bindTs]
@[simp] theorem bindTs_cons (t : Tg) (ts : List Tg) (d : PD) (ds : List PD) (sl : List Slot) : bindTs (t :: ts) (d :: ds) sl = (bindT t d sl).bind fun sl' => bindTs ts ds sl' := by
  rw [bindTs]
  cases bindT t d sl <;> rfl
@[simp] theorem atI_nat {α : Type} (xs : List α) (n : Nat) : atI xs (n : Int) = xs[n]? := by
  unfold atI ixN
  by_cases h : n < xs.length
  · simp [h]
  · have : xs[n]? = none := List.getElem?_eq_none (Nat.le_of_not_lt h)
    simp [h, this]
theorem atI_of {α : Type} {xs : List α} {i : Int} {n : Nat} (h : i = n) : atI xs i = xs[n]? := by rw [h, atI_nat]
@[simp] theorem atI_0 {α : Type} (xs : List α) : atI xs 0 = xs[0]? := atI_of rfl
@[simp] theorem atI_1 {α : Type} (xs : List α) : atI xs 1 = xs[1]? := atI_of rfl
@[simp] theorem atI_2 {α : Type} (xs : List α) : atI xs 2 = xs[2]? := atI_of rfl
@[simp] theorem atI_3 {α : Type} (xs : List α) : atI xs 3 = xs[3]? := atI_of rfl
@[simp] theorem atI_4 {α : Type} (xs : List α) : atI xs 4 = xs[4]? := atI_of rfl
@[simp] theorem atI_m1 {α : Type} (xs : List α) : atI xs (-1) = xs.getLast? := by
  unfold atI ixN
  rw [if_neg (by decide), List.getLast?_eq_getElem?]
  by_cases h : xs.length = 0
  · have : xs = [] := List.length_eq_zero_iff.mp h
    subst this
    rfl
  · rw [if_pos (by omega)]
    show xs[((-1 : Int) + xs.length).toNat]? = _
    congr 1
    omega
@[simp] theorem ixN_nat {n m : Nat} (h : m < n) : ixN n (m : Int) = some m := by
  unfold ixN
  simp [h]
@[simp] theorem ixN_0 {n : Nat} (h : 0 < n) : ixN n 0 = some 0 := ixN_nat h
@[simp] theorem ixN_1 {n : Nat} (h : 1 < n) : ixN n 1 = some 1 := ixN_nat h
@[simp] theorem ixN_2 {n : Nat} (h : 2 < n) : ixN n 2 = some 2 := ixN_nat h
@[simp] theorem pGet_t (ds : List PD) (i : Int) : pGet (.tuple ds) (.int i) = atI ds i := rfl
@[simp] theorem pGet_l (ds : List PD) (i : Int) : pGet (.list ds) (.int i) = atI ds i := rfl
@[simp] theorem pLe_ii (i j : Int) : pLe (.int i) (.int j) = some (.bool (decide (i ≤ j))) := rfl
@[simp] theorem pLt_ii (i j : Int) : pLt (.int i) (.int j) = some (.bool (decide (i < j))) := rfl
@[simp] theorem pGe_ii (i j : Int) : pGe (.int i) (.int j) = some (.bool (decide (j ≤ i))) := rfl
@[simp] theorem pGt_ii (i j : Int) : pGt (.int i) (.int j) = some (.bool (decide (j < i))) := rfl
@[simp] theorem pAdd_ii (i j : Int) : pAdd (.int i) (.int j) = some (.int (i + j)) := rfl
@[simp] theorem pSub_ii (i j : Int) : pSub (.int i) (.int j) = some (.int (i - j)) := rfl
theorem pMul_r (i j : Int) (h : -(2 ^ 64) < j ∧ j < 2 ^ 64) : pMul (.int i) (.int j) = some (.int (i * j)) := if_pos (.inr h)
theorem pMul_l (i j : Int) (h : -(2 ^ 64) < i ∧ i < 2 ^ 64) : pMul (.int i) (.int j) = some (.int (i * j)) := if_pos (.inl h)
theorem pMod_ii (i j : Int) (h : 0 < j) : pMod (.int i) (.int j) = some (.int (i % j)) := if_pos h
theorem pFdiv_ii (i j : Int) (h : 0 < j) (h2 : j < 2 ^ 64) : pFdiv (.int i) (.int j) = some (.int (i / j)) := if_pos ⟨h, by
  have : j.natAbs < 2 ^ 64 := by omega
  have := (Nat.log2_lt (n := j.natAbs) (by omega)).mpr this
  omega⟩
@[simp] theorem gLen_l (ds : List PD) : gLen [.list ds] = some (.int ds.length) := rfl
@[simp] theorem gLen_t (ds : List PD) : gLen [.tuple ds] = some (.int ds.length) := rfl
theorem gLen_s (z : Str) (h : z.length ≤ sizeLine) : gLen [.str z] = some (.int z.length) := if_pos h
@[simp] theorem gTup_l (ds : List PD) : gTup [.list ds] = some (.tuple ds) := rfl
@[simp] theorem gTup_t (ds : List PD) : gTup [.tuple ds] = some (.tuple ds) := rfl
@[simp] theorem gList_l (ds : List PD) : gList [.list ds] = some ds := rfl
@[simp] theorem gList_t (ds : List PD) : gList [.tuple ds] = some ds := rfl
@[simp] theorem gInt_i (i : Int) : gInt [.int i] = some (.int i) := rfl
@[simp] theorem gInt_b (b : Bool) : gInt [.bool b] = some (.int (if b then 1 else 0)) := rfl
@[simp] theorem gAbs_i (i : Int) : gAbs [.int i] = some (.int (if i < 0 then -i else i)) := rfl
@[simp] theorem gAll_map {α : Type} (p : α → Bool) (xs : List α) : gAll [.list (xs.map fun x => PyData.bool (p x))] = some (.bool (xs.all p)) := by
  show (boolsD _).map _ = _
  rw [boolsD_map]
  simp [List.all_map]
@[simp] theorem tru_b (b : Bool) : tru (.bool b) = some b := rfl
@[simp] theorem tru_n : tru .none = some false := rfl
@[simp] theorem tru_i (i : Int) : tru (.int i) = some (i != 0) := rfl
@[simp] theorem tru_l (ds : List PD) : tru (.list ds) = some (!ds.isEmpty) := rfl
@[simp] theorem tru_t (ds : List PD) : tru (.tuple ds) = some (!ds.isEmpty) := rfl
@[simp] theorem seqOf_l (ds : List PD) : seqOf (.list ds) = some ds := rfl
@[simp] theorem seqOf_n : seqOf .none = none := rfl
@[simp] theorem seqOf_b (b : Bool) : seqOf (.bool b) = none := rfl
@[simp] theorem seqOf_i (i : Int) : seqOf (.int i) = none := rfl
@[simp] theorem seqOf_s (z : Str) : seqOf (.str z) = none := rfl
@[simp] theorem seqOf_t (ds : List PD) : seqOf (.tuple ds) = some ds := rfl
/-! ### may be compared -/
structure OkN (n : Nat) (d : PD) : Prop where
  pl : plainD d = true
  lay : d.canLay0 = true
  dp : d.depth ≤ n
theorem OkN.mono {n m : Nat} {d : PD} (h : OkN n d) (l : n ≤ m) : OkN m d := ⟨h.pl, h.lay, Nat.le_trans h.dp l⟩
theorem OkN.ok {n : Nat} {d : PD} (h : OkN n d) (l : n ≤ 64 := by decide) : okD d = true := by
  have := h.dp
  unfold okD SeqAt.shaped
  rw [h.pl, h.lay]
  simp; omega
theorem okN_int (n : Nat) (i : Int) : OkN n (.int i) := ⟨rfl, rfl, Nat.zero_le _⟩
theorem okN_bool (n : Nat) (b : Bool) : OkN n (.bool b) := ⟨rfl, rfl, Nat.zero_le _⟩
theorem okN_none (n : Nat) : OkN n .none := ⟨rfl, rfl, Nat.zero_le _⟩
theorem okN_str {n : Nat} {x : Str} (h : (PyData.str x).canLay0 = true) : OkN n (.str x) := ⟨rfl, h, Nat.zero_le _⟩
theorem okN_all {n : Nat} : ∀ {ds : List PD}, (∀ d ∈ ds, OkN n d) → plainDs ds = true ∧ PyData.canLayAll0 ds = true ∧ PyData.depthAll ds ≤ n
  | [], _ => ⟨rfl, rfl, Nat.zero_le _⟩
  | d :: r, h => by
    obtain ⟨h1, h2, h3⟩ := okN_all (ds := r) fun x hx => h x (List.mem_cons_of_mem _ hx)
    have h0 := h d List.mem_cons_self
    refine ⟨by rw [plainDs, h0.pl, h1]; rfl, by rw [PyData.canLayAll0, h0.lay, h2]; rfl, ?_⟩
    rw [PyData.depthAll]
    exact Nat.max_le.mpr ⟨h0.dp, h3⟩
theorem okN_tup {n : Nat} {ds : List PD} (h : ∀ d ∈ ds, OkN n d) : OkN (n + 1) (.tuple ds) := by
  obtain ⟨h1, h2, h3⟩ := okN_all h
  exact ⟨by rw [plainD]; exact h1, by rw [PyData.canLay0]; exact h2, by rw [PyData.depth]; omega⟩
theorem okN_lst {n : Nat} {ds : List PD} (h : ∀ d ∈ ds, OkN n d) : OkN (n + 1) (.list ds) := by
  obtain ⟨h1, h2, h3⟩ := okN_all h
  exact ⟨by rw [plainD]; exact h1, by rw [PyData.canLay0]; exact h2, by rw [PyData.depth]; omega⟩
theorem pEq_ok {n m : Nat} {x y : PD} (h : OkN n x) (h' : OkN m y) (l : n ≤ 64 := by decide) (l' : m ≤ 64 := by decide) : pEq x y = some (.bool (PyData.eqv x y)) := if_pos ⟨h.ok l, h'.ok l'⟩
theorem pNe_ok {n m : Nat} {x y : PD} (h : OkN n x) (h' : OkN m y) (l : n ≤ 64 := by decide) (l' : m ≤ 64 := by decide) : pNe x y = some (.bool (!PyData.eqv x y)) := if_pos ⟨h.ok l, h'.ok l'⟩
@[simp] theorem pEq_ii (i j : Int) : pEq (.int i) (.int j) = some (.bool (decide (i = j))) := by
  rw [pEq_ok (okN_int 0 i) (okN_int 0 j)]
  simp [PyData.eqv, BEq.beq]
@[simp] theorem pNe_ii (i j : Int) : pNe (.int i) (.int j) = some (.bool (!decide (i = j))) := by
  rw [pNe_ok (okN_int 0 i) (okN_int 0 j)]
  simp [PyData.eqv, BEq.beq]
/-! ### may be shown -/
structure Sh (n L : Nat) (d : PD) : Prop where
  pl : plainD d = true
  sh : d.showable = true
  nod : d.hasDict = false
  dp : d.depth ≤ n
  len : d.shown.length ≤ L
theorem Sh.mono {n m L L' : Nat} {d : PD} (h : Sh n L d) (l : n ≤ m) (l' : L ≤ L') : Sh m L' d := ⟨h.pl, h.sh, h.nod, Nat.le_trans h.dp l, Nat.le_trans h.len l'⟩
theorem Sh.ok {n L : Nat} {d : PD} (h : Sh n L d) (l : n ≤ 100 := by decide) (l' : L ≤ sizeLine := by decide) : gRepr [d] = some (.str d.shown) := by
  have h1 := h.dp
  have h2 := h.len
  have e : showOk d = true := by
    unfold showOk
    rw [h.pl, h.sh, h.nod]
    simp; omega
  show (if showOk d = true then _ else _) = _
  rw [if_pos e]
theorem sh_bool (b : Bool) : Sh 0 5 (.bool b) := ⟨rfl, rfl, rfl, Nat.le_refl _, by cases b <;> decide⟩
theorem sh_none : Sh 0 5 .none := ⟨rfl, rfl, rfl, Nat.le_refl _, by decide⟩
theorem shown_small : ∀ i : Fin 100, (PyData.int (i : Nat)).shown.length ≤ 5 := by decide +kernel
theorem sh_nat {i : Nat} (h : i < 100) : Sh 0 5 (.int i) := by
  refine ⟨rfl, ?_, rfl, Nat.le_refl _, shown_small ⟨i, h⟩⟩
  unfold PyData.showable
  have : i.log2 ≤ i := Nat.log2_le_self i
  simp; omega
theorem lens_le {L : Nat} : ∀ {ds : List PD}, (∀ d ∈ ds, d.shown.length ≤ L) → ((PyData.shownAll ds).map (·.length)).sum ≤ ds.length * L ∧ (PyData.shownAll ds).length = ds.length
  | [], _ => by simp [PyData.shownAll]
  | d :: r, h => by
    obtain ⟨h1, h3⟩ := lens_le (ds := r) fun x hx => h x (List.mem_cons_of_mem _ hx)
    have h2 := h d List.mem_cons_self
    rw [PyData.shownAll]
    simp only [List.map_cons, List.sum_cons, List.length_cons, Nat.add_mul, Nat.one_mul, h3]
    refine ⟨by omega, ?_⟩
    first | trivial | omega
theorem sh_all {n L : Nat} : ∀ {ds : List PD}, (∀ d ∈ ds, Sh n L d) → plainDs ds = true ∧ PyData.showableAll ds = true ∧ PyData.hasDictAll ds = false ∧ PyData.depthAll ds ≤ n
  | [], _ => ⟨rfl, rfl, rfl, Nat.zero_le _⟩
  | d :: r, h => by
    obtain ⟨h1, h2, h3, h4⟩ := sh_all (ds := r) fun x hx => h x (List.mem_cons_of_mem _ hx)
    have h0 := h d List.mem_cons_self
    refine ⟨by rw [plainDs, h0.pl, h1]; rfl, by rw [PyData.showableAll, h0.sh, h2]; rfl, by rw [PyData.hasDictAll, h0.nod, h3]; rfl, ?_⟩
    rw [PyData.depthAll]
    exact Nat.max_le.mpr ⟨h0.dp, h4⟩
theorem sh_tup {n L : Nat} {ds : List PD} (h : ∀ d ∈ ds, Sh n L d) : Sh (n + 1) (ds.length * (L + 2) + 3) (.tuple ds) := by
  obtain ⟨h1, h2, h3, h4⟩ := sh_all h
  obtain ⟨h5, h6⟩ := lens_le fun d hd => (h d hd).len
  refine ⟨by rw [plainD]; exact h1, by rw [PyData.showable]; exact h2, by rw [PyData.hasDict]; exact h3, by rw [PyData.depth]; omega, ?_⟩
  rw [PyData.shown]
  refine Nat.le_trans (tupleText_len_le _) ?_
  rw [h6, Nat.mul_add]
  omega
theorem sh_lst {n L : Nat} {ds : List PD} (h : ∀ d ∈ ds, Sh n L d) : Sh (n + 1) (ds.length * (L + 2) + 3) (.list ds) := by
  obtain ⟨h1, h2, h3, h4⟩ := sh_all h
  obtain ⟨h5, h6⟩ := lens_le fun d hd => (h d hd).len
  refine ⟨by rw [plainD]; exact h1, by rw [PyData.showable]; exact h2, by rw [PyData.hasDict]; exact h3, by rw [PyData.depth]; omega, ?_⟩
  rw [PyData.shown]
  refine Nat.le_trans (listText_len_le _) ?_
  rw [h6, Nat.mul_add]
  omega
end Den

set_option Elab.async false
set_option linter.all false
set_option maxRecDepth 100000
/-! DenHk: what is told of the heap behind the top: facts, defs, and tests of one's own. -/
namespace Den
open PySem PySem.Spec
open PyProof.Rows L2

/-- what is looked at: what hangs on the module's names, and the table of the statics -/
def eyes (n : Nat) (g : Addr → Option Obj) : PySem.W.Frag := He.frG g (He.asD g n ++ [cStatics])
/-- the __init__ of an own exception class, as it is seen -/
abbrev IniV : Type := Option (Str × Str × Arguments × FuncBody × Scope × List Str × Addr × Addr)
def iniW (K : PySem.W.Frag) (C : Addr) : IniV := match K.lookup (He.ma K C "__init__") with
  | some ⟨_, _, .func fd, _⟩ => some (fd.name, fd.qualname, fd.params, fd.body, fd.scope, fd.closure.map (·.1), fd.globals, fd.builtins)
  | _ => none
def iniVal (qual : Str) (params : Arguments) (body : List Stmt) (scope : Scope) : IniV := some ("__init__", qual, params, .stmts body, scope, ["__class__"], mainGlobals, builtinsNs)
/-- an own exception class: its name, its field, its __init__ -/
structure ExI where
  x : Str
  f : Str
  qual : Str
  params : Arguments
  body : List Stmt
  scope : Scope
def ExI.val (e : ExI) : IniV := iniVal e.qual e.params e.body e.scope
abbrev Seen : Type := He.AlD × (List IniV × Bool)
def seenK (fa : List He.Fa) (fn : List He.DefD) (ins : List ExI) (ex : PySem.W.Frag → Bool) (K : PySem.W.Frag) : Seen := (He.obsD fa fn K, ins.map (fun e => iniW K (He.ga K e.x)), ex K)
def seen (n : Nat) (fa : List He.Fa) (fn : List He.DefD) (ins : List ExI) (ex : PySem.W.Frag → Bool) (g : Addr → Option Obj) : Seen := seenK fa fn ins ex (eyes n g)
structure Says (fa : List He.Fa) (fn : List He.DefD) (ins : List ExI) (ex : PySem.W.Frag → Bool) (K : PySem.W.Frag) (h : PySem.Heap) : Prop where
  kin : K.In h
  facts : He.SaysD fa fn K
  inis : ins.map (fun e => iniW K (He.ga K e.x)) = ins.map ExI.val
  own : ex K = true
def hookO (n : Nat) (fa : List He.Fa) (fn : List He.DefD) (ins : List ExI) (ex : PySem.W.Frag → Bool) : PySem.W.Hook where
  α := Seen
  obs := fun s => seen n fa fn ins ex s.heap.get?
  val := fun _ => (He.valD fn, ins.map ExI.val, true)
  says := fun _ h => ∃ K, Says fa fn ins ex K h
  of := fun _ s e => ⟨eyes n s.heap.get?, He.frG_in, congrArg (fun z : Seen => z.1) e, congrArg (fun z : Seen => z.2.1) e, congrArg (fun z : Seen => z.2.2) e⟩
  keeps := fun _ _ _ ⟨K, S⟩ k => ⟨K, S.kin.keeps k, S.facts, S.inis, S.own⟩
theorem seen_eq {n : Nat} {fa : List He.Fa} {fn : List He.DefD} {ins : List ExI} {ex : PySem.W.Frag → Bool} {g : Addr → Option Obj} {s : Shared} (h : ∀ a, g a = s.heap.get? a) : seen n fa fn ins ex g = (hookO n fa fn ins ex).obs s := by
  rw [funext h]
  rfl
theorem Says.ini {fa : List He.Fa} {fn : List He.DefD} {ins : List ExI} {ex : PySem.W.Frag → Bool} {K : PySem.W.Frag} {h : PySem.Heap} (S : Says fa fn ins ex K h) (i : Nat) {e : ExI} (he : ins[i]? = some e := by rfl) : iniW K (He.ga K e.x) = e.val := by
  have q : (ins.map (fun e => iniW K (He.ga K e.x)))[i]? = (ins.map ExI.val)[i]? := by rw [S.inis]
  rw [List.getElem?_map, List.getElem?_map, he] at q
  exact Option.some.inj q
/-! ### tests of one's own -/
def clsB (K : PySem.W.Frag) (C : Addr) : Bool := PySem.W.excInitIn K C exBase "Exception.__new__" && (PySem.W.excOver K C exBase && (PySem.W.hasDictIn K C && (He.eqO (PySem.W.findIn K (.ref C) "__setattr__") (some (some (.builtin "object.__setattr__"))) &&
  (decide (PySem.W.subIn K (.ref C) (.type "BaseException") = some true) && (decide (PySem.W.subIn K (.ref C) (.type "Exception") = some true) && (decide (PySem.W.typeIn K (.ref C) = some (.type "type")) && PySem.W.keepIn K (.ref C)))))))
theorem clsB_ok {K : PySem.W.Frag} {C : Addr} (h : clsB K C = true) : ClsX K C := by
  unfold clsB at h
  simp only [Bool.and_eq_true, decide_eq_true_eq] at h
  obtain ⟨h1, h2, h3, h4, h5, h6, h7, h8⟩ := h
  refine ⟨h1, h2, h3, He.eqO_ok h4, fun T hT => ?_, h7, h8⟩
  rcases List.mem_cons.mp hT with rfl | hT
  · exact h5
  · rw [List.mem_singleton] at hT
    subst hT
    exact h6
def cellB (K : PySem.W.Frag) (C : Addr) (cl : List (Str × Addr)) : Bool := match cl with
  | [(_, cc)] => (match K.lookup cc with
    | some ⟨_, _, .cell (some (.ref D)), _⟩ => D == C
    | _ => false)
  | _ => false
def codeB (P : Program) (K : PySem.W.Frag) (qual : Str) : Value → Bool
  | .ref c => PySem.W.codeIn K (.ref c) qual && (match K.lookup c with
    | some ⟨_, _, .fields vs, _⟩ => (match (vs[2]? : Option Value) with
      | some (.str file _) => P.main.file == file
      | _ => false)
    | _ => false)
  | _ => false
def fnB (P : Program) (K : PySem.W.Frag) (C : Addr) (qual : Str) : Bool := match K.lookup (He.ma K C "__init__") with
  | some ⟨_, _, .func fd, _⟩ => (match fd.defaults with
    | .none => true
    | _ => false) && (cellB K C fd.closure && codeB P K qual fd.code)
  | _ => false
def iniB (P : Program) (K : PySem.W.Frag) (C : Addr) (qual : Str) : Bool := fnB P K C qual && (He.eqO (PySem.W.findIn K (.ref C) "__init__") (some (some (.ref (He.ma K C "__init__")))) && (decide (PySem.W.typeIn K (.ref (He.ma K C "__init__")) = some (.type "function")) &&
  (He.eqO (PySem.W.nsIn K cStatics "thirdparty.any") (some none) && (He.eqO (PySem.W.ks_superIn K C C "__init__") (some (some (.builtin "Exception.__init__"))) && (decide (PySem.W.mroIn K C (.ref C) = some true) && !(P.main.scope.names.lookup ("super" : Str)).isSome)))))
theorem iniB_ok {P : Program} {K : PySem.W.Frag} {C : Addr} {qual : Str} {params : Arguments} {body : List Stmt} {scope : Scope} (h : iniB P K C qual = true) (v : iniW K C = iniVal qual params body scope) :
    ∃ cc cda, IniX P K C (He.ma K C "__init__") cc cda qual params body scope := by
  unfold iniB at h
  simp only [Bool.and_eq_true, decide_eq_true_eq, Bool.not_eq_true'] at h
  obtain ⟨h1, h2, h3, h4, h5, h6, h7⟩ := h
  unfold fnB at h1
  unfold iniW at v
  split at h1
  case h_2 => cases h1
  rename_i oc od fd osl look
  rw [look] at v
  simp only [Bool.and_eq_true] at h1
  obtain ⟨d1, d2, d3⟩ := h1
  obtain ⟨nm, qn, pr, bd, sc, gl, cl, dfl, kd, doc, pm, an, code, ct, bl⟩ := fd
  dsimp only at v d1 d2 d3
  unfold iniVal at v
  simp only [Option.some.injEq, Prod.mk.injEq] at v
  obtain ⟨rfl, rfl, rfl, rfl, rfl, e, rfl, rfl⟩ := v
  unfold cellB at d2
  split at d2
  case h_2 => cases d2
  rename_i nme cc
  split at d2
  case h_2 => cases d2
  rename_i c2 dd2 D s2 lcell
  obtain rfl : D = C := eq_of_beq d2
  unfold codeB at d3
  split at d3
  case h_2 => cases d3
  rename_i cda
  rw [Bool.and_eq_true] at d3
  obtain ⟨k1, k2⟩ := d3
  split at k2
  case h_2 => cases k2
  rename_i c1 dd1 vs s1 lcode
  split at k2
  case h_2 => cases k2
  rename_i file tf hv
  split at d1
  case h_2 => cases d1
  have en : nme = "__class__" := by simpa using e
  subst en
  exact ⟨cc, cda, ⟨⟨oc, od, osl, kd, doc, pm, an, ct, look⟩, He.eqO_ok h2, h3, k1, ⟨c1, dd1, vs, s1, file, tf, lcode, hv, k2⟩, ⟨c2, dd2, s2, lcell⟩, He.eqO_ok h4, He.eqO_ok h5, h6, h7⟩⟩
/-! ### an own exception class, all told -/
def ExI.ok (P : Program) (K : PySem.W.Frag) (e : ExI) : Bool := clsB K (He.ga K e.x) && (iniB P K (He.ga K e.x) e.qual && L2.xfB K (He.ga K e.x))
theorem ExI.calX {P : Program} {K : PySem.W.Frag} {mg : Str → Option Value} {e : ExI} {a sf : Str} (ok : e.ok P K = true) (v : iniW K (He.ga K e.x) = e.val) (gl : mg e.x = some (.ref (He.ga K e.x))) (sup : mg "super" = none)
    (no : PySem.W.findIn K (.ref (He.ga K e.x)) e.f = some none) (T : TxtX e.qual e.params e.body e.scope e.f a sf) : CalX P K mg (He.ga K e.x) e.x e.f := by
  unfold ExI.ok at ok
  simp only [Bool.and_eq_true] at ok
  obtain ⟨c1, c2, _⟩ := ok
  obtain ⟨cc, cda, Y⟩ := iniB_ok c2 v
  exact ⟨gl, sup, clsB_ok c1, ⟨_, cc, cda, _, _, _, _, a, sf, Y, T⟩, no⟩
theorem ExI.xfc {P : Program} {K : PySem.W.Frag} {e : ExI} (ok : e.ok P K = true) : L2.XfC K (He.ga K e.x) := by
  unfold ExI.ok at ok
  simp only [Bool.and_eq_true] at ok
  exact L2.xfB_ok ok.2.2
/-- classes by name: the module's own names -/
def kcOf (ns : List Str) (K : PySem.W.Frag) : Kc := ⟨K, fun n => if n ∈ ns then some (He.ga K n) else none⟩
theorem kcOf_kl {ns : List Str} {K : PySem.W.Frag} {n : Str} (h : n ∈ ns) : (kcOf ns K).kl n = some (He.ga K n) := if_pos h
theorem kcOf_eq {ns : List Str} {K : PySem.W.Frag} {n : Str} {C : Addr} (h : (kcOf ns K).kl n = some C) : C = He.ga K n := by
  unfold kcOf at h
  dsimp only at h
  split at h
  · exact (Option.some.inj h).symm
  · cases h
/-- the law's call, as the row's end asks for it -/
theorem walk_den {l : PySem.W.OpenLaw} {n : Nat} {q : Program} {loose : List Str} {XP : (Str → Option Value) → PySem.Heap → Prop} {YP : World → PySem.Heap → Prop} {d : PySem.DefRec} (hn : l.most = some n) (hn2 : n ≤ sizeLine) (hdf : d.params.defaults = [])
    (F : ∀ (w : World) (mg : Str → Option Value) (s : Shared) (fa a : Addr) (vs : List Value) (ns : List Int), YP w s.heap → s.heap.Ns mainGlobals mg → mg d.name = some (.ref fa) → (∀ K : PySem.W.Frag, K.In s.heap → Entry K mg s a vs ns) →
      ns.length ≤ n → (∀ k ∈ ns, Builtin.Int.intBits k ≤ 1048576) →
      codeAny (model l.prog w) callerA (.call (.ref fa) ⟨[.ref a], []⟩) (fun r s' => r = .ok (.ret (.bool true)) ∧ OldK s.heap s'.heap ∧ s'.os = s.os ∧ AllBare s'.gens) s) :
    PySem.W.WalkO q loose XP YP l.row.toRowW d [] (fun f vs => PySem.call f vs) :=
  Att.attach_callB hn hdf fun w s₀ s₁ mg mb fa o pm cd doc a vs ns G Y ho hd hcd hmg hobj hints hlen hbits hg =>
    F w mg s₁ fa a vs ns Y G.T.g hmg (fun K KX => ⟨KX, G.T.g, ⟨mb, G.T.b, G.T.builtins⟩, G.T.nolimit, hg, hobj, hints, Nat.le_trans hlen hn2⟩) hlen hbits
end Den

set_option Elab.async false
set_option linter.all false
set_option maxRecDepth 100000
/-! DenAA: two targets of one value. -/
namespace Den
open PySem PySem.Spec
open PyProof.Rows L2
def dAsg2 (t t2 : Tg) (f : M PD) : M Fl := mbind f fun d ρ => match bindT t d ρ.sl with
  | some sl => (match bindT t2 d sl with
    | some sl2 => .ok .nx { ρ with sl := sl2 }
    | none => .bad)
  | none => .bad
theorem ds_asg2 {X : Cx} {c : Cc} {W : WX} {tg tg2 e : Expr} {t t2 : Tg} {f : M PD} {pos : Pos} (he : DE X c W e f) (hg : DG X c tg t) (hg2 : DG X c tg2 t2) (ha : (assignEach [tg, tg2] X.env).map (·.2) = [assign tg X.env, assign tg2 X.env] := by rfl)
    (hw : swappedStores [tg, tg2] e X.env = pure none := by rfl) : DS X c W (.Assign [tg, tg2] e pos) (dAsg2 t t2 f) := fun gd ioA =>
  PS.imp (ps_asg2 (he gd ioA) (hg gd ioA) (hg2 gd ioA) ha hw) fun D σ H ⟨ρ, P, rp, h⟩ => ⟨ρ, P, rp, h.bind.mono fun v H1 ⟨d, ρ1, P1, s1, r1, v1, h1⟩ => by
    unfold tSat at h1
    cases e1 : bindT t d ρ1.sl with
    | none => simp only [e1] at h1
    | some sl =>
      cases e2 : bindT t2 d sl with
      | none => simp only [e1, e2] at h1
      | some sl2 =>
        simp only [e1, e2] at h1
        exact ⟨ρ1, P1, d, r1, .inl (.inl v1), fun _ _ => v1, sl, e1, fun σ' P' s o r => ⟨{ ρ1 with sl := sl }, P', d, r, .inl (.inl (Rp.mono s.g v1)), fun _ _ => Rp.mono s.g v1, sl2, e2, fun σ2 P2 s2 o2 r2 => h1 σ2 _ P2 (s.trans s2) r2⟩⟩⟩
end Den

set_option Elab.async false
set_option linter.all false
set_option maxRecDepth 100000
set_option maxHeartbeats 4000000
namespace K11
open PySem PySem.Spec Den
open PyProof.Rows L2
def top (i : Nat) : Stmt := PySem.Challenge.pw_lateno_k11_whole_worlds_for_all_lots_tha.main.body.getD i (.Pass ⟨0, 0, 0, 0⟩)
/-- what the module leaves to the language, its numbers and texts -/
structure Gs (mg : Str → Option Value) : Prop where
  n_abs : mg "abs" = none
  n_all : mg "all" = none
  n_bool : mg "bool" = none
  n_dict : mg "dict" = none
  n_enumerate : mg "enumerate" = none
  n_int : mg "int" = none
  n_isinstance : mg "isinstance" = none
  n_len : mg "len" = none
  n_list : mg "list" = none
  n_range : mg "range" = none
  n_repr : mg "repr" = none
  n_set : mg "set" = none
  n_str : mg "str" = none
  n_tuple : mg "tuple" = none
  c_LONGEST_NAME : ∃ t, mg "LONGEST_NAME" = some (.int 8 t)
  c_MOST_KINDS : ∃ t, mg "MOST_KINDS" = some (.int 6 t)
  c_MOST_PRICE : ∃ t, mg "MOST_PRICE" = some (.int 1000000 t)
  c_MOST_ROLES : ∃ t, mg "MOST_ROLES" = some (.int 3 t)
  c_MOST_STATES : ∃ t, mg "MOST_STATES" = some (.int 6 t)
  c_MOST_TOOLS : ∃ t, mg "MOST_TOOLS" = some (.int 20 t)
  c_SMALL_LETTERS : ∃ t, mg "SMALL_LETTERS" = some (.str "abcdefghijklmnopqrstuvwxyz" t)
def deskFs : List Str := ["kinds", "tools", "repairs", "told", "found_rows"]
section
variable {P : Program} {w : World} {K : PySem.W.Frag} {mg : Str → Option Value} {base : PySem.Heap} {kc : Kc} {f : Addr}
def g_is_integer : M Fl := dRet (dAndV (dIsi ["int"] (dkVar 0)) (dNotV (dIsi ["bool"] (dkVar 0))))
def F_is_integer : FD := runB 1 1 g_is_integer
theorem sc_is_integer : FnScope ["value"] ["value"] (defScope (top 8)) := ⟨rfl, rfl, rfl, by decide +kernel, rfl, by decide +kernel, by decide +kernel⟩
theorem b_is_integer (fa : Gs mg) : Body P w K mg base kc 0 ["value"] "is_integer" (defScope (top 8)) f (defBody (top 8)) g_is_integer := fun cdv A outer s H E cl =>
  have hN := (sc_is_integer).nd
  dss_one (ds_ret (de_and (de_isi (dk_var 0) (.cons rfl fa.n_int rfl (by decide) (by decide) rfl .nil) (by decide) rfl fa.n_isinstance) (de_one (de_not (de_isi (dk_var 0) (.cons rfl fa.n_bool rfl (by decide) (by decide) rfl .nil) (by decide) rfl fa.n_isinstance)))))

noncomputable def g_is_below : M Fl := dRet (dAndV (dCall F_is_integer (.val (dVar 0) :: [])) (dChain pLe pLt (dkE (mpure (.int 0))) (dkVar 0) (dkVar 1)))
noncomputable def F_is_below : FD := runB 2 2 g_is_below
theorem sc_is_below : FnScope ["value", "limit"] ["value", "limit"] (defScope (top 9)) := ⟨rfl, rfl, rfl, by decide +kernel, rfl, by decide +kernel, by decide +kernel⟩
theorem b_is_below (fa : Gs mg) (h_is_integer : Cal P w K mg base kc 1 "is_integer" F_is_integer) : Body P w K mg base kc 1 ["value", "limit"] "is_below" (defScope (top 9)) f (defBody (top 9)) g_is_below := fun cdv A outer s H E cl =>
  have hN := (sc_is_below).nd
  dss_one (ds_ret (de_and (de_call h_is_integer cl (by decide) rfl (das_val (de_var 0) (das_nil))) (de_one (de_chain o_le o_lt (dk_e (de_int)) (dk_var 0) (dk_var 1)))))

def g_is_sequence : M Fl := dRet (dIsi ["list", "tuple"] (dkVar 0))
def F_is_sequence : FD := runB 1 1 g_is_sequence
theorem sc_is_sequence : FnScope ["value"] ["value"] (defScope (top 10)) := ⟨rfl, rfl, rfl, by decide +kernel, rfl, by decide +kernel, by decide +kernel⟩
theorem b_is_sequence (fa : Gs mg) : Body P w K mg base kc 0 ["value"] "is_sequence" (defScope (top 10)) f (defBody (top 10)) g_is_sequence := fun cdv A outer s H E cl =>
  have hN := (sc_is_sequence).nd
  dss_one (ds_ret (de_isiT (dk_var 0) (.cons rfl fa.n_list rfl (by decide) (by decide) rfl (.cons rfl fa.n_tuple rfl (by decide) (by decide) rfl .nil)) (by decide) (by decide) rfl fa.n_isinstance))

noncomputable def g_is_row : M Fl := dRet (dAndV (dCall F_is_sequence (.val (dVar 0) :: [])) (dOp2 pEq (dkE (dCB gLen (dKs (dkVar 0) (mpure [])))) (dkVar 1)))
noncomputable def F_is_row : FD := runB 2 2 g_is_row
theorem sc_is_row : FnScope ["value", "many"] ["value", "many"] (defScope (top 11)) := ⟨rfl, rfl, rfl, by decide +kernel, rfl, by decide +kernel, by decide +kernel⟩
theorem b_is_row (fa : Gs mg) (h_is_sequence : Cal P w K mg base kc 1 "is_sequence" F_is_sequence) : Body P w K mg base kc 1 ["value", "many"] "is_row" (defScope (top 11)) f (defBody (top 11)) g_is_row := fun cdv A outer s H E cl =>
  have hN := (sc_is_row).nd
  dss_one (ds_ret (de_and (de_call h_is_sequence cl (by decide) rfl (das_val (de_var 0) (das_nil))) (de_one (de_cmp o_eq (dk_e (de_cb c_len rfl (by decide +kernel) rfl fa.n_len (dks_cons (dk_var 0) (dks_nil)))) (dk_var 1) rfl))))

noncomputable def g_is_name : M Fl := dSeq (dIf (tOrB (tNotB (dTru (dkE (dIsi ["str"] (dkVar 0))))) (tNotB (asB (dChain pLe pLe (dkE (mpure (.int 1))) (dkE (dCB gLen (dKs (dkVar 0) (mpure [])))) (dkE (mpure (.int 8))))))) (dRet (mpure (.bool false))) (dNext)) (dRet (dCB gAll (dKs (dkE (mbind (dComp (.nm 1) [1] (dIterV (dkE (dVar 0))) (mpure true) (dOp2 pIn (dkVar 1) (dkE (mpure (.str "abcdefghijklmnopqrstuvwxyz"))))) (fun xs => mpure (.list xs)))) (mpure []))))
noncomputable def F_is_name : FD := runB 2 1 g_is_name
theorem sc_is_name : FnScope ["value", "sign"] ["value"] (defScope (top 12)) := ⟨rfl, rfl, rfl, by decide +kernel, rfl, by decide +kernel, by decide +kernel⟩
theorem b_is_name (fa : Gs mg) : Body P w K mg base kc 0 ["value", "sign"] "is_name" (defScope (top 12)) f (defBody (top 12)) g_is_name := fun cdv A outer s H E cl =>
  have hN := (sc_is_name).nd
  dss_cons (ds_if (dt_w (dw_or (dt_not (dt_tru (dk_e (de_isi (dk_var 0) (.cons rfl fa.n_str rfl (by decide) (by decide) rfl .nil) (by decide) rfl fa.n_isinstance)))) (dw_or1 (dt_not (dt_chain o_le o_le (dk_e (de_int)) (dk_e (de_cb c_len rfl (by decide +kernel) rfl fa.n_len (dks_cons (dk_var 0) (dks_nil)))) (dk_e (de_globI rfl fa.c_LONGEST_NAME.choose_spec))))))) (dss_one (ds_ret (de_bl))) (dss_nil)) (dss_one (ds_ret (de_cb c_all rfl (by decide +kernel) rfl fa.n_all (dks_cons (dk_e (de_f (df_lc (own := [("sign", 1)]) rfl hN (di_val (dk_e (de_var 0))) (blk_of ["value", "sign"] (defScope (top 12)) rfl (by decide +kernel) (by decide +kernel) (by decide +kernel) (by decide +kernel)) (by decide) (fun _ _ _ _ _ => dg_nm 1 hN) (fun _ _ _ _ _ => dts_nil) (fun _ _ _ _ _ => de_cmp o_in (dk_var 1) (dk_e (de_globS rfl fa.c_SMALL_LETTERS.choose_spec)) rfl)))) (dks_nil)))))

noncomputable def g_lot_wrong : M Fl := dSeq (dFor (.tup (.nm 2 :: .nm 3 :: [])) [2, 3] (dEnum (dKs (dkVar 0) (mpure []))) (dIf (tOrB (tNotB (dTru (dkE (dCall F_is_below (.val (dVar 3) :: .val (dVar 1) :: []))))) (tAndB (asB (dOp2 pGt (dkVar 2) (dkE (mpure (.int 0))))) (asB (dOp2 pLe (dkVar 3) (dkE (dOp2 pGet (dkVar 0) (dkE (dOp2 pSub (dkVar 2) (dkE (mpure (.int 1))))))))))) (dRet (dVar 2)) (dNext))) (dRet (dNeg (mpure (.int 1))))
noncomputable def F_lot_wrong : FD := runB 4 2 g_lot_wrong
theorem sc_lot_wrong : FnScope ["value", "limit", "at", "part"] ["value", "limit"] (defScope (top 13)) := ⟨rfl, rfl, rfl, by decide +kernel, rfl, by decide +kernel, by decide +kernel⟩
theorem b_lot_wrong (fa : Gs mg) (h_is_below : Cal P w K mg base kc 2 "is_below" F_is_below) : Body P w K mg base kc 2 ["value", "limit", "at", "part"] "lot_wrong" (defScope (top 13)) f (defBody (top 13)) g_lot_wrong := fun cdv A outer s H E cl =>
  have hN := (sc_lot_wrong).nd
  dss_cons (by refine ds_for ?_ ?_ ?_ [2, 3] cl.po rfl; exact di_enum rfl fa.n_enumerate (dks_cons (dk_var 0) (dks_nil)); exact dg_tup rfl (dgs_cons (dg_nm 2 hN) (dgs_cons (dg_nm 3 hN) (dgs_nil))); exact dss_one (ds_if (dt_w (dw_or (dt_not (dt_tru (dk_e (de_call h_is_below cl (by decide) rfl (das_val (de_var 3) (das_val (de_var 1) (das_nil))))))) (dw_or1 (dt_w (dw_and (dt_cmp o_gt (dk_var 2) (dk_e (de_int)) rfl) (dw_and1 (dt_cmp o_le (dk_var 3) (dk_e (de_ix (dk_var 0) (dk_e (de_op o_sub (dk_var 2) (dk_e (de_int)))))) rfl))))))) (dss_one (ds_ret (de_var 2))) (dss_nil))) (dss_one (ds_ret (de_neg (de_int))))

noncomputable def g_need_things : M Fl := dSeq (dIf (tOrB (tNotB (dTru (dkE (dCall F_is_sequence (.val (dVar 1) :: []))))) (tNotB (dTru (dkE (dCB gAll (dKs (dkE (mbind (dComp (.nm 2) [2] (dIterV (dkE (dVar 1))) (mpure true) (dCall F_is_below (.val (dVar 2) :: .val (dCB gLen (dKs (dkE (dFld ["Desk"] "kinds" (dkVar 0))) (mpure []))) :: []))) (fun xs => mpure (.list xs)))) (mpure []))))))) (dRaise "InvalidHistory" (dNeg (mpure (.int 1)))) (dNext)) (dRet (dCB gTup (dKs (dkVar 1) (mpure []))))
noncomputable def F_need_things : FD := runB 3 2 g_need_things
theorem sc_need_things : FnScope ["desk", "value", "kind"] ["desk", "value"] (defScope (top 16)) := ⟨rfl, rfl, rfl, by decide +kernel, rfl, by decide +kernel, by decide +kernel⟩
theorem b_need_things (fa : Gs mg) (h_is_below : Cal P w K mg base kc 2 "is_below" F_is_below) (h_is_sequence : Cal P w K mg base kc 1 "is_sequence" F_is_sequence) {C_InvalidHistory : Addr} (k_InvalidHistory : kc.kl "InvalidHistory" = some C_InvalidHistory) (x_InvalidHistory : CalX P K mg C_InvalidHistory "InvalidHistory" "at") (hF : ∀ f ∈ deskFs, FldC kc ["Desk"] f) : Body P w K mg base kc 2 ["desk", "value", "kind"] "need_things" (defScope (top 16)) f (defBody (top 16)) g_need_things := fun cdv A outer s H E cl =>
  have hN := (sc_need_things).nd
  dss_cons (ds_if (dt_w (dw_or (dt_not (dt_tru (dk_e (de_call h_is_sequence cl (by decide) rfl (das_val (de_var 1) (das_nil)))))) (dw_or1 (dt_not (dt_tru (dk_e (de_cb c_all rfl (by decide +kernel) rfl fa.n_all (dks_cons (dk_e (de_f (df_lc (own := [("kind", 2)]) rfl hN (di_val (dk_e (de_var 1))) (blk_of ["desk", "value", "kind"] (defScope (top 16)) rfl (by decide +kernel) (by decide +kernel) (by decide +kernel) (by decide +kernel)) (by decide) (fun _ _ _ _ _ => dg_nm 2 hN) (fun _ _ _ _ _ => dts_nil) (fun _ _ _ _ _ => de_call h_is_below (Cl.blk cl) (by decide) rfl (das_val (de_var 2) (das_val (de_cb c_len rfl (by decide +kernel) rfl fa.n_len (dks_cons (dk_e (de_fld (dk_var 0) (hF "kinds" (by decide)))) (dks_nil))) (das_nil))))))) (dks_nil))))))))) (dss_one (ds_raise rfl cl k_InvalidHistory x_InvalidHistory rfl (de_neg (de_int)))) (dss_nil)) (dss_one (ds_ret (de_cty c_tup rfl (by decide +kernel) rfl fa.n_tuple (dks_cons (dk_var 1) (dks_nil)))))

noncomputable def g_is_kind : M Fl := dSeq (dIf (tOrB (tNotB (dTru (dkE (dCall F_is_row (.val (dVar 0) :: .val (mpure (.int 2)) :: []))))) (tOrB (tNotB (dTru (dkE (dCall F_is_name (.val (dOp2 pGet (dkVar 0) (dkE (mpure (.int 0)))) :: []))))) (asB (dOp2 pIn (dkE (dOp2 pGet (dkVar 0) (dkE (mpure (.int 0))))) (dkVar 1))))) (dRet (mpure (.bool false))) (dNext)) (dRet (dAndV (dCall F_is_integer (.val (dOp2 pGet (dkVar 0) (dkE (mpure (.int 1)))) :: [])) (dChain pLe pLe (dkE (mpure (.int 1))) (dkE (dOp2 pGet (dkVar 0) (dkE (mpure (.int 1))))) (dkE (mpure (.int 6))))))
noncomputable def F_is_kind : FD := runB 2 2 g_is_kind
theorem sc_is_kind : FnScope ["value", "names"] ["value", "names"] (defScope (top 31)) := ⟨rfl, rfl, rfl, by decide +kernel, rfl, by decide +kernel, by decide +kernel⟩
theorem b_is_kind (fa : Gs mg) (h_is_integer : Cal P w K mg base kc 1 "is_integer" F_is_integer) (h_is_name : Cal P w K mg base kc 1 "is_name" F_is_name) (h_is_row : Cal P w K mg base kc 2 "is_row" F_is_row) : Body P w K mg base kc 2 ["value", "names"] "is_kind" (defScope (top 31)) f (defBody (top 31)) g_is_kind := fun cdv A outer s H E cl =>
  have hN := (sc_is_kind).nd
  dss_cons (ds_if (dt_w (dw_or (dt_not (dt_tru (dk_e (de_call h_is_row cl (by decide) rfl (das_val (de_var 0) (das_val (de_int) (das_nil))))))) (dw_or (dt_not (dt_tru (dk_e (de_call h_is_name cl (by decide) rfl (das_val (de_ix (dk_var 0) (dk_e (de_int))) (das_nil)))))) (dw_or1 (dt_cmp o_in (dk_e (de_ix (dk_var 0) (dk_e (de_int)))) (dk_var 1) rfl))))) (dss_one (ds_ret (de_bl))) (dss_nil)) (dss_one (ds_ret (de_and (de_call h_is_integer cl (by decide) rfl (das_val (de_ix (dk_var 0) (dk_e (de_int))) (das_nil))) (de_one (de_chain o_le o_le (dk_e (de_int)) (dk_e (de_ix (dk_var 0) (dk_e (de_int)))) (dk_e (de_globI rfl fa.c_MOST_STATES.choose_spec)))))))

noncomputable def g_need_kinds : M Fl := dSeq (dIf (tOrB (tNotB (dTru (dkE (dCall F_is_sequence (.val (dVar 0) :: []))))) (tNotB (asB (dChain pLe pLe (dkE (mpure (.int 1))) (dkE (dCB gLen (dKs (dkVar 0) (mpure [])))) (dkE (mpure (.int 6))))))) (dRaise "InvalidDesk" (dTup (dEs (mpure (.str "kinds")) (dEs (dNeg (mpure (.int 1))) (mpure []))))) (dNext)) (dSeq (dSetF 1 (dLst (mpure []))) (dSeq (dFor (.tup (.nm 2 :: .nm 3 :: [])) [2, 3] (dEnum (dKs (dkVar 0) (mpure []))) (dSeq (dIf (tNotB (dTru (dkE (dCall F_is_kind (.val (dVar 3) :: .val (mbind (dLend 1 (dComp (.tup (.nm 4 :: .nm 5 :: [])) [4, 5] (dIterV (dkVar 1)) (mpure true) (dVar 4))) (fun xs => mpure (.list xs))) :: []))))) (dRaise "InvalidDesk" (dTup (dEs (mpure (.str "kinds")) (dEs (dVar 2) (mpure []))))) (dNext)) (dDrop (dMeth 1 mAppend (dEs (dTup (dEs (dOp2 pGet (dkVar 3) (dkE (mpure (.int 0)))) (dEs (dOp2 pGet (dkVar 3) (dkE (mpure (.int 1)))) (mpure [])))) (mpure [])))))) (dRet (dCB gTup (dKs (dkVar 1) (mpure []))))))
noncomputable def F_need_kinds : FD := runB 6 1 g_need_kinds
theorem sc_need_kinds : FnScope ["value", "found", "at", "kind", "name", "many"] ["value"] (defScope (top 30)) := ⟨rfl, rfl, rfl, by decide +kernel, rfl, by decide +kernel, by decide +kernel⟩
theorem b_need_kinds (fa : Gs mg) (h_is_kind : Cal P w K mg base kc 3 "is_kind" F_is_kind) (h_is_sequence : Cal P w K mg base kc 1 "is_sequence" F_is_sequence) {C_InvalidDesk : Addr} (k_InvalidDesk : kc.kl "InvalidDesk" = some C_InvalidDesk) (x_InvalidDesk : CalX P K mg C_InvalidDesk "InvalidDesk" "at") : Body P w K mg base kc 3 ["value", "found", "at", "kind", "name", "many"] "need_kinds" (defScope (top 30)) f (defBody (top 30)) g_need_kinds := fun cdv A outer s H E cl =>
  have hN := (sc_need_kinds).nd
  dss_cons (ds_if (dt_w (dw_or (dt_not (dt_tru (dk_e (de_call h_is_sequence cl (by decide) rfl (das_val (de_var 0) (das_nil)))))) (dw_or1 (dt_not (dt_chain o_le o_le (dk_e (de_int)) (dk_e (de_cb c_len rfl (by decide +kernel) rfl fa.n_len (dks_cons (dk_var 0) (dks_nil)))) (dk_e (de_globI rfl fa.c_MOST_KINDS.choose_spec))))))) (dss_one (ds_raise rfl cl k_InvalidDesk x_InvalidDesk rfl (de_tup (des_cons (de_str) (des_cons (de_neg (de_int)) (des_nil)))))) (dss_nil)) (dss_cons (ds_setF 1 (df_lst (des_nil)) hN) (dss_cons (by refine ds_for ?_ ?_ ?_ [2, 3] cl.po rfl; exact di_enum rfl fa.n_enumerate (dks_cons (dk_var 0) (dks_nil)); exact dg_tup rfl (dgs_cons (dg_nm 2 hN) (dgs_cons (dg_nm 3 hN) (dgs_nil))); exact dss_cons (ds_if (dt_not (dt_tru (dk_e (de_call h_is_kind cl (by decide) rfl (das_val (de_var 3) (das_val (de_f (df_lend 1 (df_lc (own := [("name", 4), ("many", 5)]) rfl hN (di_val (dk_var 1)) (blk_of ["value", "found", "at", "kind", "name", "many"] (defScope (top 30)) rfl (by decide +kernel) (by decide +kernel) (by decide +kernel) (by decide +kernel)) (by decide) (fun _ _ _ _ _ => dg_tup rfl (dgs_cons (dg_nm 4 hN) (dgs_cons (dg_nm 5 hN) (dgs_nil)))) (fun _ _ _ _ _ => dts_nil) (fun _ _ _ _ _ => de_var 4)))) (das_nil))))))) (dss_one (ds_raise rfl cl k_InvalidDesk x_InvalidDesk rfl (de_tup (des_cons (de_str) (des_cons (de_var 2) (des_nil)))))) (dss_nil)) (dss_one (ds_expr (de_meth 1 m_append rfl PySem.F.slot_list_append rfl (des_cons (de_tup (des_cons (de_ix (dk_var 3) (dk_e (de_int))) (des_cons (de_ix (dk_var 3) (dk_e (de_int))) (des_nil)))) (des_nil)))))) (dss_one (ds_ret (de_cty c_tup rfl (by decide +kernel) rfl fa.n_tuple (dks_cons (dk_var 1) (dks_nil)))))))

noncomputable def g_are_roles : M Fl := dSeq (dIf (tOrB (tNotB (dTru (dkE (dCall F_is_sequence (.val (dVar 1) :: []))))) (tNotB (asB (dChain pLe pLe (dkE (mpure (.int 1))) (dkE (dCB gLen (dKs (dkVar 1) (mpure [])))) (dkE (mpure (.int 3))))))) (dRet (mpure (.bool false))) (dNext)) (dRet (dCB gAll (dKs (dkE (mbind (dComp (.nm 2) [2] (dIterV (dkE (dVar 1))) (mpure true) (dCall F_is_below (.val (dVar 2) :: .val (dCB gLen (dKs (dkVar 0) (mpure []))) :: []))) (fun xs => mpure (.list xs)))) (mpure []))))
noncomputable def F_are_roles : FD := runB 3 2 g_are_roles
theorem sc_are_roles : FnScope ["kinds", "value", "role"] ["kinds", "value"] (defScope (top 34)) := ⟨rfl, rfl, rfl, by decide +kernel, rfl, by decide +kernel, by decide +kernel⟩
theorem b_are_roles (fa : Gs mg) (h_is_below : Cal P w K mg base kc 2 "is_below" F_is_below) (h_is_sequence : Cal P w K mg base kc 1 "is_sequence" F_is_sequence) : Body P w K mg base kc 2 ["kinds", "value", "role"] "are_roles" (defScope (top 34)) f (defBody (top 34)) g_are_roles := fun cdv A outer s H E cl =>
  have hN := (sc_are_roles).nd
  dss_cons (ds_if (dt_w (dw_or (dt_not (dt_tru (dk_e (de_call h_is_sequence cl (by decide) rfl (das_val (de_var 1) (das_nil)))))) (dw_or1 (dt_not (dt_chain o_le o_le (dk_e (de_int)) (dk_e (de_cb c_len rfl (by decide +kernel) rfl fa.n_len (dks_cons (dk_var 1) (dks_nil)))) (dk_e (de_globI rfl fa.c_MOST_ROLES.choose_spec))))))) (dss_one (ds_ret (de_bl))) (dss_nil)) (dss_one (ds_ret (de_cb c_all rfl (by decide +kernel) rfl fa.n_all (dks_cons (dk_e (de_f (df_lc (own := [("role", 2)]) rfl hN (di_val (dk_e (de_var 1))) (blk_of ["kinds", "value", "role"] (defScope (top 34)) rfl (by decide +kernel) (by decide +kernel) (by decide +kernel) (by decide +kernel)) (by decide) (fun _ _ _ _ _ => dg_nm 2 hN) (fun _ _ _ _ _ => dts_nil) (fun _ _ _ _ _ => de_call h_is_below (Cl.blk cl) (by decide) rfl (das_val (de_var 2) (das_val (de_cb c_len rfl (by decide +kernel) rfl fa.n_len (dks_cons (dk_var 0) (dks_nil))) (das_nil))))))) (dks_nil)))))

noncomputable def g_is_tool : M Fl := dSeq (dIf (tOrB (tNotB (dTru (dkE (dCall F_is_row (.val (dVar 1) :: .val (mpure (.int 3)) :: []))))) (tOrB (tNotB (dTru (dkE (dCall F_is_name (.val (dOp2 pGet (dkVar 1) (dkE (mpure (.int 0)))) :: []))))) (asB (dOp2 pIn (dkE (dOp2 pGet (dkVar 1) (dkE (mpure (.int 0))))) (dkVar 2))))) (dRet (mpure (.bool false))) (dNext)) (dRet (dCall F_are_roles (.val (dVar 0) :: .val (dOp2 pGet (dkVar 1) (dkE (mpure (.int 1)))) :: [])))
noncomputable def F_is_tool : FD := runB 3 3 g_is_tool
theorem sc_is_tool : FnScope ["kinds", "value", "names"] ["kinds", "value", "names"] (defScope (top 33)) := ⟨rfl, rfl, rfl, by decide +kernel, rfl, by decide +kernel, by decide +kernel⟩
theorem b_is_tool (fa : Gs mg) (h_are_roles : Cal P w K mg base kc 3 "are_roles" F_are_roles) (h_is_name : Cal P w K mg base kc 1 "is_name" F_is_name) (h_is_row : Cal P w K mg base kc 2 "is_row" F_is_row) : Body P w K mg base kc 3 ["kinds", "value", "names"] "is_tool" (defScope (top 33)) f (defBody (top 33)) g_is_tool := fun cdv A outer s H E cl =>
  have hN := (sc_is_tool).nd
  dss_cons (ds_if (dt_w (dw_or (dt_not (dt_tru (dk_e (de_call h_is_row cl (by decide) rfl (das_val (de_var 1) (das_val (de_int) (das_nil))))))) (dw_or (dt_not (dt_tru (dk_e (de_call h_is_name cl (by decide) rfl (das_val (de_ix (dk_var 1) (dk_e (de_int))) (das_nil)))))) (dw_or1 (dt_cmp o_in (dk_e (de_ix (dk_var 1) (dk_e (de_int)))) (dk_var 2) rfl))))) (dss_one (ds_ret (de_bl))) (dss_nil)) (dss_one (ds_ret (de_call h_are_roles cl (by decide) rfl (das_val (de_var 0) (das_val (de_ix (dk_var 1) (dk_e (de_int))) (das_nil))))))

noncomputable def g_are_states : M Fl := dSeq (dIf (tNotB (dTru (dkE (dCall F_is_row (.val (dVar 2) :: .val (dCB gLen (dKs (dkVar 1) (mpure []))) :: []))))) (dRet (mpure (.bool false))) (dNext)) (dRet (dCB gAll (dKs (dkE (mbind (dComp (.tup (.nm 3 :: .nm 4 :: [])) [3, 4] (dEnum (dKs (dkVar 1) (mpure []))) (mpure true) (dCall F_is_below (.val (dOp2 pGet (dkVar 2) (dkVar 3)) :: .val (dOp2 pGet (dkE (dOp2 pGet (dkVar 0) (dkVar 4))) (dkE (mpure (.int 1)))) :: []))) (fun xs => mpure (.list xs)))) (mpure []))))
noncomputable def F_are_states : FD := runB 5 3 g_are_states
theorem sc_are_states : FnScope ["kinds", "roles", "value", "at", "role"] ["kinds", "roles", "value"] (defScope (top 37)) := ⟨rfl, rfl, rfl, by decide +kernel, rfl, by decide +kernel, by decide +kernel⟩
theorem b_are_states (fa : Gs mg) (h_is_below : Cal P w K mg base kc 2 "is_below" F_is_below) (h_is_row : Cal P w K mg base kc 2 "is_row" F_is_row) : Body P w K mg base kc 2 ["kinds", "roles", "value", "at", "role"] "are_states" (defScope (top 37)) f (defBody (top 37)) g_are_states := fun cdv A outer s H E cl =>
  have hN := (sc_are_states).nd
  dss_cons (ds_if (dt_not (dt_tru (dk_e (de_call h_is_row cl (by decide) rfl (das_val (de_var 2) (das_val (de_cb c_len rfl (by decide +kernel) rfl fa.n_len (dks_cons (dk_var 1) (dks_nil))) (das_nil))))))) (dss_one (ds_ret (de_bl))) (dss_nil)) (dss_one (ds_ret (de_cb c_all rfl (by decide +kernel) rfl fa.n_all (dks_cons (dk_e (de_f (df_lc (own := [("at", 3), ("role", 4)]) rfl hN (di_enum rfl fa.n_enumerate (dks_cons (dk_var 1) (dks_nil))) (blk_of ["kinds", "roles", "value", "at", "role"] (defScope (top 37)) rfl (by decide +kernel) (by decide +kernel) (by decide +kernel) (by decide +kernel)) (by decide) (fun _ _ _ _ _ => dg_tup rfl (dgs_cons (dg_nm 3 hN) (dgs_cons (dg_nm 4 hN) (dgs_nil)))) (fun _ _ _ _ _ => dts_nil) (fun _ _ _ _ _ => de_call h_is_below (Cl.blk cl) (by decide) rfl (das_val (de_ix (dk_var 2) (dk_var 3)) (das_val (de_ix (dk_e (de_ix (dk_var 0) (dk_var 4))) (dk_e (de_int))) (das_nil))))))) (dks_nil)))))

noncomputable def g_is_tool_row : M Fl := dRet (dAndV (dCall F_is_row (.val (dVar 2) :: .val (mpure (.int 2)) :: [])) (dAndV (dCall F_are_states (.val (dVar 0) :: .val (dVar 1) :: .val (dOp2 pGet (dkVar 2) (dkE (mpure (.int 0)))) :: [])) (dCall F_are_states (.val (dVar 0) :: .val (dVar 1) :: .val (dOp2 pGet (dkVar 2) (dkE (mpure (.int 1)))) :: []))))
noncomputable def F_is_tool_row : FD := runB 3 3 g_is_tool_row
theorem sc_is_tool_row : FnScope ["kinds", "roles", "value"] ["kinds", "roles", "value"] (defScope (top 36)) := ⟨rfl, rfl, rfl, by decide +kernel, rfl, by decide +kernel, by decide +kernel⟩
theorem b_is_tool_row (fa : Gs mg) (h_are_states : Cal P w K mg base kc 3 "are_states" F_are_states) (h_is_row : Cal P w K mg base kc 2 "is_row" F_is_row) : Body P w K mg base kc 3 ["kinds", "roles", "value"] "is_tool_row" (defScope (top 36)) f (defBody (top 36)) g_is_tool_row := fun cdv A outer s H E cl =>
  have hN := (sc_is_tool_row).nd
  dss_one (ds_ret (de_and (de_call h_is_row cl (by decide) rfl (das_val (de_var 2) (das_val (de_int) (das_nil)))) (de_and (de_call h_are_states cl (by decide) rfl (das_val (de_var 0) (das_val (de_var 1) (das_val (de_ix (dk_var 2) (dk_e (de_int))) (das_nil))))) (de_one (de_call h_are_states cl (by decide) rfl (das_val (de_var 0) (das_val (de_var 1) (das_val (de_ix (dk_var 2) (dk_e (de_int))) (das_nil)))))))))

noncomputable def g_need_rows : M Fl := dSeq (dIf (tNotB (dTru (dkE (dCall F_is_sequence (.val (dVar 3) :: []))))) (dRaise "InvalidDesk" (dTup (dEs (mpure (.str "rows")) (dEs (dVar 2) (dEs (dNeg (mpure (.int 1))) (mpure [])))))) (dNext)) (dSeq (dSetF 4 (dLst (mpure []))) (dSeq (dFor (.tup (.nm 5 :: .nm 6 :: [])) [5, 6, 7] (dEnum (dKs (dkVar 3) (mpure []))) (dSeq (dIf (tNotB (dTru (dkE (dCall F_is_tool_row (.val (dVar 0) :: .val (dVar 1) :: .val (dVar 6) :: []))))) (dRaise "InvalidDesk" (dTup (dEs (mpure (.str "rows")) (dEs (dVar 2) (dEs (dVar 5) (mpure [])))))) (dNext)) (dSeq (dSet 7 (dTup (dEs (dCB gTup (dKs (dkE (dOp2 pGet (dkVar 6) (dkE (mpure (.int 0))))) (mpure []))) (dEs (dCB gTup (dKs (dkE (dOp2 pGet (dkVar 6) (dkE (mpure (.int 1))))) (mpure []))) (mpure []))))) (dSeq (dIf (tAndB (asB (dOp2 pNe (dkVar 4) (dkE (mbind (dLst (mpure [])) (fun xs => mpure (.list xs)))))) (asB (dOp2 pLe (dkE (dOp2 pGet (dkVar 7) (dkE (mpure (.int 0))))) (dkE (dOp2 pGet (dkE (dOp2 pGet (dkVar 4) (dkE (dNeg (mpure (.int 1)))))) (dkE (mpure (.int 0)))))))) (dRaise "InvalidDesk" (dTup (dEs (mpure (.str "rows")) (dEs (dVar 2) (dEs (dVar 5) (mpure [])))))) (dNext)) (dDrop (dMeth 4 mAppend (dEs (dVar 7) (mpure [])))))))) (dRet (dCB gTup (dKs (dkVar 4) (mpure []))))))
noncomputable def F_need_rows : FD := runB 8 4 g_need_rows
theorem sc_need_rows : FnScope ["kinds", "roles", "number", "value", "found", "at", "row", "told"] ["kinds", "roles", "number", "value"] (defScope (top 35)) := ⟨rfl, rfl, rfl, by decide +kernel, rfl, by decide +kernel, by decide +kernel⟩
theorem b_need_rows (fa : Gs mg) (h_is_tool_row : Cal P w K mg base kc 4 "is_tool_row" F_is_tool_row) (h_is_sequence : Cal P w K mg base kc 1 "is_sequence" F_is_sequence) {C_InvalidDesk : Addr} (k_InvalidDesk : kc.kl "InvalidDesk" = some C_InvalidDesk) (x_InvalidDesk : CalX P K mg C_InvalidDesk "InvalidDesk" "at") : Body P w K mg base kc 4 ["kinds", "roles", "number", "value", "found", "at", "row", "told"] "need_rows" (defScope (top 35)) f (defBody (top 35)) g_need_rows := fun cdv A outer s H E cl =>
  have hN := (sc_need_rows).nd
  dss_cons (ds_if (dt_not (dt_tru (dk_e (de_call h_is_sequence cl (by decide) rfl (das_val (de_var 3) (das_nil)))))) (dss_one (ds_raise rfl cl k_InvalidDesk x_InvalidDesk rfl (de_tup (des_cons (de_str) (des_cons (de_var 2) (des_cons (de_neg (de_int)) (des_nil))))))) (dss_nil)) (dss_cons (ds_setF 4 (df_lst (des_nil)) hN) (dss_cons (by refine ds_for ?_ ?_ ?_ [5, 6, 7] cl.po rfl; exact di_enum rfl fa.n_enumerate (dks_cons (dk_var 3) (dks_nil)); exact dg_tup rfl (dgs_cons (dg_nm 5 hN) (dgs_cons (dg_nm 6 hN) (dgs_nil))); exact dss_cons (ds_if (dt_not (dt_tru (dk_e (de_call h_is_tool_row cl (by decide) rfl (das_val (de_var 0) (das_val (de_var 1) (das_val (de_var 6) (das_nil)))))))) (dss_one (ds_raise rfl cl k_InvalidDesk x_InvalidDesk rfl (de_tup (des_cons (de_str) (des_cons (de_var 2) (des_cons (de_var 5) (des_nil))))))) (dss_nil)) (dss_cons (ds_set 7 (de_tup (des_cons (de_cty c_tup rfl (by decide +kernel) rfl fa.n_tuple (dks_cons (dk_e (de_ix (dk_var 6) (dk_e (de_int)))) (dks_nil))) (des_cons (de_cty c_tup rfl (by decide +kernel) rfl fa.n_tuple (dks_cons (dk_e (de_ix (dk_var 6) (dk_e (de_int)))) (dks_nil))) (des_nil)))) hN) (dss_cons (ds_if (dt_w (dw_and (dt_cmp o_ne (dk_var 4) (dk_e (de_f (df_lst (des_nil)))) rfl) (dw_and1 (dt_cmp o_le (dk_e (de_ix (dk_var 7) (dk_e (de_int)))) (dk_e (de_ix (dk_e (de_ix (dk_var 4) (dk_e (de_neg (de_int))))) (dk_e (de_int)))) rfl)))) (dss_one (ds_raise rfl cl k_InvalidDesk x_InvalidDesk rfl (de_tup (des_cons (de_str) (des_cons (de_var 2) (des_cons (de_var 5) (des_nil))))))) (dss_nil)) (dss_one (ds_expr (de_meth 4 m_append rfl PySem.F.slot_list_append rfl (des_cons (de_var 7) (des_nil)))))))) (dss_one (ds_ret (de_cty c_tup rfl (by decide +kernel) rfl fa.n_tuple (dks_cons (dk_var 4) (dks_nil)))))))

noncomputable def g_need_tools : M Fl := dSeq (dIf (tOrB (tNotB (dTru (dkE (dCall F_is_sequence (.val (dVar 1) :: []))))) (asB (dOp2 pGt (dkE (dCB gLen (dKs (dkVar 1) (mpure [])))) (dkE (mpure (.int 20)))))) (dRaise "InvalidDesk" (dTup (dEs (mpure (.str "tools")) (dEs (dNeg (mpure (.int 1))) (mpure []))))) (dNext)) (dSeq (dSetF 2 (dLst (mpure []))) (dSeq (dFor (.tup (.nm 3 :: .nm 4 :: [])) [3, 4, 5] (dEnum (dKs (dkVar 1) (mpure []))) (dSeq (dIf (tNotB (dTru (dkE (dCall F_is_tool (.val (dVar 0) :: .val (dVar 4) :: .val (mbind (dLend 2 (dComp (.nm 6) [6] (dIterV (dkVar 2)) (mpure true) (dOp2 pGet (dkVar 6) (dkE (mpure (.int 0)))))) (fun xs => mpure (.list xs))) :: []))))) (dRaise "InvalidDesk" (dTup (dEs (mpure (.str "tools")) (dEs (dVar 3) (mpure []))))) (dNext)) (dSeq (dSet 5 (dCB gTup (dKs (dkE (dOp2 pGet (dkVar 4) (dkE (mpure (.int 1))))) (mpure [])))) (dDrop (dMeth 2 mAppend (dEs (dTup (dEs (dOp2 pGet (dkVar 4) (dkE (mpure (.int 0)))) (dEs (dVar 5) (dEs (dCall F_need_rows (.val (dVar 0) :: .val (dVar 5) :: .val (dVar 3) :: .val (dOp2 pGet (dkVar 4) (dkE (mpure (.int 2)))) :: [])) (mpure []))))) (mpure []))))))) (dRet (dCB gTup (dKs (dkVar 2) (mpure []))))))
noncomputable def F_need_tools : FD := runB 7 2 g_need_tools
theorem sc_need_tools : FnScope ["kinds", "value", "found", "at", "tool", "roles", "other"] ["kinds", "value"] (defScope (top 32)) := ⟨rfl, rfl, rfl, by decide +kernel, rfl, by decide +kernel, by decide +kernel⟩
theorem b_need_tools (fa : Gs mg) (h_need_rows : Cal P w K mg base kc 5 "need_rows" F_need_rows) (h_is_tool : Cal P w K mg base kc 4 "is_tool" F_is_tool) (h_is_sequence : Cal P w K mg base kc 1 "is_sequence" F_is_sequence) {C_InvalidDesk : Addr} (k_InvalidDesk : kc.kl "InvalidDesk" = some C_InvalidDesk) (x_InvalidDesk : CalX P K mg C_InvalidDesk "InvalidDesk" "at") : Body P w K mg base kc 5 ["kinds", "value", "found", "at", "tool", "roles", "other"] "need_tools" (defScope (top 32)) f (defBody (top 32)) g_need_tools := fun cdv A outer s H E cl =>
  have hN := (sc_need_tools).nd
  dss_cons (ds_if (dt_w (dw_or (dt_not (dt_tru (dk_e (de_call h_is_sequence cl (by decide) rfl (das_val (de_var 1) (das_nil)))))) (dw_or1 (dt_cmp o_gt (dk_e (de_cb c_len rfl (by decide +kernel) rfl fa.n_len (dks_cons (dk_var 1) (dks_nil)))) (dk_e (de_globI rfl fa.c_MOST_TOOLS.choose_spec)) rfl)))) (dss_one (ds_raise rfl cl k_InvalidDesk x_InvalidDesk rfl (de_tup (des_cons (de_str) (des_cons (de_neg (de_int)) (des_nil)))))) (dss_nil)) (dss_cons (ds_setF 2 (df_lst (des_nil)) hN) (dss_cons (by refine ds_for ?_ ?_ ?_ [3, 4, 5] cl.po rfl; exact di_enum rfl fa.n_enumerate (dks_cons (dk_var 1) (dks_nil)); exact dg_tup rfl (dgs_cons (dg_nm 3 hN) (dgs_cons (dg_nm 4 hN) (dgs_nil))); exact dss_cons (ds_if (dt_not (dt_tru (dk_e (de_call h_is_tool cl (by decide) rfl (das_val (de_var 0) (das_val (de_var 4) (das_val (de_f (df_lend 2 (df_lc (own := [("other", 6)]) rfl hN (di_val (dk_var 2)) (blk_of ["kinds", "value", "found", "at", "tool", "roles", "other"] (defScope (top 32)) rfl (by decide +kernel) (by decide +kernel) (by decide +kernel) (by decide +kernel)) (by decide) (fun _ _ _ _ _ => dg_nm 6 hN) (fun _ _ _ _ _ => dts_nil) (fun _ _ _ _ _ => de_ix (dk_var 6) (dk_e (de_int)))))) (das_nil)))))))) (dss_one (ds_raise rfl cl k_InvalidDesk x_InvalidDesk rfl (de_tup (des_cons (de_str) (des_cons (de_var 3) (des_nil)))))) (dss_nil)) (dss_cons (ds_set 5 (de_cty c_tup rfl (by decide +kernel) rfl fa.n_tuple (dks_cons (dk_e (de_ix (dk_var 4) (dk_e (de_int)))) (dks_nil))) hN) (dss_one (ds_expr (de_meth 2 m_append rfl PySem.F.slot_list_append rfl (des_cons (de_tup (des_cons (de_ix (dk_var 4) (dk_e (de_int))) (des_cons (de_var 5) (des_cons (de_call h_need_rows cl (by decide) rfl (das_val (de_var 0) (das_val (de_var 5) (das_val (de_var 3) (das_val (de_ix (dk_var 4) (dk_e (de_int))) (das_nil)))))) (des_nil))))) (des_nil))))))) (dss_one (ds_ret (de_cty c_tup rfl (by decide +kernel) rfl fa.n_tuple (dks_cons (dk_var 2) (dks_nil)))))))

noncomputable def g_is_repair : M Fl := dSeq (dIf (tOrB (tNotB (dTru (dkE (dCall F_is_row (.val (dVar 1) :: .val (mpure (.int 4)) :: []))))) (tNotB (dTru (dkE (dCall F_is_below (.val (dOp2 pGet (dkVar 1) (dkE (mpure (.int 0)))) :: .val (dCB gLen (dKs (dkVar 0) (mpure []))) :: [])))))) (dRet (mpure (.bool false))) (dNext)) (dSeq (dIf (tOrB (tNotB (dTru (dkE (dCall F_is_below (.val (dOp2 pGet (dkVar 1) (dkE (mpure (.int 1)))) :: .val (dOp2 pGet (dkE (dOp2 pGet (dkVar 0) (dkE (dOp2 pGet (dkVar 1) (dkE (mpure (.int 0))))))) (dkE (mpure (.int 1)))) :: []))))) (tNotB (dTru (dkE (dCall F_is_below (.val (dOp2 pGet (dkVar 1) (dkE (mpure (.int 2)))) :: .val (dOp2 pGet (dkE (dOp2 pGet (dkVar 0) (dkE (dOp2 pGet (dkVar 1) (dkE (mpure (.int 0))))))) (dkE (mpure (.int 1)))) :: [])))))) (dRet (mpure (.bool false))) (dNext)) (dRet (dAndV (dOp2 pNe (dkE (dOp2 pGet (dkVar 1) (dkE (mpure (.int 1))))) (dkE (dOp2 pGet (dkVar 1) (dkE (mpure (.int 2)))))) (dAndV (dCall F_is_integer (.val (dOp2 pGet (dkVar 1) (dkE (mpure (.int 3)))) :: [])) (dChain pLe pLe (dkE (mpure (.int 1))) (dkE (dOp2 pGet (dkVar 1) (dkE (mpure (.int 3))))) (dkE (mpure (.int 1000000))))))))
noncomputable def F_is_repair : FD := runB 2 2 g_is_repair
theorem sc_is_repair : FnScope ["kinds", "value"] ["kinds", "value"] (defScope (top 39)) := ⟨rfl, rfl, rfl, by decide +kernel, rfl, by decide +kernel, by decide +kernel⟩
theorem b_is_repair (fa : Gs mg) (h_is_integer : Cal P w K mg base kc 1 "is_integer" F_is_integer) (h_is_below : Cal P w K mg base kc 2 "is_below" F_is_below) (h_is_row : Cal P w K mg base kc 2 "is_row" F_is_row) : Body P w K mg base kc 2 ["kinds", "value"] "is_repair" (defScope (top 39)) f (defBody (top 39)) g_is_repair := fun cdv A outer s H E cl =>
  have hN := (sc_is_repair).nd
  dss_cons (ds_if (dt_w (dw_or (dt_not (dt_tru (dk_e (de_call h_is_row cl (by decide) rfl (das_val (de_var 1) (das_val (de_int) (das_nil))))))) (dw_or1 (dt_not (dt_tru (dk_e (de_call h_is_below cl (by decide) rfl (das_val (de_ix (dk_var 1) (dk_e (de_int))) (das_val (de_cb c_len rfl (by decide +kernel) rfl fa.n_len (dks_cons (dk_var 0) (dks_nil))) (das_nil)))))))))) (dss_one (ds_ret (de_bl))) (dss_nil)) (dss_cons (ds_if (dt_w (dw_or (dt_not (dt_tru (dk_e (de_call h_is_below cl (by decide) rfl (das_val (de_ix (dk_var 1) (dk_e (de_int))) (das_val (de_ix (dk_e (de_ix (dk_var 0) (dk_e (de_ix (dk_var 1) (dk_e (de_int)))))) (dk_e (de_int))) (das_nil))))))) (dw_or1 (dt_not (dt_tru (dk_e (de_call h_is_below cl (by decide) rfl (das_val (de_ix (dk_var 1) (dk_e (de_int))) (das_val (de_ix (dk_e (de_ix (dk_var 0) (dk_e (de_ix (dk_var 1) (dk_e (de_int)))))) (dk_e (de_int))) (das_nil)))))))))) (dss_one (ds_ret (de_bl))) (dss_nil)) (dss_one (ds_ret (de_and (de_cmp o_ne (dk_e (de_ix (dk_var 1) (dk_e (de_int)))) (dk_e (de_ix (dk_var 1) (dk_e (de_int)))) rfl) (de_and (de_call h_is_integer cl (by decide) rfl (das_val (de_ix (dk_var 1) (dk_e (de_int))) (das_nil))) (de_one (de_chain o_le o_le (dk_e (de_int)) (dk_e (de_ix (dk_var 1) (dk_e (de_int)))) (dk_e (de_globI rfl fa.c_MOST_PRICE.choose_spec)))))))))

noncomputable def g_need_repairs : M Fl := dSeq (dIf (tNotB (dTru (dkE (dCall F_is_sequence (.val (dVar 1) :: []))))) (dRaise "InvalidDesk" (dTup (dEs (mpure (.str "repairs")) (dEs (dNeg (mpure (.int 1))) (mpure []))))) (dNext)) (dSeq (dSetF 2 (dLst (mpure []))) (dSeq (dFor (.tup (.nm 3 :: .nm 4 :: [])) [3, 4] (dEnum (dKs (dkVar 1) (mpure []))) (dSeq (dIf (tOrB (tNotB (dTru (dkE (dCall F_is_repair (.val (dVar 0) :: .val (dVar 4) :: []))))) (tAndB (asB (dOp2 pNe (dkVar 2) (dkE (mbind (dLst (mpure [])) (fun xs => mpure (.list xs)))))) (asB (dOp2 pLe (dkE (dCB gTup (dKs (dkE (dSl (dkVar 4) none (some (mpure (.int 3))))) (mpure [])))) (dkE (dSl (dkE (dOp2 pGet (dkVar 2) (dkE (dNeg (mpure (.int 1)))))) none (some (mpure (.int 3))))))))) (dRaise "InvalidDesk" (dTup (dEs (mpure (.str "repairs")) (dEs (dVar 3) (mpure []))))) (dNext)) (dDrop (dMeth 2 mAppend (dEs (dCB gTup (dKs (dkVar 4) (mpure []))) (mpure [])))))) (dRet (dCB gTup (dKs (dkVar 2) (mpure []))))))
noncomputable def F_need_repairs : FD := runB 5 2 g_need_repairs
theorem sc_need_repairs : FnScope ["kinds", "value", "found", "at", "repair"] ["kinds", "value"] (defScope (top 38)) := ⟨rfl, rfl, rfl, by decide +kernel, rfl, by decide +kernel, by decide +kernel⟩
theorem b_need_repairs (fa : Gs mg) (h_is_repair : Cal P w K mg base kc 3 "is_repair" F_is_repair) (h_is_sequence : Cal P w K mg base kc 1 "is_sequence" F_is_sequence) {C_InvalidDesk : Addr} (k_InvalidDesk : kc.kl "InvalidDesk" = some C_InvalidDesk) (x_InvalidDesk : CalX P K mg C_InvalidDesk "InvalidDesk" "at") : Body P w K mg base kc 3 ["kinds", "value", "found", "at", "repair"] "need_repairs" (defScope (top 38)) f (defBody (top 38)) g_need_repairs := fun cdv A outer s H E cl =>
  have hN := (sc_need_repairs).nd
  dss_cons (ds_if (dt_not (dt_tru (dk_e (de_call h_is_sequence cl (by decide) rfl (das_val (de_var 1) (das_nil)))))) (dss_one (ds_raise rfl cl k_InvalidDesk x_InvalidDesk rfl (de_tup (des_cons (de_str) (des_cons (de_neg (de_int)) (des_nil)))))) (dss_nil)) (dss_cons (ds_setF 2 (df_lst (des_nil)) hN) (dss_cons (by refine ds_for ?_ ?_ ?_ [3, 4] cl.po rfl; exact di_enum rfl fa.n_enumerate (dks_cons (dk_var 1) (dks_nil)); exact dg_tup rfl (dgs_cons (dg_nm 3 hN) (dgs_cons (dg_nm 4 hN) (dgs_nil))); exact dss_cons (ds_if (dt_w (dw_or (dt_not (dt_tru (dk_e (de_call h_is_repair cl (by decide) rfl (das_val (de_var 0) (das_val (de_var 4) (das_nil))))))) (dw_or1 (dt_w (dw_and (dt_cmp o_ne (dk_var 2) (dk_e (de_f (df_lst (des_nil)))) rfl) (dw_and1 (dt_cmp o_le (dk_e (de_cty c_tup rfl (by decide +kernel) rfl fa.n_tuple (dks_cons (dk_e (de_sl (dk_var 4) dpo_none (dpo_some (de_int)))) (dks_nil)))) (dk_e (de_sl (dk_e (de_ix (dk_var 2) (dk_e (de_neg (de_int))))) dpo_none (dpo_some (de_int)))) rfl))))))) (dss_one (ds_raise rfl cl k_InvalidDesk x_InvalidDesk rfl (de_tup (des_cons (de_str) (des_cons (de_var 3) (des_nil)))))) (dss_nil)) (dss_one (ds_expr (de_meth 2 m_append rfl PySem.F.slot_list_append rfl (des_cons (de_cty c_tup rfl (by decide +kernel) rfl fa.n_tuple (dks_cons (dk_var 4) (dks_nil))) (des_nil)))))) (dss_one (ds_ret (de_cty c_tup rfl (by decide +kernel) rfl fa.n_tuple (dks_cons (dk_var 2) (dks_nil)))))))

noncomputable def g_is_try : M Fl := dSeq (dIf (tOrB (tNotB (dTru (dkE (dCall F_is_row (.val (dVar 2) :: .val (mpure (.int 2)) :: []))))) (tNotB (dTru (dkE (dCall F_is_below (.val (dOp2 pGet (dkVar 2) (dkE (mpure (.int 0)))) :: .val (dCB gLen (dKs (dkE (dFld ["Desk"] "tools" (dkVar 0))) (mpure []))) :: [])))))) (dRet (mpure (.bool false))) (dNext)) (dSeq (dSet 3 (dOp2 pGet (dkE (dOp2 pGet (dkE (dFld ["Desk"] "tools" (dkVar 0))) (dkE (dOp2 pGet (dkVar 2) (dkE (mpure (.int 0))))))) (dkE (mpure (.int 1))))) (dSeq (dIf (tNotB (dTru (dkE (dCall F_is_row (.val (dOp2 pGet (dkVar 2) (dkE (mpure (.int 1)))) :: .val (dCB gLen (dKs (dkVar 3) (mpure []))) :: []))))) (dRet (mpure (.bool false))) (dNext)) (dSeq (dFor (.tup (.nm 4 :: .nm 5 :: [])) [4, 5] (dEnum (dKs (dkE (dOp2 pGet (dkVar 2) (dkE (mpure (.int 1))))) (mpure []))) (dIf (tOrB (tNotB (dTru (dkE (dCall F_is_below (.val (dVar 5) :: .val (dCB gLen (dKs (dkVar 1) (mpure []))) :: []))))) (asB (dOp2 pNe (dkE (dOp2 pGet (dkVar 1) (dkVar 5))) (dkE (dOp2 pGet (dkVar 3) (dkVar 4)))))) (dRet (mpure (.bool false))) (dNext))) (dRet (dOp2 pEq (dkE (dLenSet (dkE (dOp2 pGet (dkVar 2) (dkE (mpure (.int 1))))))) (dkE (dCB gLen (dKs (dkVar 3) (mpure [])))))))))
noncomputable def F_is_try : FD := runB 6 3 g_is_try
theorem sc_is_try : FnScope ["desk", "things", "value", "roles", "at", "thing"] ["desk", "things", "value"] (defScope (top 15)) := ⟨rfl, rfl, rfl, by decide +kernel, rfl, by decide +kernel, by decide +kernel⟩
theorem b_is_try (fa : Gs mg) (h_is_below : Cal P w K mg base kc 2 "is_below" F_is_below) (h_is_row : Cal P w K mg base kc 2 "is_row" F_is_row) (hF : ∀ f ∈ deskFs, FldC kc ["Desk"] f) : Body P w K mg base kc 2 ["desk", "things", "value", "roles", "at", "thing"] "is_try" (defScope (top 15)) f (defBody (top 15)) g_is_try := fun cdv A outer s H E cl =>
  have hN := (sc_is_try).nd
  dss_cons (ds_if (dt_w (dw_or (dt_not (dt_tru (dk_e (de_call h_is_row cl (by decide) rfl (das_val (de_var 2) (das_val (de_int) (das_nil))))))) (dw_or1 (dt_not (dt_tru (dk_e (de_call h_is_below cl (by decide) rfl (das_val (de_ix (dk_var 2) (dk_e (de_int))) (das_val (de_cb c_len rfl (by decide +kernel) rfl fa.n_len (dks_cons (dk_e (de_fld (dk_var 0) (hF "tools" (by decide)))) (dks_nil))) (das_nil)))))))))) (dss_one (ds_ret (de_bl))) (dss_nil)) (dss_cons (ds_set 3 (de_ix (dk_e (de_ix (dk_e (de_fld (dk_var 0) (hF "tools" (by decide)))) (dk_e (de_ix (dk_var 2) (dk_e (de_int)))))) (dk_e (de_int))) hN) (dss_cons (ds_if (dt_not (dt_tru (dk_e (de_call h_is_row cl (by decide) rfl (das_val (de_ix (dk_var 2) (dk_e (de_int))) (das_val (de_cb c_len rfl (by decide +kernel) rfl fa.n_len (dks_cons (dk_var 3) (dks_nil))) (das_nil))))))) (dss_one (ds_ret (de_bl))) (dss_nil)) (dss_cons (by refine ds_for ?_ ?_ ?_ [4, 5] cl.po rfl; exact di_enum rfl fa.n_enumerate (dks_cons (dk_e (de_ix (dk_var 2) (dk_e (de_int)))) (dks_nil)); exact dg_tup rfl (dgs_cons (dg_nm 4 hN) (dgs_cons (dg_nm 5 hN) (dgs_nil))); exact dss_one (ds_if (dt_w (dw_or (dt_not (dt_tru (dk_e (de_call h_is_below cl (by decide) rfl (das_val (de_var 5) (das_val (de_cb c_len rfl (by decide +kernel) rfl fa.n_len (dks_cons (dk_var 1) (dks_nil))) (das_nil))))))) (dw_or1 (dt_cmp o_ne (dk_e (de_ix (dk_var 1) (dk_var 5))) (dk_e (de_ix (dk_var 3) (dk_var 4))) rfl)))) (dss_one (ds_ret (de_bl))) (dss_nil))) (dss_one (ds_ret (de_cmp o_eq (dk_e (de_lenSet rfl (dk_e (de_ix (dk_var 2) (dk_e (de_int)))) rfl fa.n_len rfl fa.n_set)) (dk_e (de_cb c_len rfl (by decide +kernel) rfl fa.n_len (dks_cons (dk_var 3) (dks_nil)))) rfl))))))

noncomputable def g_need_history : M Fl := dSeq (dIf (tOrB (tNotB (dTru (dkE (dCall F_is_row (.val (dVar 1) :: .val (mpure (.int 2)) :: []))))) (tNotB (dTru (dkE (dCall F_is_sequence (.val (dOp2 pGet (dkVar 1) (dkE (mpure (.int 1)))) :: [])))))) (dRaise "InvalidHistory" (dNeg (mpure (.int 1)))) (dNext)) (dSeq (dSet 2 (dCall F_need_things (.val (dVar 0) :: .val (dOp2 pGet (dkVar 1) (dkE (mpure (.int 0)))) :: []))) (dSeq (dSetF 3 (dLst (mpure []))) (dSeq (dFor (.tup (.nm 4 :: .nm 5 :: [])) [4, 5] (dEnum (dKs (dkE (dOp2 pGet (dkVar 1) (dkE (mpure (.int 1))))) (mpure []))) (dSeq (dIf (tNotB (dTru (dkE (dCall F_is_try (.val (dVar 0) :: .val (dVar 2) :: .val (dVar 5) :: []))))) (dRaise "InvalidHistory" (dVar 4)) (dNext)) (dDrop (dMeth 3 mAppend (dEs (dTup (dEs (dOp2 pGet (dkVar 5) (dkE (mpure (.int 0)))) (dEs (dCB gTup (dKs (dkE (dOp2 pGet (dkVar 5) (dkE (mpure (.int 1))))) (mpure []))) (mpure [])))) (mpure [])))))) (dRet (dTup (dEs (dVar 2) (dEs (dCB gTup (dKs (dkVar 3) (mpure []))) (mpure []))))))))
noncomputable def F_need_history : FD := runB 6 2 g_need_history
theorem sc_need_history : FnScope ["desk", "value", "things", "found", "at", "one"] ["desk", "value"] (defScope (top 17)) := ⟨rfl, rfl, rfl, by decide +kernel, rfl, by decide +kernel, by decide +kernel⟩
theorem b_need_history (fa : Gs mg) (h_is_try : Cal P w K mg base kc 3 "is_try" F_is_try) (h_need_things : Cal P w K mg base kc 3 "need_things" F_need_things) (h_is_sequence : Cal P w K mg base kc 1 "is_sequence" F_is_sequence) (h_is_row : Cal P w K mg base kc 2 "is_row" F_is_row) {C_InvalidHistory : Addr} (k_InvalidHistory : kc.kl "InvalidHistory" = some C_InvalidHistory) (x_InvalidHistory : CalX P K mg C_InvalidHistory "InvalidHistory" "at") : Body P w K mg base kc 3 ["desk", "value", "things", "found", "at", "one"] "need_history" (defScope (top 17)) f (defBody (top 17)) g_need_history := fun cdv A outer s H E cl =>
  have hN := (sc_need_history).nd
  dss_cons (ds_if (dt_w (dw_or (dt_not (dt_tru (dk_e (de_call h_is_row cl (by decide) rfl (das_val (de_var 1) (das_val (de_int) (das_nil))))))) (dw_or1 (dt_not (dt_tru (dk_e (de_call h_is_sequence cl (by decide) rfl (das_val (de_ix (dk_var 1) (dk_e (de_int))) (das_nil))))))))) (dss_one (ds_raise rfl cl k_InvalidHistory x_InvalidHistory rfl (de_neg (de_int)))) (dss_nil)) (dss_cons (ds_set 2 (de_call h_need_things cl (by decide) rfl (das_val (de_var 0) (das_val (de_ix (dk_var 1) (dk_e (de_int))) (das_nil)))) hN) (dss_cons (ds_setF 3 (df_lst (des_nil)) hN) (dss_cons (by refine ds_for ?_ ?_ ?_ [4, 5] cl.po rfl; exact di_enum rfl fa.n_enumerate (dks_cons (dk_e (de_ix (dk_var 1) (dk_e (de_int)))) (dks_nil)); exact dg_tup rfl (dgs_cons (dg_nm 4 hN) (dgs_cons (dg_nm 5 hN) (dgs_nil))); exact dss_cons (ds_if (dt_not (dt_tru (dk_e (de_call h_is_try cl (by decide) rfl (das_val (de_var 0) (das_val (de_var 2) (das_val (de_var 5) (das_nil)))))))) (dss_one (ds_raise rfl cl k_InvalidHistory x_InvalidHistory rfl (de_var 4))) (dss_nil)) (dss_one (ds_expr (de_meth 3 m_append rfl PySem.F.slot_list_append rfl (des_cons (de_tup (des_cons (de_ix (dk_var 5) (dk_e (de_int))) (des_cons (de_cty c_tup rfl (by decide +kernel) rfl fa.n_tuple (dks_cons (dk_e (de_ix (dk_var 5) (dk_e (de_int)))) (dks_nil))) (des_nil)))) (des_nil)))))) (dss_one (ds_ret (de_tup (des_cons (de_var 2) (des_cons (de_cty c_tup rfl (by decide +kernel) rfl fa.n_tuple (dks_cons (dk_var 3) (dks_nil))) (des_nil)))))))))

def g_Desk_behind : M Fl := dRet (dGet (dkE (dOp2 pGet (dkE (dFld ["Desk"] "found_rows" (dkVar 0))) (dkVar 1))) (dCB gTup (dKs (dkVar 2) (mpure []))))
def F_Desk_behind : FD := runB 3 3 g_Desk_behind
theorem sc_Desk_behind : FnScope ["self", "tool", "befores"] ["self", "tool", "befores"] (defScope (inCls (top 29) 1)) := ⟨rfl, rfl, rfl, by decide +kernel, rfl, by decide +kernel, by decide +kernel⟩
theorem b_Desk_behind (fa : Gs mg) (hF : ∀ f ∈ deskFs, FldC kc ["Desk"] f) : Body P w K mg base kc 0 ["self", "tool", "befores"] "Desk.behind" (defScope (inCls (top 29) 1)) f (defBody (inCls (top 29) 1)) g_Desk_behind := fun cdv A outer s H E cl =>
  have hN := (sc_Desk_behind).nd
  dss_one (ds_ret (de_get (dk_e (de_ix (dk_e (de_fld (dk_var 0) (hF "found_rows" (by decide)))) (dk_var 1))) (de_cty c_tup rfl (by decide +kernel) rfl fa.n_tuple (dks_cons (dk_var 2) (dks_nil)))))

noncomputable def g_Desk___init__ : M Fl := dSeq (dFldS 0 ["Desk"] "kinds" (dCall F_need_kinds (.val (dVar 1) :: []))) (dSeq (dFldS 0 ["Desk"] "tools" (dCall F_need_tools (.val (dFld ["Desk"] "kinds" (dkVar 0)) :: .val (dVar 2) :: []))) (dSeq (dFldS 0 ["Desk"] "repairs" (dCall F_need_repairs (.val (dFld ["Desk"] "kinds" (dkVar 0)) :: .val (dVar 3) :: []))) (dSeq (dFldS 0 ["Desk"] "told" (dTup (dEs (dFld ["Desk"] "kinds" (dkVar 0)) (dEs (dFld ["Desk"] "tools" (dkVar 0)) (dEs (dFld ["Desk"] "repairs" (dkVar 0)) (mpure [])))))) (dFldS 0 ["Desk"] "found_rows" (mbind (dComp (.tup (.nm 4 :: .nm 5 :: .nm 6 :: [])) [4, 5, 6] (dIterV (dkE (dFld ["Desk"] "tools" (dkVar 0)))) (mpure true) (dCB gDict (dKs (dkVar 6) (mpure [])))) (fun xs => mpure (.list xs)))))))
noncomputable def F_Desk___init__ : FD := runB 7 4 g_Desk___init__
theorem sc_Desk___init__ : FnScope ["self", "kinds", "tools", "repairs", "name", "roles", "rows"] ["self", "kinds", "tools", "repairs"] (defScope (inCls (top 29) 0)) := ⟨rfl, rfl, rfl, by decide +kernel, rfl, by decide +kernel, by decide +kernel⟩
theorem b_Desk___init__ (fa : Gs mg) (h_need_repairs : Cal P w K mg base kc 4 "need_repairs" F_need_repairs) (h_need_tools : Cal P w K mg base kc 6 "need_tools" F_need_tools) (h_need_kinds : Cal P w K mg base kc 4 "need_kinds" F_need_kinds) (hF : ∀ f ∈ deskFs, FldC kc ["Desk"] f) : Body P w K mg base kc 6 ["self", "kinds", "tools", "repairs", "name", "roles", "rows"] "Desk.__init__" (defScope (inCls (top 29) 0)) f (defBody (inCls (top 29) 0)) g_Desk___init__ := fun cdv A outer s H E cl =>
  have hN := (sc_Desk___init__).nd
  dss_cons (ds_fldS 0 (de_call h_need_kinds cl (by decide) rfl (das_val (de_var 1) (das_nil))) (hF "kinds" (by decide))) (dss_cons (ds_fldS 0 (de_call h_need_tools cl (by decide) rfl (das_val (de_fld (dk_var 0) (hF "kinds" (by decide))) (das_val (de_var 2) (das_nil)))) (hF "tools" (by decide))) (dss_cons (ds_fldS 0 (de_call h_need_repairs cl (by decide) rfl (das_val (de_fld (dk_var 0) (hF "kinds" (by decide))) (das_val (de_var 3) (das_nil)))) (hF "repairs" (by decide))) (dss_cons (ds_fldS 0 (de_tup (des_cons (de_fld (dk_var 0) (hF "kinds" (by decide))) (des_cons (de_fld (dk_var 0) (hF "tools" (by decide))) (des_cons (de_fld (dk_var 0) (hF "repairs" (by decide))) (des_nil))))) (hF "told" (by decide))) (dss_one (ds_fldS 0 (de_f (df_lc (own := [("name", 4), ("roles", 5), ("rows", 6)]) rfl hN (di_val (dk_e (de_fld (dk_var 0) (hF "tools" (by decide))))) (blk_of ["self", "kinds", "tools", "repairs", "name", "roles", "rows"] (defScope (inCls (top 29) 0)) rfl (by decide +kernel) (by decide +kernel) (by decide +kernel) (by decide +kernel)) (by decide) (fun _ _ _ _ _ => dg_tup rfl (dgs_cons (dg_nm 4 hN) (dgs_cons (dg_nm 5 hN) (dgs_cons (dg_nm 6 hN) (dgs_nil))))) (fun _ _ _ _ _ => dts_nil) (fun _ _ _ _ _ => de_cty (c_dictT (hu2 (Cl.blk cl))) rfl (by decide +kernel) rfl fa.n_dict (dks_cons (dk_var 6) (dks_nil))))) (hF "found_rows" (by decide)))))))

noncomputable def g_tried : M Fl := dSeq (dAsg (.tup (.nm 5 :: .nm 6 :: [])) (dVar 2)) (dSeq (dSet 3 (dCallM "Desk" "behind" F_Desk_behind (dVar 0) (dEs (dVar 5) (dEs (mbind (dComp (.nm 8) [8] (dIterV (dkE (dVar 6))) (mpure true) (dOp2 pGet (dkVar 1) (dkVar 8))) (fun xs => mpure (.list xs))) (mpure []))))) (dSeq (dIf (asB (dOp2 pIs (dkVar 3) (dkE (mpure .none)))) (dRet (dTup (dEs (dCB gTup (dKs (dkVar 1) (mpure []))) (dEs (mpure (.bool false)) (mpure []))))) (dNext)) (dSeq (dSetF 4 (dCBf gList (dKs (dkVar 1) (mpure [])))) (dSeq (dFor (.tup (.nm 7 :: .nm 8 :: [])) [7, 8] (dEnum (dKs (dkVar 6) (mpure []))) (dSetI 4 (dVar 8) (dOp2 pGet (dkVar 3) (dkVar 7)))) (dRet (dTup (dEs (dCB gTup (dKs (dkVar 4) (mpure []))) (dEs (mpure (.bool true)) (mpure [])))))))))
noncomputable def F_tried : FD := runB 9 3 g_tried
theorem sc_tried : FnScope ["desk", "world", "one", "behinds", "found", "tool", "things", "at", "thing"] ["desk", "world", "one"] (defScope (top 18)) := ⟨rfl, rfl, rfl, by decide +kernel, rfl, by decide +kernel, by decide +kernel⟩
theorem b_tried (fa : Gs mg) (h_Desk_behind : CalM P w K mg base kc 1 "Desk" "behind" F_Desk_behind) : Body P w K mg base kc 1 ["desk", "world", "one", "behinds", "found", "tool", "things", "at", "thing"] "tried" (defScope (top 18)) f (defBody (top 18)) g_tried := fun cdv A outer s H E cl =>
  have hN := (sc_tried).nd
  dss_cons (ds_asg (de_var 2) (dg_tup rfl (dgs_cons (dg_nm 5 hN) (dgs_cons (dg_nm 6 hN) (dgs_nil))))) (dss_cons (ds_set 3 (de_callM h_Desk_behind cl (by decide) (de_var 0) (des_cons (de_var 5) (des_cons (de_f (df_lc (own := [("thing", 8)]) rfl hN (di_val (dk_e (de_var 6))) (blk_of ["desk", "world", "one", "behinds", "found", "tool", "things", "at", "thing"] (defScope (top 18)) rfl (by decide +kernel) (by decide +kernel) (by decide +kernel) (by decide +kernel)) (by decide) (fun _ _ _ _ _ => dg_nm 8 hN) (fun _ _ _ _ _ => dts_nil) (fun _ _ _ _ _ => de_ix (dk_var 1) (dk_var 8)))) (des_nil)))) hN) (dss_cons (ds_if (dt_cmp o_is (dk_var 3) (dk_e (de_non)) rfl) (dss_one (ds_ret (de_tup (des_cons (de_cty c_tup rfl (by decide +kernel) rfl fa.n_tuple (dks_cons (dk_var 1) (dks_nil))) (des_cons (de_bl) (des_nil)))))) (dss_nil)) (dss_cons (ds_setF 4 (df_cty c_list rfl (by decide +kernel) rfl fa.n_list (dks_cons (dk_var 1) (dks_nil))) hN) (dss_cons (by refine ds_for ?_ ?_ ?_ [7, 8] cl.po rfl; exact di_enum rfl fa.n_enumerate (dks_cons (dk_var 6) (dks_nil)); exact dg_tup rfl (dgs_cons (dg_nm 7 hN) (dgs_cons (dg_nm 8 hN) (dgs_nil))); exact dss_one (ds_setI 4 (de_ix (dk_var 3) (dk_var 7)) (de_var 8))) (dss_one (ds_ret (de_tup (des_cons (de_cty c_tup rfl (by decide +kernel) rfl fa.n_tuple (dks_cons (dk_var 4) (dks_nil))) (des_cons (de_bl) (des_nil))))))))))

noncomputable def g_need_struck : M Fl := dSeq (dIf (tNotB (dTru (dkE (dCall F_is_sequence (.val (dVar 1) :: []))))) (dRaise "InvalidStruck" (dNeg (mpure (.int 1)))) (dNext)) (dSeq (dSet 2 (dCall F_lot_wrong (.val (dVar 1) :: .val (dCB gLen (dKs (dkE (dOp2 pGet (dkVar 0) (dkE (mpure (.int 1))))) (mpure []))) :: []))) (dSeq (dIf (asB (dOp2 pGe (dkVar 2) (dkE (mpure (.int 0))))) (dRaise "InvalidStruck" (dVar 2)) (dNext)) (dRet (dCB gTup (dKs (dkVar 1) (mpure []))))))
noncomputable def F_need_struck : FD := runB 3 2 g_need_struck
theorem sc_need_struck : FnScope ["history", "value", "at"] ["history", "value"] (defScope (top 20)) := ⟨rfl, rfl, rfl, by decide +kernel, rfl, by decide +kernel, by decide +kernel⟩
theorem b_need_struck (fa : Gs mg) (h_lot_wrong : Cal P w K mg base kc 3 "lot_wrong" F_lot_wrong) (h_is_sequence : Cal P w K mg base kc 1 "is_sequence" F_is_sequence) {C_InvalidStruck : Addr} (k_InvalidStruck : kc.kl "InvalidStruck" = some C_InvalidStruck) (x_InvalidStruck : CalX P K mg C_InvalidStruck "InvalidStruck" "at") : Body P w K mg base kc 3 ["history", "value", "at"] "need_struck" (defScope (top 20)) f (defBody (top 20)) g_need_struck := fun cdv A outer s H E cl =>
  have hN := (sc_need_struck).nd
  dss_cons (ds_if (dt_not (dt_tru (dk_e (de_call h_is_sequence cl (by decide) rfl (das_val (de_var 1) (das_nil)))))) (dss_one (ds_raise rfl cl k_InvalidStruck x_InvalidStruck rfl (de_neg (de_int)))) (dss_nil)) (dss_cons (ds_set 2 (de_call h_lot_wrong cl (by decide) rfl (das_val (de_var 1) (das_val (de_cb c_len rfl (by decide +kernel) rfl fa.n_len (dks_cons (dk_e (de_ix (dk_var 0) (dk_e (de_int)))) (dks_nil))) (das_nil)))) hN) (dss_cons (ds_if (dt_cmp o_ge (dk_var 2) (dk_e (de_int)) rfl) (dss_one (ds_raise rfl cl k_InvalidStruck x_InvalidStruck rfl (de_var 2))) (dss_nil)) (dss_one (ds_ret (de_cty c_tup rfl (by decide +kernel) rfl fa.n_tuple (dks_cons (dk_var 1) (dks_nil)))))))

noncomputable def g_less : M Fl := dSeq (dAsg (.tup (.nm 4 :: .nm 5 :: [])) (dCall F_need_history (.val (dVar 0) :: .val (dVar 1) :: []))) (dSeq (dSet 3 (dCall F_need_struck (.val (dTup (dEs (dVar 4) (dEs (dVar 5) (mpure [])))) :: .val (dVar 2) :: []))) (dRet (dTup (dEs (dVar 4) (dEs (dCB gTup (dKs (dkE (mbind (dComp (.tup (.nm 6 :: .nm 7 :: [])) [6, 7] (dEnum (dKs (dkVar 5) (mpure []))) (asB (dOp2 pNotIn (dkVar 6) (dkVar 3))) (dVar 7)) (fun xs => mpure (.list xs)))) (mpure []))) (mpure []))))))
noncomputable def F_less : FD := runB 8 3 g_less
theorem sc_less : FnScope ["desk", "history", "struck", "lot", "things", "tries", "number", "one"] ["desk", "history", "struck"] (defScope (top 21)) := ⟨rfl, rfl, rfl, by decide +kernel, rfl, by decide +kernel, by decide +kernel⟩
theorem b_less (fa : Gs mg) (h_need_struck : Cal P w K mg base kc 4 "need_struck" F_need_struck) (h_need_history : Cal P w K mg base kc 4 "need_history" F_need_history) : Body P w K mg base kc 4 ["desk", "history", "struck", "lot", "things", "tries", "number", "one"] "less" (defScope (top 21)) f (defBody (top 21)) g_less := fun cdv A outer s H E cl =>
  have hN := (sc_less).nd
  dss_cons (ds_asg (de_call h_need_history cl (by decide) rfl (das_val (de_var 0) (das_val (de_var 1) (das_nil)))) (dg_tup rfl (dgs_cons (dg_nm 4 hN) (dgs_cons (dg_nm 5 hN) (dgs_nil))))) (dss_cons (ds_set 3 (de_call h_need_struck cl (by decide) rfl (das_val (de_tup (des_cons (de_var 4) (des_cons (de_var 5) (des_nil)))) (das_val (de_var 2) (das_nil)))) hN) (dss_one (ds_ret (de_tup (des_cons (de_var 4) (des_cons (de_cty c_tup rfl (by decide +kernel) rfl fa.n_tuple (dks_cons (dk_e (de_f (df_lc (own := [("number", 6), ("one", 7)]) rfl hN (di_enum rfl fa.n_enumerate (dks_cons (dk_var 5) (dks_nil))) (blk_of ["desk", "history", "struck", "lot", "things", "tries", "number", "one"] (defScope (top 21)) rfl (by decide +kernel) (by decide +kernel) (by decide +kernel) (by decide +kernel)) (by decide) (fun _ _ _ _ _ => dg_tup rfl (dgs_cons (dg_nm 6 hN) (dgs_cons (dg_nm 7 hN) (dgs_nil)))) (fun _ _ _ _ _ => dts_one (dt_cmp o_notin (dk_var 6) (dk_var 3) rfl)) (fun _ _ _ _ _ => de_var 7)))) (dks_nil))) (des_nil)))))))

noncomputable def g_lot_worlds : M Fl := dSeq (dAsg (.tup (.nm 5 :: .nm 6 :: [])) (dCall F_need_history (.val (dVar 0) :: .val (dVar 1) :: []))) (dSeq (dSet 3 (dCall F_need_struck (.val (dTup (dEs (dVar 5) (dEs (dVar 6) (mpure [])))) :: .val (dVar 2) :: []))) (dSeq (dSetF 4 (dLst (dEs (dCB gTup (dKs (dkE (mbind (dComp (.nm 11) [11] (dIterV (dkE (dVar 5))) (mpure true) (mpure (.int 0))) (fun xs => mpure (.list xs)))) (mpure []))) (mpure [])))) (dSeq (dFor (.tup (.nm 7 :: .nm 8 :: [])) [7, 8, 9] (dEnum (dKs (dkVar 6) (mpure []))) (dSeq (dSetF 9 (dComp (.nm 10) [10] (dIterV (dkE (dVar 4))) (mpure true) (dOp2 pGet (dkE (dCall F_tried (.val (dVar 0) :: .val (dVar 10) :: .val (dVar 8) :: []))) (dkE (mpure (.int 0)))))) (dSeq (dIf (asB (dOp2 pIn (dkVar 7) (dkVar 3))) (dSet 9 (dOp2 pAdd (dkVar 9) (dkVar 4))) (dNext)) (dSet 4 (dVar 9))))) (dRet (dCB gTup (dKs (dkVar 4) (mpure [])))))))
noncomputable def F_lot_worlds : FD := runB 12 3 g_lot_worlds
theorem sc_lot_worlds : FnScope ["desk", "history", "waiting", "lot", "worlds", "things", "tries", "number", "one", "turned", "world", "kind"] ["desk", "history", "waiting"] (defScope (top 22)) := ⟨rfl, rfl, rfl, by decide +kernel, rfl, by decide +kernel, by decide +kernel⟩
theorem b_lot_worlds (fa : Gs mg) (h_tried : Cal P w K mg base kc 2 "tried" F_tried) (h_need_struck : Cal P w K mg base kc 4 "need_struck" F_need_struck) (h_need_history : Cal P w K mg base kc 4 "need_history" F_need_history) : Body P w K mg base kc 4 ["desk", "history", "waiting", "lot", "worlds", "things", "tries", "number", "one", "turned", "world", "kind"] "lot_worlds" (defScope (top 22)) f (defBody (top 22)) g_lot_worlds := fun cdv A outer s H E cl =>
  have hN := (sc_lot_worlds).nd
  dss_cons (ds_asg (de_call h_need_history cl (by decide) rfl (das_val (de_var 0) (das_val (de_var 1) (das_nil)))) (dg_tup rfl (dgs_cons (dg_nm 5 hN) (dgs_cons (dg_nm 6 hN) (dgs_nil))))) (dss_cons (ds_set 3 (de_call h_need_struck cl (by decide) rfl (das_val (de_tup (des_cons (de_var 5) (des_cons (de_var 6) (des_nil)))) (das_val (de_var 2) (das_nil)))) hN) (dss_cons (ds_setF 4 (df_lst (des_cons (de_cty c_tup rfl (by decide +kernel) rfl fa.n_tuple (dks_cons (dk_e (de_f (df_lc (own := [("kind", 11)]) rfl hN (di_val (dk_e (de_var 5))) (blk_of ["desk", "history", "waiting", "lot", "worlds", "things", "tries", "number", "one", "turned", "world", "kind"] (defScope (top 22)) rfl (by decide +kernel) (by decide +kernel) (by decide +kernel) (by decide +kernel)) (by decide) (fun _ _ _ _ _ => dg_nm 11 hN) (fun _ _ _ _ _ => dts_nil) (fun _ _ _ _ _ => de_int)))) (dks_nil))) (des_nil))) hN) (dss_cons (by refine ds_for ?_ ?_ ?_ [7, 8, 9] cl.po rfl; exact di_enum rfl fa.n_enumerate (dks_cons (dk_var 6) (dks_nil)); exact dg_tup rfl (dgs_cons (dg_nm 7 hN) (dgs_cons (dg_nm 8 hN) (dgs_nil))); exact dss_cons (ds_setLc (own := [("world", 10)]) 9 rfl hN rfl rfl rfl (di_val (dk_e (de_var 4))) (blk_of ["desk", "history", "waiting", "lot", "worlds", "things", "tries", "number", "one", "turned", "world", "kind"] (defScope (top 22)) rfl (by decide +kernel) (by decide +kernel) (by decide +kernel) (by decide +kernel)) (by decide) (fun _ _ _ _ _ => dg_nm 10 hN) (fun _ _ _ _ _ => dts_nil) (fun _ _ _ _ _ => de_ix (dk_e (de_call h_tried (Cl.blk cl) (by decide) rfl (das_val (de_var 0) (das_val (de_var 10) (das_val (de_var 8) (das_nil)))))) (dk_e (de_int)))) (dss_cons (ds_if (dt_cmp o_in (dk_var 7) (dk_var 3) rfl) (dss_one (ds_set 9 (de_op o_add (dk_var 9) (dk_var 4)) hN)) (dss_nil)) (dss_one (ds_set 4 (de_var 9) hN)))) (dss_one (ds_ret (de_cty c_tup rfl (by decide +kernel) rfl fa.n_tuple (dks_cons (dk_var 4) (dks_nil))))))))

noncomputable def g__law_power : M Fl := dSeq (dSet 1 (mpure (.int 1))) (dSeq (dFor (.nm 2) [2] (dRange1 (dEs (dVar 0) (mpure []))) (dSet 1 (dOp2 pMul (dkVar 1) (dkE (mpure (.int 2)))))) (dRet (dVar 1)))
noncomputable def F__law_power : FD := runB 3 1 g__law_power
theorem sc__law_power : FnScope ["many", "found", "turn"] ["many"] (defScope (top 41)) := ⟨rfl, rfl, rfl, by decide +kernel, rfl, by decide +kernel, by decide +kernel⟩
theorem b__law_power (fa : Gs mg) : Body P w K mg base kc 0 ["many", "found", "turn"] "_law_power" (defScope (top 41)) f (defBody (top 41)) g__law_power := fun cdv A outer s H E cl =>
  have hN := (sc__law_power).nd
  dss_cons (ds_set 1 (de_int) hN) (dss_cons (by refine ds_for ?_ ?_ ?_ [2] cl.po rfl; exact di_range1 rfl fa.n_range (des_cons (de_var 0) (des_nil)); exact dg_nm 2 hN; exact dss_one (ds_set 1 (de_op o_mul (dk_var 1) (dk_e (de_int))) hN)) (dss_one (ds_ret (de_var 1))))

def g__law_box : M Fl := dSeq (dSet 2 (dOp2 pAdd (dkE (dOp2 pMul (dkE (mpure (.int 6007))) (dkVar 1))) (dkE (mpure (.int 281))))) (dSeq (dIf (asB (dOp2 pLt (dkVar 1) (dkE (dCB gLen (dKs (dkVar 0) (mpure [])))))) (dSet 2 (dCB gAbs (dKs (dkE (dOp2 pGet (dkVar 0) (dkVar 1))) (mpure [])))) (dIf (asB (dOp2 pGt (dkE (dCB gLen (dKs (dkVar 0) (mpure [])))) (dkE (mpure (.int 0))))) (dSet 2 (dOp2 pAdd (dkVar 2) (dkE (dOp2 pMul (dkE (dOp2 pMod (dkE (dCB gInt (dKs (dkE (dCB gAbs (dKs (dkE (dOp2 pGet (dkVar 0) (dkE (dOp2 pMod (dkE (dCB gInt (dKs (dkVar 1) (mpure [])))) (dkE (dCB gLen (dKs (dkVar 0) (mpure [])))))))) (mpure [])))) (mpure [])))) (dkE (mpure (.int 2147483629))))) (dkE (mpure (.int 70009))))))) (dNext))) (dRetF (dLst (dEs (dOp2 pGet (dkE (mbind (dLst (dEs (mpure (.int 0)) (dEs (dVar 2) (mpure [])))) (fun xs => mpure (.list xs)))) (dkE (dCB gInt (dKs (dkE (dOp2 pGe (dkVar 2) (dkE (dOp2 pPow (dkE (mpure (.int 10))) (dkE (mpure (.int 18))))))) (mpure []))))) (dEs (dOp2 pAdd (dkE (dOp2 pMod (dkE (dCB gInt (dKs (dkE (dOp2 pAdd (dkE (dOp2 pMul (dkE (dOp2 pMod (dkE (dCB gInt (dKs (dkVar 2) (mpure [])))) (dkE (mpure (.int 2147483629))))) (dkE (mpure (.int 44017))))) (dkE (dOp2 pMul (dkE (mpure (.int 53089))) (dkVar 1))))) (mpure [])))) (dkE (mpure (.int 2147483629))))) (dkE (mpure (.int 1)))) (dEs (mpure (.int 0)) (mpure [])))))))
def F__law_box : FD := runB 3 2 g__law_box
theorem sc__law_box : FnScope ["script", "k", "cell"] ["script", "k"] (defScope (top 42)) := ⟨rfl, rfl, rfl, by decide +kernel, rfl, by decide +kernel, by decide +kernel⟩
theorem b__law_box (fa : Gs mg) : Body P w K mg base kc 0 ["script", "k", "cell"] "_law_box" (defScope (top 42)) f (defBody (top 42)) g__law_box := fun cdv A outer s H E cl =>
  have hN := (sc__law_box).nd
  dss_cons (ds_set 2 (de_op o_add (dk_e (de_op o_mul (dk_e (de_int)) (dk_var 1))) (dk_e (de_int))) hN) (dss_cons (ds_if (dt_cmp o_lt (dk_var 1) (dk_e (de_cb c_len rfl (by decide +kernel) rfl fa.n_len (dks_cons (dk_var 0) (dks_nil)))) rfl) (dss_one (ds_set 2 (de_cb c_abs rfl (by decide +kernel) rfl fa.n_abs (dks_cons (dk_e (de_ix (dk_var 0) (dk_var 1))) (dks_nil))) hN)) (dss_one (ds_if (dt_cmp o_gt (dk_e (de_cb c_len rfl (by decide +kernel) rfl fa.n_len (dks_cons (dk_var 0) (dks_nil)))) (dk_e (de_int)) rfl) (dss_one (ds_set 2 (de_op o_add (dk_var 2) (dk_e (de_op o_mul (dk_e (de_op o_mod (dk_e (de_cty c_int rfl (by decide +kernel) rfl fa.n_int (dks_cons (dk_e (de_cb c_abs rfl (by decide +kernel) rfl fa.n_abs (dks_cons (dk_e (de_ix (dk_var 0) (dk_e (de_op o_mod (dk_e (de_cty c_int rfl (by decide +kernel) rfl fa.n_int (dks_cons (dk_var 1) (dks_nil)))) (dk_e (de_cb c_len rfl (by decide +kernel) rfl fa.n_len (dks_cons (dk_var 0) (dks_nil)))))))) (dks_nil)))) (dks_nil)))) (dk_e (de_int)))) (dk_e (de_int))))) hN)) (dss_nil)))) (dss_one (ds_retF (df_lst (des_cons (de_ix (dk_e (de_f (df_lst (des_cons (de_int) (des_cons (de_var 2) (des_nil)))))) (dk_e (de_cty c_int rfl (by decide +kernel) rfl fa.n_int (dks_cons (dk_e (de_cmp o_ge (dk_var 2) (dk_e (de_op o_pow (dk_e (de_int)) (dk_e (de_int)))) rfl)) (dks_nil))))) (des_cons (de_op o_add (dk_e (de_op o_mod (dk_e (de_cty c_int rfl (by decide +kernel) rfl fa.n_int (dks_cons (dk_e (de_op o_add (dk_e (de_op o_mul (dk_e (de_op o_mod (dk_e (de_cty c_int rfl (by decide +kernel) rfl fa.n_int (dks_cons (dk_var 2) (dks_nil)))) (dk_e (de_int)))) (dk_e (de_int)))) (dk_e (de_op o_mul (dk_e (de_int)) (dk_var 1))))) (dks_nil)))) (dk_e (de_int)))) (dk_e (de_int))) (des_cons (de_int) (des_nil))))))))

def g__law_take : M Fl := dSeq (dIf (asB (dOp2 pGt (dkE (dOp2 pGet (dkVar 0) (dkE (mpure (.int 0))))) (dkE (mpure (.int 0))))) (dSeq (dSet 3 (dOp2 pMod (dkE (dCB gInt (dKs (dkE (dOp2 pGet (dkVar 0) (dkE (mpure (.int 0))))) (mpure [])))) (dkVar 1))) (dSeq (dSetI 0 (mpure (.int 0)) (dOp2 pFdiv (dkE (dOp2 pGet (dkVar 0) (dkE (mpure (.int 0))))) (dkVar 1))) (dRet (dVar 3)))) (dNext)) (dSeq (dSetI 0 (mpure (.int 2)) (dOp2 pAdd (dkE (dOp2 pGet (dkVar 0) (dkE (mpure (.int 2))))) (dkE (mpure (.int 1))))) (dSeq (dSet 2 (dOp2 pMod (dkE (dCB gInt (dKs (dkE (dOp2 pAdd (dkE (dOp2 pMul (dkE (dOp2 pAdd (dkE (dOp2 pGet (dkVar 0) (dkE (mpure (.int 1))))) (dkE (dOp2 pMul (dkE (mpure (.int 70001))) (dkE (dOp2 pGet (dkVar 0) (dkE (mpure (.int 2))))))))) (dkE (mpure (.int 61211))))) (dkE (mpure (.int 37))))) (mpure [])))) (dkE (mpure (.int 2147483563))))) (dSeq (dSetI 0 (mpure (.int 1)) (dOp2 pAdd (dkE (dOp2 pMod (dkE (dCB gInt (dKs (dkE (dOp2 pAdd (dkE (dOp2 pMul (dkVar 2) (dkE (mpure (.int 38011))))) (dkE (mpure (.int 23057))))) (mpure [])))) (dkE (mpure (.int 2147483629))))) (dkE (mpure (.int 1))))) (dRet (dOp2 pMod (dkE (dCB gInt (dKs (dkE (dOp2 pFdiv (dkE (dOp2 pAdd (dkE (dOp2 pMul (dkVar 2) (dkE (mpure (.int 2147483647))))) (dkE (dOp2 pGet (dkVar 0) (dkE (mpure (.int 1))))))) (dkE (mpure (.int 8191))))) (mpure [])))) (dkVar 1))))))
def F__law_take : FD := runB 4 2 g__law_take
theorem sc__law_take : FnScope ["box", "many", "raw", "digit"] ["box", "many"] (defScope (top 43)) := ⟨rfl, rfl, rfl, by decide +kernel, rfl, by decide +kernel, by decide +kernel⟩
theorem b__law_take (fa : Gs mg) : Body P w K mg base kc 0 ["box", "many", "raw", "digit"] "_law_take" (defScope (top 43)) f (defBody (top 43)) g__law_take := fun cdv A outer s H E cl =>
  have hN := (sc__law_take).nd
  dss_cons (ds_if (dt_cmp o_gt (dk_e (de_ix (dk_var 0) (dk_e (de_int)))) (dk_e (de_int)) rfl) (dss_cons (ds_set 3 (de_op o_mod (dk_e (de_cty c_int rfl (by decide +kernel) rfl fa.n_int (dks_cons (dk_e (de_ix (dk_var 0) (dk_e (de_int)))) (dks_nil)))) (dk_var 1)) hN) (dss_cons (ds_setI 0 (de_op o_fdiv (dk_e (de_ix (dk_var 0) (dk_e (de_int)))) (dk_var 1)) (de_int)) (dss_one (ds_ret (de_var 3))))) (dss_nil)) (dss_cons (ds_setI 0 (de_op o_add (dk_e (de_ix (dk_var 0) (dk_e (de_int)))) (dk_e (de_int))) (de_int)) (dss_cons (ds_set 2 (de_op o_mod (dk_e (de_cty c_int rfl (by decide +kernel) rfl fa.n_int (dks_cons (dk_e (de_op o_add (dk_e (de_op o_mul (dk_e (de_op o_add (dk_e (de_ix (dk_var 0) (dk_e (de_int)))) (dk_e (de_op o_mul (dk_e (de_int)) (dk_e (de_ix (dk_var 0) (dk_e (de_int)))))))) (dk_e (de_int)))) (dk_e (de_int)))) (dks_nil)))) (dk_e (de_int))) hN) (dss_cons (ds_setI 0 (de_op o_add (dk_e (de_op o_mod (dk_e (de_cty c_int rfl (by decide +kernel) rfl fa.n_int (dks_cons (dk_e (de_op o_add (dk_e (de_op o_mul (dk_var 2) (dk_e (de_int)))) (dk_e (de_int)))) (dks_nil)))) (dk_e (de_int)))) (dk_e (de_int))) (de_int)) (dss_one (ds_ret (de_op o_mod (dk_e (de_cty c_int rfl (by decide +kernel) rfl fa.n_int (dks_cons (dk_e (de_op o_fdiv (dk_e (de_op o_add (dk_e (de_op o_mul (dk_var 2) (dk_e (de_int)))) (dk_e (de_ix (dk_var 0) (dk_e (de_int)))))) (dk_e (de_int)))) (dks_nil)))) (dk_var 1)))))))

noncomputable def g__law_pick : M Fl := dRet (dOp2 pGet (dkVar 1) (dkE (dCall F__law_take (.io 0 :: .val (dCB gLen (dKs (dkVar 1) (mpure []))) :: []))))
noncomputable def F__law_pick : FD := runB 2 2 g__law_pick
theorem sc__law_pick : FnScope ["box", "some"] ["box", "some"] (defScope (top 44)) := ⟨rfl, rfl, rfl, by decide +kernel, rfl, by decide +kernel, by decide +kernel⟩
theorem b__law_pick (fa : Gs mg) (h__law_take : Cal P w K mg base kc 1 "_law_take" F__law_take) : Body P w K mg base kc 1 ["box", "some"] "_law_pick" (defScope (top 44)) f (defBody (top 44)) g__law_pick := fun cdv A outer s H E cl =>
  have hN := (sc__law_pick).nd
  dss_one (ds_ret (de_ix (dk_var 1) (dk_e (de_call h__law_take cl (by decide) rfl (das_io 0 (das_val (de_cb c_len rfl (by decide +kernel) rfl fa.n_len (dks_cons (dk_var 1) (dks_nil))) (das_nil)))))))

noncomputable def g__law_names : M Fl := dSeq (dSet 1 (mpure (.str "abcdefghijklmnopqrstuvwxyz"))) (dSeq (dMix [2, 3, 4, 5] (.val (dOp2 pGet (dkVar 1) (dkE (dCall F__law_take (.io 0 :: .val (mpure (.int 26)) :: [])))) :: .val (dCall F__law_take (.io 0 :: .val (mpure (.int 4)) :: [])) :: .val (dCall F__law_take (.io 0 :: .val (mpure (.int 4)) :: [])) :: .val (dCall F__law_take (.io 0 :: .val (mpure (.int 26)) :: [])) :: [])) (dRetF (dComp (.nm 6) [6] (dIterV (dkE (dOp2 pAdd (dkE (dSl (dkVar 1) (some (dVar 5)) none)) (dkE (dSl (dkVar 1) none (some (dVar 5))))))) (mpure true) (dOp2 pAdd (dkE (dOp2 pAdd (dkE (dOp2 pMul (dkVar 2) (dkVar 3))) (dkVar 6))) (dkE (dOp2 pMul (dkVar 2) (dkVar 4)))))))
noncomputable def F__law_names : FD := runB 7 1 g__law_names
theorem sc__law_names : FnScope ["box", "signs", "sign", "ahead", "behind", "first", "one"] ["box"] (defScope (top 45)) := ⟨rfl, rfl, rfl, by decide +kernel, rfl, by decide +kernel, by decide +kernel⟩
theorem b__law_names (fa : Gs mg) (h__law_take : Cal P w K mg base kc 1 "_law_take" F__law_take) : Body P w K mg base kc 1 ["box", "signs", "sign", "ahead", "behind", "first", "one"] "_law_names" (defScope (top 45)) f (defBody (top 45)) g__law_names := fun cdv A outer s H E cl =>
  have hN := (sc__law_names).nd
  dss_cons (ds_set 1 (de_str) hN) (dss_cons (ds_parN rfl hN (dels_val (de_ix (dk_var 1) (dk_e (de_call h__law_take cl (by decide) rfl (das_io 0 (das_val (de_int) (das_nil)))))) (dels_val (de_call h__law_take cl (by decide) rfl (das_io 0 (das_val (de_int) (das_nil)))) (dels_val (de_call h__law_take cl (by decide) rfl (das_io 0 (das_val (de_int) (das_nil)))) (dels_val (de_call h__law_take cl (by decide) rfl (das_io 0 (das_val (de_int) (das_nil)))) (dels_nil))))) rfl (by decide) (.cons rfl (by first | exact .inl rfl | exact .inr rfl) (by first | exact .inl rfl | exact .inr rfl) rfl (.cons rfl (by first | exact .inl rfl | exact .inr rfl) (by first | exact .inl rfl | exact .inr rfl) rfl (.cons rfl (by first | exact .inl rfl | exact .inr rfl) (by first | exact .inl rfl | exact .inr rfl) rfl (.cons rfl (by first | exact .inl rfl | exact .inr rfl) (by first | exact .inl rfl | exact .inr rfl) rfl .nil))))) (dss_one (ds_retF (df_lc (own := [("one", 6)]) rfl hN (di_val (dk_e (de_op o_add (dk_e (de_sl (dk_var 1) (dpo_some (de_var 5)) dpo_none)) (dk_e (de_sl (dk_var 1) dpo_none (dpo_some (de_var 5))))))) (blk_of ["box", "signs", "sign", "ahead", "behind", "first", "one"] (defScope (top 45)) rfl (by decide +kernel) (by decide +kernel) (by decide +kernel) (by decide +kernel)) (by decide) (fun _ _ _ _ _ => dg_nm 6 hN) (fun _ _ _ _ _ => dts_nil) (fun _ _ _ _ _ => de_op o_add (dk_e (de_op o_add (dk_e (de_op o_mul (dk_var 2) (dk_var 3))) (dk_var 6))) (dk_e (de_op o_mul (dk_var 2) (dk_var 4))))))))

noncomputable def g__law_befores : M Fl := dSeq (dSetF 2 (dLst (dEs (dTup (mpure [])) (mpure [])))) (dSeq (dFor (.nm 3) [3, 4] (dIterV (dkE (dVar 1))) (dSeq (dSetF 4 (dLst (mpure []))) (dSeq (dFor (.nm 5) [5] (dIterV (dkE (dVar 2))) (dDrop (dMeth 4 mExtend (dEs (mbind (dComp (.nm 6) [6] (dRange1 (dEs (dOp2 pGet (dkE (dOp2 pGet (dkVar 0) (dkVar 3))) (dkE (mpure (.int 1)))) (mpure []))) (mpure true) (dOp2 pAdd (dkVar 5) (dkE (dTup (dEs (dVar 6) (mpure [])))))) (fun xs => mpure (.list xs))) (mpure []))))) (dSet 2 (dVar 4))))) (dRet (dVar 2)))
noncomputable def F__law_befores : FD := runB 7 2 g__law_befores
theorem sc__law_befores : FnScope ["kinds", "roles", "rows", "role", "longer", "row", "state"] ["kinds", "roles"] (defScope (top 46)) := ⟨rfl, rfl, rfl, by decide +kernel, rfl, by decide +kernel, by decide +kernel⟩
theorem b__law_befores (fa : Gs mg) : Body P w K mg base kc 0 ["kinds", "roles", "rows", "role", "longer", "row", "state"] "_law_befores" (defScope (top 46)) f (defBody (top 46)) g__law_befores := fun cdv A outer s H E cl =>
  have hN := (sc__law_befores).nd
  dss_cons (ds_setF 2 (df_lst (des_cons (de_tup (des_nil)) (des_nil))) hN) (dss_cons (by refine ds_for ?_ ?_ ?_ [3, 4] cl.po rfl; exact di_val (dk_e (de_var 1)); exact dg_nm 3 hN; exact dss_cons (ds_setF 4 (df_lst (des_nil)) hN) (dss_cons (by refine ds_for ?_ ?_ ?_ [5] cl.po rfl; exact di_val (dk_e (de_var 2)); exact dg_nm 5 hN; exact dss_one (ds_expr (de_meth 4 m_extend rfl PySem.F.slot_list_extend rfl (des_cons (de_f (df_lc (own := [("state", 6)]) rfl hN (di_range1 rfl fa.n_range (des_cons (de_ix (dk_e (de_ix (dk_var 0) (dk_var 3))) (dk_e (de_int))) (des_nil))) (blk_of ["kinds", "roles", "rows", "role", "longer", "row", "state"] (defScope (top 46)) rfl (by decide +kernel) (by decide +kernel) (by decide +kernel) (by decide +kernel)) (by decide) (fun _ _ _ _ _ => dg_nm 6 hN) (fun _ _ _ _ _ => dts_nil) (fun _ _ _ _ _ => de_op o_add (dk_var 5) (dk_e (de_tup (des_cons (de_var 6) (des_nil))))))) (des_nil))))) (dss_one (ds_set 2 (de_var 4) hN)))) (dss_one (ds_ret (de_var 2))))

noncomputable def g__law_tool : M Fl := dSeq (dSet 3 (dCB gTup (dKs (dkE (mbind (dComp (.nm 7) [7] (dRange1 (dEs (dCall F__law_pick (.io 0 :: .val (mbind (dLst (dEs (mpure (.int 1)) (dEs (mpure (.int 1)) (dEs (mpure (.int 1)) (dEs (mpure (.int 2)) (dEs (mpure (.int 2)) (dEs (mpure (.int 2)) (dEs (mpure (.int 3)) (mpure []))))))))) (fun xs => mpure (.list xs))) :: [])) (mpure []))) (mpure true) (dCall F__law_take (.io 0 :: .val (dCB gLen (dKs (dkVar 2) (mpure []))) :: []))) (fun xs => mpure (.list xs)))) (mpure [])))) (dSeq (dMix [5, 6] (.fre (dLst (mpure [])) :: .val (dCall F__law_take (.io 0 :: .val (mpure (.int 4)) :: [])) :: [])) (dSeq (dFor (.nm 4) [4] (dIterV (dkE (dCall F__law_befores (.val (dVar 2) :: .val (dVar 3) :: [])))) (dIf (asB (dOp2 pGe (dkE (dCall F__law_take (.io 0 :: .val (mpure (.int 4)) :: []))) (dkVar 6))) (dDrop (dMeth 5 mAppend (dEs (dTup (dEs (dVar 4) (dEs (dCB gTup (dKs (dkE (mbind (dComp (.nm 8) [8] (dIterV (dkE (dVar 3))) (mpure true) (dCall F__law_take (.io 0 :: .val (dOp2 pGet (dkE (dOp2 pGet (dkVar 2) (dkVar 8))) (dkE (mpure (.int 1)))) :: []))) (fun xs => mpure (.list xs)))) (mpure []))) (mpure [])))) (mpure [])))) (dNext))) (dRet (dTup (dEs (dVar 1) (dEs (dVar 3) (dEs (dCB gTup (dKs (dkVar 5) (mpure []))) (mpure []))))))))
noncomputable def F__law_tool : FD := runB 9 3 g__law_tool
theorem sc__law_tool : FnScope ["box", "name", "kinds", "roles", "before", "rows", "few", "one", "role"] ["box", "name", "kinds"] (defScope (top 47)) := ⟨rfl, rfl, rfl, by decide +kernel, rfl, by decide +kernel, by decide +kernel⟩
theorem b__law_tool (fa : Gs mg) (h__law_befores : Cal P w K mg base kc 1 "_law_befores" F__law_befores) (h__law_take : Cal P w K mg base kc 1 "_law_take" F__law_take) (h__law_pick : Cal P w K mg base kc 2 "_law_pick" F__law_pick) : Body P w K mg base kc 2 ["box", "name", "kinds", "roles", "before", "rows", "few", "one", "role"] "_law_tool" (defScope (top 47)) f (defBody (top 47)) g__law_tool := fun cdv A outer s H E cl =>
  have hN := (sc__law_tool).nd
  dss_cons (ds_set 3 (de_cty c_tup rfl (by decide +kernel) rfl fa.n_tuple (dks_cons (dk_e (de_f (df_lc (own := [("one", 7)]) rfl hN (di_range1 rfl fa.n_range (des_cons (de_call h__law_pick cl (by decide) rfl (das_io 0 (das_val (de_f (df_lst (des_cons (de_int) (des_cons (de_int) (des_cons (de_int) (des_cons (de_int) (des_cons (de_int) (des_cons (de_int) (des_cons (de_int) (des_nil)))))))))) (das_nil)))) (des_nil))) (blk_of ["box", "name", "kinds", "roles", "before", "rows", "few", "one", "role"] (defScope (top 47)) rfl (by decide +kernel) (by decide +kernel) (by decide +kernel) (by decide +kernel)) (by decide) (fun _ _ _ _ _ => dg_nm 7 hN) (fun _ _ _ _ _ => dts_nil) (fun _ _ _ _ _ => de_call h__law_take (Cl.blk cl) (by decide) rfl (das_io 0 (das_val (de_cb c_len rfl (by decide +kernel) rfl fa.n_len (dks_cons (dk_var 2) (dks_nil))) (das_nil))))))) (dks_nil))) hN) (dss_cons (ds_par 5 6 rfl hN (dels_fre (df_lst (des_nil)) (dels_val (de_call h__law_take cl (by decide) rfl (das_io 0 (das_val (de_int) (das_nil)))) (dels_nil))) rfl (by decide)) (dss_cons (by refine ds_for ?_ ?_ ?_ [4] cl.po rfl; exact di_val (dk_e (de_call h__law_befores cl (by decide) rfl (das_val (de_var 2) (das_val (de_var 3) (das_nil))))); exact dg_nm 4 hN; exact dss_one (ds_if (dt_cmp o_ge (dk_e (de_call h__law_take cl (by decide) rfl (das_io 0 (das_val (de_int) (das_nil))))) (dk_var 6) rfl) (dss_one (ds_expr (de_meth 5 m_append rfl PySem.F.slot_list_append rfl (des_cons (de_tup (des_cons (de_var 4) (des_cons (de_cty c_tup rfl (by decide +kernel) rfl fa.n_tuple (dks_cons (dk_e (de_f (df_lc (own := [("role", 8)]) rfl hN (di_val (dk_e (de_var 3))) (blk_of ["box", "name", "kinds", "roles", "before", "rows", "few", "one", "role"] (defScope (top 47)) rfl (by decide +kernel) (by decide +kernel) (by decide +kernel) (by decide +kernel)) (by decide) (fun _ _ _ _ _ => dg_nm 8 hN) (fun _ _ _ _ _ => dts_nil) (fun _ _ _ _ _ => de_call h__law_take (Cl.blk cl) (by decide) rfl (das_io 0 (das_val (de_ix (dk_e (de_ix (dk_var 2) (dk_var 8))) (dk_e (de_int))) (das_nil))))))) (dks_nil))) (des_nil)))) (des_nil))))) (dss_nil))) (dss_one (ds_ret (de_tup (des_cons (de_var 1) (des_cons (de_var 3) (des_cons (de_cty c_tup rfl (by decide +kernel) rfl fa.n_tuple (dks_cons (dk_var 5) (dks_nil))) (des_nil)))))))))

noncomputable def g__law_desk : M Fl := dSeq (dSetF 2 (dCallF F__law_names (.io 0 :: []))) (dSeq (dSet 3 (dCB gTup (dKs (dkE (mbind (dComp (.nm 10) [10] (dRange1 (dEs (dOp2 pAdd (dkE (mpure (.int 1))) (dkE (dCall F__law_take (.io 0 :: .val (mpure (.int 2)) :: [])))) (mpure []))) (mpure true) (dTup (dEs (dMeth 2 mPop (mpure [])) (dEs (dOp2 pAdd (dkE (mpure (.int 2))) (dkE (dCall F__law_take (.io 0 :: .val (dOp2 pSub (dkVar 1) (dkE (mpure (.int 1)))) :: [])))) (mpure []))))) (fun xs => mpure (.list xs)))) (mpure [])))) (dSeq (dSet 4 (dCB gTup (dKs (dkE (mbind (dComp (.nm 10) [10] (dRange1 (dEs (dOp2 pAdd (dkE (mpure (.int 1))) (dkE (dCall F__law_take (.io 0 :: .val (mpure (.int 4)) :: [])))) (mpure []))) (mpure true) (dCall F__law_tool (.io 0 :: .val (dMeth 2 mPop (mpure [])) :: .val (dVar 3) :: []))) (fun xs => mpure (.list xs)))) (mpure [])))) (dSeq (dMix [6, 7] (.fre (dLst (mpure [])) :: .val (dCall F__law_take (.io 0 :: .val (mpure (.int 4)) :: [])) :: [])) (dSeq (dFor (.nm 5) [5] (dRange1 (dEs (dCB gLen (dKs (dkVar 3) (mpure []))) (mpure []))) (dFor (.nm 8) [8] (dRange1 (dEs (dOp2 pGet (dkE (dOp2 pGet (dkVar 3) (dkVar 5))) (dkE (mpure (.int 1)))) (mpure []))) (dFor (.nm 9) [9] (dRange1 (dEs (dOp2 pGet (dkE (dOp2 pGet (dkVar 3) (dkVar 5))) (dkE (mpure (.int 1)))) (mpure []))) (dIf (tAndB (asB (dOp2 pNe (dkVar 8) (dkVar 9))) (asB (dOp2 pGe (dkE (dCall F__law_take (.io 0 :: .val (mpure (.int 4)) :: []))) (dkVar 7)))) (dDrop (dMeth 6 mAppend (dEs (dTup (dEs (dVar 5) (dEs (dVar 8) (dEs (dVar 9) (dEs (dOp2 pAdd (dkE (mpure (.int 1))) (dkE (dCall F__law_take (.io 0 :: .val (mpure (.int 9)) :: [])))) (mpure [])))))) (mpure [])))) (dNext))))) (dRet (dTup (dEs (dVar 3) (dEs (dVar 4) (dEs (dCB gTup (dKs (dkVar 6) (mpure []))) (mpure []))))))))))
noncomputable def F__law_desk : FD := runB 11 2 g__law_desk
theorem sc__law_desk : FnScope ["box", "states", "names", "kinds", "tools", "kind", "repairs", "few", "begin", "end", "one"] ["box", "states"] (defScope (top 48)) := ⟨rfl, rfl, rfl, by decide +kernel, rfl, by decide +kernel, by decide +kernel⟩
theorem b__law_desk (fa : Gs mg) (h__law_take : Cal P w K mg base kc 1 "_law_take" F__law_take) (h__law_tool : Cal P w K mg base kc 3 "_law_tool" F__law_tool) (h__law_names : Cal P w K mg base kc 2 "_law_names" F__law_names) : Body P w K mg base kc 3 ["box", "states", "names", "kinds", "tools", "kind", "repairs", "few", "begin", "end", "one"] "_law_desk" (defScope (top 48)) f (defBody (top 48)) g__law_desk := fun cdv A outer s H E cl =>
  have hN := (sc__law_desk).nd
  dss_cons (ds_setF 2 (df_call h__law_names cl (by decide) rfl (das_io 0 (das_nil))) hN) (dss_cons (ds_set 3 (de_cty c_tup rfl (by decide +kernel) rfl fa.n_tuple (dks_cons (dk_e (de_f (df_lc (own := [("one", 10)]) rfl hN (di_range1 rfl fa.n_range (des_cons (de_op o_add (dk_e (de_int)) (dk_e (de_call h__law_take cl (by decide) rfl (das_io 0 (das_val (de_int) (das_nil)))))) (des_nil))) (blk_of ["box", "states", "names", "kinds", "tools", "kind", "repairs", "few", "begin", "end", "one"] (defScope (top 48)) rfl (by decide +kernel) (by decide +kernel) (by decide +kernel) (by decide +kernel)) (by decide) (fun _ _ _ _ _ => dg_nm 10 hN) (fun _ _ _ _ _ => dts_nil) (fun _ _ _ _ _ => de_tup (des_cons (de_meth0 2 m_pop rfl PySem.F.slot_list_pop rfl) (des_cons (de_op o_add (dk_e (de_int)) (dk_e (de_call h__law_take (Cl.blk cl) (by decide) rfl (das_io 0 (das_val (de_op o_sub (dk_var 1) (dk_e (de_int))) (das_nil)))))) (des_nil))))))) (dks_nil))) hN) (dss_cons (ds_set 4 (de_cty c_tup rfl (by decide +kernel) rfl fa.n_tuple (dks_cons (dk_e (de_f (df_lc (own := [("one", 10)]) rfl hN (di_range1 rfl fa.n_range (des_cons (de_op o_add (dk_e (de_int)) (dk_e (de_call h__law_take cl (by decide) rfl (das_io 0 (das_val (de_int) (das_nil)))))) (des_nil))) (blk_of ["box", "states", "names", "kinds", "tools", "kind", "repairs", "few", "begin", "end", "one"] (defScope (top 48)) rfl (by decide +kernel) (by decide +kernel) (by decide +kernel) (by decide +kernel)) (by decide) (fun _ _ _ _ _ => dg_nm 10 hN) (fun _ _ _ _ _ => dts_nil) (fun _ _ _ _ _ => de_call h__law_tool (Cl.blk cl) (by decide) rfl (das_io 0 (das_val (de_meth0 2 m_pop rfl PySem.F.slot_list_pop rfl) (das_val (de_var 3) (das_nil)))))))) (dks_nil))) hN) (dss_cons (ds_par 6 7 rfl hN (dels_fre (df_lst (des_nil)) (dels_val (de_call h__law_take cl (by decide) rfl (das_io 0 (das_val (de_int) (das_nil)))) (dels_nil))) rfl (by decide)) (dss_cons (by refine ds_for ?_ ?_ ?_ [5] cl.po rfl; exact di_range1 rfl fa.n_range (des_cons (de_cb c_len rfl (by decide +kernel) rfl fa.n_len (dks_cons (dk_var 3) (dks_nil))) (des_nil)); exact dg_nm 5 hN; exact dss_one (by refine ds_for ?_ ?_ ?_ [8] cl.po rfl; exact di_range1 rfl fa.n_range (des_cons (de_ix (dk_e (de_ix (dk_var 3) (dk_var 5))) (dk_e (de_int))) (des_nil)); exact dg_nm 8 hN; exact dss_one (by refine ds_for ?_ ?_ ?_ [9] cl.po rfl; exact di_range1 rfl fa.n_range (des_cons (de_ix (dk_e (de_ix (dk_var 3) (dk_var 5))) (dk_e (de_int))) (des_nil)); exact dg_nm 9 hN; exact dss_one (ds_if (dt_w (dw_and (dt_cmp o_ne (dk_var 8) (dk_var 9) rfl) (dw_and1 (dt_cmp o_ge (dk_e (de_call h__law_take cl (by decide) rfl (das_io 0 (das_val (de_int) (das_nil))))) (dk_var 7) rfl)))) (dss_one (ds_expr (de_meth 6 m_append rfl PySem.F.slot_list_append rfl (des_cons (de_tup (des_cons (de_var 5) (des_cons (de_var 8) (des_cons (de_var 9) (des_cons (de_op o_add (dk_e (de_int)) (dk_e (de_call h__law_take cl (by decide) rfl (das_io 0 (das_val (de_int) (das_nil)))))) (des_nil)))))) (des_nil))))) (dss_nil))))) (dss_one (ds_ret (de_tup (des_cons (de_var 3) (des_cons (de_var 4) (des_cons (de_cty c_tup rfl (by decide +kernel) rfl fa.n_tuple (dks_cons (dk_var 6) (dks_nil))) (des_nil)))))))))))

noncomputable def g__law_things : M Fl := dRet (dCB gTup (dKs (dkE (mbind (dComp (.nm 3) [3] (dRange1 (dEs (dVar 2) (mpure []))) (mpure true) (dCall F__law_take (.io 0 :: .val (dCB gLen (dKs (dkVar 1) (mpure []))) :: []))) (fun xs => mpure (.list xs)))) (mpure [])))
noncomputable def F__law_things : FD := runB 4 3 g__law_things
theorem sc__law_things : FnScope ["box", "kinds", "many", "one"] ["box", "kinds", "many"] (defScope (top 49)) := ⟨rfl, rfl, rfl, by decide +kernel, rfl, by decide +kernel, by decide +kernel⟩
theorem b__law_things (fa : Gs mg) (h__law_take : Cal P w K mg base kc 1 "_law_take" F__law_take) : Body P w K mg base kc 1 ["box", "kinds", "many", "one"] "_law_things" (defScope (top 49)) f (defBody (top 49)) g__law_things := fun cdv A outer s H E cl =>
  have hN := (sc__law_things).nd
  dss_one (ds_ret (de_cty c_tup rfl (by decide +kernel) rfl fa.n_tuple (dks_cons (dk_e (de_f (df_lc (own := [("one", 3)]) rfl hN (di_range1 rfl fa.n_range (des_cons (de_var 2) (des_nil))) (blk_of ["box", "kinds", "many", "one"] (defScope (top 49)) rfl (by decide +kernel) (by decide +kernel) (by decide +kernel) (by decide +kernel)) (by decide) (fun _ _ _ _ _ => dg_nm 3 hN) (fun _ _ _ _ _ => dts_nil) (fun _ _ _ _ _ => de_call h__law_take (Cl.blk cl) (by decide) rfl (das_io 0 (das_val (de_cb c_len rfl (by decide +kernel) rfl fa.n_len (dks_cons (dk_var 1) (dks_nil))) (das_nil))))))) (dks_nil))))

noncomputable def g__law_try : M Fl := dSeq (dSet 3 (dCall F__law_take (.io 0 :: .val (dCB gLen (dKs (dkVar 1) (mpure []))) :: []))) (dSeq (dSetF 4 (dLst (mpure []))) (dSeq (dFor (.nm 5) [5, 6] (dIterV (dkE (dOp2 pGet (dkE (dOp2 pGet (dkVar 1) (dkVar 3))) (dkE (mpure (.int 1)))))) (dSeq (dSetF 6 (dComp (.nm 7) [7] (dRange1 (dEs (dCB gLen (dKs (dkVar 2) (mpure []))) (mpure []))) (tAndB (asB (dOp2 pEq (dkE (dOp2 pGet (dkVar 2) (dkVar 7))) (dkVar 5))) (asB (dOp2 pNotIn (dkVar 7) (dkVar 4)))) (dVar 7))) (dSeq (dIf (asB (dOp2 pEq (dkVar 6) (dkE (mbind (dLst (mpure [])) (fun xs => mpure (.list xs)))))) (dRet (mpure .none)) (dNext)) (dDrop (dMeth 4 mAppend (dEs (dCall F__law_pick (.io 0 :: .val (dVar 6) :: [])) (mpure []))))))) (dRet (dTup (dEs (dVar 3) (dEs (dCB gTup (dKs (dkVar 4) (mpure []))) (mpure [])))))))
noncomputable def F__law_try : FD := runB 8 3 g__law_try
theorem sc__law_try : FnScope ["box", "tools", "things", "tool", "members", "role", "some", "thing"] ["box", "tools", "things"] (defScope (top 50)) := ⟨rfl, rfl, rfl, by decide +kernel, rfl, by decide +kernel, by decide +kernel⟩
theorem b__law_try (fa : Gs mg) (h__law_pick : Cal P w K mg base kc 2 "_law_pick" F__law_pick) (h__law_take : Cal P w K mg base kc 1 "_law_take" F__law_take) : Body P w K mg base kc 2 ["box", "tools", "things", "tool", "members", "role", "some", "thing"] "_law_try" (defScope (top 50)) f (defBody (top 50)) g__law_try := fun cdv A outer s H E cl =>
  have hN := (sc__law_try).nd
  dss_cons (ds_set 3 (de_call h__law_take cl (by decide) rfl (das_io 0 (das_val (de_cb c_len rfl (by decide +kernel) rfl fa.n_len (dks_cons (dk_var 1) (dks_nil))) (das_nil)))) hN) (dss_cons (ds_setF 4 (df_lst (des_nil)) hN) (dss_cons (by refine ds_for ?_ ?_ ?_ [5, 6] cl.po rfl; exact di_val (dk_e (de_ix (dk_e (de_ix (dk_var 1) (dk_var 3))) (dk_e (de_int)))); exact dg_nm 5 hN; exact dss_cons (ds_setLc (own := [("thing", 7)]) 6 rfl hN rfl rfl rfl (di_range1 rfl fa.n_range (des_cons (de_cb c_len rfl (by decide +kernel) rfl fa.n_len (dks_cons (dk_var 2) (dks_nil))) (des_nil))) (blk_of ["box", "tools", "things", "tool", "members", "role", "some", "thing"] (defScope (top 50)) rfl (by decide +kernel) (by decide +kernel) (by decide +kernel) (by decide +kernel)) (by decide) (fun _ _ _ _ _ => dg_nm 7 hN) (fun _ _ _ _ _ => dts_one (dt_w (dw_and (dt_cmp o_eq (dk_e (de_ix (dk_var 2) (dk_var 7))) (dk_var 5) rfl) (dw_and1 (dt_cmp o_notin (dk_var 7) (dk_var 4) rfl))))) (fun _ _ _ _ _ => de_var 7)) (dss_cons (ds_if (dt_cmp o_eq (dk_var 6) (dk_e (de_f (df_lst (des_nil)))) rfl) (dss_one (ds_ret (de_non))) (dss_nil)) (dss_one (ds_expr (de_meth 4 m_append rfl PySem.F.slot_list_append rfl (des_cons (de_call h__law_pick cl (by decide) rfl (das_io 0 (das_val (de_var 6) (das_nil)))) (des_nil))))))) (dss_one (ds_ret (de_tup (des_cons (de_var 3) (des_cons (de_cty c_tup rfl (by decide +kernel) rfl fa.n_tuple (dks_cons (dk_var 4) (dks_nil))) (des_nil))))))))

noncomputable def g__law_tries : M Fl := dSeq (dSetF 4 (dComp (.nm 5) [5] (dRange1 (dEs (dVar 3) (mpure []))) (mpure true) (dCall F__law_try (.io 0 :: .val (dVar 1) :: .val (dVar 2) :: [])))) (dRet (dCB gTup (dKs (dkE (mbind (dComp (.nm 5) [5] (dIterV (dkE (dVar 4))) (asB (dOp2 pIsNot (dkVar 5) (dkE (mpure .none)))) (dVar 5)) (fun xs => mpure (.list xs)))) (mpure []))))
noncomputable def F__law_tries : FD := runB 6 4 g__law_tries
theorem sc__law_tries : FnScope ["box", "tools", "things", "many", "drawn", "one"] ["box", "tools", "things", "many"] (defScope (top 51)) := ⟨rfl, rfl, rfl, by decide +kernel, rfl, by decide +kernel, by decide +kernel⟩
theorem b__law_tries (fa : Gs mg) (h__law_try : Cal P w K mg base kc 3 "_law_try" F__law_try) : Body P w K mg base kc 3 ["box", "tools", "things", "many", "drawn", "one"] "_law_tries" (defScope (top 51)) f (defBody (top 51)) g__law_tries := fun cdv A outer s H E cl =>
  have hN := (sc__law_tries).nd
  dss_cons (ds_setLc (own := [("one", 5)]) 4 rfl hN rfl rfl rfl (di_range1 rfl fa.n_range (des_cons (de_var 3) (des_nil))) (blk_of ["box", "tools", "things", "many", "drawn", "one"] (defScope (top 51)) rfl (by decide +kernel) (by decide +kernel) (by decide +kernel) (by decide +kernel)) (by decide) (fun _ _ _ _ _ => dg_nm 5 hN) (fun _ _ _ _ _ => dts_nil) (fun _ _ _ _ _ => de_call h__law_try (Cl.blk cl) (by decide) rfl (das_io 0 (das_val (de_var 1) (das_val (de_var 2) (das_nil)))))) (dss_one (ds_ret (de_cty c_tup rfl (by decide +kernel) rfl fa.n_tuple (dks_cons (dk_e (de_f (df_lc (own := [("one", 5)]) rfl hN (di_val (dk_e (de_var 4))) (blk_of ["box", "tools", "things", "many", "drawn", "one"] (defScope (top 51)) rfl (by decide +kernel) (by decide +kernel) (by decide +kernel) (by decide +kernel)) (by decide) (fun _ _ _ _ _ => dg_nm 5 hN) (fun _ _ _ _ _ => dts_one (dt_cmp o_isnot (dk_var 5) (dk_e (de_non)) rfl)) (fun _ _ _ _ _ => de_var 5)))) (dks_nil)))))

noncomputable def g__law_tried : M Fl := dSeq (dSet 3 (dCB gTup (dKs (dkE (mbind (dComp (.nm 8) [8] (dIterV (dkE (dOp2 pGet (dkVar 2) (dkE (mpure (.int 1)))))) (mpure true) (dOp2 pGet (dkVar 1) (dkVar 8))) (fun xs => mpure (.list xs)))) (mpure [])))) (dSeq (dFor (.tup (.nm 4 :: .nm 5 :: [])) [4, 5] (dIterV (dkE (dOp2 pGet (dkE (dOp2 pGet (dkVar 0) (dkE (dOp2 pGet (dkVar 2) (dkE (mpure (.int 0))))))) (dkE (mpure (.int 2)))))) (dIf (asB (dOp2 pEq (dkVar 4) (dkVar 3))) (dSeq (dSetF 6 (dCBf gList (dKs (dkVar 1) (mpure [])))) (dSeq (dFor (.nm 7) [7] (dRange1 (dEs (dCB gLen (dKs (dkE (dOp2 pGet (dkVar 2) (dkE (mpure (.int 1))))) (mpure []))) (mpure []))) (dSetI 6 (dOp2 pGet (dkE (dOp2 pGet (dkVar 2) (dkE (mpure (.int 1))))) (dkVar 7)) (dOp2 pGet (dkVar 5) (dkVar 7)))) (dRet (dTup (dEs (dCB gTup (dKs (dkVar 6) (mpure []))) (dEs (mpure (.bool true)) (mpure []))))))) (dNext))) (dRet (dTup (dEs (dVar 1) (dEs (mpure (.bool false)) (mpure []))))))
noncomputable def F__law_tried : FD := runB 9 3 g__law_tried
theorem sc__law_tried : FnScope ["tools", "world", "one", "here", "before", "behind", "found", "at", "thing"] ["tools", "world", "one"] (defScope (top 52)) := ⟨rfl, rfl, rfl, by decide +kernel, rfl, by decide +kernel, by decide +kernel⟩
theorem b__law_tried (fa : Gs mg) : Body P w K mg base kc 0 ["tools", "world", "one", "here", "before", "behind", "found", "at", "thing"] "_law_tried" (defScope (top 52)) f (defBody (top 52)) g__law_tried := fun cdv A outer s H E cl =>
  have hN := (sc__law_tried).nd
  dss_cons (ds_set 3 (de_cty c_tup rfl (by decide +kernel) rfl fa.n_tuple (dks_cons (dk_e (de_f (df_lc (own := [("thing", 8)]) rfl hN (di_val (dk_e (de_ix (dk_var 2) (dk_e (de_int))))) (blk_of ["tools", "world", "one", "here", "before", "behind", "found", "at", "thing"] (defScope (top 52)) rfl (by decide +kernel) (by decide +kernel) (by decide +kernel) (by decide +kernel)) (by decide) (fun _ _ _ _ _ => dg_nm 8 hN) (fun _ _ _ _ _ => dts_nil) (fun _ _ _ _ _ => de_ix (dk_var 1) (dk_var 8))))) (dks_nil))) hN) (dss_cons (by refine ds_for ?_ ?_ ?_ [4, 5] cl.po rfl; exact di_val (dk_e (de_ix (dk_e (de_ix (dk_var 0) (dk_e (de_ix (dk_var 2) (dk_e (de_int)))))) (dk_e (de_int)))); exact dg_tup rfl (dgs_cons (dg_nm 4 hN) (dgs_cons (dg_nm 5 hN) (dgs_nil))); exact dss_one (ds_if (dt_cmp o_eq (dk_var 4) (dk_var 3) rfl) (dss_cons (ds_setF 6 (df_cty c_list rfl (by decide +kernel) rfl fa.n_list (dks_cons (dk_var 1) (dks_nil))) hN) (dss_cons (by refine ds_for ?_ ?_ ?_ [7] cl.po rfl; exact di_range1 rfl fa.n_range (des_cons (de_cb c_len rfl (by decide +kernel) rfl fa.n_len (dks_cons (dk_e (de_ix (dk_var 2) (dk_e (de_int)))) (dks_nil))) (des_nil)); exact dg_nm 7 hN; exact dss_one (ds_setI 6 (de_ix (dk_var 5) (dk_var 7)) (de_ix (dk_e (de_ix (dk_var 2) (dk_e (de_int)))) (dk_var 7)))) (dss_one (ds_ret (de_tup (des_cons (de_cty c_tup rfl (by decide +kernel) rfl fa.n_tuple (dks_cons (dk_var 6) (dks_nil))) (des_cons (de_bl) (des_nil)))))))) (dss_nil))) (dss_one (ds_ret (de_tup (des_cons (de_var 1) (des_cons (de_bl) (des_nil)))))))

noncomputable def g__law_end : M Fl := dSeq (dSet 3 (dCB gTup (dKs (dkE (mbind (dComp (.nm 5) [5] (dIterV (dkE (dVar 1))) (mpure true) (mpure (.int 0))) (fun xs => mpure (.list xs)))) (mpure [])))) (dSeq (dFor (.nm 4) [4] (dIterV (dkE (dVar 2))) (dSet 3 (dOp2 pGet (dkE (dCall F__law_tried (.val (dVar 0) :: .val (dVar 3) :: .val (dVar 4) :: []))) (dkE (mpure (.int 0)))))) (dRet (dVar 3)))
noncomputable def F__law_end : FD := runB 6 3 g__law_end
theorem sc__law_end : FnScope ["tools", "things", "tries", "world", "one", "kind"] ["tools", "things", "tries"] (defScope (top 53)) := ⟨rfl, rfl, rfl, by decide +kernel, rfl, by decide +kernel, by decide +kernel⟩
theorem b__law_end (fa : Gs mg) (h__law_tried : Cal P w K mg base kc 1 "_law_tried" F__law_tried) : Body P w K mg base kc 1 ["tools", "things", "tries", "world", "one", "kind"] "_law_end" (defScope (top 53)) f (defBody (top 53)) g__law_end := fun cdv A outer s H E cl =>
  have hN := (sc__law_end).nd
  dss_cons (ds_set 3 (de_cty c_tup rfl (by decide +kernel) rfl fa.n_tuple (dks_cons (dk_e (de_f (df_lc (own := [("kind", 5)]) rfl hN (di_val (dk_e (de_var 1))) (blk_of ["tools", "things", "tries", "world", "one", "kind"] (defScope (top 53)) rfl (by decide +kernel) (by decide +kernel) (by decide +kernel) (by decide +kernel)) (by decide) (fun _ _ _ _ _ => dg_nm 5 hN) (fun _ _ _ _ _ => dts_nil) (fun _ _ _ _ _ => de_int)))) (dks_nil))) hN) (dss_cons (by refine ds_for ?_ ?_ ?_ [4] cl.po rfl; exact di_val (dk_e (de_var 2)); exact dg_nm 4 hN; exact dss_one (ds_set 3 (de_ix (dk_e (de_call h__law_tried cl (by decide) rfl (das_val (de_var 0) (das_val (de_var 3) (das_val (de_var 4) (das_nil)))))) (dk_e (de_int))) hN)) (dss_one (ds_ret (de_var 3))))

noncomputable def g__law_lot : M Fl := dSeq (dSet 2 (dOp2 pAdd (dkE (mpure (.int 1))) (dkE (dCall F__law_take (.io 0 :: .val (mpure (.int 3)) :: []))))) (dRet (dCB gTup (dKs (dkE (mbind (dComp (.nm 3) [3] (dRange1 (dEs (dVar 1) (mpure []))) (asB (dOp2 pLt (dkE (dCall F__law_take (.io 0 :: .val (mpure (.int 4)) :: []))) (dkVar 2))) (dVar 3)) (fun xs => mpure (.list xs)))) (mpure []))))
noncomputable def F__law_lot : FD := runB 4 2 g__law_lot
theorem sc__law_lot : FnScope ["box", "many", "few", "number"] ["box", "many"] (defScope (top 54)) := ⟨rfl, rfl, rfl, by decide +kernel, rfl, by decide +kernel, by decide +kernel⟩
theorem b__law_lot (fa : Gs mg) (h__law_take : Cal P w K mg base kc 1 "_law_take" F__law_take) : Body P w K mg base kc 1 ["box", "many", "few", "number"] "_law_lot" (defScope (top 54)) f (defBody (top 54)) g__law_lot := fun cdv A outer s H E cl =>
  have hN := (sc__law_lot).nd
  dss_cons (ds_set 2 (de_op o_add (dk_e (de_int)) (dk_e (de_call h__law_take cl (by decide) rfl (das_io 0 (das_val (de_int) (das_nil)))))) hN) (dss_one (ds_ret (de_cty c_tup rfl (by decide +kernel) rfl fa.n_tuple (dks_cons (dk_e (de_f (df_lc (own := [("number", 3)]) rfl hN (di_range1 rfl fa.n_range (des_cons (de_var 1) (des_nil))) (blk_of ["box", "many", "few", "number"] (defScope (top 54)) rfl (by decide +kernel) (by decide +kernel) (by decide +kernel) (by decide +kernel)) (by decide) (fun _ _ _ _ _ => dg_nm 3 hN) (fun _ _ _ _ _ => dts_one (dt_cmp o_lt (dk_e (de_call h__law_take (Cl.blk cl) (by decide) rfl (das_io 0 (das_val (de_int) (das_nil))))) (dk_var 2) rfl)) (fun _ _ _ _ _ => de_var 3)))) (dks_nil)))))

noncomputable def g__law_less : M Fl := dRet (dCB gTup (dKs (dkE (mbind (dComp (.nm 2) [2] (dRange1 (dEs (dCB gLen (dKs (dkVar 0) (mpure []))) (mpure []))) (asB (dOp2 pNotIn (dkVar 2) (dkVar 1))) (dOp2 pGet (dkVar 0) (dkVar 2))) (fun xs => mpure (.list xs)))) (mpure [])))
noncomputable def F__law_less : FD := runB 3 2 g__law_less
theorem sc__law_less : FnScope ["tries", "lot", "at"] ["tries", "lot"] (defScope (top 55)) := ⟨rfl, rfl, rfl, by decide +kernel, rfl, by decide +kernel, by decide +kernel⟩
theorem b__law_less (fa : Gs mg) : Body P w K mg base kc 0 ["tries", "lot", "at"] "_law_less" (defScope (top 55)) f (defBody (top 55)) g__law_less := fun cdv A outer s H E cl =>
  have hN := (sc__law_less).nd
  dss_one (ds_ret (de_cty c_tup rfl (by decide +kernel) rfl fa.n_tuple (dks_cons (dk_e (de_f (df_lc (own := [("at", 2)]) rfl hN (di_range1 rfl fa.n_range (des_cons (de_cb c_len rfl (by decide +kernel) rfl fa.n_len (dks_cons (dk_var 0) (dks_nil))) (des_nil))) (blk_of ["tries", "lot", "at"] (defScope (top 55)) rfl (by decide +kernel) (by decide +kernel) (by decide +kernel) (by decide +kernel)) (by decide) (fun _ _ _ _ _ => dg_nm 2 hN) (fun _ _ _ _ _ => dts_one (dt_cmp o_notin (dk_var 2) (dk_var 1) rfl)) (fun _ _ _ _ _ => de_ix (dk_var 0) (dk_var 2))))) (dks_nil))))

noncomputable def g__law_cube : M Fl := dSeq (dSetF 4 (dLst (mpure []))) (dSeq (dFor (.nm 5) [5, 6] (dRange1 (dEs (dCall F__law_power (.val (dCB gLen (dKs (dkVar 3) (mpure []))) :: [])) (mpure []))) (dSeq (dSetF 6 (dComp (.nm 7) [7] (dRange1 (dEs (dCB gLen (dKs (dkVar 3) (mpure []))) (mpure []))) (asB (dOp2 pEq (dkE (dOp2 pMod (dkE (dOp2 pFdiv (dkE (dCB gInt (dKs (dkVar 5) (mpure [])))) (dkE (dCall F__law_power (.val (dVar 7) :: []))))) (dkE (mpure (.int 2))))) (dkE (mpure (.int 1))))) (dOp2 pGet (dkVar 3) (dkVar 7)))) (dDrop (dMeth 4 mAppend (dEs (dCall F__law_end (.val (dVar 0) :: .val (dVar 1) :: .val (dCall F__law_less (.val (dVar 2) :: .val (dVar 6) :: [])) :: [])) (mpure [])))))) (dRet (dCB gTup (dKs (dkVar 4) (mpure [])))))
noncomputable def F__law_cube : FD := runB 8 4 g__law_cube
theorem sc__law_cube : FnScope ["tools", "things", "tries", "waiting", "found", "bits", "struck", "at"] ["tools", "things", "tries", "waiting"] (defScope (top 56)) := ⟨rfl, rfl, rfl, by decide +kernel, rfl, by decide +kernel, by decide +kernel⟩
theorem b__law_cube (fa : Gs mg) (h__law_power : Cal P w K mg base kc 1 "_law_power" F__law_power) (h__law_less : Cal P w K mg base kc 1 "_law_less" F__law_less) (h__law_end : Cal P w K mg base kc 2 "_law_end" F__law_end) : Body P w K mg base kc 2 ["tools", "things", "tries", "waiting", "found", "bits", "struck", "at"] "_law_cube" (defScope (top 56)) f (defBody (top 56)) g__law_cube := fun cdv A outer s H E cl =>
  have hN := (sc__law_cube).nd
  dss_cons (ds_setF 4 (df_lst (des_nil)) hN) (dss_cons (by refine ds_for ?_ ?_ ?_ [5, 6] cl.po rfl; exact di_range1 rfl fa.n_range (des_cons (de_call h__law_power cl (by decide) rfl (das_val (de_cb c_len rfl (by decide +kernel) rfl fa.n_len (dks_cons (dk_var 3) (dks_nil))) (das_nil))) (des_nil)); exact dg_nm 5 hN; exact dss_cons (ds_setLc (own := [("at", 7)]) 6 rfl hN rfl rfl rfl (di_range1 rfl fa.n_range (des_cons (de_cb c_len rfl (by decide +kernel) rfl fa.n_len (dks_cons (dk_var 3) (dks_nil))) (des_nil))) (blk_of ["tools", "things", "tries", "waiting", "found", "bits", "struck", "at"] (defScope (top 56)) rfl (by decide +kernel) (by decide +kernel) (by decide +kernel) (by decide +kernel)) (by decide) (fun _ _ _ _ _ => dg_nm 7 hN) (fun _ _ _ _ _ => dts_one (dt_cmp o_eq (dk_e (de_op o_mod (dk_e (de_op o_fdiv (dk_e (de_cty c_int rfl (by decide +kernel) rfl fa.n_int (dks_cons (dk_var 5) (dks_nil)))) (dk_e (de_call h__law_power (Cl.blk cl) (by decide) rfl (das_val (de_var 7) (das_nil)))))) (dk_e (de_int)))) (dk_e (de_int)) rfl)) (fun _ _ _ _ _ => de_ix (dk_var 3) (dk_var 7))) (dss_one (ds_expr (de_meth 4 m_append rfl PySem.F.slot_list_append rfl (des_cons (de_call h__law_end cl (by decide) rfl (das_val (de_var 0) (das_val (de_var 1) (das_val (de_call h__law_less cl (by decide) rfl (das_val (de_var 2) (das_val (de_var 6) (das_nil)))) (das_nil))))) (des_nil)))))) (dss_one (ds_ret (de_cty c_tup rfl (by decide +kernel) rfl fa.n_tuple (dks_cons (dk_var 4) (dks_nil))))))

noncomputable def g__law_face : M Fl := dRet (dCB gTup (dKs (dkE (mbind (dComp (.nm 3) [3] (dRange1 (dEs (dCB gLen (dKs (dkVar 0) (mpure []))) (mpure []))) (asB (dOp2 pEq (dkE (dOp2 pMod (dkE (dOp2 pFdiv (dkE (dCB gInt (dKs (dkVar 3) (mpure [])))) (dkE (dCall F__law_power (.val (dVar 1) :: []))))) (dkE (mpure (.int 2))))) (dkVar 2))) (dOp2 pGet (dkVar 0) (dkVar 3))) (fun xs => mpure (.list xs)))) (mpure [])))
noncomputable def F__law_face : FD := runB 4 3 g__law_face
theorem sc__law_face : FnScope ["worlds", "place", "struck", "bits"] ["worlds", "place", "struck"] (defScope (top 57)) := ⟨rfl, rfl, rfl, by decide +kernel, rfl, by decide +kernel, by decide +kernel⟩
theorem b__law_face (fa : Gs mg) (h__law_power : Cal P w K mg base kc 1 "_law_power" F__law_power) : Body P w K mg base kc 1 ["worlds", "place", "struck", "bits"] "_law_face" (defScope (top 57)) f (defBody (top 57)) g__law_face := fun cdv A outer s H E cl =>
  have hN := (sc__law_face).nd
  dss_one (ds_ret (de_cty c_tup rfl (by decide +kernel) rfl fa.n_tuple (dks_cons (dk_e (de_f (df_lc (own := [("bits", 3)]) rfl hN (di_range1 rfl fa.n_range (des_cons (de_cb c_len rfl (by decide +kernel) rfl fa.n_len (dks_cons (dk_var 0) (dks_nil))) (des_nil))) (blk_of ["worlds", "place", "struck", "bits"] (defScope (top 57)) rfl (by decide +kernel) (by decide +kernel) (by decide +kernel) (by decide +kernel)) (by decide) (fun _ _ _ _ _ => dg_nm 3 hN) (fun _ _ _ _ _ => dts_one (dt_cmp o_eq (dk_e (de_op o_mod (dk_e (de_op o_fdiv (dk_e (de_cty c_int rfl (by decide +kernel) rfl fa.n_int (dks_cons (dk_var 3) (dks_nil)))) (dk_e (de_call h__law_power (Cl.blk cl) (by decide) rfl (das_val (de_var 1) (das_nil)))))) (dk_e (de_int)))) (dk_var 2) rfl)) (fun _ _ _ _ _ => de_ix (dk_var 0) (dk_var 3))))) (dks_nil))))

noncomputable def g__law_answers : M Fl := dSeq (dMix [6, 7] (.val (dVar 2) :: .val (mbind (dCBf gList (dKs (dkVar 3) (mpure []))) (fun xs => mpure (.list xs))) :: [])) (dSeq (dSet 4 (dCall F_lot_worlds (.val (dVar 1) :: .val (dVar 6) :: .val (dVar 3) :: []))) (dSeq (dFor (.nm 5) [5, 9, 10, 8] (dRange1 (dEs (dCB gLen (dKs (dkVar 3) (mpure []))) (mpure []))) (dSeq (dMix [9, 10] (.val (dCall F__law_take (.io 0 :: .val (dCB gLen (dKs (dkVar 7) (mpure []))) :: [])) :: .val (dCall F__law_take (.io 0 :: .val (mpure (.int 2)) :: [])) :: [])) (dSeq (dSet 4 (dCall F__law_face (.val (dVar 4) :: .val (dVar 9) :: .val (dVar 10) :: []))) (dSeq (dSet 8 (dOp2 pGet (dkVar 7) (dkVar 9))) (dSeq (dSet 7 (dOp2 pAdd (dkE (dSl (dkVar 7) none (some (dVar 9)))) (dkE (dSl (dkVar 7) (some (dOp2 pAdd (dkVar 9) (dkE (mpure (.int 1))))) none)))) (dSeq (dIf (asB (dOp2 pEq (dkVar 10) (dkE (mpure (.int 1))))) (dSeq (dSet 6 (dCall F_less (.val (dVar 1) :: .val (dVar 6) :: .val (dTup (dEs (dVar 8) (mpure []))) :: []))) (dSetF 7 (dComp (.nm 11) [11] (dIterV (dkE (dVar 7))) (mpure true) (dOp2 pSub (dkVar 11) (dkE (dCB gInt (dKs (dkE (dOp2 pGt (dkVar 11) (dkVar 8))) (mpure [])))))))) (dNext)) (dIf (asB (dOp2 pNe (dkE (dCall F_lot_worlds (.val (dVar 1) :: .val (dVar 6) :: .val (dCB gTup (dKs (dkVar 7) (mpure []))) :: []))) (dkVar 4))) (dRet (mpure (.bool false))) (dNext)))))))) (dRet (mpure (.bool true)))))
noncomputable def F__law_answers : FD := runB 12 4 g__law_answers
theorem sc__law_answers : FnScope ["box", "desk", "history", "waiting", "worlds", "turn", "left", "numbers", "number", "place", "struck", "other"] ["box", "desk", "history", "waiting"] (defScope (top 58)) := ⟨rfl, rfl, rfl, by decide +kernel, rfl, by decide +kernel, by decide +kernel⟩
theorem b__law_answers (fa : Gs mg) (h_lot_worlds : Cal P w K mg base kc 5 "lot_worlds" F_lot_worlds) (h_less : Cal P w K mg base kc 5 "less" F_less) (h__law_face : Cal P w K mg base kc 2 "_law_face" F__law_face) (h__law_take : Cal P w K mg base kc 1 "_law_take" F__law_take) : Body P w K mg base kc 5 ["box", "desk", "history", "waiting", "worlds", "turn", "left", "numbers", "number", "place", "struck", "other"] "_law_answers" (defScope (top 58)) f (defBody (top 58)) g__law_answers := fun cdv A outer s H E cl =>
  have hN := (sc__law_answers).nd
  dss_cons (ds_par 6 7 rfl hN (dels_val (de_var 2) (dels_val (de_f (df_cty c_list rfl (by decide +kernel) rfl fa.n_list (dks_cons (dk_var 3) (dks_nil)))) (dels_nil))) rfl (by decide)) (dss_cons (ds_set 4 (de_call h_lot_worlds cl (by decide) rfl (das_val (de_var 1) (das_val (de_var 6) (das_val (de_var 3) (das_nil))))) hN) (dss_cons (by refine ds_for ?_ ?_ ?_ [5, 9, 10, 8] cl.po rfl; exact di_range1 rfl fa.n_range (des_cons (de_cb c_len rfl (by decide +kernel) rfl fa.n_len (dks_cons (dk_var 3) (dks_nil))) (des_nil)); exact dg_nm 5 hN; exact dss_cons (ds_par 9 10 rfl hN (dels_val (de_call h__law_take cl (by decide) rfl (das_io 0 (das_val (de_cb c_len rfl (by decide +kernel) rfl fa.n_len (dks_cons (dk_var 7) (dks_nil))) (das_nil)))) (dels_val (de_call h__law_take cl (by decide) rfl (das_io 0 (das_val (de_int) (das_nil)))) (dels_nil))) rfl (by decide)) (dss_cons (ds_set 4 (de_call h__law_face cl (by decide) rfl (das_val (de_var 4) (das_val (de_var 9) (das_val (de_var 10) (das_nil))))) hN) (dss_cons (ds_set 8 (de_ix (dk_var 7) (dk_var 9)) hN) (dss_cons (ds_set 7 (de_op o_add (dk_e (de_sl (dk_var 7) dpo_none (dpo_some (de_var 9)))) (dk_e (de_sl (dk_var 7) (dpo_some (de_op o_add (dk_var 9) (dk_e (de_int)))) dpo_none))) hN) (dss_cons (ds_if (dt_cmp o_eq (dk_var 10) (dk_e (de_int)) rfl) (dss_cons (ds_set 6 (de_call h_less cl (by decide) rfl (das_val (de_var 1) (das_val (de_var 6) (das_val (de_tup (des_cons (de_var 8) (des_nil))) (das_nil))))) hN) (dss_one (ds_setLc (own := [("other", 11)]) 7 rfl hN rfl rfl rfl (di_val (dk_e (de_var 7))) (blk_of ["box", "desk", "history", "waiting", "worlds", "turn", "left", "numbers", "number", "place", "struck", "other"] (defScope (top 58)) rfl (by decide +kernel) (by decide +kernel) (by decide +kernel) (by decide +kernel)) (by decide) (fun _ _ _ _ _ => dg_nm 11 hN) (fun _ _ _ _ _ => dts_nil) (fun _ _ _ _ _ => de_op o_sub (dk_var 11) (dk_e (de_cty c_int rfl (by decide +kernel) rfl fa.n_int (dks_cons (dk_e (de_cmp o_gt (dk_var 11) (dk_var 8) rfl)) (dks_nil)))))))) (dss_nil)) (dss_one (ds_if (dt_cmp o_ne (dk_e (de_call h_lot_worlds cl (by decide) rfl (das_val (de_var 1) (das_val (de_var 6) (das_val (de_cty c_tup rfl (by decide +kernel) rfl fa.n_tuple (dks_cons (dk_var 7) (dks_nil))) (das_nil)))))) (dk_var 4) rfl) (dss_one (ds_ret (de_bl))) (dss_nil)))))))) (dss_one (ds_ret (de_bl)))))

noncomputable def g_law : M Fl := dSeq (dFor (.nm 1) [1, 2, 11, 12, 13, 3, 4, 5, 6, 7, 8, 9] (dRange1 (dEs (mpure (.int 4)) (mpure []))) (dSeq (dSetF 2 (dCallF F__law_box (.val (dVar 0) :: .val (dVar 1) :: []))) (dSeq (dAsg (.tup (.nm 11 :: .nm 12 :: .nm 13 :: [])) (dCall F__law_desk (.io 2 :: .val (mpure (.int 3)) :: []))) (dSeq (dSet 3 (mbind (dEs (dVar 11) (dEs (dVar 12) (dEs (dVar 13) (mpure [])))) (dNew "Desk" F_Desk___init__))) (dSeq (dSet 4 (dCall F__law_things (.io 2 :: .val (dVar 11) :: .val (dOp2 pAdd (dkE (mpure (.int 1))) (dkE (dCall F__law_take (.io 2 :: .val (mpure (.int 5)) :: [])))) :: []))) (dSeq (dSet 5 (dCall F__law_tries (.io 2 :: .val (dVar 12) :: .val (dVar 4) :: .val (dCall F__law_take (.io 2 :: .val (mpure (.int 10)) :: [])) :: []))) (dSeq (dSet 6 (dCall F__law_tries (.io 2 :: .val (dVar 12) :: .val (dVar 4) :: .val (dCall F__law_take (.io 2 :: .val (mpure (.int 4)) :: [])) :: []))) (dSeq (dSet 7 (dSl (dkE (dCall F__law_lot (.io 2 :: .val (dCB gLen (dKs (dkVar 5) (mpure []))) :: []))) none (some (mpure (.int 4))))) (dSeq (dSet 8 (dCall F_lot_worlds (.val (dVar 3) :: .val (dTup (dEs (dVar 4) (dEs (dVar 5) (mpure [])))) :: .val (dVar 7) :: []))) (dSeq (dIf (asB (dOp2 pNe (dkE (dCB gRepr (dKs (dkVar 8) (mpure [])))) (dkE (dCB gRepr (dKs (dkE (dCall F__law_cube (.val (dVar 12) :: .val (dVar 4) :: .val (dVar 5) :: .val (dVar 7) :: []))) (mpure [])))))) (dRet (mpure (.bool false))) (dNext)) (dSeq (dSetF 9 (dCBf gList (dKs (dkVar 8) (mpure [])))) (dSeq (dFor (.nm 10) [10] (dIterV (dkE (dVar 6))) (dSetF 9 (dComp (.nm 14) [14] (dIterV (dkE (dVar 9))) (mpure true) (dOp2 pGet (dkE (dCall F__law_tried (.val (dVar 12) :: .val (dVar 14) :: .val (dVar 10) :: []))) (dkE (mpure (.int 0))))))) (dSeq (dIf (asB (dOp2 pNe (dkE (dCall F_lot_worlds (.val (dVar 3) :: .val (dTup (dEs (dVar 4) (dEs (dOp2 pAdd (dkVar 5) (dkVar 6)) (mpure [])))) :: .val (mbind (dCBf gList (dKs (dkVar 7) (mpure []))) (fun xs => mpure (.list xs))) :: []))) (dkE (dCB gTup (dKs (dkVar 9) (mpure [])))))) (dRet (mpure (.bool false))) (dNext)) (dIf (tNotB (dTru (dkE (dCall F__law_answers (.io 2 :: .val (dVar 3) :: .val (dTup (dEs (dVar 4) (dEs (dOp2 pAdd (dkVar 5) (dkVar 6)) (mpure [])))) :: .val (dVar 7) :: []))))) (dRet (mpure (.bool false))) (dNext))))))))))))))) (dRet (mpure (.bool true)))
noncomputable def F_law : FD := runB 15 1 g_law
theorem sc_law : FnScope ["script", "k", "box", "desk", "things", "tries", "more", "waiting", "worlds", "behind", "one", "kinds", "tools", "repairs", "world"] ["script"] (defScope (top 59)) := ⟨rfl, rfl, rfl, by decide +kernel, rfl, by decide +kernel, by decide +kernel⟩
theorem b_law (fa : Gs mg) (h__law_answers : Cal P w K mg base kc 6 "_law_answers" F__law_answers) (h_lot_worlds : Cal P w K mg base kc 5 "lot_worlds" F_lot_worlds) (h__law_tried : Cal P w K mg base kc 1 "_law_tried" F__law_tried) (h__law_cube : Cal P w K mg base kc 3 "_law_cube" F__law_cube) (h__law_lot : Cal P w K mg base kc 2 "_law_lot" F__law_lot) (h__law_take : Cal P w K mg base kc 1 "_law_take" F__law_take) (h__law_tries : Cal P w K mg base kc 4 "_law_tries" F__law_tries) (h__law_things : Cal P w K mg base kc 2 "_law_things" F__law_things) (h__law_desk : Cal P w K mg base kc 4 "_law_desk" F__law_desk) (h__law_box : Cal P w K mg base kc 1 "_law_box" F__law_box) (n_Desk : CalC P w K mg base kc 7 "Desk" F_Desk___init__) : Body P w K mg base kc 8 ["script", "k", "box", "desk", "things", "tries", "more", "waiting", "worlds", "behind", "one", "kinds", "tools", "repairs", "world"] "law" (defScope (top 59)) f (defBody (top 59)) g_law := fun cdv A outer s H E cl =>
  have hN := (sc_law).nd
  dss_cons (by refine ds_for ?_ ?_ ?_ [1, 2, 11, 12, 13, 3, 4, 5, 6, 7, 8, 9] cl.po rfl; exact di_range1 rfl fa.n_range (des_cons (de_int) (des_nil)); exact dg_nm 1 hN; exact dss_cons (ds_setF 2 (df_call h__law_box cl (by decide) rfl (das_val (de_var 0) (das_val (de_var 1) (das_nil)))) hN) (dss_cons (ds_asg (de_call h__law_desk cl (by decide) rfl (das_io 2 (das_val (de_int) (das_nil)))) (dg_tup rfl (dgs_cons (dg_nm 11 hN) (dgs_cons (dg_nm 12 hN) (dgs_cons (dg_nm 13 hN) (dgs_nil)))))) (dss_cons (ds_set 3 (de_new n_Desk cl (by decide) rfl (des_cons (de_var 11) (des_cons (de_var 12) (des_cons (de_var 13) (des_nil))))) hN) (dss_cons (ds_set 4 (de_call h__law_things cl (by decide) rfl (das_io 2 (das_val (de_var 11) (das_val (de_op o_add (dk_e (de_int)) (dk_e (de_call h__law_take cl (by decide) rfl (das_io 2 (das_val (de_int) (das_nil)))))) (das_nil))))) hN) (dss_cons (ds_set 5 (de_call h__law_tries cl (by decide) rfl (das_io 2 (das_val (de_var 12) (das_val (de_var 4) (das_val (de_call h__law_take cl (by decide) rfl (das_io 2 (das_val (de_int) (das_nil)))) (das_nil)))))) hN) (dss_cons (ds_set 6 (de_call h__law_tries cl (by decide) rfl (das_io 2 (das_val (de_var 12) (das_val (de_var 4) (das_val (de_call h__law_take cl (by decide) rfl (das_io 2 (das_val (de_int) (das_nil)))) (das_nil)))))) hN) (dss_cons (ds_set 7 (de_sl (dk_e (de_call h__law_lot cl (by decide) rfl (das_io 2 (das_val (de_cb c_len rfl (by decide +kernel) rfl fa.n_len (dks_cons (dk_var 5) (dks_nil))) (das_nil))))) dpo_none (dpo_some (de_int))) hN) (dss_cons (ds_set 8 (de_call h_lot_worlds cl (by decide) rfl (das_val (de_var 3) (das_val (de_tup (des_cons (de_var 4) (des_cons (de_var 5) (des_nil)))) (das_val (de_var 7) (das_nil))))) hN) (dss_cons (ds_if (dt_cmp o_ne (dk_e (de_cb (c_repr cl.gu (hu190 cl)) rfl (by decide +kernel) rfl fa.n_repr (dks_cons (dk_var 8) (dks_nil)))) (dk_e (de_cb (c_repr cl.gu (hu190 cl)) rfl (by decide +kernel) rfl fa.n_repr (dks_cons (dk_e (de_call h__law_cube cl (by decide) rfl (das_val (de_var 12) (das_val (de_var 4) (das_val (de_var 5) (das_val (de_var 7) (das_nil))))))) (dks_nil)))) rfl) (dss_one (ds_ret (de_bl))) (dss_nil)) (dss_cons (ds_setF 9 (df_cty c_list rfl (by decide +kernel) rfl fa.n_list (dks_cons (dk_var 8) (dks_nil))) hN) (dss_cons (by refine ds_for ?_ ?_ ?_ [10] cl.po rfl; exact di_val (dk_e (de_var 6)); exact dg_nm 10 hN; exact dss_one (ds_setLc (own := [("world", 14)]) 9 rfl hN rfl rfl rfl (di_val (dk_e (de_var 9))) (blk_of ["script", "k", "box", "desk", "things", "tries", "more", "waiting", "worlds", "behind", "one", "kinds", "tools", "repairs", "world"] (defScope (top 59)) rfl (by decide +kernel) (by decide +kernel) (by decide +kernel) (by decide +kernel)) (by decide) (fun _ _ _ _ _ => dg_nm 14 hN) (fun _ _ _ _ _ => dts_nil) (fun _ _ _ _ _ => de_ix (dk_e (de_call h__law_tried (Cl.blk cl) (by decide) rfl (das_val (de_var 12) (das_val (de_var 14) (das_val (de_var 10) (das_nil)))))) (dk_e (de_int))))) (dss_cons (ds_if (dt_cmp o_ne (dk_e (de_call h_lot_worlds cl (by decide) rfl (das_val (de_var 3) (das_val (de_tup (des_cons (de_var 4) (des_cons (de_op o_add (dk_var 5) (dk_var 6)) (des_nil)))) (das_val (de_f (df_cty c_list rfl (by decide +kernel) rfl fa.n_list (dks_cons (dk_var 7) (dks_nil)))) (das_nil)))))) (dk_e (de_cty c_tup rfl (by decide +kernel) rfl fa.n_tuple (dks_cons (dk_var 9) (dks_nil)))) rfl) (dss_one (ds_ret (de_bl))) (dss_nil)) (dss_one (ds_if (dt_not (dt_tru (dk_e (de_call h__law_answers cl (by decide) rfl (das_io 2 (das_val (de_var 3) (das_val (de_tup (des_cons (de_var 4) (des_cons (de_op o_add (dk_var 5) (dk_var 6)) (des_nil)))) (das_val (de_var 7) (das_nil))))))))) (dss_one (ds_ret (de_bl))) (dss_nil))))))))))))))) (dss_one (ds_ret (de_bl)))

end
end K11

set_option Elab.async false
set_option linter.all false
set_option maxRecDepth 100000
set_option maxHeartbeats 4000000
namespace K11
open PySem PySem.Spec Den
open PyProof.Rows L2

/-! ### words -/
def intB : PD → Bool
  | .int _ => true
  | _ => false
theorem is_integer_eq {n : Nat} {d : PD} (h : fine n d = true) (ms : List MC) : F_is_integer [.val d] ms = (.ret (.bool (intB d)), ms) := by
  refine runB_eq rfl ?_
  simp [rho0, slotOf, look, ixOf, getC, setC, getM, setM, getL, MC.look, MC.pd, killS, turnQ, lkOf, outB, iosOf, arsOf, wp_tail, mAppend, mExtend, mPop, wp_dFor, wp_dComp, wp_dIterV, wp_dSeqs, slOkN, lendR, lendB, unS, compEnd, enumD_eq, g_is_integer]
  cases d <;> simp_all [rho0, slotOf, look, ixOf, getC, setC, getM, setM, getL, MC.look, MC.pd, killS, turnQ, lkOf, outB, iosOf, arsOf, wp_tail, mAppend, mExtend, mPop, wp_dFor, wp_dComp, wp_dIterV, wp_dSeqs, slOkN, lendR, lendB, unS, compEnd, enumD_eq, fine, gIsi, tyD, isaT, tru, intB] <;> decide
def belowB (d : PD) (n : Int) : Bool := match d with
  | .int i => decide (0 ≤ i) && decide (i < n)
  | _ => false
theorem is_below_eq {m : Nat} {d : PD} (h : fine m d = true) (n : Int) (ms : List MC) : F_is_below [.val d, .val (.int n)] ms = (.ret (.bool (belowB d n)), ms) := by
  refine runB_eq rfl ?_
  simp [rho0, slotOf, look, ixOf, getC, setC, getM, setM, getL, MC.look, MC.pd, killS, turnQ, lkOf, outB, iosOf, arsOf, wp_tail, mAppend, mExtend, mPop, wp_dFor, wp_dComp, wp_dIterV, wp_dSeqs, slOkN, lendR, lendB, unS, compEnd, enumD_eq, g_is_below, is_integer_eq h, tru]
  cases d <;> simp_all [rho0, slotOf, look, ixOf, getC, setC, getM, setM, getL, MC.look, MC.pd, killS, turnQ, lkOf, outB, iosOf, arsOf, wp_tail, mAppend, mExtend, mPop, wp_dFor, wp_dComp, wp_dIterV, wp_dSeqs, slOkN, lendR, lendB, unS, compEnd, enumD_eq, fine, intB, pLe, pLt, belowB]
def seqB (d : PD) : Bool := (seqOf d).isSome
theorem is_sequence_eq {n : Nat} {d : PD} (h : fine n d = true) (ms : List MC) : F_is_sequence [.val d] ms = (.ret (.bool (seqB d)), ms) := by
  refine runB_eq rfl ?_
  simp [rho0, slotOf, look, ixOf, getC, setC, getM, setM, getL, MC.look, MC.pd, killS, turnQ, lkOf, outB, iosOf, arsOf, wp_tail, mAppend, mExtend, mPop, wp_dFor, wp_dComp, wp_dIterV, wp_dSeqs, slOkN, lendR, lendB, unS, compEnd, enumD_eq, g_is_sequence]
  cases d <;> simp_all [rho0, slotOf, look, ixOf, getC, setC, getM, setM, getL, MC.look, MC.pd, killS, turnQ, lkOf, outB, iosOf, arsOf, wp_tail, mAppend, mExtend, mPop, wp_dFor, wp_dComp, wp_dIterV, wp_dSeqs, slOkN, lendR, lendB, unS, compEnd, enumD_eq, fine, gIsi, tyD, isaT, seqB] <;> decide
def lenB (d : PD) (n : Int) : Bool := match seqOf d with
  | some ds => decide ((ds.length : Int) = n)
  | none => false
theorem is_row_eq {m : Nat} {d : PD} (h : fine m d = true) (n : Int) (ms : List MC) : F_is_row [.val d, .val (.int n)] ms = (.ret (.bool (lenB d n)), ms) := by
  refine runB_eq rfl ?_
  simp [rho0, slotOf, look, ixOf, getC, setC, getM, setM, getL, MC.look, MC.pd, killS, turnQ, lkOf, outB, iosOf, arsOf, wp_tail, mAppend, mExtend, mPop, wp_dFor, wp_dComp, wp_dIterV, wp_dSeqs, slOkN, lendR, lendB, unS, compEnd, enumD_eq, g_is_row, is_sequence_eq h, tru]
  cases d <;> simp_all [rho0, slotOf, look, ixOf, getC, setC, getM, setM, getL, MC.look, MC.pd, killS, turnQ, lkOf, outB, iosOf, arsOf, wp_tail, mAppend, mExtend, mPop, wp_dFor, wp_dComp, wp_dIterV, wp_dSeqs, slOkN, lendR, lendB, unS, compEnd, enumD_eq, fine, seqB, gLen, lenB]
def letters : Str := "abcdefghijklmnopqrstuvwxyz"
def isLet (c : Nat) : Bool := !(Builtin.Str.occurrences letters ⟨#[c]⟩ 0 letters.length 1).isEmpty
def nameB (z : Str) : Bool := decide (1 ≤ z.length) && decide (z.length ≤ 8) && z.cps.toList.all isLet
def nameD : PD → Bool
  | .str z => nameB z
  | _ => false
theorem fine_str {m : Nat} {z : Str} (h : fine m (.str z) = true) : z.length ≤ sizeLine ∧ PyData.strOk z = true := by
  cases m <;> simp [fine] at h <;> exact ⟨Nat.le_trans h.1 (by decide), h.2⟩
theorem chrs_len (z : Str) : (chrs z).length = z.length := by
  unfold chrs
  rw [List.length_map, Array.length_toList]
  rfl
theorem is_name_eq {m : Nat} {d : PD} (h : fine m d = true) (ms : List MC) : F_is_name [.val d] ms = (.ret (.bool (nameD d)), ms) := by
  refine runB_eq rfl ?_
  simp [rho0, slotOf, look, ixOf, getC, setC, getM, setM, getL, MC.look, MC.pd, killS, turnQ, lkOf, outB, iosOf, arsOf, wp_tail, mAppend, mExtend, mPop, wp_dFor, wp_dComp, wp_dIterV, wp_dSeqs, slOkN, lendR, lendB, unS, compEnd, enumD_eq, g_is_name]
  cases d with
  | str z =>
    obtain ⟨hz, _⟩ := fine_str h
    simp [rho0, slotOf, look, ixOf, getC, setC, getM, setM, getL, MC.look, MC.pd, killS, turnQ, lkOf, outB, iosOf, arsOf, wp_tail, mAppend, mExtend, mPop, wp_dFor, wp_dComp, wp_dIterV, wp_dSeqs, slOkN, lendR, lendB, unS, compEnd, enumD_eq, gIsi, tyD, isaT, gLen_s, hz, nameD]
    by_cases h1 : 1 ≤ z.length
    · by_cases h2 : z.length ≤ 8
      · have h1' : (1 : Int) ≤ z.length := by omega
        have h2' : (z.length : Int) ≤ 8 := by omega
        rw [if_pos h1', if_pos h2']
        refine ⟨by rw [chrs_len]; exact hz, ?_⟩
        refine wp_compMap (fun d => .bool (match d with | .str y => !(Builtin.Str.occurrences letters y 0 letters.length 1).isEmpty | _ => false)) _ trivial (fun d hd => ?_) ?_
        · simp [chrs] at hd
          obtain ⟨c, _, rfl⟩ := hd
          simp [rho0, slotOf, look, ixOf, getC, setC, getM, setM, getL, MC.look, MC.pd, killS, turnQ, lkOf, outB, iosOf, arsOf, wp_tail, mAppend, mExtend, mPop, wp_dFor, wp_dComp, wp_dIterV, wp_dSeqs, slOkN, lendR, lendB, unS, compEnd, enumD_eq, pIn, letters]
        · have e : gAll [.list ((chrs z).map (fun d => PyData.bool (match d with | .str y => !(Builtin.Str.occurrences letters y 0 letters.length 1).isEmpty | _ => false)))] = some (.bool (z.cps.toList.all isLet)) := by
            unfold chrs
            rw [List.map_map]
            exact gAll_map isLet _
          rw [e]
          unfold nameB
          simp [h1, h2]
      · have h1' : (1 : Int) ≤ z.length := by omega
        have h2' : ¬ (z.length : Int) ≤ 8 := by omega
        rw [if_pos h1', if_neg h2']
        unfold nameB
        simp [h2]
    · have h1' : ¬ (1 : Int) ≤ z.length := by omega
      rw [if_neg h1']
      unfold nameB
      simp [h1]
  | _ => cases m <;> simp_all [rho0, slotOf, look, ixOf, getC, setC, getM, setM, getL, MC.look, MC.pd, killS, turnQ, lkOf, outB, iosOf, arsOf, wp_tail, mAppend, mExtend, mPop, wp_dFor, wp_dComp, wp_dIterV, wp_dSeqs, slOkN, lendR, lendB, unS, compEnd, enumD_eq, fine, gIsi, tyD, isaT, nameD]
end K11

set_option Elab.async false
set_option linter.all false
set_option maxRecDepth 100000
set_option maxHeartbeats 4000000
namespace K11
open PySem PySem.Spec Den
open PyProof.Rows L2

/-! ### rows of so many things -/
theorem lenB_iff {v : PD} {n : Int} : lenB v n = true ↔ ∃ ds, seqOf v = some ds ∧ (ds.length : Int) = n := by
  unfold lenB
  cases seqOf v <;> simp
theorem seq_or {v : PD} {ds : List PD} (h : seqOf v = some ds) : v = .list ds ∨ v = .tuple ds := by
  cases v <;> simp [seqOf] at h <;> simp [h]
theorem two {v : PD} (h : lenB v 2 = true) : ∃ a b, v = .list [a, b] ∨ v = .tuple [a, b] := by
  obtain ⟨ds, h1, h2⟩ := lenB_iff.mp h
  match ds, h2 with
  | [a, b], _ => exact ⟨a, b, seq_or h1⟩
theorem three {v : PD} (h : lenB v 3 = true) : ∃ a b c, v = .list [a, b, c] ∨ v = .tuple [a, b, c] := by
  obtain ⟨ds, h1, h2⟩ := lenB_iff.mp h
  match ds, h2 with
  | [a, b, c], _ => exact ⟨a, b, c, seq_or h1⟩
theorem four {v : PD} (h : lenB v 4 = true) : ∃ a b c d, v = .list [a, b, c, d] ∨ v = .tuple [a, b, c, d] := by
  obtain ⟨ds, h1, h2⟩ := lenB_iff.mp h
  match ds, h2 with
  | [a, b, c, d], _ => exact ⟨a, b, c, d, seq_or h1⟩
def Fine (d : PD) : Prop := ∃ m, fine m d = true
theorem fine_items {d : PD} {ds : List PD} (h : Fine d) (e : seqOf d = some ds) : ds.length ≤ 1000 ∧ ∀ x ∈ ds, Fine x := by
  obtain ⟨m, h⟩ := h
  rcases seq_or e with rfl | rfl <;> cases m <;> simp [fine] at h <;> exact ⟨h.1, fun x hx => ⟨_, h.2 x hx⟩⟩
/-! ### kinds -/
abbrev Kd := Str × Nat
def kP (k : Kd) : PD := .tuple [.str k.1, .int k.2]
def kindO (v : PD) (names : List Str) : Option Kd := match seqOf v with
  | some [.str a, .int n] => if nameB a = true ∧ a ∉ names ∧ 1 ≤ n ∧ n ≤ 6 then some (a, n.toNat) else none
  | _ => none
theorem pIn_names {a : Str} {names : List Str} (ha : PyData.strOk a = true) (hn : ∀ x ∈ names, PyData.strOk x = true) : pIn (.str a) (.list (names.map PyData.str)) = some (.bool (decide (a ∈ names))) := by
  have h1 : okD (.str a) = true := (okN_str (n := 0) (by simpa [PyData.canLay0] using ha)).ok
  have h2 : okD (.list (names.map PyData.str)) = true := (okN_lst (n := 0) fun d hd => by
    obtain ⟨x, hx, rfl⟩ := List.mem_map.mp hd
    exact okN_str (by simpa [PyData.canLay0] using hn x hx)).ok
  show (if okD (.str a) = true ∧ okD (.list (names.map PyData.str)) = true then some (PyData.bool _) else none) = _
  rw [if_pos ⟨h1, h2⟩]
  congr 2
  rw [List.any_map]
  rw [Bool.eq_iff_iff]
  simp [PyData.eqv, List.any_eq_true]
theorem is_kind_eq {v : PD} (h : Fine v) {names : List Str} (hn : ∀ x ∈ names, PyData.strOk x = true) (ms : List MC) : F_is_kind [.val v, .val (.list (names.map PyData.str))] ms = (.ret (.bool (kindO v names).isSome), ms) := by
  have h0 := h
  obtain ⟨m, hm⟩ := h
  refine runB_eq rfl ?_
  by_cases hl : lenB v 2 = true
  · obtain ⟨a, b, hv⟩ := two hl
    have hs : seqOf v = some [a, b] := by rcases hv with rfl | rfl <;> rfl
    obtain ⟨_, hi⟩ := fine_items h0 hs
    obtain ⟨ma, ha⟩ := hi a (by simp)
    obtain ⟨mb, hb⟩ := hi b (by simp)
    have g0 : pGet v (.int 0) = some a := by rcases hv with rfl | rfl <;> simp
    have g1 : pGet v (.int 1) = some b := by rcases hv with rfl | rfl <;> simp
    unfold kindO
    rw [hs]
    simp [rho0, slotOf, look, ixOf, getC, setC, getM, setM, getL, MC.look, MC.pd, killS, turnQ, lkOf, outB, iosOf, arsOf, wp_tail, mAppend, mExtend, mPop, wp_dFor, wp_dComp, wp_dIterV, wp_dSeqs, slOkN, lendR, lendB, unS, compEnd, enumD_eq, g_is_kind, is_row_eq hm, hl, g0, g1, is_name_eq ha, is_integer_eq hb]
    cases a with
    | str z =>
      simp [nameD, pIn_names (fine_str ha).2 hn]
      by_cases hz : nameB z = true
      · by_cases hin : z ∈ names
        · simp [hz, hin]; cases b <;> simp [hin]
        · simp [hz, hin]
          cases b with
          | int i =>
            by_cases h1 : 1 ≤ i
            · by_cases h2 : i ≤ 6 <;> simp [intB, hz, hin, h1, h2]
            · simp [intB, hz, hin, h1]
          | _ => simp [intB]
      · simp [hz]; cases b <;> simp [hz]
    | _ => simp [nameD]
  · have e : kindO v names = none := by
      unfold kindO
      split
      · rename_i a n hs
        exact absurd (lenB_iff.mpr ⟨_, hs, rfl⟩) hl
      · rfl
    rw [e]
    simp [rho0, slotOf, look, ixOf, getC, setC, getM, setM, getL, MC.look, MC.pd, killS, turnQ, lkOf, outB, iosOf, arsOf, wp_tail, mAppend, mExtend, mPop, wp_dFor, wp_dComp, wp_dIterV, wp_dSeqs, slOkN, lendR, lendB, unS, compEnd, enumD_eq, g_is_kind, is_row_eq hm, hl]
def errD (x : Str) (at_ : Int) : Xc := ⟨"InvalidDesk", .tuple [.str x, .int at_]⟩
def stepK (acc : List Kd) (d : PD) : Nx (List Kd) := match d with
  | .tuple [.int at_, v] => (match kindO v (acc.map (·.1)) with
    | some k => .go (acc ++ [k])
    | none => .ex (errD "kinds" at_))
  | _ => .ex (errD "kinds" 0)
theorem stepK_no (a : List Kd) (d : PD) (fl : Fl) : stepK a d ≠ .out fl := by
  unfold stepK
  split
  · split <;> simp
  · simp
/-- what comes of kinds -/
def kindsN (v : PD) : Nx (List Kd) := match seqOf v with
  | some ds => if 1 ≤ ds.length ∧ ds.length ≤ 6 then foldN stepK [] (enF 0 ds) else .ex (errD "kinds" (-1))
  | none => .ex (errD "kinds" (-1))
def ksP (ks : List Kd) : PD := .tuple (ks.map kP)
theorem kindO_str {v : PD} (h : Fine v) {names : List Str} {k : Kd} (e : kindO v names = some k) : PyData.strOk k.1 = true := by
  unfold kindO at e
  split at e
  · rename_i a n hs
    split at e
    · cases e
      obtain ⟨m, hm⟩ := (fine_items h hs).2 (.str a) (by simp)
      exact (fine_str hm).2
    · cases e
  · cases e
theorem need_kinds_eq {v : PD} (h : Fine v) : F_need_kinds [.val v] [] = (rtN ksP (kindsN v), []) := by
  have h0 := h
  obtain ⟨m, hm⟩ := h
  refine runB_eq rfl ?_
  unfold kindsN
  cases hs : seqOf v with
  | none =>
    have e : seqB v = false := by unfold seqB; rw [hs]; rfl
    simp [rho0, slotOf, look, ixOf, getC, setC, getM, setM, getL, MC.look, MC.pd, killS, turnQ, lkOf, outB, iosOf, arsOf, wp_tail, mAppend, mExtend, mPop, wp_dFor, wp_dComp, wp_dIterV, wp_dSeqs, slOkN, lendR, lendB, unS, compEnd, enumD_eq, g_need_kinds, is_sequence_eq hm, e, rtN, errD]
  | some ds =>
    have e : seqB v = true := by unfold seqB; rw [hs]; rfl
    have gl : gLen [v] = some (.int ds.length) := by rcases seq_or hs with rfl | rfl <;> rfl
    simp [rho0, slotOf, look, ixOf, getC, setC, getM, setM, getL, MC.look, MC.pd, killS, turnQ, lkOf, outB, iosOf, arsOf, wp_tail, mAppend, mExtend, mPop, wp_dFor, wp_dComp, wp_dIterV, wp_dSeqs, slOkN, lendR, lendB, unS, compEnd, enumD_eq, g_need_kinds, is_sequence_eq hm, e, gl]
    by_cases h1 : 1 ≤ ds.length
    · by_cases h2 : ds.length ≤ 6
      · have h1' : (1 : Int) ≤ ds.length := by omega
        have h2' : (ds.length : Int) ≤ 6 := by omega
        rw [if_pos h1', if_pos h2']
        simp [hs]
        refine wp_forN (st := fun acc => ⟨[.val v, .own (.lst (acc.map kP)), .no, .no, .no, .no], []⟩) stepK (fun n acc => (∀ k ∈ acc, PyData.strOk k.1 = true) ∧ acc.length + n ≤ 1000) [] ?hok _ [] ?turn ?inv ?fin
        case hok => exact fun _ _ _ => trivial
        case turn =>
          intro n acc inv d hd
          obtain ⟨i, x, rfl, hx⟩ := enF_mem hd
          have fx := (fine_items h0 hs).2 x hx
          simp [rho0, slotOf, look, ixOf, getC, setC, getM, setM, getL, MC.look, MC.pd, killS, turnQ, lkOf, outB, iosOf, arsOf, wp_tail, mAppend, mExtend, mPop, wp_dFor, wp_dComp, wp_dIterV, wp_dSeqs, slOkN, lendR, lendB, unS, compEnd, enumD_eq]
          refine ⟨Nat.le_trans (Nat.le_of_add_right_le inv.2) (by decide), ?_⟩
          refine wp_compMap (fun d => match d with | .tuple [a, _] => a | _ => .none) _ (by simp) (fun d hd => ?_) ?_
          · obtain ⟨k, hk, rfl⟩ := List.mem_map.mp hd
            simp [kP, rho0, slotOf, look, ixOf, getC, setC, getM, setM, getL, MC.look, MC.pd, killS, turnQ, lkOf, outB, iosOf, arsOf, wp_tail, mAppend, mExtend, mPop, wp_dFor, wp_dComp, wp_dIterV, wp_dSeqs, slOkN, lendR, lendB, unS, compEnd, enumD_eq]
          · have e : (acc.map kP).map (fun d => match d with | .tuple [a, _] => a | _ => .none) = (acc.map (·.1)).map PyData.str := by simp [kP]
            rw [e]
            simp [-List.map_map, rho0, slotOf, look, ixOf, getC, setC, getM, setM, getL, MC.look, MC.pd, killS, turnQ, lkOf, outB, iosOf, arsOf, wp_tail, mAppend, mExtend, mPop, wp_dFor, wp_dComp, wp_dIterV, wp_dSeqs, slOkN, lendR, lendB, unS, compEnd, enumD_eq, is_kind_eq fx (names := acc.map (·.1)) (by simpa using inv.1)]
            unfold stepK
            cases hk : kindO x (acc.map (·.1)) with
            | none => simp [hk, errD]
            | some k =>
              obtain ⟨n', c⟩ := k
              have hlt : acc.length < 10000000 := by omega
              have hab : pGet x (.int 0) = some (.str n') ∧ pGet x (.int 1) = some (.int c) ∧ PyData.strOk n' = true := by
                have z := kindO_str fx hk
                unfold kindO at hk
                split at hk
                · rename_i a b hs
                  split at hk
                  · rename_i hc
                    cases hk
                    have : ((b.toNat : Nat) : Int) = b := by omega
                    rcases seq_or hs with rfl | rfl <;> simp [this] <;> exact z
                  · cases hk
                · cases hk
              simp [hk, rho0, slotOf, look, ixOf, getC, setC, getM, setM, getL, MC.look, MC.pd, killS, turnQ, lkOf, outB, iosOf, arsOf, wp_tail, mAppend, mExtend, mPop, wp_dFor, wp_dComp, wp_dIterV, wp_dSeqs, slOkN, lendR, lendB, unS, compEnd, enumD_eq, hab.1, hab.2.1, hlt, kP]
              refine ⟨fun a b hh => hh.elim (fun z => inv.1 _ z) fun z => z.1 ▸ hab.2.2, by omega⟩
        case inv => exact ⟨by simp, by simp; omega⟩
        case fin =>
          simp [rho0, slotOf, look, ixOf, getC, setC, getM, setM, getL, MC.look, MC.pd, killS, turnQ, lkOf, outB, iosOf, arsOf, wp_tail, mAppend, mExtend, mPop, wp_dFor, wp_dComp, wp_dIterV, wp_dSeqs, slOkN, lendR, lendB, unS, compEnd, enumD_eq, h1, h2]
          unfold ksP
          cases hf : foldN stepK [] (enF 0 ds) with
          | go a' => intro _ _; rfl
          | out fl => exact absurd hf (foldN_no stepK_no _ _ _)
          | ex x => intro ρ' h; exact ⟨rfl, h⟩
      · have h1' : (1 : Int) ≤ ds.length := by omega
        have h2' : ¬ (ds.length : Int) ≤ 6 := by omega
        rw [if_pos h1', if_neg h2']
        simp [h1, h2, rtN, errD]
    · have h1' : ¬ (1 : Int) ≤ ds.length := by omega
      rw [if_neg h1']
      simp [h1, rtN, errD]
end K11

set_option Elab.async false
set_option linter.all false
set_option maxRecDepth 100000
set_option maxHeartbeats 4000000
namespace K11
open PySem PySem.Spec Den
open PyProof.Rows L2

/-! ### numbers below limits -/
def nP (n : Nat) : PD := .int n
def natO (d : PD) (lim : Nat) : Option Nat := match d with
  | .int i => if 0 ≤ i ∧ i < lim then some i.toNat else none
  | _ => none
theorem belowB_nat (d : PD) (lim : Nat) : belowB d lim = (natO d lim).isSome := by
  unfold belowB natO
  cases d with
  | int i => by_cases h1 : 0 ≤ i <;> by_cases h2 : i < lim <;> simp [h1, h2]
  | _ => rfl
theorem natO_eq {d : PD} {lim n : Nat} (h : natO d lim = some n) : d = nP n ∧ n < lim := by
  unfold natO at h
  split at h
  · split at h
    · cases h
      rename_i i hc
      exact ⟨by unfold nP; congr 1; omega, by omega⟩
    · cases h
  · cases h
theorem natO_nP {n lim : Nat} (h : n < lim) : natO (nP n) lim = some n := by
  unfold natO nP
  simp only
  rw [if_pos ⟨by omega, by omega⟩]
  simp
def natsO : List Nat → List PD → Option (List Nat)
  | [], [] => some []
  | l :: ls, d :: ds => (natO d l).bind fun n => (natsO ls ds).map (n :: ·)
  | _, _ => none
theorem natsO_eq : ∀ {ls : List Nat} {ds : List PD} {ns : List Nat}, natsO ls ds = some ns → ds = ns.map nP ∧ ns.length = ls.length ∧ ∀ i n : Nat, ns[i]? = some n → ∃ l : Nat, ls[i]? = some l ∧ n < l
  | [], [], ns, h => by cases h; simp
  | l :: ls, d :: ds, ns, h => by
    unfold natsO at h
    cases h1 : natO d l with
    | none => rw [h1] at h; cases h
    | some n =>
      rw [h1, Option.bind_some] at h
      cases h2 : natsO ls ds with
      | none => rw [h2] at h; cases h
      | some ms =>
        rw [h2] at h
        cases h
        obtain ⟨e1, e2⟩ := natO_eq h1
        obtain ⟨q1, q2, q3⟩ := natsO_eq h2
        refine ⟨by rw [e1, q1]; rfl, by simp [q2], fun i m hm => ?_⟩
        cases i with
        | zero => simp at hm; subst hm; exact ⟨l, rfl, e2⟩
        | succ i => exact q3 i m (by simpa using hm)
  | [], _ :: _, _, h => by cases h
  | _ :: _, [], _, h => by cases h
theorem natsO_nP : ∀ {ls ns : List Nat}, ns.length = ls.length → (∀ i n l : Nat, ns[i]? = some n → ls[i]? = some l → n < l) → natsO ls (ns.map nP) = some ns
  | [], [], _, _ => rfl
  | l :: ls, n :: ns, h, q => by
    have h1 : n < l := q 0 n l rfl rfl
    have h2 := natsO_nP (ls := ls) (ns := ns) (by simpa using h) fun i m k e1 e2 => q (i + 1) m k (by simpa using e1) (by simpa using e2)
    rw [List.map_cons, natsO, natO_nP h1, Option.bind_some, h2]
    rfl
  | [], _ :: _, h, _ => by simp at h
  | _ :: _, [], h, _ => by simp at h
theorem natsO_len {ls : List Nat} {ds : List PD} {ns : List Nat} (h : natsO ls ds = some ns) : ds.length = ls.length := by
  obtain ⟨e1, e2, _⟩ := natsO_eq h
  rw [e1, List.length_map, e2]
theorem natsO_rep (l : Nat) : ∀ ds : List PD, (natsO (List.replicate ds.length l) ds).isSome = ds.all fun d => belowB d l
  | [] => rfl
  | d :: r => by
    rw [List.length_cons, List.replicate_succ, natsO, List.all_cons, belowB_nat, ← natsO_rep l r]
    cases natO d l <;> cases natsO (List.replicate r.length l) r <;> rfl
def rsP (ns : List Nat) : PD := .tuple (ns.map nP)
/-! ### roles -/
def rolesO (nk : Nat) (v : PD) : Option (List Nat) := (seqOf v).bind fun ds => if 1 ≤ ds.length ∧ ds.length ≤ 3 then natsO (List.replicate ds.length nk) ds else none
theorem gLen_seq {v : PD} {ds : List PD} (h : seqOf v = some ds) : gLen [v] = some (.int ds.length) := by rcases seq_or h with rfl | rfl <;> rfl
theorem gTup_seq {v : PD} {ds : List PD} (h : seqOf v = some ds) : gTup [v] = some (.tuple ds) := by rcases seq_or h with rfl | rfl <;> rfl
theorem pGet_seq {v : PD} {ds : List PD} (h : seqOf v = some ds) (i : Int) : pGet v (.int i) = atI ds i := by rcases seq_or h with rfl | rfl <;> rfl
theorem notstr {v : PD} {ds : List PD} (h : seqOf v = some ds) {α : Type} {f : Str → α} {g : PD → α} : (match v with | .str z => f z | d => g d) = g v := by rcases seq_or h with rfl | rfl <;> rfl
theorem are_roles_eq {v : PD} (h : Fine v) (ks : List Kd) : F_are_roles [.val (ksP ks), .val v] [] = (.ret (.bool (rolesO ks.length v).isSome), []) := by
  have h0 := h
  obtain ⟨m, hm⟩ := h
  refine runB_eq rfl ?_
  unfold rolesO
  cases hs : seqOf v with
  | none =>
    have e : seqB v = false := by unfold seqB; rw [hs]; rfl
    simp [rho0, slotOf, look, ixOf, getC, setC, getM, setM, getL, MC.look, MC.pd, killS, turnQ, lkOf, outB, iosOf, arsOf, wp_tail, mAppend, mExtend, mPop, wp_dFor, wp_dComp, wp_dIterV, wp_dSeqs, slOkN, lendR, lendB, unS, compEnd, enumD_eq, g_are_roles, is_sequence_eq hm, e]
  | some ds =>
    have e : seqB v = true := by unfold seqB; rw [hs]; rfl
    obtain ⟨hlen, hi⟩ := fine_items h0 hs
    simp [rho0, slotOf, look, ixOf, getC, setC, getM, setM, getL, MC.look, MC.pd, killS, turnQ, lkOf, outB, iosOf, arsOf, wp_tail, mAppend, mExtend, mPop, wp_dFor, wp_dComp, wp_dIterV, wp_dSeqs, slOkN, lendR, lendB, unS, compEnd, enumD_eq, g_are_roles, is_sequence_eq hm, e, gLen_seq hs]
    by_cases h1 : 1 ≤ ds.length
    · by_cases h2 : ds.length ≤ 3
      · have h1' : (1 : Int) ≤ ds.length := by omega
        have h2' : (ds.length : Int) ≤ 3 := by omega
        rw [if_pos h1', if_pos h2']
        have core : Wp (compGo (.nm 2) [2] (fun _ => True) (mpure true) (dCall F_is_below (.val (dVar 2) :: .val (dCB gLen (dKs (dkVar 0) (mpure []))) :: [])) ds) ⟨[.val (ksP ks), .val v, .no], []⟩ (fun ys ρ' => Ho (gAll [.list ys]) fun z => z = PyData.bool (rolesO ks.length v).isSome ∧ ρ'.io = []) (fun _ _ => False) := by
          refine wp_compMap (fun d => .bool (belowB d ks.length)) _ trivial (fun d hd => ?_) ?_
          · obtain ⟨k, hk⟩ := hi d hd
            simp [rho0, slotOf, look, ixOf, getC, setC, getM, setM, getL, MC.look, MC.pd, killS, turnQ, lkOf, outB, iosOf, arsOf, wp_tail, mAppend, mExtend, mPop, wp_dFor, wp_dComp, wp_dIterV, wp_dSeqs, slOkN, lendR, lendB, unS, compEnd, enumD_eq, ksP, is_below_eq hk]
          · rw [gAll_map]
            unfold rolesO
            simp [hs, h1, h2, natsO_rep]
        unfold rolesO at core
        rcases seq_or hs with rfl | rfl <;> simp [rho0, slotOf, look, ixOf, getC, setC, getM, setM, getL, MC.look, MC.pd, killS, turnQ, lkOf, outB, iosOf, arsOf, wp_tail, mAppend, mExtend, mPop, wp_dFor, wp_dComp, wp_dIterV, wp_dSeqs, slOkN, lendR, lendB, unS, compEnd, enumD_eq] at core ⊢ <;> exact ⟨Nat.le_trans hlen (by decide), by simpa [h1, h2] using core⟩
      · have h1' : (1 : Int) ≤ ds.length := by omega
        have h2' : ¬ (ds.length : Int) ≤ 3 := by omega
        rw [if_pos h1', if_neg h2']
        simp [h1, h2]
    · have h1' : ¬ (1 : Int) ≤ ds.length := by omega
      rw [if_neg h1']
      simp [h1]
/-! ### states of roles -/
def limK (ks : List Kd) (r : Nat) : Nat := (ks[r]?.map (·.2)).getD 0
def lims (ks : List Kd) (roles : List Nat) : List Nat := roles.map (limK ks)
def statesO (ks : List Kd) (roles : List Nat) (v : PD) : Option (List Nat) := (seqOf v).bind (natsO (lims ks roles))
theorem natsO_none : ∀ {ls : List Nat} {ds : List PD}, ds.length ≠ ls.length → natsO ls ds = none := fun {ls ds} h => by
  cases e : natsO ls ds with
  | none => rfl
  | some ns => exact absurd (natsO_len e) h
/-- the looks of are_states, one after another -/
def stH (ks : List Kd) (ds : List PD) (d : PD) : PD := match d with
  | .tuple [.int i, .int r] => .bool (belowB ((atI ds i).getD .none) (limK ks r.toNat))
  | _ => .none
theorem stH_all (ks : List Kd) : ∀ (roles : List Nat) (ds pre : List PD), ds.length = roles.length → gAll [.list ((enF pre.length (roles.map nP)).map (stH ks (pre ++ ds)))] = some (.bool (natsO (lims ks roles) ds).isSome)
  | [], [], _, _ => rfl
  | r :: rs, d :: ds, pre, h => by
    have ih := stH_all ks rs ds (pre ++ [d]) (by simpa using h)
    have e1 : ((pre ++ [d]).length : Int) = (pre.length : Int) + 1 := by simp
    rw [e1, show pre ++ [d] ++ ds = pre ++ d :: ds by simp] at ih
    have e2 : stH ks (pre ++ d :: ds) (.tuple [.int pre.length, nP r]) = .bool (belowB d (limK ks r)) := by
      unfold stH nP
      simp
    rw [List.map_cons, enF, List.map_cons, e2]
    have ih' : (boolsD ((enF (pre.length + 1) (rs.map nP)).map (stH ks (pre ++ d :: ds)))).map (fun bs => PyData.bool (bs.all id)) = some (.bool (natsO (lims ks rs) ds).isSome) := ih
    show (boolsD (.bool _ :: _)).map _ = _
    rw [boolsD]
    cases hb : boolsD ((enF (pre.length + 1) (rs.map nP)).map (stH ks (pre ++ d :: ds))) with
    | none => rw [hb] at ih'; cases ih'
    | some bs =>
      rw [hb] at ih'
      simp only [Option.map_some, Option.some.injEq, PyData.bool.injEq] at ih' ⊢
      show (belowB d (limK ks r) && bs.all id) = (natsO (limK ks r :: lims ks rs) (d :: ds)).isSome
      rw [ih', natsO, belowB_nat]
      cases natO d (limK ks r) <;> cases natsO (lims ks rs) ds <;> rfl
  | [], _ :: _, _, h => by simp at h
  | _ :: _, [], _, h => by simp at h
theorem enF_mem_at {k : Int} {ds : List PD} {d : PD} (h : d ∈ enF k ds) : ∃ (i : Nat) (x : PD), d = .tuple [.int (k + i), x] ∧ ds[i]? = some x := by
  induction ds generalizing k with
  | nil => cases h
  | cons e r ih =>
    rcases List.mem_cons.mp h with rfl | h
    · exact ⟨0, e, by simp, rfl⟩
    · obtain ⟨i, x, h1, h2⟩ := ih h
      exact ⟨i + 1, x, by rw [h1]; congr 2; congr 1; omega, by simpa using h2⟩
theorem limK_get {ks : List Kd} {r : Nat} (h : r < ks.length) : ∃ k, ks[r]? = some k ∧ limK ks r = k.2 := by
  refine ⟨ks[r], by simp [h], ?_⟩
  unfold limK
  simp [h]
theorem are_states_eq {v : PD} (h : Fine v) {ks : List Kd} {roles : List Nat} (hr : ∀ r ∈ roles, r < ks.length) (hl : roles.length ≤ 1000) : F_are_states [.val (ksP ks), .val (rsP roles), .val v] [] = (.ret (.bool (statesO ks roles v).isSome), []) := by
  have h0 := h
  obtain ⟨m, hm⟩ := h
  refine runB_eq rfl ?_
  have glr : gLen [rsP roles] = some (.int roles.length) := by simp [rsP]
  unfold statesO
  cases hs : seqOf v with
  | none =>
    have e : lenB v roles.length = false := by unfold lenB; rw [hs]
    simp [rho0, slotOf, look, ixOf, getC, setC, getM, setM, getL, MC.look, MC.pd, killS, turnQ, lkOf, outB, iosOf, arsOf, wp_tail, mAppend, mExtend, mPop, wp_dFor, wp_dComp, wp_dIterV, wp_dSeqs, slOkN, lendR, lendB, unS, compEnd, enumD_eq, g_are_states, glr, is_row_eq hm, e]
  | some ds =>
    obtain ⟨hlen, hi⟩ := fine_items h0 hs
    by_cases hd : ds.length = roles.length
    · have e : lenB v roles.length = true := lenB_iff.mpr ⟨ds, hs, by rw [hd]⟩
      simp [rho0, slotOf, look, ixOf, getC, setC, getM, setM, getL, MC.look, MC.pd, killS, turnQ, lkOf, outB, iosOf, arsOf, wp_tail, mAppend, mExtend, mPop, wp_dFor, wp_dComp, wp_dIterV, wp_dSeqs, slOkN, lendR, lendB, unS, compEnd, enumD_eq, g_are_states, glr, is_row_eq hm, e, rsP]
      refine ⟨Nat.le_trans hl (by decide), ?_⟩
      refine wp_compMap (stH ks ds) _ trivial (fun d hdm => ?_) ?_
      · obtain ⟨i, x, rfl, hx⟩ := enF_mem_at hdm
        rw [List.getElem?_map] at hx
        cases hr2 : roles[i]? with
        | none => rw [hr2] at hx; cases hx
        | some r =>
          rw [hr2] at hx
          cases hx
          have hrm : r ∈ roles := List.mem_of_getElem? hr2
          obtain ⟨k, k1, k2⟩ := limK_get (hr r hrm)
          have hil : i < ds.length := by
            rw [hd]
            rcases Nat.lt_or_ge i roles.length with q | q
            · exact q
            · rw [List.getElem?_eq_none q] at hr2; cases hr2
          have hdi : ds[i]? = some ds[i] := by simp [hil]
          obtain ⟨mk, fk⟩ := hi ds[i] (List.getElem_mem hil)
          simp [rho0, slotOf, look, ixOf, getC, setC, getM, setM, getL, MC.look, MC.pd, killS, turnQ, lkOf, outB, iosOf, arsOf, wp_tail, mAppend, mExtend, mPop, wp_dFor, wp_dComp, wp_dIterV, wp_dSeqs, slOkN, lendR, lendB, unS, compEnd, enumD_eq, nP, pGet_seq hs, ksP, hdi, k1, kP, is_below_eq fk, stH, k2]
      · have := stH_all ks roles ds [] hd
        simp at this
        rw [this]
        simp
    · have e : lenB v roles.length = false := by
        rw [← Bool.not_eq_true]
        intro z
        obtain ⟨ds', q1, q2⟩ := lenB_iff.mp z
        rw [hs] at q1
        cases q1
        exact hd (by omega)
      have e2 : natsO (lims ks roles) ds = none := natsO_none (by unfold lims; simpa using hd)
      simp [rho0, slotOf, look, ixOf, getC, setC, getM, setM, getL, MC.look, MC.pd, killS, turnQ, lkOf, outB, iosOf, arsOf, wp_tail, mAppend, mExtend, mPop, wp_dFor, wp_dComp, wp_dIterV, wp_dSeqs, slOkN, lendR, lendB, unS, compEnd, enumD_eq, g_are_states, glr, is_row_eq hm, e, e2]
abbrev Rw := List Nat × List Nat
def rowO (ks : List Kd) (roles : List Nat) (v : PD) : Option Rw := match seqOf v with
  | some [a, b] => (statesO ks roles a).bind fun x => (statesO ks roles b).map fun y => (x, y)
  | _ => none
theorem is_tool_row_eq {v : PD} (h : Fine v) {ks : List Kd} {roles : List Nat} (hr : ∀ r ∈ roles, r < ks.length) (hl : roles.length ≤ 1000) : F_is_tool_row [.val (ksP ks), .val (rsP roles), .val v] [] = (.ret (.bool (rowO ks roles v).isSome), []) := by
  have h0 := h
  obtain ⟨m, hm⟩ := h
  refine runB_eq rfl ?_
  by_cases h2 : lenB v 2 = true
  · obtain ⟨a, b, hv⟩ := two h2
    have hs : seqOf v = some [a, b] := by rcases hv with rfl | rfl <;> rfl
    obtain ⟨_, hi⟩ := fine_items h0 hs
    unfold rowO
    rw [hs]
    simp [rho0, slotOf, look, ixOf, getC, setC, getM, setM, getL, MC.look, MC.pd, killS, turnQ, lkOf, outB, iosOf, arsOf, wp_tail, mAppend, mExtend, mPop, wp_dFor, wp_dComp, wp_dIterV, wp_dSeqs, slOkN, lendR, lendB, unS, compEnd, enumD_eq, g_is_tool_row, is_row_eq hm, h2, pGet_seq hs, are_states_eq (hi a (by simp)) hr hl, are_states_eq (hi b (by simp)) hr hl]
    cases statesO ks roles a <;> cases statesO ks roles b <;> simp
  · have e : rowO ks roles v = none := by
      unfold rowO
      split
      · rename_i a n hs
        exact absurd (lenB_iff.mpr ⟨_, hs, rfl⟩) h2
      · rfl
    rw [e]
    simp [rho0, slotOf, look, ixOf, getC, setC, getM, setM, getL, MC.look, MC.pd, killS, turnQ, lkOf, outB, iosOf, arsOf, wp_tail, mAppend, mExtend, mPop, wp_dFor, wp_dComp, wp_dIterV, wp_dSeqs, slOkN, lendR, lendB, unS, compEnd, enumD_eq, g_is_tool_row, is_row_eq hm, h2]
end K11

set_option Elab.async false
set_option linter.all false
set_option maxRecDepth 100000
set_option maxHeartbeats 4000000
namespace K11
open PySem PySem.Spec Den
open PyProof.Rows L2

theorem foldN_inv {α : Type} {step : α → PD → Nx α} (I : α → Prop) (hs : ∀ a d a', I a → step a d = .go a' → I a') : ∀ (ds : List PD) (a b : α), I a → foldN step a ds = .go b → I b
  | [], a, b, h, e => by cases e; exact h
  | d :: r, a, b, h, e => by
    unfold foldN at e
    cases e2 : step a d with
    | go a' => simp only [e2] at e; exact foldN_inv I hs r a' b (hs a d a' h e2) e
    | out fl => simp only [e2] at e; cases e
    | ex x => simp only [e2] at e; cases e
/-! ### rows of numbers, their order -/
theorem okN_nP (m n : Nat) : OkN m (nP n) := okN_int m n
theorem okN_rsP (m : Nat) (ns : List Nat) : OkN (m + 1) (rsP ns) := okN_tup fun d hd => by
  obtain ⟨n, _, rfl⟩ := List.mem_map.mp hd
  exact okN_nP m n
def rowP (r : Rw) : PD := .tuple [rsP r.1, rsP r.2]
theorem okN_rowP (r : Rw) : OkN 2 (rowP r) := okN_tup fun d hd => by
  simp at hd
  rcases hd with rfl | rfl <;> exact okN_rsP 0 _
theorem pNe_nil {n : Nat} {xs : List PD} (h : ∀ d ∈ xs, OkN n d) (l : n + 1 ≤ 64 := by decide) : pNe (.list xs) (.list []) = some (.bool (!xs.isEmpty)) := by
  rw [pNe_ok (okN_lst h) (okN_lst (n := 0) (fun d hd => by cases hd)) l (by decide)]
  cases xs <;> rfl
theorem pEq_nil {n : Nat} {xs : List PD} (h : ∀ d ∈ xs, OkN n d) (l : n + 1 ≤ 64 := by decide) : pEq (.list xs) (.list []) = some (.bool xs.isEmpty) := by
  rw [pEq_ok (okN_lst h) (okN_lst (n := 0) (fun d hd => by cases hd)) l (by decide)]
  cases xs <;> rfl
theorem intsOf_nP : ∀ ns : List Nat, intsOf (ns.map nP) = some (ns.map Int.ofNat)
  | [] => rfl
  | n :: r => by
    rw [List.map_cons]
    show (intsOf (r.map nP)).map _ = _
    rw [intsOf_nP r]
    rfl
def leL (a b : List Nat) : Bool := lexLeI (a.map Int.ofNat) (b.map Int.ofNat)
theorem pLe_rs (a b : List Nat) : pLe (rsP a) (rsP b) = some (.bool (leL a b)) := by
  unfold rsP pLe
  simp only [intsOf_nP]
  rfl
theorem leL_iff : ∀ a b : List Nat, leL a b = true ↔ ¬ b < a
  | [], b => by
    have : leL [] b = true := by unfold leL; cases b <;> rfl
    simp [this]
  | x :: a, [] => by
    have : leL (x :: a) [] = false := rfl
    simp [this]
  | x :: a, y :: b => by
    have e : leL (x :: a) (y :: b) = if (x : Int) = y then leL a b else decide ((x : Int) ≤ y) := rfl
    rw [e, List.cons_lt_cons_iff]
    by_cases h : x = y
    · subst h
      simp [leL_iff a b]
    · have h' : ¬ (x : Int) = y := by omega
      rw [if_neg h']
      simp
      omega
/-! ### rows of a tool -/
def errR (num : Int) (at_ : Int) : Xc := ⟨"InvalidDesk", .tuple [.str "rows", .int num, .int at_]⟩
def stepR (ks : List Kd) (roles : List Nat) (num : Int) (acc : List Rw) (d : PD) : Nx (List Rw) := match d with
  | .tuple [.int at_, v] => (match rowO ks roles v with
    | none => .ex (errR num at_)
    | some row => (match acc.getLast? with
      | some l => if leL row.1 l.1 = true then .ex (errR num at_) else .go (acc ++ [row])
      | none => .go (acc ++ [row])))
  | _ => .ex (errR num 0)
theorem stepR_no (ks : List Kd) (roles : List Nat) (num : Int) (a : List Rw) (d : PD) (fl : Fl) : stepR ks roles num a d ≠ .out fl := by
  unfold stepR
  split
  · split
    · simp
    · split
      · split <;> simp
      · simp
  · simp
def rowsN (ks : List Kd) (roles : List Nat) (num : Int) (v : PD) : Nx (List Rw) := match seqOf v with
  | some ds => foldN (stepR ks roles num) [] (enF 0 ds)
  | none => .ex (errR num (-1))
def rwsP (rs : List Rw) : PD := .tuple (rs.map rowP)
theorem rowO_eq {v : PD} {ks : List Kd} {roles : List Nat} {row : Rw} (h : rowO ks roles v = some row) : ∃ a b, seqOf v = some [a, b] ∧ seqOf a = some (row.1.map nP) ∧ seqOf b = some (row.2.map nP) ∧ natsO (lims ks roles) (row.1.map nP) = some row.1 ∧ natsO (lims ks roles) (row.2.map nP) = some row.2 := by
  unfold rowO at h
  split at h
  · rename_i a b hs
    refine ⟨a, b, hs, ?_⟩
    unfold statesO at h
    cases h1 : seqOf a with
    | none => rw [h1] at h; simp at h
    | some da =>
      cases h2 : seqOf b with
      | none => rw [h2] at h; simp at h
      | some db =>
        rw [h1, h2] at h
        cases h3 : natsO (lims ks roles) da with
        | none => simp [h3] at h
        | some na =>
          cases h4 : natsO (lims ks roles) db with
          | none => simp [h3, h4] at h
          | some nb =>
            simp [h3, h4] at h
            subst h
            obtain ⟨e1, _⟩ := natsO_eq h3
            obtain ⟨e2, _⟩ := natsO_eq h4
            subst e1 e2
            exact ⟨rfl, rfl, h3, h4⟩
  · cases h
theorem need_rows_eq {v : PD} (h : Fine v) {ks : List Kd} {roles : List Nat} (hr : ∀ r ∈ roles, r < ks.length) (hl : roles.length ≤ 1000) (num : Int) : F_need_rows [.val (ksP ks), .val (rsP roles), .val (.int num), .val v] [] = (rtN rwsP (rowsN ks roles num v), []) := by
  have h0 := h
  obtain ⟨m, hm⟩ := h
  refine runB_eq rfl ?_
  unfold rowsN
  cases hs : seqOf v with
  | none =>
    have e : seqB v = false := by unfold seqB; rw [hs]; rfl
    simp [rho0, slotOf, look, ixOf, getC, setC, getM, setM, getL, MC.look, MC.pd, killS, turnQ, lkOf, outB, iosOf, arsOf, wp_tail, mAppend, mExtend, mPop, wp_dFor, wp_dComp, wp_dIterV, wp_dSeqs, slOkN, lendR, lendB, unS, compEnd, enumD_eq, g_need_rows, is_sequence_eq hm, e, errR]
  | some ds =>
    have e : seqB v = true := by unfold seqB; rw [hs]; rfl
    obtain ⟨hlen, hi⟩ := fine_items h0 hs
    simp [rho0, slotOf, look, ixOf, getC, setC, getM, setM, getL, MC.look, MC.pd, killS, turnQ, lkOf, outB, iosOf, arsOf, wp_tail, mAppend, mExtend, mPop, wp_dFor, wp_dComp, wp_dIterV, wp_dSeqs, slOkN, lendR, lendB, unS, compEnd, enumD_eq, g_need_rows, is_sequence_eq hm, e, hs]
    refine wp_forN (st := fun acc => ⟨[.val (ksP ks), .val (rsP roles), .val (.int num), .val v, .own (.lst (acc.map rowP)), .no, .no, .no], []⟩) (stepR ks roles num) (fun n acc => acc.length + n ≤ 1000) [] ?hok _ [] ?turn ?inv ?fin
    case hok => exact fun _ _ _ => trivial
    case inv => simpa using hlen
    case fin =>
      simp [rho0, slotOf, look, ixOf, getC, setC, getM, setM, getL, MC.look, MC.pd, killS, turnQ, lkOf, outB, iosOf, arsOf, wp_tail, mAppend, mExtend, mPop, wp_dFor, wp_dComp, wp_dIterV, wp_dSeqs, slOkN, lendR, lendB, unS, compEnd, enumD_eq]
      cases hf : foldN (stepR ks roles num) [] (enF 0 ds) with
      | go a' => intro _; rfl
      | out fl => exact absurd hf (foldN_no (stepR_no _ _ _) _ _ _)
      | ex x => intro ρ' h; exact ⟨rfl, h⟩
    case turn =>
      intro n acc inv d hd
      obtain ⟨i, x, rfl, hx⟩ := enF_mem hd
      have fx := hi x hx
      have okacc : ∀ d ∈ acc.map rowP, OkN 2 d := fun d hd => by
        obtain ⟨r, _, rfl⟩ := List.mem_map.mp hd
        exact okN_rowP r
      simp [rho0, slotOf, look, ixOf, getC, setC, getM, setM, getL, MC.look, MC.pd, killS, turnQ, lkOf, outB, iosOf, arsOf, wp_tail, mAppend, mExtend, mPop, wp_dFor, wp_dComp, wp_dIterV, wp_dSeqs, slOkN, lendR, lendB, unS, compEnd, enumD_eq, is_tool_row_eq fx hr hl]
      unfold stepR
      cases hrow : rowO ks roles x with
      | none => simp [hrow, errR]
      | some row =>
        obtain ⟨a, b, q1, q2, q3, _, _⟩ := rowO_eq hrow
        have hlt : acc.length < 10000000 := by omega
        simp [hrow, rho0, slotOf, look, ixOf, getC, setC, getM, setM, getL, MC.look, MC.pd, killS, turnQ, lkOf, outB, iosOf, arsOf, wp_tail, mAppend, mExtend, mPop, wp_dFor, wp_dComp, wp_dIterV, wp_dSeqs, slOkN, lendR, lendB, unS, compEnd, enumD_eq, pGet_seq q1, gTup_seq q2, gTup_seq q3, pNe_nil okacc]
        cases hacc : acc.getLast? with
        | none =>
          have : acc = [] := List.getLast?_eq_none_iff.mp hacc
          subst this
          simp at inv ⊢
          exact ⟨by omega, rfl⟩
        | some l =>
          have ne : acc ≠ [] := by rintro rfl; cases hacc
          have e2 : acc.isEmpty = false := by simpa using ne
          simp [ne, e2, hacc, rowP]
          have e3 := pLe_rs row.1 l.1
          unfold rsP at e3 ⊢
          simp [e3]
          cases hle : leL row.1 l.1 with
          | true => simp [hle, errR]
          | false => simp [hle, hlt]; exact ⟨by omega, rfl⟩
end K11

set_option Elab.async false
set_option linter.all false
set_option maxRecDepth 100000
set_option maxHeartbeats 4000000
namespace K11
open PySem PySem.Spec Den
open PyProof.Rows L2

/-! ### tools -/
abbrev Tl := Str × List Nat × List Rw
def tlP (t : Tl) : PD := .tuple [.str t.1, rsP t.2.1, rwsP t.2.2]
def tsP (ts : List Tl) : PD := .tuple (ts.map tlP)
def toolO (nk : Nat) (v : PD) (names : List Str) : Option (Str × List Nat × PD) := match seqOf v with
  | some [.str a, b, c] => if nameB a = true ∧ a ∉ names then (rolesO nk b).map fun r => (a, r, c) else none
  | _ => none
theorem toolO_eq {nk : Nat} {v : PD} {names : List Str} {a : Str} {r : List Nat} {c : PD} (h : toolO nk v names = some (a, r, c)) : ∃ b, seqOf v = some [.str a, b, c] ∧ rolesO nk b = some r ∧ nameB a = true ∧ a ∉ names := by
  unfold toolO at h
  split at h
  · rename_i a' b c' hs
    split at h
    · rename_i hc
      cases hr : rolesO nk b with
      | none => rw [hr] at h; cases h
      | some r' =>
        rw [hr] at h
        cases h
        exact ⟨b, hs, hr, hc⟩
    · cases h
  · cases h
theorem rolesO_eq {nk : Nat} {b : PD} {r : List Nat} (h : rolesO nk b = some r) : seqOf b = some (r.map nP) ∧ 1 ≤ r.length ∧ r.length ≤ 3 ∧ ∀ x ∈ r, x < nk := by
  unfold rolesO at h
  cases hs : seqOf b with
  | none => rw [hs] at h; cases h
  | some ds =>
    rw [hs, Option.bind_some] at h
    split at h
    · rename_i hc
      obtain ⟨e1, e2, e3⟩ := natsO_eq h
      rw [List.length_replicate] at e2
      refine ⟨by rw [e1], by omega, by omega, fun x hx => ?_⟩
      obtain ⟨i, hi, rfl⟩ := List.getElem_of_mem hx
      obtain ⟨l, q1, q2⟩ := e3 i _ (List.getElem?_eq_getElem hi)
      rw [List.getElem?_replicate] at q1
      split at q1
      · cases q1; exact q2
      · cases q1
    · cases h
theorem is_tool_eq {v : PD} (h : Fine v) (ks : List Kd) {names : List Str} (hn : ∀ x ∈ names, PyData.strOk x = true) : F_is_tool [.val (ksP ks), .val v, .val (.list (names.map PyData.str))] [] = (.ret (.bool (toolO ks.length v names).isSome), []) := by
  have h0 := h
  obtain ⟨m, hm⟩ := h
  refine runB_eq rfl ?_
  by_cases hl : lenB v 3 = true
  · obtain ⟨a, b, c, hv⟩ := three hl
    have hs : seqOf v = some [a, b, c] := by rcases hv with rfl | rfl <;> rfl
    obtain ⟨_, hi⟩ := fine_items h0 hs
    obtain ⟨ma, ha⟩ := hi a (by simp)
    unfold toolO
    rw [hs]
    simp [rho0, slotOf, look, ixOf, getC, setC, getM, setM, getL, MC.look, MC.pd, killS, turnQ, lkOf, outB, iosOf, arsOf, wp_tail, mAppend, mExtend, mPop, wp_dFor, wp_dComp, wp_dIterV, wp_dSeqs, slOkN, lendR, lendB, unS, compEnd, enumD_eq, g_is_tool, is_row_eq hm, hl, pGet_seq hs, is_name_eq ha, are_roles_eq (hi b (by simp))]
    cases a with
    | str z =>
      simp [nameD, pIn_names (fine_str ha).2 hn]
      by_cases hz : nameB z = true
      · by_cases hin : z ∈ names <;> simp [hz, hin]
      · simp [hz]
    | _ => simp [nameD]
  · have e : toolO ks.length v names = none := by
      unfold toolO
      split
      · rename_i a n c hs
        exact absurd (lenB_iff.mpr ⟨_, hs, rfl⟩) hl
      · rfl
    rw [e]
    simp [rho0, slotOf, look, ixOf, getC, setC, getM, setM, getL, MC.look, MC.pd, killS, turnQ, lkOf, outB, iosOf, arsOf, wp_tail, mAppend, mExtend, mPop, wp_dFor, wp_dComp, wp_dIterV, wp_dSeqs, slOkN, lendR, lendB, unS, compEnd, enumD_eq, g_is_tool, is_row_eq hm, hl]
theorem rowsN_no (ks : List Kd) (roles : List Nat) (num : Int) (v : PD) (fl : Fl) : rowsN ks roles num v ≠ .out fl := by
  unfold rowsN
  split
  · exact foldN_no (stepR_no _ _ _) _ _ _
  · simp
def stepT (ks : List Kd) (acc : List Tl) (d : PD) : Nx (List Tl) := match d with
  | .tuple [.int at_, v] => (match toolO ks.length v (acc.map (·.1)) with
    | none => .ex (errD "tools" at_)
    | some (a, r, c) => (match rowsN ks r at_ c with
      | .go rows => .go (acc ++ [(a, r, rows)])
      | .ex x => .ex x
      | .out _ => .ex (errD "tools" 0)))
  | _ => .ex (errD "tools" 0)
theorem stepT_no (ks : List Kd) (a : List Tl) (d : PD) (fl : Fl) : stepT ks a d ≠ .out fl := by
  unfold stepT
  split
  · split
    · simp
    · split <;> simp
  · simp
def toolsN (ks : List Kd) (v : PD) : Nx (List Tl) := match seqOf v with
  | some ds => if ds.length ≤ 20 then foldN (stepT ks) [] (enF 0 ds) else .ex (errD "tools" (-1))
  | none => .ex (errD "tools" (-1))
theorem need_tools_eq {v : PD} (h : Fine v) (ks : List Kd) : F_need_tools [.val (ksP ks), .val v] [] = (rtN tsP (toolsN ks v), []) := by
  have h0 := h
  obtain ⟨m, hm⟩ := h
  refine runB_eq rfl ?_
  unfold toolsN
  cases hs : seqOf v with
  | none =>
    have e : seqB v = false := by unfold seqB; rw [hs]; rfl
    simp [rho0, slotOf, look, ixOf, getC, setC, getM, setM, getL, MC.look, MC.pd, killS, turnQ, lkOf, outB, iosOf, arsOf, wp_tail, mAppend, mExtend, mPop, wp_dFor, wp_dComp, wp_dIterV, wp_dSeqs, slOkN, lendR, lendB, unS, compEnd, enumD_eq, g_need_tools, is_sequence_eq hm, e, errD]
  | some ds =>
    have e : seqB v = true := by unfold seqB; rw [hs]; rfl
    obtain ⟨hlen, hi⟩ := fine_items h0 hs
    simp [rho0, slotOf, look, ixOf, getC, setC, getM, setM, getL, MC.look, MC.pd, killS, turnQ, lkOf, outB, iosOf, arsOf, wp_tail, mAppend, mExtend, mPop, wp_dFor, wp_dComp, wp_dIterV, wp_dSeqs, slOkN, lendR, lendB, unS, compEnd, enumD_eq, g_need_tools, is_sequence_eq hm, e, hs, gLen_seq hs]
    by_cases h2 : ds.length ≤ 20
    · have h2' : ¬ (20 : Int) < ds.length := by omega
      rw [if_neg h2']
      refine wp_forN (st := fun acc => ⟨[.val (ksP ks), .val v, .own (.lst (acc.map tlP)), .no, .no, .no, .no], []⟩) (stepT ks) (fun n acc => (∀ k ∈ acc, PyData.strOk k.1 = true) ∧ acc.length + n ≤ 1000) [] ?hok _ [] ?turn ?inv ?fin
      case hok => exact fun _ _ _ => trivial
      case inv => exact ⟨by simp, by simpa using hlen⟩
      case fin =>
        simp [rho0, slotOf, look, ixOf, getC, setC, getM, setM, getL, MC.look, MC.pd, killS, turnQ, lkOf, outB, iosOf, arsOf, wp_tail, mAppend, mExtend, mPop, wp_dFor, wp_dComp, wp_dIterV, wp_dSeqs, slOkN, lendR, lendB, unS, compEnd, enumD_eq, h2]
        cases hf : foldN (stepT ks) [] (enF 0 ds) with
        | go a' => intro _ _; rfl
        | out fl => exact absurd hf (foldN_no (stepT_no _) _ _ _)
        | ex x => intro ρ' h; exact ⟨rfl, h⟩
      case turn =>
        intro n acc inv d hd
        obtain ⟨i, x, rfl, hx⟩ := enF_mem hd
        have fx := hi x hx
        simp [rho0, slotOf, look, ixOf, getC, setC, getM, setM, getL, MC.look, MC.pd, killS, turnQ, lkOf, outB, iosOf, arsOf, wp_tail, mAppend, mExtend, mPop, wp_dFor, wp_dComp, wp_dIterV, wp_dSeqs, slOkN, lendR, lendB, unS, compEnd, enumD_eq]
        refine ⟨Nat.le_trans (Nat.le_of_add_right_le inv.2) (by decide), ?_⟩
        refine wp_compMap (fun d => match d with | .tuple [a, _, _] => a | _ => .none) _ (by simp) (fun d hd => ?_) ?_
        · obtain ⟨k, hk, rfl⟩ := List.mem_map.mp hd
          simp [tlP, rho0, slotOf, look, ixOf, getC, setC, getM, setM, getL, MC.look, MC.pd, killS, turnQ, lkOf, outB, iosOf, arsOf, wp_tail, mAppend, mExtend, mPop, wp_dFor, wp_dComp, wp_dIterV, wp_dSeqs, slOkN, lendR, lendB, unS, compEnd, enumD_eq]
        · have e : (acc.map tlP).map (fun d => match d with | .tuple [a, _, _] => a | _ => .none) = (acc.map (·.1)).map PyData.str := by simp [tlP]
          rw [e]
          simp [-List.map_map, rho0, slotOf, look, ixOf, getC, setC, getM, setM, getL, MC.look, MC.pd, killS, turnQ, lkOf, outB, iosOf, arsOf, wp_tail, mAppend, mExtend, mPop, wp_dFor, wp_dComp, wp_dIterV, wp_dSeqs, slOkN, lendR, lendB, unS, compEnd, enumD_eq, is_tool_eq fx ks (names := acc.map (·.1)) (by simpa using fun a b c hh => inv.1 (a, b, c) hh)]
          unfold stepT
          cases hk : toolO ks.length x (acc.map (·.1)) with
          | none => simp [hk, errD]
          | some q =>
            obtain ⟨a, r, c⟩ := q
            obtain ⟨b, q1, q2, q3, _⟩ := toolO_eq hk
            obtain ⟨r1, r2, r3, r4⟩ := rolesO_eq q2
            obtain ⟨_, hi2⟩ := fine_items fx q1
            have fc : Fine c := hi2 c (by simp)
            obtain ⟨ma, ha⟩ := hi2 (.str a) (by simp)
            have er : PyData.tuple (r.map nP) = rsP r := rfl
            have hlt : acc.length < 10000000 := by omega
            simp [hk, rho0, slotOf, look, ixOf, getC, setC, getM, setM, getL, MC.look, MC.pd, killS, turnQ, lkOf, outB, iosOf, arsOf, wp_tail, mAppend, mExtend, mPop, wp_dFor, wp_dComp, wp_dIterV, wp_dSeqs, slOkN, lendR, lendB, unS, compEnd, enumD_eq, pGet_seq q1, gTup_seq r1, er, need_rows_eq fc r4 (by omega)]
            cases hrow : rowsN ks r i c with
            | out fl => exact absurd hrow (rowsN_no _ _ _ _ _)
            | ex y => simp [hrow]
            | go rows =>
              simp [hrow, hlt, tlP]
              refine ⟨fun a' b' c' hh => hh.elim (fun z => inv.1 _ z) fun z => z.1 ▸ (fine_str ha).2, by omega⟩
    · have h2' : (20 : Int) < ds.length := by omega
      rw [if_pos h2']
      simp [h2, errD]
end K11

set_option Elab.async false
set_option linter.all false
set_option maxRecDepth 100000
set_option maxHeartbeats 4000000
namespace K11
open PySem PySem.Spec Den
open PyProof.Rows L2

/-! ### repairs -/
abbrev R4 := Nat × Nat × Nat × Nat
def rpP (r : R4) : PD := .tuple [nP r.1, nP r.2.1, nP r.2.2.1, nP r.2.2.2]
def rpsP (rs : List R4) : PD := .tuple (rs.map rpP)
def priceO (b e : Nat) (p : PD) : Option Nat := match p with
  | .int p => if b ≠ e ∧ 1 ≤ p ∧ p ≤ 1000000 then some p.toNat else none
  | _ => none
def repO (ks : List Kd) (v : PD) : Option R4 := match seqOf v with
  | some [k, b, e, p] => (natO k ks.length).bind fun k' => (natO b (limK ks k')).bind fun b' => (natO e (limK ks k')).bind fun e' => (priceO b' e' p).map fun p' => (k', b', e', p')
  | _ => none
theorem repO_eq {ks : List Kd} {v : PD} {r : R4} (h : repO ks v = some r) : seqOf v = some [nP r.1, nP r.2.1, nP r.2.2.1, nP r.2.2.2] ∧ r.1 < ks.length ∧ r.2.1 < limK ks r.1 ∧ r.2.2.1 < limK ks r.1 := by
  unfold repO at h
  split at h
  · rename_i k b e p hs
    cases h1 : natO k ks.length with
    | none => rw [h1] at h; cases h
    | some k' =>
      rw [h1, Option.bind_some] at h
      cases h2 : natO b (limK ks k') with
      | none => rw [h2] at h; cases h
      | some b' =>
        rw [h2, Option.bind_some] at h
        cases h3 : natO e (limK ks k') with
        | none => rw [h3] at h; cases h
        | some e' =>
          rw [h3, Option.bind_some] at h
          cases h4 : priceO b' e' p with
          | none => rw [h4] at h; cases h
          | some p' =>
            rw [h4] at h
            cases h
            obtain ⟨a1, a2⟩ := natO_eq h1
            obtain ⟨b1, b2⟩ := natO_eq h2
            obtain ⟨c1, c2⟩ := natO_eq h3
            have d1 : p = nP p' := by
              unfold priceO at h4
              split at h4
              · split at h4
                · rename_i hc
                  cases h4
                  unfold nP
                  congr 1
                  omega
                · cases h4
              · cases h4
            subst a1 b1 c1 d1
            exact ⟨hs, a2, b2, c2⟩
  · cases h
theorem is_repair_eq {v : PD} (h : Fine v) (ks : List Kd) : F_is_repair [.val (ksP ks), .val v] [] = (.ret (.bool (repO ks v).isSome), []) := by
  have h0 := h
  obtain ⟨m, hm⟩ := h
  refine runB_eq rfl ?_
  have glk : gLen [ksP ks] = some (.int ks.length) := by simp [ksP]
  by_cases hl : lenB v 4 = true
  · obtain ⟨a, b, c, d, hv⟩ := four hl
    have hs : seqOf v = some [a, b, c, d] := by rcases hv with rfl | rfl <;> rfl
    obtain ⟨_, hi⟩ := fine_items h0 hs
    obtain ⟨ma, ha⟩ := hi a (by simp)
    obtain ⟨mb, hb⟩ := hi b (by simp)
    obtain ⟨mc, hc⟩ := hi c (by simp)
    obtain ⟨md, hd⟩ := hi d (by simp)
    unfold repO
    rw [hs]
    cases h1 : natO a ks.length with
    | none => simp [rho0, slotOf, look, ixOf, getC, setC, getM, setM, getL, MC.look, MC.pd, killS, turnQ, lkOf, outB, iosOf, arsOf, wp_tail, mAppend, mExtend, mPop, wp_dFor, wp_dComp, wp_dIterV, wp_dSeqs, slOkN, lendR, lendB, unS, compEnd, enumD_eq, g_is_repair, is_row_eq hm, hl, pGet_seq hs, is_below_eq ha, glk, belowB_nat, h1]
    | some k =>
      obtain ⟨rfl, hk⟩ := natO_eq h1
      obtain ⟨kk, k1, k2⟩ := limK_get hk
      have ek : pGet (ksP ks) (nP k) = some (kP kk) := by simp [ksP, nP, k1]
      have el : kk.2 = limK ks k := k2.symm
      cases h2 : natO b (limK ks k) with
      | none => simp [rho0, slotOf, look, ixOf, getC, setC, getM, setM, getL, MC.look, MC.pd, killS, turnQ, lkOf, outB, iosOf, arsOf, wp_tail, mAppend, mExtend, mPop, wp_dFor, wp_dComp, wp_dIterV, wp_dSeqs, slOkN, lendR, lendB, unS, compEnd, enumD_eq, g_is_repair, is_row_eq hm, hl, pGet_seq hs, is_below_eq ha, glk, belowB_nat, h1, ek, kP, is_below_eq hb, is_below_eq hc, el, h2]
      | some b' =>
        obtain ⟨rfl, _⟩ := natO_eq h2
        cases h3 : natO c (limK ks k) with
        | none => simp [rho0, slotOf, look, ixOf, getC, setC, getM, setM, getL, MC.look, MC.pd, killS, turnQ, lkOf, outB, iosOf, arsOf, wp_tail, mAppend, mExtend, mPop, wp_dFor, wp_dComp, wp_dIterV, wp_dSeqs, slOkN, lendR, lendB, unS, compEnd, enumD_eq, g_is_repair, is_row_eq hm, hl, pGet_seq hs, is_below_eq ha, glk, belowB_nat, h1, ek, kP, is_below_eq hb, is_below_eq hc, el, h2, h3]
        | some c' =>
          obtain ⟨rfl, _⟩ := natO_eq h3
          have en : pNe (nP b') (nP c') = some (.bool (!decide (b' = c'))) := by
            unfold nP
            rw [pNe_ii]
            congr 3
            exact decide_eq_decide.mpr (by omega)
          simp [rho0, slotOf, look, ixOf, getC, setC, getM, setM, getL, MC.look, MC.pd, killS, turnQ, lkOf, outB, iosOf, arsOf, wp_tail, mAppend, mExtend, mPop, wp_dFor, wp_dComp, wp_dIterV, wp_dSeqs, slOkN, lendR, lendB, unS, compEnd, enumD_eq, g_is_repair, is_row_eq hm, hl, pGet_seq hs, is_below_eq ha, glk, belowB_nat, h1, ek, kP, is_below_eq hb, is_below_eq hc, el, h2, h3, is_integer_eq hd, en, priceO]
          cases d with
          | int p =>
            by_cases hbc : b' = c'
            · simp [hbc]
            · simp [hbc, intB]
              by_cases p1 : 1 ≤ p
              · by_cases p2 : p ≤ 1000000 <;> simp [p1, p2]
              · simp [p1]
          | _ => by_cases hbc : b' = c' <;> simp [hbc, intB]
  · have e : repO ks v = none := by
      unfold repO
      split
      · rename_i a n c d hs
        exact absurd (lenB_iff.mpr ⟨_, hs, rfl⟩) hl
      · rfl
    rw [e]
    simp [rho0, slotOf, look, ixOf, getC, setC, getM, setM, getL, MC.look, MC.pd, killS, turnQ, lkOf, outB, iosOf, arsOf, wp_tail, mAppend, mExtend, mPop, wp_dFor, wp_dComp, wp_dIterV, wp_dSeqs, slOkN, lendR, lendB, unS, compEnd, enumD_eq, g_is_repair, is_row_eq hm, hl]
def way (r : R4) : List Nat := [r.1, r.2.1, r.2.2.1]
def stepP (ks : List Kd) (acc : List R4) (d : PD) : Nx (List R4) := match d with
  | .tuple [.int at_, v] => (match repO ks v with
    | none => .ex (errD "repairs" at_)
    | some r => (match acc.getLast? with
      | some l => if leL (way r) (way l) = true then .ex (errD "repairs" at_) else .go (acc ++ [r])
      | none => .go (acc ++ [r])))
  | _ => .ex (errD "repairs" 0)
theorem stepP_no (ks : List Kd) (a : List R4) (d : PD) (fl : Fl) : stepP ks a d ≠ .out fl := by
  unfold stepP
  split
  · split
    · simp
    · split
      · split <;> simp
      · simp
  · simp
def repsN (ks : List Kd) (v : PD) : Nx (List R4) := match seqOf v with
  | some ds => foldN (stepP ks) [] (enF 0 ds)
  | none => .ex (errD "repairs" (-1))
theorem okN_rpP (r : R4) : OkN 1 (rpP r) := okN_tup fun d hd => by
  simp at hd
  rcases hd with rfl | rfl | rfl | rfl <;> exact okN_nP 0 _
theorem need_repairs_eq {v : PD} (h : Fine v) (ks : List Kd) : F_need_repairs [.val (ksP ks), .val v] [] = (rtN rpsP (repsN ks v), []) := by
  have h0 := h
  obtain ⟨m, hm⟩ := h
  refine runB_eq rfl ?_
  unfold repsN
  cases hs : seqOf v with
  | none =>
    have e : seqB v = false := by unfold seqB; rw [hs]; rfl
    simp [rho0, slotOf, look, ixOf, getC, setC, getM, setM, getL, MC.look, MC.pd, killS, turnQ, lkOf, outB, iosOf, arsOf, wp_tail, mAppend, mExtend, mPop, wp_dFor, wp_dComp, wp_dIterV, wp_dSeqs, slOkN, lendR, lendB, unS, compEnd, enumD_eq, g_need_repairs, is_sequence_eq hm, e, errD]
  | some ds =>
    have e : seqB v = true := by unfold seqB; rw [hs]; rfl
    obtain ⟨hlen, hi⟩ := fine_items h0 hs
    simp [rho0, slotOf, look, ixOf, getC, setC, getM, setM, getL, MC.look, MC.pd, killS, turnQ, lkOf, outB, iosOf, arsOf, wp_tail, mAppend, mExtend, mPop, wp_dFor, wp_dComp, wp_dIterV, wp_dSeqs, slOkN, lendR, lendB, unS, compEnd, enumD_eq, g_need_repairs, is_sequence_eq hm, e, hs]
    refine wp_forN (st := fun acc => ⟨[.val (ksP ks), .val v, .own (.lst (acc.map rpP)), .no, .no], []⟩) (stepP ks) (fun n acc => acc.length + n ≤ 1000) [] ?hok _ [] ?turn ?inv ?fin
    case hok => exact fun _ _ _ => trivial
    case inv => simpa using hlen
    case fin =>
      simp [rho0, slotOf, look, ixOf, getC, setC, getM, setM, getL, MC.look, MC.pd, killS, turnQ, lkOf, outB, iosOf, arsOf, wp_tail, mAppend, mExtend, mPop, wp_dFor, wp_dComp, wp_dIterV, wp_dSeqs, slOkN, lendR, lendB, unS, compEnd, enumD_eq]
      cases hf : foldN (stepP ks) [] (enF 0 ds) with
      | go a' => intro _; rfl
      | out fl => exact absurd hf (foldN_no (stepP_no _) _ _ _)
      | ex x => intro ρ' h; exact ⟨rfl, h⟩
    case turn =>
      intro n acc inv d hd
      obtain ⟨i, x, rfl, hx⟩ := enF_mem hd
      have fx := hi x hx
      have okacc : ∀ d ∈ acc.map rpP, OkN 1 d := fun d hd => by
        obtain ⟨r, _, rfl⟩ := List.mem_map.mp hd
        exact okN_rpP r
      simp [rho0, slotOf, look, ixOf, getC, setC, getM, setM, getL, MC.look, MC.pd, killS, turnQ, lkOf, outB, iosOf, arsOf, wp_tail, mAppend, mExtend, mPop, wp_dFor, wp_dComp, wp_dIterV, wp_dSeqs, slOkN, lendR, lendB, unS, compEnd, enumD_eq, is_repair_eq fx]
      unfold stepP
      cases hrow : repO ks x with
      | none => simp [hrow, errD]
      | some row =>
        obtain ⟨q1, _⟩ := repO_eq hrow
        have hlt : acc.length < 10000000 := by omega
        simp [hrow, rho0, slotOf, look, ixOf, getC, setC, getM, setM, getL, MC.look, MC.pd, killS, turnQ, lkOf, outB, iosOf, arsOf, wp_tail, mAppend, mExtend, mPop, wp_dFor, wp_dComp, wp_dIterV, wp_dSeqs, slOkN, lendR, lendB, unS, compEnd, enumD_eq, gTup_seq q1, pNe_nil okacc]
        cases hacc : acc.getLast? with
        | none =>
          have : acc = [] := List.getLast?_eq_none_iff.mp hacc
          subst this
          simp at inv ⊢
          exact ⟨by omega, rfl⟩
        | some l =>
          have ne : acc ≠ [] := by rintro rfl; cases hacc
          have e2 : acc.isEmpty = false := by simpa using ne
          have c1 : Ho (pSl x none (some 3)) (fun z => Ho (gTup [z]) fun y => y = rsP (way row)) := by
            rcases seq_or q1 with rfl | rfl <;> rfl
          have c2 : pSl (rpP l) none (some 3) = some (rsP (way l)) := rfl
          obtain ⟨z, z1, z2⟩ : ∃ z, pSl x none (some 3) = some z ∧ gTup [z] = some (rsP (way row)) := by
            rcases seq_or q1 with rfl | rfl
            · exact ⟨_, rfl, rfl⟩
            · exact ⟨_, rfl, rfl⟩
          simp [ne, e2, hacc, z1, z2, c2, pLe_rs]
          cases hle : leL (way row) (way l) with
          | true => simp [hle, errD]
          | false => simp [hle, hlt]; exact ⟨by omega, rfl⟩
end K11

set_option Elab.async false
set_option linter.all false
set_option maxRecDepth 100000
set_option maxHeartbeats 4000000
namespace K11
open PySem PySem.Spec Den
open PyProof.Rows L2

/-! ### rows ascend -/
theorem last_top {α : Type} {R : α → α → Prop} {acc : List α} {l : α} (h : acc.Pairwise R) (e : acc.getLast? = some l) : ∀ a ∈ acc, a = l ∨ R a l := fun a ha => by
  obtain ⟨ys, rfl⟩ := List.getLast?_eq_some_iff.mp e
  rcases List.mem_append.mp ha with h1 | h1
  · exact .inr ((List.pairwise_append.mp h).2.2 a h1 l (by simp))
  · simp at h1; exact .inl h1
theorem leL_false {a b : List Nat} (h : leL a b = false) : b < a := by
  by_cases q : b < a
  · exact q
  · rw [(leL_iff a b).mpr q] at h; cases h
abbrev Asc (rs : List Rw) : Prop := rs.Pairwise fun a b => a.1 < b.1
theorem stepR_asc {ks : List Kd} {roles : List Nat} {num : Int} {acc acc' : List Rw} {d : PD} (h : Asc acc) (e : stepR ks roles num acc d = .go acc') : Asc acc' := by
  unfold stepR at e
  split at e
  · split at e
    · cases e
    · rename_i row hrow
      split at e
      · rename_i l hl
        split at e
        · cases e
        · rename_i hle
          cases e
          have lt : l.1 < row.1 := leL_false (by simpa using hle)
          refine List.pairwise_append.mpr ⟨h, List.pairwise_singleton _ _, fun a ha b hb => ?_⟩
          simp at hb
          subst hb
          rcases last_top h hl a ha with rfl | q
          · exact lt
          · exact List.lt_trans q lt
      · rename_i hl
        cases e
        have : acc = [] := List.getLast?_eq_none_iff.mp hl
        subst this
        exact List.pairwise_singleton _ _
  · cases e
/-- what is known of an accepted tool -/
structure VTool (ks : List Kd) (t : Tl) : Prop where
  len1 : 1 ≤ t.2.1.length
  len3 : t.2.1.length ≤ 3
  below : ∀ r ∈ t.2.1, r < ks.length
  rows : ∀ w ∈ t.2.2, natsO (lims ks t.2.1) (w.1.map nP) = some w.1 ∧ natsO (lims ks t.2.1) (w.2.map nP) = some w.2
  asc : Asc t.2.2
  few : t.2.2.length ≤ 1000
theorem foldN_len {α : Type} {step : List α → PD → Nx (List α)} (hs : ∀ a d a', step a d = .go a' → a'.length = a.length + 1) : ∀ (ds : List PD) (a b : List α), foldN step a ds = .go b → b.length = a.length + ds.length
  | [], a, b, e => by cases e; simp
  | d :: r, a, b, e => by
    unfold foldN at e
    cases e2 : step a d with
    | go a' =>
      simp only [e2] at e
      rw [foldN_len hs r a' b e, hs a d a' e2]
      simp; omega
    | out fl => simp only [e2] at e; cases e
    | ex x => simp only [e2] at e; cases e
theorem stepR_len {ks : List Kd} {roles : List Nat} {num : Int} {acc acc' : List Rw} {d : PD} (e : stepR ks roles num acc d = .go acc') : acc'.length = acc.length + 1 := by
  unfold stepR at e
  split at e
  · split at e
    · cases e
    · split at e
      · split at e
        · cases e
        · cases e; simp
      · cases e; simp
  · cases e
theorem rowsN_ok {ks : List Kd} {roles : List Nat} {num : Int} {v : PD} {rs : List Rw} (h : Fine v) (e : rowsN ks roles num v = .go rs) : (∀ w ∈ rs, natsO (lims ks roles) (w.1.map nP) = some w.1 ∧ natsO (lims ks roles) (w.2.map nP) = some w.2) ∧ Asc rs ∧ rs.length ≤ 1000 := by
  unfold rowsN at e
  split at e
  · rename_i ds hs
    refine ⟨foldN_inv (fun acc => ∀ w ∈ acc, natsO (lims ks roles) (w.1.map nP) = some w.1 ∧ natsO (lims ks roles) (w.2.map nP) = some w.2) (fun a d a' h e => ?_) _ _ _ (by simp) e, foldN_inv Asc (fun a d a' h e => stepR_asc h e) _ _ _ List.Pairwise.nil e, ?_⟩
    · unfold stepR at e
      split at e
      · split at e
        · cases e
        · rename_i row hrow
          obtain ⟨_, _, _, _, _, r1, r2⟩ := rowO_eq hrow
          have key : ∀ w ∈ a ++ [row], natsO (lims ks roles) (w.1.map nP) = some w.1 ∧ natsO (lims ks roles) (w.2.map nP) = some w.2 := fun w hw => by
            rcases List.mem_append.mp hw with q | q
            · exact h w q
            · simp at q; subst q; exact ⟨r1, r2⟩
          split at e
          · split at e
            · cases e
            · cases e; exact key
          · cases e; exact key
      · cases e
    · have := foldN_len (fun a d a' e => stepR_len e) _ _ _ e
      simp at this
      have := (fine_items h hs).1
      omega
  · cases e
theorem toolsN_ok {ks : List Kd} {v : PD} {ts : List Tl} (h : Fine v) (e : toolsN ks v = .go ts) : (∀ t ∈ ts, VTool ks t) ∧ ts.length ≤ 20 := by
  unfold toolsN at e
  split at e
  · rename_i ds hs
    split at e
    · rename_i hlen
      have hi := (fine_items h hs).2
      constructor
      · have main : ∀ (ds : List PD) (k : Int), (∀ x ∈ ds, Fine x) → ∀ a b : List Tl, (∀ t ∈ a, VTool ks t) → foldN (stepT ks) a (enF k ds) = .go b → ∀ t ∈ b, VTool ks t := by
          intro ds
          induction ds with
          | nil => intro k _ a b ha e; cases e; exact ha
          | cons d r ih =>
            intro k hf a b ha e
            unfold enF foldN at e
            cases e2 : stepT ks a (.tuple [.int k, d]) with
            | out fl => simp only [e2] at e; cases e
            | ex x => simp only [e2] at e; cases e
            | go a' =>
              simp only [e2] at e
              refine ih (k + 1) (fun x hx => hf x (List.mem_cons_of_mem _ hx)) a' b ?_ e
              unfold stepT at e2
              simp only at e2
              split at e2
              · cases e2
              · rename_i nm rl c hk
                split at e2
                · rename_i rows hrow
                  cases e2
                  obtain ⟨b', q1, q2, _⟩ := toolO_eq hk
                  obtain ⟨r1, r2, r3, r4⟩ := rolesO_eq q2
                  have fc : Fine c := (fine_items (hf d List.mem_cons_self) q1).2 c (by simp)
                  obtain ⟨w1, w2, w3⟩ := rowsN_ok fc hrow
                  intro t ht
                  rcases List.mem_append.mp ht with q | q
                  · exact ha t q
                  · simp at q; subst q; exact ⟨r2, r3, r4, w1, w2, w3⟩
                · cases e2
                · cases e2
        exact main ds 0 hi [] ts (by simp) e
      · have := foldN_len (step := stepT ks) (fun a d a' e => by
          unfold stepT at e
          split at e
          · split at e
            · cases e
            · split at e
              · cases e; simp
              · cases e
              · cases e
          · cases e) _ _ _ e
        simp at this
        omega
    · cases e
  · cases e
/-! ### the desk -/
def keyL (ns : List Nat) : List Key := ns.map fun n : Nat => Sum.inl (n : Int)
def rdP (rows : List Rw) : PD := tdic (rows.map fun r => (keyL r.1, rsP r.2))
theorem keysD_nP : ∀ ns : List Nat, keysD (ns.map nP) = some (keyL ns)
  | [] => rfl
  | n :: r => by
    rw [List.map_cons]
    show (keyD (nP n)).bind (fun q => (keysD (r.map nP)).map (q :: ·)) = _
    rw [keysD_nP r]
    rfl
theorem rowsD_rows : ∀ {rows : List Rw}, (∀ w ∈ rows, w.1 ≠ []) → rowsD (rows.map rowP) = some (rows.map fun r => (keyL r.1, rsP r.2))
  | [], _ => rfl
  | w :: r, h => by
    have h1 := h w List.mem_cons_self
    have ih := rowsD_rows (rows := r) fun x hx => h x (List.mem_cons_of_mem _ hx)
    rw [List.map_cons]
    show (rowD (rowP w)).bind (fun q => (rowsD (r.map rowP)).map (q :: ·)) = _
    rw [ih]
    have e : rowD (rowP w) = some (keyL w.1, rsP w.2) := by
      obtain ⟨b, e⟩ := w
      cases b with
      | nil => exact absurd rfl h1
      | cons x b =>
        show (keysD ((x :: b).map nP)).map (·, rsP e) = _
        rw [keysD_nP]
        rfl
    rw [e]
    rfl
theorem keyL_inj {a b : List Nat} (h : keyL a = keyL b) : a = b := by
  unfold keyL at h
  exact (List.map_inj_right (fun x y e => by injection e with e; exact Int.ofNat.inj e)).mp h
theorem gDict_rows {rows : List Rw} (h : ∀ w ∈ rows, w.1 ≠ []) (a : Asc rows) : gDict [rwsP rows] = some (rdP rows) := by
  show (rowsD (rows.map rowP)).bind _ = _
  rw [rowsD_rows h, Option.bind_some, if_pos]
  · rfl
  · rw [List.map_map]
    refine List.pairwise_map.mpr (a.imp ?_)
    intro x y lt e
    have : x.1 = y.1 := keyL_inj e
    rw [this] at lt
    exact List.lt_irrefl _ lt
abbrev Dk := List Kd × List Tl × List R4
def deskFl (d : Dk) : List (Str × PD) := [("kinds", ksP d.1), ("tools", tsP d.2.1), ("repairs", rpsP d.2.2), ("told", .tuple [ksP d.1, tsP d.2.1, rpsP d.2.2]), ("found_rows", .list (d.2.1.map fun t => rdP t.2.2))]
def deskP (d : Dk) : PD := insD "Desk" (deskFl d)
def deskN (a b c : PD) : Nx Dk := match kindsN a with
  | .ex x => .ex x
  | .out fl => .out fl
  | .go ks => (match toolsN ks b with
    | .ex x => .ex x
    | .out fl => .out fl
    | .go ts => (match repsN ks c with
      | .ex x => .ex x
      | .out fl => .out fl
      | .go rs => .go (ks, ts, rs)))
theorem kindsN_no (v : PD) (fl : Fl) : kindsN v ≠ .out fl := by
  unfold kindsN
  split
  · split
    · exact foldN_no stepK_no _ _ _
    · simp
  · simp
theorem toolsN_no (ks : List Kd) (v : PD) (fl : Fl) : toolsN ks v ≠ .out fl := by
  unfold toolsN
  split
  · split
    · exact foldN_no (stepT_no ks) _ _ _
    · simp
  · simp
theorem repsN_no (ks : List Kd) (v : PD) (fl : Fl) : repsN ks v ≠ .out fl := by
  unfold repsN
  split
  · exact foldN_no (stepP_no ks) _ _ _
  · simp
theorem VTool.ne {ks : List Kd} {t : Tl} (h : VTool ks t) : ∀ w ∈ t.2.2, w.1 ≠ [] := fun w hw e => by
  have h1 := natsO_len (h.rows w hw).1
  have h2 := h.len1
  rw [e] at h1
  unfold lims at h1
  simp at h1
  omega
/-- Desk(a, b, c) -/
theorem wp_desk {a b c : PD} {ρ : Rho} {Q : PD → Rho → Prop} {E : Xc → Rho → Prop} (ha : Fine a) (hb : Fine b) (hc : Fine c) (h : match deskN a b c with
    | .go d => Q (deskP d) ρ
    | .ex x => E x ρ
    | .out _ => False) : Wp (dNew "Desk" F_Desk___init__ [a, b, c]) ρ Q E := by
  rw [wp_dNew]
  have key : (fun r : Rt × List MC => match r with
      | (.ret .none, [.ins m fs]) => Q (insD m fs) ρ
      | (.exc x, [_]) => E x ρ
      | _ => False) (F_Desk___init__ [.io 0, .val a, .val b, .val c] [.ins "Desk" []]) := by
    refine runB_post (T := fun r : Rt × List MC => match r with
      | (.ret .none, [.ins m fs]) => Q (insD m fs) ρ
      | (.exc x, [_]) => E x ρ
      | _ => False) rfl ?_
    unfold deskN at h
    simp [rho0, slotOf, look, ixOf, getC, setC, getM, setM, getL, MC.look, MC.pd, killS, turnQ, lkOf, outB, iosOf, arsOf, wp_tail, mAppend, mExtend, mPop, wp_dFor, wp_dComp, wp_dIterV, wp_dSeqs, slOkN, lendR, lendB, unS, compEnd, enumD_eq, g_Desk___init__, need_kinds_eq ha]
    cases hk : kindsN a with
    | out fl => exact absurd hk (kindsN_no _ _)
    | ex x => simp [hk] at h ⊢; exact h
    | go ks =>
      simp only [hk] at h
      simp +decide [rho0, slotOf, look, ixOf, getC, setC, getM, setM, getL, MC.look, MC.pd, killS, turnQ, lkOf, outB, iosOf, arsOf, wp_tail, mAppend, mExtend, mPop, wp_dFor, wp_dComp, wp_dIterV, wp_dSeqs, slOkN, lendR, lendB, unS, compEnd, enumD_eq, asIns, putD, insD, pFld, lookF, need_tools_eq hb]
      cases ht : toolsN ks b with
      | out fl => exact absurd ht (toolsN_no _ _ _)
      | ex x => simp [ht] at h ⊢; exact h
      | go ts =>
        simp only [ht] at h
        simp +decide [rho0, slotOf, look, ixOf, getC, setC, getM, setM, getL, MC.look, MC.pd, killS, turnQ, lkOf, outB, iosOf, arsOf, wp_tail, mAppend, mExtend, mPop, wp_dFor, wp_dComp, wp_dIterV, wp_dSeqs, slOkN, lendR, lendB, unS, compEnd, enumD_eq, asIns, putD, insD, pFld, lookF, need_repairs_eq hc]
        cases hr : repsN ks c with
        | out fl => exact absurd hr (repsN_no _ _ _)
        | ex x => simp [hr] at h ⊢; exact h
        | go rs =>
          simp only [hr] at h
          obtain ⟨vt, lt⟩ := toolsN_ok hb ht
          simp +decide [rho0, slotOf, look, ixOf, getC, setC, getM, setM, getL, MC.look, MC.pd, killS, turnQ, lkOf, outB, iosOf, arsOf, wp_tail, mAppend, mExtend, mPop, wp_dFor, wp_dComp, wp_dIterV, wp_dSeqs, slOkN, lendR, lendB, unS, compEnd, enumD_eq, asIns, putD, insD, pFld, lookF]
          simp [rho0, slotOf, look, ixOf, getC, setC, getM, setM, getL, MC.look, MC.pd, killS, turnQ, lkOf, outB, iosOf, arsOf, wp_tail, mAppend, mExtend, mPop, wp_dFor, wp_dComp, wp_dIterV, wp_dSeqs, slOkN, lendR, lendB, unS, compEnd, enumD_eq, tsP]
          refine ⟨Nat.le_trans lt (by decide), ?_⟩
          refine wp_compMap (fun d => match d with | .tuple [_, _, r] => (gDict [r]).getD .none | _ => .none) _ trivial (fun d hd => ?_) ?_
          · obtain ⟨t, htm, rfl⟩ := List.mem_map.mp hd
            have vt' := vt t htm
            simp [rho0, slotOf, look, ixOf, getC, setC, getM, setM, getL, MC.look, MC.pd, killS, turnQ, lkOf, outB, iosOf, arsOf, wp_tail, mAppend, mExtend, mPop, wp_dFor, wp_dComp, wp_dIterV, wp_dSeqs, slOkN, lendR, lendB, unS, compEnd, enumD_eq, tlP, gDict_rows vt'.ne vt'.asc]
          · have e : (ts.map tlP).map (fun d => match d with | .tuple [_, _, r] => (gDict [r]).getD .none | _ => .none) = ts.map fun t => rdP t.2.2 := by
              rw [List.map_map]
              refine List.map_congr_left fun t htm => ?_
              have vt' := vt t htm
              show (gDict [rwsP t.2.2]).getD .none = _
              rw [gDict_rows vt'.ne vt'.asc]
              rfl
            rw [e]
            simp +decide [rho0, slotOf, look, ixOf, getC, setC, getM, setM, getL, MC.look, MC.pd, killS, turnQ, lkOf, outB, iosOf, arsOf, wp_tail, mAppend, mExtend, mPop, wp_dFor, wp_dComp, wp_dIterV, wp_dSeqs, slOkN, lendR, lendB, unS, compEnd, enumD_eq, asIns, putD, insD]
            exact h
  exact key
/-- a tool's row, looked up -/
def behindO (t : Tl) (here : List Nat) : Option (List Nat) := (t.2.2.find? fun w => w.1 == here).map (·.2)
theorem atT_rows (here : List Nat) : ∀ rows : List Rw, Den.atT (keyL here) (rows.map (fun r => ((.tuple ((keyL r.1).map kD) : PD), rsP r.2)) ++ [(.bool true, .none)]) = some (((rows.find? fun w => w.1 == here).map (·.2)).map rsP)
  | [] => rfl
  | w :: r => by
    rw [List.map_cons, List.cons_append, Den.atT]
    have e : keysD ((keyL w.1).map kD) = some (keyL w.1) := keysD_kD _
    rw [e]
    by_cases h : w.1 = here
    · subst h
      simp
    · have h2 : ¬ some (keyL w.1) = some (keyL here) := fun z => h (keyL_inj (Option.some.inj z))
      rw [if_neg h2, atT_rows here r]
      have : (w.1 == here) = false := by simpa using h
      rw [List.find?_cons, this]
theorem dicO_rd (rows : List Rw) : dicO (rdP rows) = some (rows.map (fun r => ((.tuple ((keyL r.1).map kD) : PD), rsP r.2)) ++ [(.bool true, .none)]) := by
  have e1 : isDic (rows.map (fun r => ((.tuple ((keyL r.1).map kD) : PD), rsP r.2)) ++ [(.bool true, .none)]) = true := by cases rows <;> rfl
  unfold rdP tdic dicO
  simp only [List.map_map]
  exact if_pos e1
theorem behind_eq {d : Dk} {n : Nat} {t : Tl} (ht : d.2.1[n]? = some t) {here : List Nat} (hh : here ≠ []) : F_Desk_behind [.val (deskP d), .val (nP n), .val (.list (here.map nP))] [] = (.ret (((behindO t here).map rsP).getD .none), []) := by
  refine runB_eq rfl ?_
  have hk : tkeyD (.tuple (here.map nP)) = some (keyL here) := by
    cases here with
    | nil => exact absurd rfl hh
    | cons x r => exact keysD_nP (x :: r)
  have e4 := atT_rows here t.2.2
  simp +decide [rho0, slotOf, look, ixOf, getC, setC, getM, setM, getL, MC.look, MC.pd, killS, turnQ, lkOf, outB, iosOf, arsOf, wp_tail, mAppend, mExtend, mPop, wp_dFor, wp_dComp, wp_dIterV, wp_dSeqs, slOkN, lendR, lendB, unS, compEnd, enumD_eq, g_Desk_behind, pFld, lookF, deskP, insD, deskFl, nP, ht, dicO_rd]
  simp [hk, e4, behindO]
end K11

set_option Elab.async false
set_option linter.all false
set_option maxRecDepth 100000
set_option maxHeartbeats 4000000
namespace K11
open PySem PySem.Spec Den
open PyProof.Rows L2

/-- one statement, then the rest -/
theorem wp_seq {g h : M Fl} {ρ ρ1 : Rho} {Q : Fl → Rho → Prop} {E : Xc → Rho → Prop} (a : Wp g ρ (fun fl r => fl = .nx ∧ r = ρ1) (fun _ _ => False)) (k : Wp h ρ1 Q E) : Wp (dSeq g h) ρ Q E := by
  rw [wp_dSeq, wp_of (ok_of_wp a)]
  exact k
theorem dd_le : ∀ ns : List Int, (dd ns).length ≤ ns.length
  | [] => Nat.le_refl _
  | n :: r => by
    unfold dd
    have := dd_le r
    split <;> simp <;> omega
theorem dd_full : ∀ ns : List Int, (dd ns).length = ns.length ↔ ns.Nodup
  | [] => by simp [dd]
  | n :: r => by
    unfold dd
    have h1 := dd_le r
    have h2 := dd_full r
    by_cases h : n ∈ r
    · rw [if_pos h]
      constructor
      · intro e; simp at e; omega
      · intro e; exact absurd h (List.nodup_cons.mp e).1
    · rw [if_neg h]
      simp [h, h2]
theorem intsD_nP : ∀ ns : List Nat, intsD (ns.map nP) = some (ns.map Int.ofNat)
  | [] => rfl
  | n :: r => by
    rw [List.map_cons]
    show (intsD (r.map nP)).map _ = _
    rw [intsD_nP r]
    rfl
theorem pLenSet_nP {v : PD} {ns : List Nat} (h : seqOf v = some (ns.map nP)) (l : ns.length ≤ 1000) : ∃ k : Nat, pLenSet v = some (.int k) ∧ (k = ns.length ↔ ns.Nodup) := by
  have e : ∀ v, v = PyData.list (ns.map nP) ∨ v = .tuple (ns.map nP) → pLenSet v = some (.int (dd (ns.map Int.ofNat)).length) := by
    rintro v (rfl | rfl) <;> (unfold pLenSet; simp only [intsD_nP, Option.bind_some, List.length_map]; rw [if_pos (by omega)])
  refine ⟨_, e v (seq_or h), ?_⟩
  have := dd_full (ns.map Int.ofNat)
  rw [List.length_map] at this
  rw [this, List.Nodup, List.pairwise_map, List.Nodup]
  exact ⟨fun q => q.imp fun a b => a (by rw [b]), fun q => q.imp fun a b => a (Int.ofNat.inj b)⟩
/-! ### tries -/
abbrev Tr := Nat × List Nat
def trP (o : Tr) : PD := .tuple [nP o.1, rsP o.2]
/-- a thing that may have a role -/
def fitB (th roles : List Nat) (i : Int) (x : PD) : Bool := match natO x th.length with
  | some n => decide (th[n]? = roles[i.toNat]?)
  | none => false
def stepY (th roles : List Nat) (_ : Unit) (d : PD) : Nx Unit := match d with
  | .tuple [.int i, x] => if fitB th roles i x = true then .go () else .out (.ret (.bool false))
  | _ => .out (.ret (.bool false))
/-- all fit, from the k-th on -/
def fitO (th : List Nat) : List Nat → List PD → Option (List Nat)
  | [], [] => some []
  | r :: rs, d :: ds => (natO d th.length).bind fun n => if th[n]? = some r then (fitO th rs ds).map (n :: ·) else none
  | _, _ => none
theorem fitO_eq {th : List Nat} : ∀ {rs : List Nat} {ds : List PD} {ns : List Nat}, fitO th rs ds = some ns → ds = ns.map nP ∧ ns.length = rs.length ∧ ns.map (fun n => th[n]?) = rs.map some
  | [], [], ns, h => by cases h; simp
  | r :: rs, d :: ds, ns, h => by
    unfold fitO at h
    cases h1 : natO d th.length with
    | none => rw [h1] at h; cases h
    | some n =>
      rw [h1, Option.bind_some] at h
      split at h
      · rename_i hc
        cases h2 : fitO th rs ds with
        | none => rw [h2] at h; cases h
        | some ms =>
          rw [h2] at h
          cases h
          obtain ⟨e1, e2⟩ := natO_eq h1
          obtain ⟨q1, q2, q3⟩ := fitO_eq h2
          exact ⟨by rw [e1, q1]; rfl, by simp [q2], by simp [hc, q3]⟩
      · cases h
  | [], _ :: _, _, h => by cases h
  | _ :: _, [], _, h => by cases h
theorem fit_fold (th : List Nat) : ∀ (rs : List Nat) (ds : List PD) (pre : List Nat), ds.length = rs.length → foldN (stepY th (pre ++ rs)) () (enF pre.length ds) = if (fitO th rs ds).isSome = true then .go () else .out (.ret (.bool false))
  | [], [], _, _ => rfl
  | r :: rs, d :: ds, pre, h => by
    have ih := fit_fold th rs ds (pre ++ [r]) (by simpa using h)
    have e1 : ((pre ++ [r]).length : Int) = (pre.length : Int) + 1 := by simp
    rw [e1, show pre ++ [r] ++ rs = pre ++ r :: rs by simp] at ih
    have e2 : stepY th (pre ++ r :: rs) () (.tuple [.int pre.length, d]) = match natO d th.length with
        | some n => if th[n]? = some r then .go () else .out (.ret (.bool false))
        | none => .out (.ret (.bool false)) := by
      unfold stepY fitB
      cases hz : natO d th.length <;> simp [hz]
    rw [enF, foldN, e2, fitO]
    cases natO d th.length with
    | none => rfl
    | some n =>
      rw [Option.bind_some]
      by_cases hc : th[n]? = some r
      · simp only [if_pos hc, ih]
        cases fitO th rs ds <;> rfl
      · simp only [if_neg hc]
        rfl
  | [], _ :: _, _, h => by simp at h
  | _ :: _, [], _, h => by simp at h
def tryO (d : Dk) (th : List Nat) (v : PD) : Option Tr := match seqOf v with
  | some [a, b] => (natO a d.2.1.length).bind fun n => d.2.1[n]?.bind fun t => (seqOf b).bind fun ds => (fitO th t.2.1 ds).bind fun ns => if ns.Nodup then some (n, ns) else none
  | _ => none
/-- a desk that was accepted -/
structure VDk (d : Dk) : Prop where
  tools : ∀ t ∈ d.2.1, VTool d.1 t
theorem fld_tools (d : Dk) : pFld ["Desk"] "tools" (deskP d) = some (tsP d.2.1) := by
  unfold deskP insD deskFl pFld
  simp +decide [lookF]
theorem fld_kinds (d : Dk) : pFld ["Desk"] "kinds" (deskP d) = some (ksP d.1) := by
  unfold deskP insD deskFl pFld
  simp +decide [lookF]
theorem fitO_none {th : List Nat} {rs : List Nat} {ds : List PD} (h : ds.length ≠ rs.length) : fitO th rs ds = none := by
  cases e : fitO th rs ds with
  | none => rfl
  | some ns =>
    obtain ⟨q1, q2, _⟩ := fitO_eq e
    rw [q1, List.length_map] at h
    exact absurd q2 h
theorem is_try_eq {v : PD} (h : Fine v) {d : Dk} (V : VDk d) (th : List Nat) : F_is_try [.val (deskP d), .val (rsP th), .val v] [] = (.ret (.bool (tryO d th v).isSome), []) := by
  have h0 := h
  obtain ⟨m, hm⟩ := h
  refine runB_eq rfl ?_
  have glt : gLen [tsP d.2.1] = some (.int d.2.1.length) := by simp [tsP]
  by_cases hl : lenB v 2 = true
  · obtain ⟨a, b, hv⟩ := two hl
    have hs : seqOf v = some [a, b] := by rcases hv with rfl | rfl <;> rfl
    obtain ⟨_, hi⟩ := fine_items h0 hs
    obtain ⟨ma, ha⟩ := hi a (by simp)
    have fb := hi b (by simp)
    obtain ⟨mb, hb⟩ := hi b (by simp)
    unfold tryO
    rw [hs]
    cases h1 : natO a d.2.1.length with
    | none => simp [rho0, slotOf, look, ixOf, getC, setC, getM, setM, getL, MC.look, MC.pd, killS, turnQ, lkOf, outB, iosOf, arsOf, wp_tail, mAppend, mExtend, mPop, wp_dFor, wp_dComp, wp_dIterV, wp_dSeqs, slOkN, lendR, lendB, unS, compEnd, enumD_eq, g_is_try, is_row_eq hm, hl, pGet_seq hs, fld_tools, glt, is_below_eq ha, belowB_nat, h1]
    | some n =>
      obtain ⟨rfl, hn⟩ := natO_eq h1
      have ht : d.2.1[n]? = some d.2.1[n] := by simp [hn]
      have vt := V.tools _ (List.getElem_mem hn)
      generalize d.2.1[n] = t at ht vt
      have e1 : pGet (tsP d.2.1) (nP n) = some (tlP t) := by simp [tsP, nP, ht]
      have glr : gLen [rsP t.2.1] = some (.int t.2.1.length) := by simp [rsP]
      cases hsb : seqOf b with
      | none =>
        have e : lenB b t.2.1.length = false := by unfold lenB; rw [hsb]
        simp [rho0, slotOf, look, ixOf, getC, setC, getM, setM, getL, MC.look, MC.pd, killS, turnQ, lkOf, outB, iosOf, arsOf, wp_tail, mAppend, mExtend, mPop, wp_dFor, wp_dComp, wp_dIterV, wp_dSeqs, slOkN, lendR, lendB, unS, compEnd, enumD_eq, g_is_try, is_row_eq hm, hl, pGet_seq hs, fld_tools, glt, is_below_eq ha, belowB_nat, h1, e1, tlP, glr, is_row_eq hb, e, ht, hsb]
      | some ds =>
        obtain ⟨hlen, hi2⟩ := fine_items fb hsb
        by_cases hd : ds.length = t.2.1.length
        · have e : lenB b t.2.1.length = true := lenB_iff.mpr ⟨ds, hsb, by rw [hd]⟩
          simp [rho0, slotOf, look, ixOf, getC, setC, getM, setM, getL, MC.look, MC.pd, killS, turnQ, lkOf, outB, iosOf, arsOf, wp_tail, mAppend, mExtend, mPop, wp_dFor, wp_dComp, wp_dIterV, wp_dSeqs, slOkN, lendR, lendB, unS, compEnd, enumD_eq, g_is_try, is_row_eq hm, hl, pGet_seq hs, fld_tools, glt, is_below_eq ha, belowB_nat, h1, e1, tlP, glr, is_row_eq hb, e, ht, hsb]
          refine wp_forN (st := fun _ => ⟨[.val (deskP d), .val (rsP th), .val v, .val (rsP t.2.1), .no, .no], []⟩) (stepY th t.2.1) (fun _ _ => True) [] ?hok _ () ?turn trivial ?fin
          case hok => exact fun _ _ _ => trivial
          case turn =>
            intro _ _ _ x hx
            obtain ⟨i, y, rfl, hy⟩ := enF_mem_at hx
            obtain ⟨my, fy⟩ := hi2 y (List.mem_of_getElem? hy)
            have glh : gLen [rsP th] = some (.int th.length) := by simp [rsP]
            have hir : i < t.2.1.length := by
              rw [← hd]
              rcases Nat.lt_or_ge i ds.length with q | q
              · exact q
              · rw [List.getElem?_eq_none q] at hy; cases hy
            simp [rho0, slotOf, look, ixOf, getC, setC, getM, setM, getL, MC.look, MC.pd, killS, turnQ, lkOf, outB, iosOf, arsOf, wp_tail, mAppend, mExtend, mPop, wp_dFor, wp_dComp, wp_dIterV, wp_dSeqs, slOkN, lendR, lendB, unS, compEnd, enumD_eq, glh, is_below_eq fy, belowB_nat, stepY, fitB]
            cases hy2 : natO y th.length with
            | none => simp [isRt]
            | some k =>
              obtain ⟨rfl, hk⟩ := natO_eq hy2
              have t1 : th[k]? = some th[k] := by simp [hk]
              have t2 : t.2.1[i]? = some t.2.1[i] := by simp [hir]
              simp [nP, rsP, t1, t2]
              by_cases q : th[k] = t.2.1[i]
              · simp [q]
              · have q' : ¬ (th[k] : Int) = t.2.1[i] := by omega
                simp [q, q', isRt]
          case fin =>
            have := fit_fold th t.2.1 ds [] hd
            simp at this
            rw [this]
            cases hf : fitO th t.2.1 ds with
            | none => simp [rho0, slotOf, look, ixOf, getC, setC, getM, setM, getL, MC.look, MC.pd, killS, turnQ, lkOf, outB, iosOf, arsOf, wp_tail, mAppend, mExtend, mPop, wp_dFor, wp_dComp, wp_dIterV, wp_dSeqs, slOkN, lendR, lendB, unS, compEnd, enumD_eq, hf]
            | some ns =>
              obtain ⟨q1, q2, _⟩ := fitO_eq hf
              subst q1
              obtain ⟨k, k1, k2⟩ := pLenSet_nP hsb (by simpa using hlen)
              simp [rho0, slotOf, look, ixOf, getC, setC, getM, setM, getL, MC.look, MC.pd, killS, turnQ, lkOf, outB, iosOf, arsOf, wp_tail, mAppend, mExtend, mPop, wp_dFor, wp_dComp, wp_dIterV, wp_dSeqs, slOkN, lendR, lendB, unS, compEnd, enumD_eq, hf, pGet_seq hs, k1, glr]
              rw [q2] at k2
              by_cases nn : ns.Nodup
              · have := k2.mpr nn
                simp [nn, this]
              · have : ¬ k = t.2.1.length := fun z => nn (k2.mp z)
                have : ¬ (k : Int) = t.2.1.length := by omega
                simp [nn, this]
        · have e : lenB b t.2.1.length = false := by
            rw [← Bool.not_eq_true]
            intro z
            obtain ⟨ds', q1, q2⟩ := lenB_iff.mp z
            rw [hsb] at q1
            cases q1
            exact hd (by omega)
          simp [rho0, slotOf, look, ixOf, getC, setC, getM, setM, getL, MC.look, MC.pd, killS, turnQ, lkOf, outB, iosOf, arsOf, wp_tail, mAppend, mExtend, mPop, wp_dFor, wp_dComp, wp_dIterV, wp_dSeqs, slOkN, lendR, lendB, unS, compEnd, enumD_eq, g_is_try, is_row_eq hm, hl, pGet_seq hs, fld_tools, glt, is_below_eq ha, belowB_nat, h1, e1, tlP, glr, is_row_eq hb, e, ht, hsb, fitO_none hd]
  · have e : tryO d th v = none := by
      unfold tryO
      split
      · rename_i a b hs
        exact absurd (lenB_iff.mpr ⟨_, hs, rfl⟩) hl
      · rfl
    rw [e]
    simp [rho0, slotOf, look, ixOf, getC, setC, getM, setM, getL, MC.look, MC.pd, killS, turnQ, lkOf, outB, iosOf, arsOf, wp_tail, mAppend, mExtend, mPop, wp_dFor, wp_dComp, wp_dIterV, wp_dSeqs, slOkN, lendR, lendB, unS, compEnd, enumD_eq, g_is_try, is_row_eq hm, hl]
end K11

set_option Elab.async false
set_option linter.all false
set_option maxRecDepth 100000
set_option maxHeartbeats 4000000
namespace K11
open PySem PySem.Spec Den
open PyProof.Rows L2

def errH (at_ : Int) : Xc := ⟨"InvalidHistory", .int at_⟩
def thingsO (d : Dk) (v : PD) : Option (List Nat) := (seqOf v).bind fun ds => natsO (List.replicate ds.length d.1.length) ds
theorem need_things_eq {v : PD} (h : Fine v) (d : Dk) : F_need_things [.val (deskP d), .val v] [] = (match thingsO d v with
    | some th => .ret (rsP th)
    | none => .exc (errH (-1)), []) := by
  have h0 := h
  obtain ⟨m, hm⟩ := h
  refine runB_eq rfl ?_
  unfold thingsO
  cases hs : seqOf v with
  | none =>
    have e : seqB v = false := by unfold seqB; rw [hs]; rfl
    simp [rho0, slotOf, look, ixOf, getC, setC, getM, setM, getL, MC.look, MC.pd, killS, turnQ, lkOf, outB, iosOf, arsOf, wp_tail, mAppend, mExtend, mPop, wp_dFor, wp_dComp, wp_dIterV, wp_dSeqs, slOkN, lendR, lendB, unS, compEnd, enumD_eq, g_need_things, is_sequence_eq hm, e, errH]
  | some ds =>
    have e : seqB v = true := by unfold seqB; rw [hs]; rfl
    obtain ⟨hlen, hi⟩ := fine_items h0 hs
    have glk : gLen [ksP d.1] = some (.int d.1.length) := by simp [ksP]
    unfold g_need_things
    generalize hG : dCB gAll (dKs (dkE (mbind (dComp (.nm 2) [2] (dIterV (dkE (dVar 1))) (mpure true) (dCall F_is_below (.val (dVar 2) :: .val (dCB gLen (dKs (dkE (dFld ["Desk"] "kinds" (dkVar 0))) (mpure []))) :: []))) (fun xs => mpure (.list xs)))) (mpure [])) = G
    have eG : G ⟨[.val (deskP d), .val v, .no], []⟩ = .ok (.bool (natsO (List.replicate ds.length d.1.length) ds).isSome) ⟨[.val (deskP d), .val v, .no], []⟩ := by
      subst hG
      have core : Wp (compGo (.nm 2) [2] (fun _ => True) (mpure true) (dCall F_is_below (.val (dVar 2) :: .val (dCB gLen (dKs (dkE (dFld ["Desk"] "kinds" (dkVar 0))) (mpure []))) :: [])) ds) ⟨[.val (deskP d), .val v, .no], []⟩ (fun ys ρ' => ys = ds.map (fun d' => .bool (belowB d' d.1.length)) ∧ ρ' = ⟨[.val (deskP d), .val v, .no], []⟩) (fun _ _ => False) := by
        refine wp_compMap (fun d' => .bool (belowB d' d.1.length)) _ trivial (fun x hx => ?_) ⟨rfl, rfl⟩
        obtain ⟨k, hk⟩ := hi x hx
        simp [rho0, slotOf, look, ixOf, getC, setC, getM, setM, getL, MC.look, MC.pd, killS, turnQ, lkOf, outB, iosOf, arsOf, wp_tail, mAppend, mExtend, mPop, wp_dFor, wp_dComp, wp_dIterV, wp_dSeqs, slOkN, lendR, lendB, unS, compEnd, enumD_eq, fld_kinds, glk, is_below_eq hk]
      have ec := ok_of_wp core
      refine ok_of_wp ?_
      rcases seq_or hs with rfl | rfl <;> (simp [rho0, slotOf, look, ixOf, getC, setC, getM, setM, getL, MC.look, MC.pd, killS, turnQ, lkOf, outB, iosOf, arsOf, wp_tail, mAppend, mExtend, mPop, wp_dFor, wp_dComp, wp_dIterV, wp_dSeqs, slOkN, lendR, lendB, unS, compEnd, enumD_eq, wp_of ec, natsO_rep]; exact Nat.le_trans hlen (by decide))
    simp [rho0, slotOf, look, ixOf, getC, setC, getM, setM, getL, MC.look, MC.pd, killS, turnQ, lkOf, outB, iosOf, arsOf, wp_tail, mAppend, mExtend, mPop, wp_dFor, wp_dComp, wp_dIterV, wp_dSeqs, slOkN, lendR, lendB, unS, compEnd, enumD_eq, is_sequence_eq hm, e, wp_of eG, gTup_seq hs]
    cases hn : natsO (List.replicate ds.length d.1.length) ds with
    | none => simp [errH]
    | some ns =>
      obtain ⟨q1, _⟩ := natsO_eq hn
      simp [rsP, q1]
end K11

set_option Elab.async false
set_option linter.all false
set_option maxRecDepth 100000
set_option maxHeartbeats 4000000
namespace K11
open PySem PySem.Spec Den
open PyProof.Rows L2

/-! ### histories -/
abbrev Hs := List Nat × List Tr
def hsP (h : Hs) : PD := .tuple [rsP h.1, .tuple (h.2.map trP)]
def stepH (d : Dk) (th : List Nat) (acc : List Tr) (x : PD) : Nx (List Tr) := match x with
  | .tuple [.int at_, v] => (match tryO d th v with
    | some o => .go (acc ++ [o])
    | none => .ex (errH at_))
  | _ => .ex (errH 0)
theorem stepH_no (d : Dk) (th : List Nat) (a : List Tr) (x : PD) (fl : Fl) : stepH d th a x ≠ .out fl := by
  unfold stepH
  split
  · split <;> simp
  · simp
def triesN (d : Dk) (th : List Nat) (ds : List PD) : Nx Hs := match foldN (stepH d th) [] (enF 0 ds) with
  | .go ts => .go (th, ts)
  | .ex x => .ex x
  | .out fl => .out fl
def histN (d : Dk) (v : PD) : Nx Hs := match seqOf v with
  | some [a, b] => (match seqOf b with
    | some ds => (match thingsO d a with
      | some th => triesN d th ds
      | none => .ex (errH (-1)))
    | none => .ex (errH (-1)))
  | _ => .ex (errH (-1))
theorem triesN_no (d : Dk) (th : List Nat) (ds : List PD) (fl : Fl) : triesN d th ds ≠ .out fl := by
  unfold triesN
  have := foldN_no (stepH_no d th) (enF 0 ds) []
  split
  · simp
  · simp
  · rename_i f e
    exact absurd e (this f)
theorem histN_no (d : Dk) (v : PD) (fl : Fl) : histN d v ≠ .out fl := by
  unfold histN
  split
  · split
    · split
      · exact triesN_no _ _ _ _
      · simp
    · simp
  · simp
/-- a try on these things -/
structure VTr (d : Dk) (th : List Nat) (o : Tr) : Prop where
  ex : ∃ t, d.2.1[o.1]? = some t ∧ o.2.map (fun n => th[n]?) = t.2.1.map some
  nodup : o.2.Nodup
theorem tryO_ok {d : Dk} {th : List Nat} {v : PD} {o : Tr} (h : tryO d th v = some o) : VTr d th o ∧ ∃ a b, seqOf v = some [a, b] ∧ a = nP o.1 ∧ seqOf b = some (o.2.map nP) := by
  unfold tryO at h
  split at h
  · rename_i a b hs
    cases h1 : natO a d.2.1.length with
    | none => rw [h1] at h; cases h
    | some n =>
      rw [h1, Option.bind_some] at h
      obtain ⟨rfl, hn⟩ := natO_eq h1
      cases ht : d.2.1[n]? with
      | none => rw [ht] at h; cases h
      | some t =>
        rw [ht, Option.bind_some] at h
        cases hb : seqOf b with
        | none => rw [hb] at h; cases h
        | some ds =>
          rw [hb, Option.bind_some] at h
          cases hf : fitO th t.2.1 ds with
          | none => rw [hf] at h; cases h
          | some ns =>
            rw [hf, Option.bind_some] at h
            split at h
            · rename_i nn
              cases h
              obtain ⟨q1, q2, q3⟩ := fitO_eq hf
              subst q1
              exact ⟨⟨⟨t, ht, q3⟩, nn⟩, _, b, hs, rfl, hb⟩
            · cases h
  · cases h
theorem triesN_ok {d : Dk} {th : List Nat} {ds : List PD} {h : Hs} (e : triesN d th ds = .go h) : h.1 = th ∧ (∀ o ∈ h.2, VTr d th o) ∧ h.2.length = ds.length := by
  unfold triesN at e
  split at e
  · rename_i ts hf
    cases e
    refine ⟨rfl, foldN_inv (fun acc => ∀ o ∈ acc, VTr d th o) (fun a x a' ha e => ?_) _ _ _ (by simp) hf, ?_⟩
    · unfold stepH at e
      split at e
      · split at e
        · rename_i o ho
          cases e
          intro o' ho'
          rcases List.mem_append.mp ho' with q | q
          · exact ha o' q
          · simp at q; subst q; exact (tryO_ok ho).1
        · cases e
      · cases e
    · have := foldN_len (fun a x a' e => by
        unfold stepH at e
        split at e
        · split at e
          · cases e; simp
          · cases e
        · cases e) _ _ _ hf
      simpa using this
  · cases e
  · cases e
theorem histN_ok {d : Dk} {v : PD} {h : Hs} (hf : Fine v) (e : histN d v = .go h) : (∀ o ∈ h.2, VTr d h.1 o) ∧ h.2.length ≤ 1000 ∧ h.1.length ≤ 1000 := by
  unfold histN at e
  split at e
  · rename_i a b hs
    obtain ⟨_, hi⟩ := fine_items hf hs
    split at e
    · rename_i ds hb
      split at e
      · rename_i th ht
        obtain ⟨q1, q2, q3⟩ := triesN_ok e
        refine ⟨by rw [q1]; exact q2, by rw [q3]; exact (fine_items (hi b (by simp)) hb).1, ?_⟩
        rw [q1]
        unfold thingsO at ht
        cases ha : seqOf a with
        | none => rw [ha] at ht; cases ht
        | some da =>
          rw [ha, Option.bind_some] at ht
          have z := natsO_eq ht
          have := (fine_items (hi a (by simp)) ha).1
          rw [z.2.1, List.length_replicate]
          exact this
      · cases e
    · cases e
  · cases e
theorem need_history_eq {v : PD} (h : Fine v) {d : Dk} (V : VDk d) : F_need_history [.val (deskP d), .val v] [] = (rtN hsP (histN d v), []) := by
  have h0 := h
  obtain ⟨m, hm⟩ := h
  refine runB_eq rfl ?_
  unfold histN
  by_cases hl : lenB v 2 = true
  · obtain ⟨a, b, hv⟩ := two hl
    have hs : seqOf v = some [a, b] := by rcases hv with rfl | rfl <;> rfl
    obtain ⟨_, hi⟩ := fine_items h0 hs
    have fb := hi b (by simp)
    obtain ⟨mb, hb⟩ := hi b (by simp)
    rw [hs]
    cases hsb : seqOf b with
    | none =>
      have e : seqB b = false := by unfold seqB; rw [hsb]; rfl
      simp [rho0, slotOf, look, ixOf, getC, setC, getM, setM, getL, MC.look, MC.pd, killS, turnQ, lkOf, outB, iosOf, arsOf, wp_tail, mAppend, mExtend, mPop, wp_dFor, wp_dComp, wp_dIterV, wp_dSeqs, slOkN, lendR, lendB, unS, compEnd, enumD_eq, g_need_history, is_row_eq hm, hl, pGet_seq hs, is_sequence_eq hb, e, errH, hsb]
    | some ds =>
      have e : seqB b = true := by unfold seqB; rw [hsb]; rfl
      obtain ⟨hlen, hi2⟩ := fine_items fb hsb
      cases ht : thingsO d a with
      | none => simp [rho0, slotOf, look, ixOf, getC, setC, getM, setM, getL, MC.look, MC.pd, killS, turnQ, lkOf, outB, iosOf, arsOf, wp_tail, mAppend, mExtend, mPop, wp_dFor, wp_dComp, wp_dIterV, wp_dSeqs, slOkN, lendR, lendB, unS, compEnd, enumD_eq, g_need_history, is_row_eq hm, hl, pGet_seq hs, is_sequence_eq hb, e, need_things_eq (hi a (by simp)) d, ht, errH, hsb]
      | some th =>
        simp [rho0, slotOf, look, ixOf, getC, setC, getM, setM, getL, MC.look, MC.pd, killS, turnQ, lkOf, outB, iosOf, arsOf, wp_tail, mAppend, mExtend, mPop, wp_dFor, wp_dComp, wp_dIterV, wp_dSeqs, slOkN, lendR, lendB, unS, compEnd, enumD_eq, g_need_history, is_row_eq hm, hl, pGet_seq hs, is_sequence_eq hb, e, need_things_eq (hi a (by simp)) d, ht, hsb]
        refine wp_forN (st := fun acc => ⟨[.val (deskP d), .val v, .val (rsP th), .own (.lst (acc.map trP)), .no, .no], []⟩) (stepH d th) (fun n acc => acc.length + n ≤ 1000) [] ?hok _ [] ?turn ?inv ?fin
        case hok => exact fun _ _ _ => trivial
        case inv => simpa using hlen
        case fin =>
          unfold triesN
          cases hf : foldN (stepH d th) [] (enF 0 ds) with
          | go a' => intro _; simp [rho0, slotOf, look, ixOf, getC, setC, getM, setM, getL, MC.look, MC.pd, killS, turnQ, lkOf, outB, iosOf, arsOf, wp_tail, mAppend, mExtend, mPop, wp_dFor, wp_dComp, wp_dIterV, wp_dSeqs, slOkN, lendR, lendB, unS, compEnd, enumD_eq, hsP]
          | out fl => exact absurd hf (foldN_no (stepH_no _ _) _ _ _)
          | ex x => intro ρ' h; simp [h]
        case turn =>
          intro n acc inv x hx
          obtain ⟨i, y, rfl, hy⟩ := enF_mem hx
          have fy := hi2 y hy
          have hlt : acc.length < 10000000 := by omega
          simp [rho0, slotOf, look, ixOf, getC, setC, getM, setM, getL, MC.look, MC.pd, killS, turnQ, lkOf, outB, iosOf, arsOf, wp_tail, mAppend, mExtend, mPop, wp_dFor, wp_dComp, wp_dIterV, wp_dSeqs, slOkN, lendR, lendB, unS, compEnd, enumD_eq, is_try_eq fy V th, stepH]
          cases hk : tryO d th y with
          | none => simp [hk, errH]
          | some o =>
            obtain ⟨_, a', b', q1, q2, q3⟩ := tryO_ok hk
            have fb' : Fine b' := (fine_items fy q1).2 b' (by simp)
            simp [hk, pGet_seq q1, gTup_seq q3, hlt, q2, trP, rsP]
            omega
  · have e : ∀ (x : Nx Hs), (match seqOf v with
      | some [a, b] => (match seqOf b with
        | some ds => (match thingsO d a with
          | some th => triesN d th ds
          | none => .ex (errH (-1)))
        | none => .ex (errH (-1)))
      | _ => x) = x := fun x => by
      split
      · rename_i a b hs
        exact absurd (lenB_iff.mpr ⟨_, hs, rfl⟩) hl
      · rfl
    rw [e]
    simp [rho0, slotOf, look, ixOf, getC, setC, getM, setM, getL, MC.look, MC.pd, killS, turnQ, lkOf, outB, iosOf, arsOf, wp_tail, mAppend, mExtend, mPop, wp_dFor, wp_dComp, wp_dIterV, wp_dSeqs, slOkN, lendR, lendB, unS, compEnd, enumD_eq, g_need_history, is_row_eq hm, hl, errH]
/-! ### one try -/
def setAll (w : List Nat) : List Nat → List Nat → List Nat
  | m :: ms, b :: bs => setAll (w.set m b) ms bs
  | _, _ => w
def hereT (w ms : List Nat) : List Nat := ms.map fun m => w.getD m 0
def triedT (d : Dk) (w : List Nat) (o : Tr) : List Nat × Bool := match d.2.1[o.1]?.bind fun t => behindO t (hereT w o.2) with
  | none => (w, false)
  | some bs => (setAll w o.2 bs, true)
theorem setAll_len : ∀ (ms bs w : List Nat), (setAll w ms bs).length = w.length
  | [], _, _ => by simp [setAll]
  | _ :: _, [], _ => by simp [setAll]
  | m :: ms, b :: bs, w => by rw [setAll, setAll_len ms bs]; simp
theorem triedT_len (d : Dk) (w : List Nat) (o : Tr) : (triedT d w o).1.length = w.length := by
  unfold triedT
  split
  · rfl
  · exact setAll_len _ _ _
theorem VTr.lt {d : Dk} {th : List Nat} {o : Tr} (h : VTr d th o) : ∀ m ∈ o.2, m < th.length := fun m hm => by
  obtain ⟨t, _, e⟩ := h.ex
  have : th[m]? ∈ o.2.map (fun n => th[n]?) := List.mem_map.mpr ⟨m, hm, rfl⟩
  rw [e] at this
  obtain ⟨r, _, hr⟩ := List.mem_map.mp this
  rcases Nat.lt_or_ge m th.length with q | q
  · exact q
  · rw [List.getElem?_eq_none q] at hr; cases hr
theorem behindO_len {ks : List Kd} {t : Tl} (v : VTool ks t) {here bs : List Nat} (h : behindO t here = some bs) : bs.length = t.2.1.length := by
  unfold behindO at h
  cases hf : t.2.2.find? (fun w => w.1 == here) with
  | none => rw [hf] at h; cases h
  | some w =>
    rw [hf] at h
    cases h
    have := natsO_len (v.rows w (List.mem_of_find?_eq_some hf)).2
    unfold lims at this
    simpa using this
def stepS (bs acc : List Nat) (x : PD) : Nx (List Nat) := match x with
  | .tuple [.int i, .int m] => .go (acc.set m.toNat (bs.getD i.toNat 0))
  | _ => .ex (errH 0)
theorem set_fold (bs : List Nat) : ∀ (ms : List Nat) (k : Nat) (w : List Nat), k + ms.length ≤ bs.length → foldN (stepS bs) w (enF k (ms.map nP)) = .go (setAll w ms (bs.drop k))
  | [], k, w, _ => by simp [enF, foldN, setAll]
  | m :: ms, k, w, h => by
    have hk : k < bs.length := by simp at h; omega
    have ih := set_fold bs ms (k + 1) (w.set m bs[k]) (by simp at h; omega)
    rw [List.map_cons, enF, foldN]
    have e : stepS bs w (.tuple [.int (k : Nat), nP m]) = .go (w.set m bs[k]) := by
      unfold stepS nP
      simp [hk]
    rw [e, List.drop_eq_getElem_cons hk, setAll]
    simpa using ih
theorem tried_eq {d : Dk} (V : VDk d) {th w : List Nat} (hw : w.length = th.length) (hl : th.length ≤ 1000) {o : Tr} (ho : VTr d th o) : F_tried [.val (deskP d), .val (rsP w), .val (trP o)] [] = (.ret (.tuple [rsP (triedT d w o).1, .bool (triedT d w o).2]), []) := by
  refine runB_eq rfl ?_
  obtain ⟨t, ht, e⟩ := ho.ex
  have htm : t ∈ d.2.1 := List.mem_of_getElem? ht
  have vt := V.tools t htm
  have hlm : o.2.length = t.2.1.length := by
    have := congrArg List.length e
    simpa using this
  have hlt := ho.lt
  have hne : hereT w o.2 ≠ [] := by
    have := vt.len1
    intro z
    have := congrArg List.length z
    simp [hereT] at this
    rw [this] at hlm
    simp at hlm
    omega
  have l3 := vt.len3
  have isd : isIns "Desk" "behind" (deskP d) = true := by
    unfold deskP insD deskFl isIns
    simp +decide [lookF]
  unfold g_tried
  have e2 : (o.2.map nP).map (fun x => match x with | .int i => nP (w.getD i.toNat 0) | _ => .none) = (hereT w o.2).map nP := by
    simp [hereT, nP]
  refine wp_seq (ρ1 := ⟨[.val (deskP d), .val (rsP w), .val (trP o), .no, .no, .val (nP o.1), .val (rsP o.2), .no, .no], []⟩) (by simp [rho0, slotOf, look, ixOf, getC, setC, getM, setM, getL, MC.look, MC.pd, killS, turnQ, lkOf, outB, iosOf, arsOf, wp_tail, mAppend, mExtend, mPop, wp_dFor, wp_dComp, wp_dIterV, wp_dSeqs, slOkN, lendR, lendB, unS, compEnd, enumD_eq, trP]) ?_
  refine wp_seq (ρ1 := ⟨[.val (deskP d), .val (rsP w), .val (trP o), .val (((behindO t (hereT w o.2)).map rsP).getD .none), .no, .val (nP o.1), .val (rsP o.2), .no, .no], []⟩) ?_ ?_
  · simp [rho0, slotOf, look, ixOf, getC, setC, getM, setM, getL, MC.look, MC.pd, killS, turnQ, lkOf, outB, iosOf, arsOf, wp_tail, mAppend, mExtend, mPop, wp_dFor, wp_dComp, wp_dIterV, wp_dSeqs, slOkN, lendR, lendB, unS, compEnd, enumD_eq, rsP]
    refine ⟨isd, by rw [hlm]; exact Nat.le_trans l3 (by decide), ?_⟩
    refine wp_compMap (fun x => match x with | .int i => nP (w.getD i.toNat 0) | _ => .none) _ trivial (fun x hx => ?_) ?_
    · obtain ⟨m, hm, rfl⟩ := List.mem_map.mp hx
      have hmw : m < w.length := by rw [hw]; exact hlt m hm
      have : w[m]? = some w[m] := by simp [hmw]
      simp [rho0, slotOf, look, ixOf, getC, setC, getM, setM, getL, MC.look, MC.pd, killS, turnQ, lkOf, outB, iosOf, arsOf, wp_tail, mAppend, mExtend, mPop, wp_dFor, wp_dComp, wp_dIterV, wp_dSeqs, slOkN, lendR, lendB, unS, compEnd, enumD_eq, nP, this]
    · rw [e2]
      simp [-List.map_map, rho0, slotOf, look, ixOf, getC, setC, getM, setM, getL, MC.look, MC.pd, killS, turnQ, lkOf, outB, iosOf, arsOf, wp_tail, mAppend, mExtend, mPop, wp_dFor, wp_dComp, wp_dIterV, wp_dSeqs, slOkN, lendR, lendB, unS, compEnd, enumD_eq, behind_eq ht hne]
  unfold triedT
  rw [ht, Option.bind_some]
  cases hb : behindO t (hereT w o.2) with
  | none => simp [rho0, slotOf, look, ixOf, getC, setC, getM, setM, getL, MC.look, MC.pd, killS, turnQ, lkOf, outB, iosOf, arsOf, wp_tail, mAppend, mExtend, mPop, wp_dFor, wp_dComp, wp_dIterV, wp_dSeqs, slOkN, lendR, lendB, unS, compEnd, enumD_eq, pIs, rsP]
  | some bs =>
    have hbl := behindO_len vt hb
    have hrs : ∀ z : List Nat, pIs (rsP z) .none = some (.bool false) := fun _ => rfl
    have g1 : gList [rsP w] = some (w.map nP) := rfl
    have g2 : seqOf (rsP o.2) = some (o.2.map nP) := rfl
    simp [hrs, rho0, slotOf, look, ixOf, getC, setC, getM, setM, getL, MC.look, MC.pd, killS, turnQ, lkOf, outB, iosOf, arsOf, wp_tail, mAppend, mExtend, mPop, wp_dFor, wp_dComp, wp_dIterV, wp_dSeqs, slOkN, lendR, lendB, unS, compEnd, enumD_eq, g1, g2]
    refine wp_forN (st := fun acc => ⟨[.val (deskP d), .val (rsP w), .val (trP o), .val (rsP bs), .own (.lst (acc.map nP)), .val (nP o.1), .val (rsP o.2), .no, .no], []⟩) (stepS bs) (fun _ acc => acc.length = w.length) [] ?hok _ w ?turn rfl ?fin
    case hok => exact fun _ _ _ => trivial
    case turn =>
      intro n acc inv x hx
      obtain ⟨i, y, rfl, hy⟩ := enF_mem_at hx
      rw [List.getElem?_map] at hy
      cases hm : o.2[i]? with
      | none => rw [hm] at hy; cases hy
      | some m =>
        rw [hm] at hy
        cases hy
        have hmw : m < acc.length := by rw [inv, hw]; exact hlt m (List.mem_of_getElem? hm)
        have hib : i < bs.length := by
          rw [hbl, ← hlm]
          rcases Nat.lt_or_ge i o.2.length with q | q
          · exact q
          · rw [List.getElem?_eq_none q] at hm; cases hm
        have e3 : bs[i]? = some bs[i] := by simp [hib]
        have hmw2 : m < w.length := by rw [← inv]; exact hmw
        simp [rho0, slotOf, look, ixOf, getC, setC, getM, setM, getL, MC.look, MC.pd, killS, turnQ, lkOf, outB, iosOf, arsOf, wp_tail, mAppend, mExtend, mPop, wp_dFor, wp_dComp, wp_dIterV, wp_dSeqs, slOkN, lendR, lendB, unS, compEnd, enumD_eq, rsP, e3, nP, hmw2, stepS, inv]
    case fin =>
      have := set_fold bs o.2 0 w (by rw [hbl, hlm]; simp)
      simp at this
      rw [this]
      intro _
      simp [rho0, slotOf, look, ixOf, getC, setC, getM, setM, getL, MC.look, MC.pd, killS, turnQ, lkOf, outB, iosOf, arsOf, wp_tail, mAppend, mExtend, mPop, wp_dFor, wp_dComp, wp_dIterV, wp_dSeqs, slOkN, lendR, lendB, unS, compEnd, enumD_eq, rsP]
end K11

set_option Elab.async false
set_option linter.all false
set_option maxRecDepth 100000
set_option maxHeartbeats 4000000
namespace K11
open PySem PySem.Spec Den
open PyProof.Rows L2

/-! ### whole histories -/
def zerosT (th : List Nat) : List Nat := th.map fun _ => 0
/-- the worlds from this one on -/
def alongT (d : Dk) : List Nat → List Tr → List (List Nat)
  | w, [] => [w]
  | w, o :: r => w :: alongT d (triedT d w o).1 r
def cameT (d : Dk) : List Nat → List Tr → List Bool
  | _, [] => []
  | w, o :: r => (triedT d w o).2 :: cameT d (triedT d w o).1 r
def endT (d : Dk) (w : List Nat) (tries : List Tr) : List Nat := tries.foldl (fun w o => (triedT d w o).1) w
def wsP (ws : List (List Nat)) : PD := .tuple (ws.map rsP)
theorem along_fold (d : Dk) : ∀ (tries : List Tr) (acc : List (List Nat)) (w : List Nat), tries.foldl (fun (a : List (List Nat)) o => a ++ [(triedT d (a.getLast?.getD []) o).1]) (acc ++ [w]) = acc ++ alongT d w tries
  | [], acc, w => by simp [alongT]
  | o :: r, acc, w => by
    rw [List.foldl_cons]
    have e : ((acc ++ [w]).getLast?.getD []) = w := by simp
    rw [e, along_fold d r (acc ++ [w]) (triedT d w o).1, alongT]
    simp
theorem kinds_zero {th : List Nat} {ρ : Rho} {Q : List PD → Rho → Prop} {i : Nat} (hl : th.length ≤ 1000) (hi : i < ρ.sl.length) (hv : (ρ.sl.set i .no) = ρ.sl) (h : Q ((zerosT th).map nP) ρ) :
    Wp (compGo (.nm i) [i] (fun _ => True) (mpure true) (mpure (.int 0)) (th.map nP)) ρ Q (fun _ _ => False) := by
  refine wp_compMap (fun _ => nP 0) _ trivial (fun x hx => ?_) ?_
  · simp [killS]
    refine ⟨rfl, ?_⟩
    rw [hv]
  · have : (th.map nP).map (fun _ => nP 0) = (zerosT th).map nP := by simp [zerosT]
    rw [this]
    exact h
theorem alongT_last (d : Dk) : ∀ (tries : List Tr) (w : List Nat), (alongT d w tries).getLast? = some (endT d w tries)
  | [], w => rfl
  | o :: r, w => by
    rw [alongT]
    have ih := alongT_last d r (triedT d w o).1
    cases h : alongT d (triedT d w o).1 r with
    | nil => rw [h] at ih; cases ih
    | cons a b => rw [h] at ih; rw [List.getLast?_cons_cons, ih]; rfl
def csP (bs : List Bool) : PD := .tuple (bs.map fun b => PyData.bool b)
end K11

set_option Elab.async false
set_option linter.all false
set_option maxRecDepth 100000
set_option maxHeartbeats 4000000
namespace K11
open PySem PySem.Spec Den
open PyProof.Rows L2

/-! ### the source of draws -/
def Box (b : List PD) : Prop := ∃ x y z : Int, b = [.int x, .int y, .int z]
theorem wp_seqP {g h : M Fl} {ρ : Rho} {Q : Fl → Rho → Prop} {E : Xc → Rho → Prop} (P : Rho → Prop) (a : Wp g ρ (fun fl r => fl = .nx ∧ P r) (fun _ _ => False)) (k : ∀ r, P r → Wp h r Q E) : Wp (dSeq g h) ρ Q E := by
  rw [wp_dSeq]
  refine a.mono (fun fl r ⟨e, p⟩ => ?_) fun _ _ z => z.elim
  subst e
  exact k r p
theorem wp_at {α : Type} {m : M α} {ρ ρ1 : Rho} {a1 : α} {Q : α → Rho → Prop} {E : Xc → Rho → Prop} (h : Wp m ρ (fun a r => a = a1 ∧ r = ρ1) (fun _ _ => False)) (q : Q a1 ρ1) : Wp m ρ Q E := by
  rw [wp_of (ok_of_wp h)]
  exact q
theorem wp_ifT {t : M Bool} {g h k : M Fl} {ρ : Rho} {Q : Fl → Rho → Prop} {E : Xc → Rho → Prop} {b : Bool} (et : t ρ = .ok b ρ) : Wp (dSeq (dIf t g h) k) ρ Q E = if b = true then Wp (dSeq g k) ρ Q E else Wp (dSeq h k) ρ Q E := by
  rw [wp_dSeq, wp_dIf, wp_of et, wp_dSeq, wp_dSeq]
theorem wp_assoc {a b k : M Fl} {ρ : Rho} {Q : Fl → Rho → Prop} {E : Xc → Rho → Prop} : Wp (dSeq (dSeq a b) k) ρ Q E = Wp (dSeq a (dSeq b k)) ρ Q E := by
  simp only [wp_dSeq]
  congr; funext fl r
  cases fl <;> rfl
theorem wp_skip {k : M Fl} {ρ : Rho} {Q : Fl → Rho → Prop} {E : Xc → Rho → Prop} : Wp (dSeq dNext k) ρ Q E = Wp k ρ Q E := by
  simp only [wp_dSeq, wp_dNext]
theorem wp_retseq {f : M PD} {k : M Fl} {ρ : Rho} {Q : Fl → Rho → Prop} {E : Xc → Rho → Prop} : Wp (dSeq (dRet f) k) ρ Q E = Wp (dRet f) ρ Q E := by
  simp only [wp_dSeq, wp_dRet]
theorem take_ok {b : List PD} (hb : Box b) {n : Int} (h : 0 < n) (h2 : n < 2 ^ 62) : ∃ r : Nat, (r : Int) < n ∧ ∃ b', Box b' ∧ F__law_take [.io 0, .val (.int n)] [.lst b] = (.ret (nP r), [.lst b']) := by
  obtain ⟨x, y, z, rfl⟩ := hb
  have key : (fun r : Rt × List MC => ∃ k : Nat, (k : Int) < n ∧ ∃ b', Box b' ∧ r = (.ret (nP k), [.lst b'])) (F__law_take [.io 0, .val (.int n)] [.lst [.int x, .int y, .int z]]) := by
    refine runB_post (T := fun r : Rt × List MC => ∃ k : Nat, (k : Int) < n ∧ ∃ b', Box b' ∧ r = (.ret (nP k), [.lst b'])) rfl ?_
    unfold g__law_take
    have fin : ∀ i : Int, ∃ k : Nat, (k : Int) < n ∧ PyData.int (i % n) = nP k := fun i => by
      have p1 := Int.emod_nonneg i (show n ≠ 0 by omega)
      have p2 := Int.emod_lt_of_pos i h
      exact ⟨(i % n).toNat, by omega, by unfold nP; congr 1; omega⟩
    have h3 : n < 2 ^ 64 := by omega
    have et : (asB (dOp2 pGt (dkE (dOp2 pGet (dkVar 0) (dkE (mpure (.int 0))))) (dkE (mpure (.int 0))))) (rho0 4 [.io 0, .val (.int n)] [.lst [.int x, .int y, .int z]]) = .ok (decide (0 < x)) (rho0 4 [.io 0, .val (.int n)] [.lst [.int x, .int y, .int z]]) := ok_of_wp (by simp [rho0, slotOf, look, ixOf, getC, setC, getM, setM, getL, MC.look, MC.pd, killS, turnQ, lkOf, outB, iosOf, arsOf, wp_tail, mAppend, mExtend, mPop, wp_dFor, wp_dComp, wp_dIterV, wp_dSeqs, slOkN, lendR, lendB, unS, compEnd, enumD_eq])
    rw [wp_ifT et]
    by_cases hx : 0 < x
    · rw [if_pos (by simpa using hx), wp_assoc]
      refine wp_seq (ρ1 := ⟨[.io 0, .val (.int n), .no, .val (.int (x % n))], [.lst [.int x, .int y, .int z]]⟩) (by simp [rho0, slotOf, look, ixOf, getC, setC, getM, setM, getL, MC.look, MC.pd, killS, turnQ, lkOf, outB, iosOf, arsOf, wp_tail, mAppend, mExtend, mPop, wp_dFor, wp_dComp, wp_dIterV, wp_dSeqs, slOkN, lendR, lendB, unS, compEnd, enumD_eq, pMod_ii _ _ h]) ?_
      rw [wp_assoc]
      refine wp_seq (ρ1 := ⟨[.io 0, .val (.int n), .no, .val (.int (x % n))], [.lst [.int (x / n), .int y, .int z]]⟩) (by simp [rho0, slotOf, look, ixOf, getC, setC, getM, setM, getL, MC.look, MC.pd, killS, turnQ, lkOf, outB, iosOf, arsOf, wp_tail, mAppend, mExtend, mPop, wp_dFor, wp_dComp, wp_dIterV, wp_dSeqs, slOkN, lendR, lendB, unS, compEnd, enumD_eq, pFdiv_ii _ _ h h3]) ?_
      rw [wp_retseq]
      obtain ⟨k, k1, k2⟩ := fin x
      refine wp_at (a1 := .ret (nP k)) (ρ1 := ⟨[.io 0, .val (.int n), .no, .val (nP k)], [.lst [.int (x / n), .int y, .int z]]⟩) (by simp [rho0, slotOf, look, ixOf, getC, setC, getM, setM, getL, MC.look, MC.pd, killS, turnQ, lkOf, outB, iosOf, arsOf, wp_tail, mAppend, mExtend, mPop, wp_dFor, wp_dComp, wp_dIterV, wp_dSeqs, slOkN, lendR, lendB, unS, compEnd, enumD_eq, k2]) ?_
      exact ⟨k, k1, _, ⟨_, _, _, rfl⟩, rfl⟩
    · rw [if_neg (by simpa using hx), wp_skip]
      refine wp_seq (ρ1 := ⟨[.io 0, .val (.int n), .no, .no], [.lst [.int x, .int y, .int (z + 1)]]⟩) (by simp [rho0, slotOf, look, ixOf, getC, setC, getM, setM, getL, MC.look, MC.pd, killS, turnQ, lkOf, outB, iosOf, arsOf, wp_tail, mAppend, mExtend, mPop, wp_dFor, wp_dComp, wp_dIterV, wp_dSeqs, slOkN, lendR, lendB, unS, compEnd, enumD_eq]) ?_
      refine wp_seq (ρ1 := ⟨[.io 0, .val (.int n), .val (.int (((y + 70001 * (z + 1)) * 61211 + 37) % 2147483563)), .no], [.lst [.int x, .int y, .int (z + 1)]]⟩) (by simp [rho0, slotOf, look, ixOf, getC, setC, getM, setM, getL, MC.look, MC.pd, killS, turnQ, lkOf, outB, iosOf, arsOf, wp_tail, mAppend, mExtend, mPop, wp_dFor, wp_dComp, wp_dIterV, wp_dSeqs, slOkN, lendR, lendB, unS, compEnd, enumD_eq, pMod_ii, pMul_r, pMul_l]) ?_
      generalize ((y + 70001 * (z + 1)) * 61211 + 37) % 2147483563 = q
      refine wp_seq (ρ1 := ⟨[.io 0, .val (.int n), .val (.int q), .no], [.lst [.int x, .int ((q * 38011 + 23057) % 2147483629 + 1), .int (z + 1)]]⟩) (by simp [rho0, slotOf, look, ixOf, getC, setC, getM, setM, getL, MC.look, MC.pd, killS, turnQ, lkOf, outB, iosOf, arsOf, wp_tail, mAppend, mExtend, mPop, wp_dFor, wp_dComp, wp_dIterV, wp_dSeqs, slOkN, lendR, lendB, unS, compEnd, enumD_eq, pMod_ii, pMul_r, pMul_l]) ?_
      obtain ⟨k, k1, k2⟩ := fin ((q * 2147483647 + ((q * 38011 + 23057) % 2147483629 + 1)) / 8191)
      refine wp_at (a1 := .ret (nP k)) (ρ1 := ⟨[.io 0, .val (.int n), .val (.int q), .no], [.lst [.int x, .int ((q * 38011 + 23057) % 2147483629 + 1), .int (z + 1)]]⟩) (by simp [rho0, slotOf, look, ixOf, getC, setC, getM, setM, getL, MC.look, MC.pd, killS, turnQ, lkOf, outB, iosOf, arsOf, wp_tail, mAppend, mExtend, mPop, wp_dFor, wp_dComp, wp_dIterV, wp_dSeqs, slOkN, lendR, lendB, unS, compEnd, enumD_eq, pMod_ii _ _ h, pMul_r, pMul_l, pFdiv_ii, k2]) ?_
      exact ⟨k, k1, _, ⟨_, _, _, rfl⟩, rfl⟩
  obtain ⟨k, k1, b', k2, k3⟩ := key
  exact ⟨k, k1, b', k2, k3⟩
theorem pick_ok {b : List PD} (hb : Box b) {v : PD} {ds : List PD} (hv : seqOf v = some ds) (h : ds ≠ []) (h2 : ds.length ≤ 1000000) : ∃ d ∈ ds, ∃ b', Box b' ∧ F__law_pick [.io 0, .val v] [.lst b] = (.ret d, [.lst b']) := by
  have hpos : 0 < ds.length := List.length_pos_iff.mpr h
  obtain ⟨r, hr, b', hb', e⟩ := take_ok hb (n := ds.length) (by omega) (by omega)
  have hrl : r < ds.length := by omega
  refine ⟨ds[r], List.getElem_mem hrl, b', hb', ?_⟩
  refine runB_eq rfl ?_
  have e1 : ds[r]? = some ds[r] := by simp [hrl]
  simp [rho0, slotOf, look, ixOf, getC, setC, getM, setM, getL, MC.look, MC.pd, killS, turnQ, lkOf, outB, iosOf, arsOf, wp_tail, mAppend, mExtend, mPop, wp_dFor, wp_dComp, wp_dIterV, wp_dSeqs, slOkN, lendR, lendB, unS, compEnd, enumD_eq, g__law_pick, gLen_seq hv, e, pGet_seq hv, nP, e1]
/-! ### names -/
theorem repS_list (x : Str) (n : Nat) : (repS x n).cps.toList = (List.replicate n x.cps.toList).flatten := by
  have main : ∀ (l : List (Array Nat)) (acc : Array Nat), (l.foldl (· ++ ·) acc).toList = acc.toList ++ (l.map Array.toList).flatten := by
    intro l
    induction l with
    | nil => intro acc; simp
    | cons a r ih => intro acc; rw [List.foldl_cons, ih]; simp
  unfold repS
  rw [main]
  simp
theorem app_list (x y : Str) : (x ++ y).cps.toList = x.cps.toList ++ y.cps.toList := by
  show (x.cps ++ y.cps).toList = _
  simp
theorem len_list (x : Str) : x.length = x.cps.toList.length := by rw [Array.length_toList]; rfl
def nmOf (s : Str) (a b : Nat) (c : Nat) : Str := repS s a ++ ⟨#[c]⟩ ++ repS s b
theorem nmOf_list (c0 a b c : Nat) : (nmOf ⟨#[c0]⟩ a b c).cps.toList = List.replicate a c0 ++ c :: List.replicate b c0 := by
  unfold nmOf
  rw [app_list, app_list, repS_list, repS_list]
  have : ∀ n, (List.replicate n [c0]).flatten = List.replicate n c0 := by
    intro n
    induction n with
    | zero => rfl
    | succ n ih => simp [List.replicate_succ, ih]
  simp [this]
theorem isLet_small {c : Nat} (h : c ∈ letters.cps.toList) : isLet c = true ∧ c < 0x110000 := by
  have : ∀ c ∈ letters.cps.toList, isLet c = true ∧ c < 0x110000 := by decide +kernel
  exact this c h
theorem nmOf_ok {c0 a b c : Nat} (h0 : c0 ∈ letters.cps.toList) (h : c ∈ letters.cps.toList) (ha : a < 4) (hb : b < 4) : nameB (nmOf ⟨#[c0]⟩ a b c) = true ∧ PyData.strOk (nmOf ⟨#[c0]⟩ a b c) = true ∧ (nmOf ⟨#[c0]⟩ a b c).length ≤ 8 := by
  have e := nmOf_list c0 a b c
  have hl : (nmOf ⟨#[c0]⟩ a b c).length = a + 1 + b := by
    rw [len_list, e]
    simp; omega
  have hall : ∀ x ∈ (nmOf ⟨#[c0]⟩ a b c).cps.toList, x ∈ letters.cps.toList := fun x hx => by
    rw [e] at hx
    simp at hx
    rcases hx with ⟨_, rfl⟩ | rfl | ⟨_, rfl⟩ <;> first | (simpa using h0) | (simpa using h)
  refine ⟨?_, ?_, by omega⟩
  · unfold nameB
    rw [hl]
    simp only [Bool.and_eq_true, decide_eq_true_eq, List.all_eq_true]
    exact ⟨⟨by omega, by omega⟩, fun x hx => (isLet_small (hall x hx)).1⟩
  · show (nmOf ⟨#[c0]⟩ a b c).cps.all _ = true
    rw [← Array.all_toList, List.all_eq_true]
    intro x hx
    have := (isLet_small (hall x hx)).2
    simpa using this
theorem nmOf_inj {c0 a b c d : Nat} (h : nmOf ⟨#[c0]⟩ a b c = nmOf ⟨#[c0]⟩ a b d) : c = d := by
  have e1 := nmOf_list c0 a b c
  rw [h, nmOf_list] at e1
  have := List.append_cancel_left e1
  exact (List.cons.inj this).1.symm
/-- the letters from the k-th on, then the others -/
def turned (k : Nat) : Str := cutS letters (some (k : Int)) none ++ cutS letters none (some (k : Int))
theorem turned_ok : ∀ k : Fin 26, (turned k).cps.toList.Nodup ∧ (∀ c ∈ (turned k).cps.toList, c ∈ letters.cps.toList) ∧ (turned k).cps.toList.length = 26 := by decide +kernel
theorem pSl_s {z : Str} (h : z.length ≤ sizeLine) (lo hi : Option Int) : pSl (.str z) lo hi = some (.str (L2.cutS z lo hi)) := by
  unfold pSl
  exact if_pos h
/-- drawn names -/
structure Names26 (ns : List Str) : Prop where
  len : ns.length = 26
  ok : ∀ x ∈ ns, nameB x = true ∧ PyData.strOk x = true ∧ x.length ≤ 8
  nd : ns.Nodup
theorem letters_at (r : Nat) (h : r < 26) : ∃ c, c ∈ letters.cps.toList ∧ pGet (.str letters) (.int r) = some (.str ⟨#[c]⟩) := by
  have : ∀ r : Fin 26, ∃ c ∈ letters.cps.toList, letters.cps.toList[r.val]? = some c := by decide +kernel
  obtain ⟨c, c1, c2⟩ := this ⟨r, h⟩
  refine ⟨c, c1, ?_⟩
  show (if letters.length ≤ sizeLine then (atI letters.cps.toList r).map (fun ch => PyData.str ⟨#[ch]⟩) else none) = _
  rw [if_pos (by decide +kernel), Den.atI_nat, c2]
  rfl
theorem names_ok {b : List PD} (hb : Box b) : ∃ ns b', Names26 ns ∧ Box b' ∧ F__law_names [.io 0] [.lst b] = (.fre (ns.map PyData.str), [.lst b']) := by
  have key : (fun r : Rt × List MC => ∃ ns b', Names26 ns ∧ Box b' ∧ r = (.fre (ns.map PyData.str), [.lst b'])) (F__law_names [.io 0] [.lst b]) := by
    refine runB_post (T := fun r : Rt × List MC => ∃ ns b', Names26 ns ∧ Box b' ∧ r = (.fre (ns.map PyData.str), [.lst b'])) rfl ?_
    unfold g__law_names
    refine wp_seq (ρ1 := ⟨[.io 0, .val (.str letters), .no, .no, .no, .no, .no], [.lst b]⟩) (by simp [rho0, slotOf, look, ixOf, getC, setC, getM, setM, getL, MC.look, MC.pd, killS, turnQ, lkOf, outB, iosOf, arsOf, wp_tail, mAppend, mExtend, mPop, wp_dFor, wp_dComp, wp_dIterV, wp_dSeqs, slOkN, lendR, lendB, unS, compEnd, enumD_eq]; rfl) ?_
    refine wp_seqP (fun ρ => ∃ (c0 x y f : Nat) (b' : List PD), c0 ∈ letters.cps.toList ∧ x < 4 ∧ y < 4 ∧ f < 26 ∧ Box b' ∧ ρ = ⟨[.io 0, .val (.str letters), .val (.str ⟨#[c0]⟩), .val (nP x), .val (nP y), .val (nP f), .no], [.lst b']⟩) ?_ ?_
    · obtain ⟨r1, h1, b1, hb1, e1⟩ := take_ok hb (n := 26) (by decide) (by decide)
      obtain ⟨r2, h2, b2, hb2, e2⟩ := take_ok hb1 (n := 4) (by decide) (by decide)
      obtain ⟨r3, h3, b3, hb3, e3⟩ := take_ok hb2 (n := 4) (by decide) (by decide)
      obtain ⟨r4, h4, b4, hb4, e4⟩ := take_ok hb3 (n := 26) (by decide) (by decide)
      obtain ⟨c, c1, c2⟩ := letters_at r1 (by omega)
      have eM : elsM [.val (dOp2 pGet (dkVar 1) (dkE (dCall F__law_take (.io 0 :: .val (mpure (.int 26)) :: [])))), .val (dCall F__law_take (.io 0 :: .val (mpure (.int 4)) :: [])), .val (dCall F__law_take (.io 0 :: .val (mpure (.int 4)) :: [])), .val (dCall F__law_take (.io 0 :: .val (mpure (.int 26)) :: []))] 1 ⟨[.io 0, .val (.str letters), .no, .no, .no, .no, .no], [.lst b]⟩ = .ok [.val (.str ⟨#[c]⟩), .val (nP r2), .val (nP r3), .val (nP r4)] ⟨[.io 0, .val (.str letters), .no, .no, .no, .no, .no], [.lst b4]⟩ := by
        refine ok_of_wp ?_
        have c2' : pGet (.str letters) (nP r1) = some (.str ⟨#[c]⟩) := c2
        simp [elsM, rho0, slotOf, look, ixOf, getC, setC, getM, setM, getL, MC.look, MC.pd, killS, turnQ, lkOf, outB, iosOf, arsOf, wp_tail, mAppend, mExtend, mPop, wp_dFor, wp_dComp, wp_dIterV, wp_dSeqs, slOkN, lendR, lendB, unS, compEnd, enumD_eq, e1, e2, e3, e4, c2']
      refine wp_at (a1 := .nx) (ρ1 := ⟨[.io 0, .val (.str letters), .val (.str ⟨#[c]⟩), .val (nP r2), .val (nP r3), .val (nP r4), .no], [.lst b4]⟩) ?_ ⟨rfl, c, r2, r3, r4, b4, c1, by omega, by omega, by omega, hb4, rfl⟩
      unfold Wp dMix
      simp [slOkN, eM, popS, freS, setE, evS]
    · rintro ρ ⟨c0, x, y, f, b', q1, q2, q3, q4, q5, rfl⟩
      obtain ⟨t1, t2, t3⟩ := turned_ok ⟨f, q4⟩
      have hns : Names26 ((turned f).cps.toList.map (nmOf ⟨#[c0]⟩ x y)) := by
        refine ⟨by rw [List.length_map]; exact t3, fun z hz => ?_, ?_⟩
        · obtain ⟨c, hc, rfl⟩ := List.mem_map.mp hz
          exact nmOf_ok q1 (t2 c hc) q2 q3
        · exact List.pairwise_map.mpr (t1.imp fun h e => h (nmOf_inj e))
      refine wp_at (a1 := .fre (((turned f).cps.toList.map (nmOf ⟨#[c0]⟩ x y)).map PyData.str)) (ρ1 := ⟨[.io 0, .val (.str letters), .val (.str ⟨#[c0]⟩), .val (nP x), .val (nP y), .val (nP f), .no], [.lst b']⟩) ?_ ⟨_, b', hns, q5, rfl⟩
      have s1 : pSl (.str letters) (some (f : Int)) none = some (.str (cutS letters (some (f : Int)) none)) := pSl_s (by decide +kernel) _ _
      have s2 : pSl (.str letters) none (some (f : Int)) = some (.str (cutS letters none (some (f : Int)))) := pSl_s (by decide +kernel) _ _
      have hlen : (turned f).length = 26 := by rw [len_list]; exact t3
      have hadd : (cutS letters (some (f : Int)) none).length + (cutS letters none (some (f : Int))).length = 26 := by
        have : (turned f).cps.toList = (cutS letters (some (f : Int)) none).cps.toList ++ (cutS letters none (some (f : Int))).cps.toList := app_list _ _
        have e := congrArg List.length this
        rw [t3, List.length_append] at e
        rw [len_list, len_list]
        exact e.symm
      have s3 : pAdd (.str (cutS letters (some (f : Int)) none)) (.str (cutS letters none (some (f : Int)))) = some (.str (turned f)) := if_pos (by rw [hadd]; decide)
      simp [rho0, slotOf, look, ixOf, getC, setC, getM, setM, getL, MC.look, MC.pd, killS, turnQ, lkOf, outB, iosOf, arsOf, wp_tail, mAppend, mExtend, mPop, wp_dFor, wp_dComp, wp_dIterV, wp_dSeqs, slOkN, lendR, lendB, unS, compEnd, enumD_eq, s1, s2, s3, nP]
      refine ⟨by rw [chrs_len, hlen]; decide, ?_⟩
      have m1 : ∀ k : Nat, k < 4 → pMul (.str ⟨#[c0]⟩) (.int k) = some (.str (repS ⟨#[c0]⟩ k)) := fun k hk => by
        show (if _ then some (PyData.str (repS ⟨#[c0]⟩ (k : Int).toNat)) else none) = _
        rw [if_pos ⟨by omega, by omega, by show 1 ≤ 1000; decide⟩]
        rfl
      have hr : ∀ k : Nat, k < 4 → (repS ⟨#[c0]⟩ k).length ≤ 10 := fun k hk => by
        rw [len_list, repS_list]
        have : ∀ n, (List.replicate n [c0]).flatten.length = n := by
          intro n
          induction n with
          | zero => rfl
          | succ n ih => simp [List.replicate_succ, ih]
        show (List.replicate k [c0]).flatten.length ≤ 10
        rw [this]; omega
      refine wp_compMap (fun d => match d with | .str z => .str (repS ⟨#[c0]⟩ x ++ z ++ repS ⟨#[c0]⟩ y) | _ => .none) _ trivial (fun d hd => ?_) ?_
      · simp [chrs] at hd
        obtain ⟨c, _, rfl⟩ := hd
        have l1 : (⟨#[c]⟩ : Str).length = 1 := rfl
        have l2 := hr x q2
        have l3 := hr y q3
        have a1 : pAdd (.str (repS ⟨#[c0]⟩ x)) (.str ⟨#[c]⟩) = some (.str (repS ⟨#[c0]⟩ x ++ ⟨#[c]⟩)) := if_pos (by rw [l1]; exact Nat.le_trans (Nat.add_le_add_right l2 1) (by decide))
        have l4 : (repS ⟨#[c0]⟩ x ++ (⟨#[c]⟩ : Str)).length ≤ 20 := by
          rw [len_list, app_list, List.length_append, ← len_list, ← len_list, l1]
          omega
        have a2 : pAdd (.str (repS ⟨#[c0]⟩ x ++ ⟨#[c]⟩)) (.str (repS ⟨#[c0]⟩ y)) = some (.str (repS ⟨#[c0]⟩ x ++ ⟨#[c]⟩ ++ repS ⟨#[c0]⟩ y)) := if_pos (Nat.le_trans (Nat.add_le_add l4 l3) (by decide))
        simp [rho0, slotOf, look, ixOf, getC, setC, getM, setM, getL, MC.look, MC.pd, killS, turnQ, lkOf, outB, iosOf, arsOf, wp_tail, mAppend, mExtend, mPop, wp_dFor, wp_dComp, wp_dIterV, wp_dSeqs, slOkN, lendR, lendB, unS, compEnd, enumD_eq, m1 x q2, m1 y q3, a1, a2]
      · have e : (chrs (turned f)).map (fun d => match d with | .str z => .str (repS ⟨#[c0]⟩ x ++ z ++ repS ⟨#[c0]⟩ y) | _ => .none) = ((turned f).cps.toList.map (nmOf ⟨#[c0]⟩ x y)).map PyData.str := by
          unfold chrs
          rw [List.map_map, List.map_map]
          rfl
        rw [e]
        simp [rho0, slotOf, look, ixOf, getC, setC, getM, setM, getL, MC.look, MC.pd, killS, turnQ, lkOf, outB, iosOf, arsOf, wp_tail, mAppend, mExtend, mPop, wp_dFor, wp_dComp, wp_dIterV, wp_dSeqs, slOkN, lendR, lendB, unS, compEnd, enumD_eq]
  exact key
end K11

set_option Elab.async false
set_option linter.all false
set_option maxRecDepth 100000
set_option maxHeartbeats 4000000
namespace K11
open PySem PySem.Spec Den
open PyProof.Rows L2

@[simp] theorem rng_nP (n : Nat) : rngI 0 n = (List.range n).map nP := by
  unfold rngI nP
  simp
theorem small_of {n : Nat} (h : n ≤ 1000000) : smallI (n : Int) = true := by
  unfold smallI
  exact decide_eq_true ⟨by omega, by omega⟩
theorem pAdd_rs {row : List Nat} (h : row.length ≤ 3) (s : Nat) : pAdd (rsP row) (.tuple [.int s]) = some (rsP (row ++ [s])) := by
  show (if (row.map nP).length + 1 ≤ sizeLine then some (PyData.tuple (row.map nP ++ [.int s])) else none) = _
  rw [if_pos (by rw [List.length_map]; exact Nat.le_trans (Nat.add_le_add_right h 1) (by decide))]
  unfold rsP
  rw [List.map_append]
  rfl
/-! ### all rows of states -/
def befS (ks : List Kd) (rows : List (List Nat)) (r : Nat) : List (List Nat) := rows.flatMap fun row => (List.range (limK ks r)).map fun s => row ++ [s]
def bef (ks : List Kd) (roles : List Nat) : List (List Nat) := roles.foldl (befS ks) [[]]
theorem befS_len {ks : List Kd} (hk : ∀ r, limK ks r ≤ 6) (rows : List (List Nat)) (r : Nat) : (befS ks rows r).length ≤ 6 * rows.length := by
  unfold befS
  induction rows with
  | nil => simp
  | cons a t ih =>
    rw [List.flatMap_cons, List.length_append, List.length_map, List.length_range, List.length_cons]
    have := hk r
    omega
theorem limK_pGet {ks : List Kd} {r : Nat} (h : r < ks.length) : (Ho (pGet (ksP ks) (nP r)) fun z => Ho (pGet z (.int 1)) fun y => y = .int (limK ks r)) := by
  obtain ⟨k, k1, k2⟩ := limK_get h
  simp [ksP, nP, k1, kP, k2]
theorem befores_eq {ks : List Kd} (hk : ∀ r, limK ks r ≤ 6) {roles : List Nat} (hr : ∀ r ∈ roles, r < ks.length) (hl : roles.length ≤ 3) : F__law_befores [.val (ksP ks), .val (rsP roles)] [] = (.ret (.list ((bef ks roles).map rsP)), []) := by
  refine runB_eq rfl ?_
  unfold g__law_befores
  refine wp_seq (ρ1 := ⟨[.val (ksP ks), .val (rsP roles), .own (.lst [rsP []]), .no, .no, .no, .no], []⟩) (by simp [rho0, slotOf, look, ixOf, getC, setC, getM, setM, getL, MC.look, MC.pd, killS, turnQ, lkOf, outB, iosOf, arsOf, wp_tail, mAppend, mExtend, mPop, wp_dFor, wp_dComp, wp_dIterV, wp_dSeqs, slOkN, lendR, lendB, unS, compEnd, enumD_eq]; rfl) ?_
  let st : List (List Nat) × Bool → Rho := fun a => ⟨[.val (ksP ks), .val (rsP roles), if a.2 = true then .own (.lst (a.1.map rsP)) else .val (.list (a.1.map rsP)), .no, .no, .no, .no], []⟩
  have iv : ∀ a : List (List Nat) × Bool, Wp (dVar 2) (st a) (fun d r => d = .list (a.1.map rsP) ∧ r = st (a.1, false)) (fun _ _ => False) := fun a => by
    obtain ⟨rows, fl⟩ := a
    cases fl <;> simp [st, rho0, slotOf, look, ixOf, getC, setC, getM, setM, getL, MC.look, MC.pd, killS, turnQ, lkOf, outB, iosOf, arsOf, wp_tail, mAppend, mExtend, mPop, wp_dFor, wp_dComp, wp_dIterV, wp_dSeqs, slOkN, lendR, lendB, unS, compEnd, enumD_eq]
  have fin : ∀ a : List (List Nat) × Bool, a.1 = bef ks roles → Wp (dRet (dVar 2)) (st a) (fun fl ρ => outB (.ok fl ρ) = (Rt.ret (.list ((bef ks roles).map rsP)), [])) (fun x ρ => (Rt.exc x, ρ.io) = (Rt.ret (.list ((bef ks roles).map rsP)), [])) := fun a ha => by
    rw [wp_dRet, wp_of (ok_of_wp (iv a)), ha]
    rfl
  rw [wp_dSeq, wp_dFor]
  have it : Wp (dIterV (dkE (dVar 1))) (⟨[.val (ksP ks), .val (rsP roles), .own (.lst [rsP []]), .no, .no, .no, .no], []⟩ : Rho) (fun s r => s = (roles.map nP, fun _ => True) ∧ r = ⟨[.val (ksP ks), .val (rsP roles), .own (.lst [rsP []]), .no, .no, .no, .no], []⟩) (fun _ _ => False) := by
    simp [rho0, slotOf, look, ixOf, getC, setC, getM, setM, getL, MC.look, MC.pd, killS, turnQ, lkOf, outB, iosOf, arsOf, wp_tail, mAppend, mExtend, mPop, wp_dFor, wp_dComp, wp_dIterV, wp_dSeqs, slOkN, lendR, lendB, unS, compEnd, enumD_eq, rsP]
  rw [wp_of (ok_of_wp it)]
  have e0 : killS [3, 4] (⟨[.val (ksP ks), .val (rsP roles), .own (.lst [rsP []]), .no, .no, .no, .no], []⟩ : Rho) = st ([[]], true) := rfl
  rw [e0]
  refine wp_forT nP (st := st) (fun a r => (befS ks a.1 r, false)) (fun n a => a.1.length * 6 ^ n ≤ 216 ∧ ∀ row ∈ a.1, row.length + n ≤ 3) ?hok roles ([[]], true) ?turn ?inv ?fin
  case hok => exact fun _ _ _ => trivial
  case inv =>
    refine ⟨?_, fun row hrow => by simp at hrow; subst hrow; simpa using hl⟩
    show 1 * 6 ^ roles.length ≤ 216
    have : 6 ^ roles.length ≤ 6 ^ 3 := Nat.pow_le_pow_right (by decide) hl
    omega
  case fin =>
    intro _
    refine fin _ ?_
    have : ∀ (l : List Nat) (rows : List (List Nat)) (f : Bool), (l.foldl (fun (a : List (List Nat) × Bool) r => (befS ks a.1 r, false)) (rows, f)).1 = l.foldl (befS ks) rows := by
      intro l
      induction l with
      | nil => intro _ _; rfl
      | cons x r ih => intro rows f; rw [List.foldl_cons, ih]; rfl
    exact this roles [[]] true
  case turn =>
    rintro n ⟨rows, fl⟩ inv r hrm
    have inv0 := inv
    dsimp only at inv0
    have hr1 := hr r hrm
    simp only [bindT_nm, ho_some]
    have h6 : rows.length * 6 ≤ 216 := by
      have p : 6 ≤ 6 ^ (n + 1) := by
        have : 6 ^ 1 ≤ 6 ^ (n + 1) := Nat.pow_le_pow_right (by decide) (by omega)
        simpa using this
      exact Nat.le_trans (Nat.mul_le_mul_left _ p) inv.1
    refine wp_seq (ρ1 := ⟨[.val (ksP ks), .val (rsP roles), (if fl = true then .own (.lst (rows.map rsP)) else .val (.list (rows.map rsP))), .val (nP r), .own (.lst []), .no, .no], []⟩) (by simp [rho0, slotOf, look, ixOf, getC, setC, getM, setM, getL, MC.look, MC.pd, killS, turnQ, lkOf, outB, iosOf, arsOf, wp_tail, mAppend, mExtend, mPop, wp_dFor, wp_dComp, wp_dIterV, wp_dSeqs, slOkN, lendR, lendB, unS, compEnd, enumD_eq, st]) ?_
    refine wp_seq (ρ1 := ⟨[.val (ksP ks), .val (rsP roles), .val (.list (rows.map rsP)), .val (nP r), .own (.lst ((befS ks rows r).map rsP)), .no, .no], []⟩) ?_ ?_
    · rw [wp_dFor]
      have it2 : Wp (dIterV (dkE (dVar 2))) (⟨[.val (ksP ks), .val (rsP roles), (if fl = true then .own (.lst (rows.map rsP)) else .val (.list (rows.map rsP))), .val (nP r), .own (.lst []), .no, .no], []⟩ : Rho) (fun s r' => s = (rows.map rsP, fun _ => True) ∧ r' = ⟨[.val (ksP ks), .val (rsP roles), .val (.list (rows.map rsP)), .val (nP r), .own (.lst []), .no, .no], []⟩) (fun _ _ => False) := by
        cases fl <;> simp [rho0, slotOf, look, ixOf, getC, setC, getM, setM, getL, MC.look, MC.pd, killS, turnQ, lkOf, outB, iosOf, arsOf, wp_tail, mAppend, mExtend, mPop, wp_dFor, wp_dComp, wp_dIterV, wp_dSeqs, slOkN, lendR, lendB, unS, compEnd, enumD_eq]
      rw [wp_of (ok_of_wp it2)]
      refine wp_forT rsP (st := fun acc : List (List Nat) => ⟨[.val (ksP ks), .val (rsP roles), .val (.list (rows.map rsP)), .val (nP r), .own (.lst (acc.map rsP)), .no, .no], []⟩) (fun acc row => acc ++ (List.range (limK ks r)).map fun s => row ++ [s]) (fun n acc => acc.length + n * 6 ≤ 216 ∧ True) ?hok2 rows [] ?turn2 ?inv2 ?fin2
      case hok2 => exact fun _ _ _ => trivial
      case inv2 => exact ⟨by simpa using h6, trivial⟩
      case fin2 =>
        intro _
        have : ∀ (l acc : List (List Nat)), l.foldl (fun (acc : List (List Nat)) row => acc ++ (List.range (limK ks r)).map fun s => row ++ [s]) acc = acc ++ befS ks l r := by
          intro l
          induction l with
          | nil => intro acc; simp [befS]
          | cons x t ih => intro acc; rw [List.foldl_cons, ih]; simp [befS]
        rw [this]
        exact ⟨rfl, rfl⟩
      case turn2 =>
        intro n acc inv row hrow
        obtain ⟨k, k1, k2⟩ := limK_get hr1
        have hlk := hk r
        have eg : pGet (ksP ks) (nP r) = some (.tuple [.str k.1, .int k.2]) := by simp [ksP, nP, k1, kP]
        simp [rho0, slotOf, look, ixOf, getC, setC, getM, setM, getL, MC.look, MC.pd, killS, turnQ, lkOf, outB, iosOf, arsOf, wp_tail, mAppend, mExtend, mPop, wp_dFor, wp_dComp, wp_dIterV, wp_dSeqs, slOkN, lendR, lendB, unS, compEnd, enumD_eq, eg, ← k2, small_of (show limK ks r ≤ 1000000 by omega)]
        refine ⟨Nat.le_trans hlk (by decide), ?_⟩
        refine wp_compMap (fun x => match x with | .int s => rsP (row ++ [s.toNat]) | _ => .none) _ trivial (fun x hx => ?_) ?_
        · obtain ⟨s, _, rfl⟩ := List.mem_map.mp hx
          have hrl := inv0.2 row hrow
          simp [rho0, slotOf, look, ixOf, getC, setC, getM, setM, getL, MC.look, MC.pd, killS, turnQ, lkOf, outB, iosOf, arsOf, wp_tail, mAppend, mExtend, mPop, wp_dFor, wp_dComp, wp_dIterV, wp_dSeqs, slOkN, lendR, lendB, unS, compEnd, enumD_eq, pAdd_rs (show row.length ≤ 3 by omega), nP]
        · have e : ((List.range (limK ks r)).map nP).map (fun x => match x with | .int s => rsP (row ++ [s.toNat]) | _ => .none) = ((List.range (limK ks r)).map fun s => row ++ [s]).map rsP := by simp [nP]
          rw [e]
          have hlt : acc.length + limK ks r < 10000000 := by omega
          simp [rho0, slotOf, look, ixOf, getC, setC, getM, setM, getL, MC.look, MC.pd, killS, turnQ, lkOf, outB, iosOf, arsOf, wp_tail, mAppend, mExtend, mPop, wp_dFor, wp_dComp, wp_dIterV, wp_dSeqs, slOkN, lendR, lendB, unS, compEnd, enumD_eq, hlt]
          omega
    · have hlen := befS_len hk rows r
      simp [rho0, slotOf, look, ixOf, getC, setC, getM, setM, getL, MC.look, MC.pd, killS, turnQ, lkOf, outB, iosOf, arsOf, wp_tail, mAppend, mExtend, mPop, wp_dFor, wp_dComp, wp_dIterV, wp_dSeqs, slOkN, lendR, lendB, unS, compEnd, enumD_eq, st]
      refine ⟨?_, fun row hrow => ?_⟩
      · have e6 : rows.length * 6 ^ (n + 1) = (6 * rows.length) * 6 ^ n := by rw [Nat.pow_succ]; rw [Nat.mul_comm 6, Nat.mul_assoc, Nat.mul_comm 6]
        rw [e6] at inv0
        exact Nat.le_trans (Nat.mul_le_mul_right _ hlen) inv0.1
      · unfold befS at hrow
        obtain ⟨z, hz, hz2⟩ := List.mem_flatMap.mp hrow
        obtain ⟨s, _, rfl⟩ := List.mem_map.mp hz2
        have := inv0.2 z hz
        simp
        omega
end K11

set_option Elab.async false
set_option linter.all false
set_option maxRecDepth 100000
set_option maxHeartbeats 4000000
namespace K11
open PySem PySem.Spec Den
open PyProof.Rows L2

/-! ### all rows of states: within their limits, ascending -/
theorem lt_snoc : ∀ {a b : List Nat}, a.length = b.length → a < b → ∀ x y : Nat, a ++ [x] < b ++ [y]
  | [], [], _, h, _, _ => absurd h (List.lt_irrefl _)
  | [], _ :: _, h, _, _, _ => by simp at h
  | _ :: _, [], h, _, _, _ => by simp at h
  | p :: a, q :: b, hl, h, x, y => by
    rw [List.cons_lt_cons_iff] at h
    rw [List.cons_append, List.cons_append, List.cons_lt_cons_iff]
    rcases h with h | ⟨h1, h2⟩
    · exact .inl h
    · exact .inr ⟨h1, lt_snoc (by simpa using hl) h2 x y⟩
theorem snoc_lt : ∀ (a : List Nat) {x y : Nat}, x < y → a ++ [x] < a ++ [y]
  | [], x, y, h => by rw [List.nil_append, List.nil_append, List.cons_lt_cons_iff]; exact .inl h
  | p :: a, x, y, h => by
    rw [List.cons_append, List.cons_append, List.cons_lt_cons_iff]
    exact .inr ⟨rfl, snoc_lt a h⟩
def Bd (a ls : List Nat) : Prop := a.length = ls.length ∧ ∀ i n l : Nat, a[i]? = some n → ls[i]? = some l → n < l
theorem Bd.ok {a ls : List Nat} (h : Bd a ls) : natsO ls (a.map nP) = some a := natsO_nP h.1 h.2
theorem Bd.snoc {a ls : List Nat} (h : Bd a ls) {n l : Nat} (hn : n < l) : Bd (a ++ [n]) (ls ++ [l]) := by
  refine ⟨by simp [h.1], fun i m k e1 e2 => ?_⟩
  by_cases hi : i < a.length
  · rw [List.getElem?_append_left hi] at e1
    rw [List.getElem?_append_left (by rw [← h.1]; exact hi)] at e2
    exact h.2 i m k e1 e2
  · have h2 : i = a.length := by
      have : i < (a ++ [n]).length := by
        rcases Nat.lt_or_ge i (a ++ [n]).length with q | q
        · exact q
        · rw [List.getElem?_eq_none q] at e1; cases e1
      simp at this
      omega
    subst h2
    rw [List.getElem?_append_right (Nat.le_refl _)] at e1
    rw [h.1, List.getElem?_append_right (Nat.le_refl _)] at e2
    simp at e1 e2
    omega
structure GoodB (ls : List Nat) (rows : List (List Nat)) : Prop where
  bd : ∀ a ∈ rows, Bd a ls
  asc : rows.Pairwise (· < ·)
theorem befS_good {ks : List Kd} {ls : List Nat} {rows : List (List Nat)} (h : GoodB ls rows) (r : Nat) : GoodB (ls ++ [limK ks r]) (befS ks rows r) where
  bd := fun a ha => by
    unfold befS at ha
    obtain ⟨z, hz, hz2⟩ := List.mem_flatMap.mp ha
    obtain ⟨s, hs, rfl⟩ := List.mem_map.mp hz2
    exact (h.bd z hz).snoc (List.mem_range.mp hs)
  asc := by
    unfold befS
    rw [List.pairwise_flatMap]
    refine ⟨fun a ha => ?_, ?_⟩
    · refine List.pairwise_map.mpr ((List.pairwise_lt_range).imp fun hab => snoc_lt a hab)
    · have := h.asc.imp_of_mem (S := fun a b => ∀ x ∈ (List.range (limK ks r)).map (fun s => a ++ [s]), ∀ y ∈ (List.range (limK ks r)).map (fun s => b ++ [s]), x < y) (fun {a b} ha hb hab => by
        intro x hx y hy
        obtain ⟨s, _, rfl⟩ := List.mem_map.mp hx
        obtain ⟨u, _, rfl⟩ := List.mem_map.mp hy
        exact lt_snoc (by rw [(h.bd a ha).1, (h.bd b hb).1]) hab s u)
      exact this
theorem bef_good (ks : List Kd) (roles : List Nat) : GoodB (lims ks roles) (bef ks roles) := by
  have main : ∀ (l : List Nat) (rows : List (List Nat)) (ls : List Nat), GoodB ls rows → GoodB (ls ++ lims ks l) (l.foldl (befS ks) rows) := by
    intro l
    induction l with
    | nil => intro rows ls h; simpa [lims] using h
    | cons x t ih =>
      intro rows ls h
      have := ih _ _ (befS_good (ks := ks) h x)
      simpa [lims] using this
  have := main roles [[]] [] ⟨fun a ha => by simp at ha; subst ha; exact ⟨rfl, by simp⟩, List.pairwise_singleton _ _⟩
  simpa [bef] using this
theorem bef_len {ks : List Kd} (hk : ∀ r, limK ks r ≤ 6) (roles : List Nat) (hl : roles.length ≤ 3) : (bef ks roles).length ≤ 216 := by
  have main : ∀ (l : List Nat) (rows : List (List Nat)), (l.foldl (befS ks) rows).length ≤ rows.length * 6 ^ l.length := by
    intro l
    induction l with
    | nil => intro rows; simp
    | cons x t ih =>
      intro rows
      rw [List.foldl_cons]
      refine Nat.le_trans (ih _) ?_
      rw [List.length_cons, Nat.pow_succ, Nat.mul_comm (6 ^ t.length), ← Nat.mul_assoc]
      exact Nat.mul_le_mul_right _ (by rw [Nat.mul_comm]; exact befS_len hk rows x)
  have h := main roles [[]]
  have : 6 ^ roles.length ≤ 6 ^ 3 := Nat.pow_le_pow_right (by decide) hl
  simp at h
  unfold bef
  omega
/-! ### drawn numbers in a row -/
/-- ns as far as the limits go -/
def Upto (ls ns : List Nat) : Prop := ∀ i n : Nat, ns[i]? = some n → ∃ l, ls[i]? = some l ∧ n < l
theorem Upto.snoc {ls ns : List Nat} (h : Upto ls ns) {n l : Nat} (e : ls[ns.length]? = some l) (hn : n < l) : Upto ls (ns ++ [n]) := fun i m e1 => by
  by_cases hi : i < ns.length
  · rw [List.getElem?_append_left hi] at e1
    exact h i m e1
  · have h2 : i = ns.length := by
      have : i < (ns ++ [n]).length := by
        rcases Nat.lt_or_ge i (ns ++ [n]).length with q | q
        · exact q
        · rw [List.getElem?_eq_none q] at e1; cases e1
      simp at this
      omega
    subst h2
    simp at e1
    subst e1
    exact ⟨l, e, hn⟩
theorem Upto.bd {ls ns : List Nat} (h : Upto ls ns) (e : ns.length = ls.length) : Bd ns ls := ⟨e, fun i n l e1 e2 => by
  obtain ⟨k, k1, k2⟩ := h i n e1
  rw [e2] at k1
  cases k1
  exact k2⟩
end K11

set_option Elab.async false
set_option linter.all false
set_option maxRecDepth 100000
set_option maxHeartbeats 4000000
namespace K11
open PySem PySem.Spec Den
open PyProof.Rows L2

/-! ### several names at once -/
section
variable {ρ : Rho} {E : Xc → Rho → Prop} {n : Nat} {r : List El}
theorem wp_els_nil {Q : List Ev → Rho → Prop} : Wp (elsM [] n) ρ Q E = Q [] ρ := by unfold Wp; rfl
theorem wp_els_val {f : M PD} {Q : List Ev → Rho → Prop} : Wp (elsM (.val f :: r) n) ρ Q E = Wp f ρ (fun d ρ1 => Wp (elsM r n) ρ1 (fun es ρ2 => Q (.val d :: es) ρ2) E) E := by
  rw [elsM]
  simp only [wp_bind, wp_pure]
theorem wp_els_fre {f : M (List PD)} {Q : List Ev → Rho → Prop} : Wp (elsM (.fre f :: r) n) ρ Q E = Wp f ρ (fun xs ρ1 => (slOkN ρ1 = true ∧ ρ1.io.length = n) ∧ Wp (elsM r (n + 1)) { ρ1 with io := ρ1.io ++ [.lst xs] } (fun es ρ2 => Q (.own n :: es) ρ2) E) E := by
  rw [elsM, wp_bind]
  congr; funext xs ρ1
  by_cases h : slOkN ρ1 = true ∧ ρ1.io.length = n
  · rw [wp_congr (m' := fun _ => mbind (elsM r (n + 1)) (fun es => mpure (.own n :: es)) { ρ1 with io := ρ1.io ++ [.lst xs] }) (if_pos h)]
    have := wp_bind (m := elsM r (n + 1)) (f := fun es => mpure (Ev.own n :: es)) (ρ := { ρ1 with io := ρ1.io ++ [.lst xs] }) (Q := Q) (E := E)
    simp only [wp_pure] at this
    unfold Wp at this ⊢
    rw [this]
    simp [h]
  · rw [wp_congr (m' := fun _ => .bad) (if_neg h)]
    simp only [wp_bad, h, false_and]
theorem wp_dMix {is : List Nat} {els : List El} {Q : Fl → Rho → Prop} : Wp (dMix is els) ρ Q E = (slOkN ρ = true ∧ Wp (elsM els ρ.io.length) ρ (fun evs ρ' => Q .nx (popS ρ.io.length (freS is els) (setE is evs ρ'))) (fun x ρ' => E x (cutIo ρ.io.length ρ'))) := by
  unfold Wp dMix
  by_cases h : slOkN ρ = true
  · simp only [h, if_true, true_and]
    cases elsM els ρ.io.length ρ <;> rfl
  · simp [h]
end
/-! ### a drawn tool -/
/-- kinds that were drawn -/
structure VKs (ks : List Kd) : Prop where
  pos : 1 ≤ ks.length
  few : ks.length ≤ 6
  one : ∀ k ∈ ks, nameB k.1 = true ∧ PyData.strOk k.1 = true ∧ k.1.length ≤ 8 ∧ 1 ≤ k.2 ∧ k.2 ≤ 6
  nd : (ks.map (·.1)).Nodup
theorem VKs.lim {ks : List Kd} (h : VKs ks) (r : Nat) : limK ks r ≤ 6 := by
  unfold limK
  cases e : ks[r]? with
  | none => simp
  | some k => exact (h.one k (List.mem_of_getElem? e)).2.2.2.2
theorem VKs.lim1 {ks : List Kd} (h : VKs ks) {r : Nat} (hr : r < ks.length) : 1 ≤ limK ks r := by
  obtain ⟨k, k1, k2⟩ := limK_get hr
  rw [k2]
  exact (h.one k (List.mem_of_getElem? k1)).2.2.2.1
/-- so many numbers, each below its limit -/
theorem wp_drawn {t : Tg} {vs : List Nat} {f : M PD} {Q : List PD → Rho → Prop} (xs : List PD) (ls : List Nat) (ρf : List PD → Rho) (hlen : xs.length = ls.length)
    (turn : ∀ b, Box b → ∀ (i l : Nat) (x : PD), xs[i]? = some x → ls[i]? = some l → Ho (bindT t x (ρf b).sl) fun sl => Wp f { ρf b with sl := sl } (fun y ρ2 => ∃ (n : Nat) (b' : List PD), n < l ∧ Box b' ∧ y = nP n ∧ killS vs ρ2 = ρf b') (fun _ _ => False))
    (b : List PD) (hb : Box b) (q : ∀ (ns : List Nat) (b' : List PD), Bd ns ls → Box b' → Q (ns.map nP) (ρf b')) : Wp (compGo t vs (fun _ => True) (mpure true) f xs) (ρf b) Q (fun _ _ => False) := by
  refine wp_compGo (I := fun i ys ρ => ∃ (ns : List Nat) (b' : List PD), ns.length = i ∧ i ≤ xs.length ∧ Upto ls ns ∧ Box b' ∧ ys = ns.map nP ∧ ρ = ρf b') xs (fun _ _ _ _ => trivial) ?_ ?_ ⟨[], b, rfl, Nat.zero_le _, fun i n e => by simp at e, hb, rfl, rfl⟩
  · rintro ys ρ ⟨ns, b', h1, _, h2, h3, rfl, rfl⟩
    exact q ns b' (h2.bd (by rw [h1, hlen])) h3
  · rintro i ys ρ d hd ⟨ns, b', h1, h0, h2, h3, rfl, rfl⟩
    have hi : i < xs.length := by
      rcases Nat.lt_or_ge i xs.length with z | z
      · exact z
      · rw [List.getElem?_eq_none z] at hd; cases hd
    have hl : ls[i]? = some (ls[i]'(by omega)) := by simp [show i < ls.length by omega]
    have tn := turn b' h3 i _ d hd hl
    cases e : bindT t d (ρf b').sl with
    | none => rw [e] at tn; exact tn.elim
    | some sl =>
      rw [e] at tn
      refine ⟨sl, rfl, ?_⟩
      rw [wp_pure]
      simp only [if_true]
      refine tn.mono (fun y ρ2 ⟨n, b2, n1, n2, n3, n4⟩ => ?_) fun _ _ z => z
      subst n3
      refine ⟨ns ++ [n], b2, by simp [h1], hi, h2.snoc (by rw [h1]; exact hl) n1, n2, by simp, n4⟩
theorem pick7 {b : List PD} (hb : Box b) : ∃ r : Nat, 1 ≤ r ∧ r ≤ 3 ∧ ∃ b', Box b' ∧ F__law_pick [.io 0, .val (.list [.int 1, .int 1, .int 1, .int 2, .int 2, .int 2, .int 3])] [.lst b] = (.ret (nP r), [.lst b']) := by
  obtain ⟨d, hd, b', hb', e⟩ := pick_ok hb (v := .list [.int 1, .int 1, .int 1, .int 2, .int 2, .int 2, .int 3]) rfl (by simp) (by simp)
  simp at hd
  rcases hd with rfl | rfl | rfl
  · exact ⟨1, by decide, by decide, b', hb', e⟩
  · exact ⟨2, by decide, by decide, b', hb', e⟩
  · exact ⟨3, by decide, by decide, b', hb', e⟩
theorem tool_ok {ks : List Kd} (V : VKs ks) {b : List PD} (hb : Box b) (name : Str) : ∃ (t : Tl) (b' : List PD), t.1 = name ∧ VTool ks t ∧ t.2.2.length ≤ 216 ∧ Box b' ∧ F__law_tool [.io 0, .val (.str name), .val (ksP ks)] [.lst b] = (.ret (tlP t), [.lst b']) := by
  have key : (fun r : Rt × List MC => ∃ (t : Tl) (b' : List PD), t.1 = name ∧ VTool ks t ∧ t.2.2.length ≤ 216 ∧ Box b' ∧ r = (.ret (tlP t), [.lst b'])) (F__law_tool [.io 0, .val (.str name), .val (ksP ks)] [.lst b]) := by
    refine runB_post (T := fun r : Rt × List MC => ∃ (t : Tl) (b' : List PD), t.1 = name ∧ VTool ks t ∧ t.2.2.length ≤ 216 ∧ Box b' ∧ r = (.ret (tlP t), [.lst b'])) rfl ?_
    unfold g__law_tool
    have glk : gLen [ksP ks] = some (.int ks.length) := by simp [ksP]
    have hpos := V.pos
    have hfew := V.few
    refine wp_seqP (fun ρ => ∃ (roles : List Nat) (b' : List PD), 1 ≤ roles.length ∧ roles.length ≤ 3 ∧ (∀ r ∈ roles, r < ks.length) ∧ Box b' ∧ ρ = ⟨[.io 0, .val (.str name), .val (ksP ks), .val (rsP roles), .no, .no, .no, .no, .no], [.lst b']⟩) ?_ ?_
    · obtain ⟨m, m1, m2, b1, hb1, e1⟩ := pick7 hb
      have e1' := e1
      simp [nP] at e1'
      rw [wp_dSet]
      generalize hG : dComp (.nm 7) [7] (dRange1 (dEs (dCall F__law_pick (.io 0 :: .val (mbind (dLst (dEs (mpure (.int 1)) (dEs (mpure (.int 1)) (dEs (mpure (.int 1)) (dEs (mpure (.int 2)) (dEs (mpure (.int 2)) (dEs (mpure (.int 2)) (dEs (mpure (.int 3)) (mpure []))))))))) (fun xs => mpure (.list xs))) :: [])) (mpure []))) (mpure true) (dCall F__law_take (.io 0 :: .val (dCB gLen (dKs (dkVar 2) (mpure []))) :: [])) = G
      have eG : Wp G ⟨[.io 0, .val (.str name), .val (ksP ks), .no, .no, .no, .no, .no, .no], [.lst b]⟩ (fun ys ρ => ∃ (roles : List Nat) (b' : List PD), 1 ≤ roles.length ∧ roles.length ≤ 3 ∧ (∀ r ∈ roles, r < ks.length) ∧ Box b' ∧ ys = roles.map nP ∧ ρ = ⟨[.io 0, .val (.str name), .val (ksP ks), .no, .no, .no, .no, .no, .no], [.lst b']⟩) (fun _ _ => False) := by
        subst hG
        rw [wp_dComp]
        have er : Wp (dRange1 (dEs (dCall F__law_pick (.io 0 :: .val (mbind (dLst (dEs (mpure (.int 1)) (dEs (mpure (.int 1)) (dEs (mpure (.int 1)) (dEs (mpure (.int 2)) (dEs (mpure (.int 2)) (dEs (mpure (.int 2)) (dEs (mpure (.int 3)) (mpure []))))))))) (fun xs => mpure (.list xs))) :: [])) (mpure []))) ⟨[.io 0, .val (.str name), .val (ksP ks), .no, .no, .no, .no, .no, .no], [.lst b]⟩ (fun s ρ => s = ((List.range m).map nP, fun _ => True) ∧ ρ = ⟨[.io 0, .val (.str name), .val (ksP ks), .no, .no, .no, .no, .no, .no], [.lst b1]⟩) (fun _ _ => False) := by
          simp [rho0, slotOf, look, ixOf, getC, setC, getM, setM, getL, MC.look, MC.pd, killS, turnQ, lkOf, outB, iosOf, arsOf, wp_tail, mAppend, mExtend, mPop, wp_dFor, wp_dComp, wp_dIterV, wp_dSeqs, slOkN, lendR, lendB, unS, compEnd, enumD_eq, e1, nP, small_of (show m ≤ 1000000 by omega)]
        rw [wp_of (ok_of_wp er)]
        refine ⟨by simp; exact Nat.le_trans m2 (by decide), ?_⟩
        refine wp_drawn ((List.range m).map nP) (List.replicate m ks.length) (fun b => ⟨[.io 0, .val (.str name), .val (ksP ks), .no, .no, .no, .no, .no, .no], [.lst b]⟩) (by simp) ?_ b1 hb1 ?_
        · intro b2 hb2 i l x hx hl
          have hl2 : l = ks.length := by
            rw [List.getElem?_replicate] at hl
            split at hl
            · cases hl; rfl
            · cases hl
          subst hl2
          obtain ⟨r, hr, b3, hb3, e3⟩ := take_ok hb2 (n := ks.length) (by omega) (by omega)
          refine wp_at (a1 := nP r) (ρ1 := ⟨[.io 0, .val (.str name), .val (ksP ks), .no, .no, .no, .no, x |> Slot.val, .no], [.lst b3]⟩) (by simp [rho0, slotOf, look, ixOf, getC, setC, getM, setM, getL, MC.look, MC.pd, killS, turnQ, lkOf, outB, iosOf, arsOf, wp_tail, mAppend, mExtend, mPop, wp_dFor, wp_dComp, wp_dIterV, wp_dSeqs, slOkN, lendR, lendB, unS, compEnd, enumD_eq, glk, e3]) ⟨r, b3, by omega, hb3, rfl, rfl⟩
        · intro ns b' hns hb'
          refine ⟨ns, b', by rw [hns.1]; simpa using m1, by rw [hns.1]; simpa using m2, fun r hr => ?_, hb', rfl, by simp [rho0, slotOf, look, ixOf, getC, setC, getM, setM, getL, MC.look, MC.pd, killS, turnQ, lkOf, outB, iosOf, arsOf, wp_tail, mAppend, mExtend, mPop, wp_dFor, wp_dComp, wp_dIterV, wp_dSeqs, slOkN, lendR, lendB, unS, compEnd, enumD_eq]⟩
          obtain ⟨i, hi, rfl⟩ := List.getElem_of_mem hr
          exact hns.2 i _ ks.length (List.getElem?_eq_getElem hi) (by rw [List.getElem?_replicate, if_pos (by rw [hns.1] at hi; simpa using hi)])
      have e2 : ∀ (Q : PD → Rho → Prop) (E : Xc → Rho → Prop), (∀ (roles : List Nat) (b' : List PD), 1 ≤ roles.length → roles.length ≤ 3 → (∀ r ∈ roles, r < ks.length) → Box b' → Q (rsP roles) ⟨[.io 0, .val (.str name), .val (ksP ks), .no, .no, .no, .no, .no, .no], [.lst b']⟩) →
          Wp (dCB gTup (dKs (dkE (mbind G fun xs => mpure (.list xs))) (mpure []))) ⟨[.io 0, .val (.str name), .val (ksP ks), .no, .no, .no, .no, .no, .no], [.lst b]⟩ Q E := fun Q E q => by
        simp
        refine eG.mono (fun ys ρ ⟨roles, b', r1, r2, r3, r4, r5, r6⟩ => ?_) fun _ _ z => z.elim
        subst r5 r6
        exact q roles b' r1 r2 r3 r4
      refine e2 _ _ fun roles b' r1 r2 r3 r4 => ⟨rfl, roles, b', r1, r2, r3, r4, rfl⟩
    · rintro ρ ⟨roles, b', r1, r2, r3, r4, rfl⟩
      have hbg := bef_good ks roles
      have hbl := bef_len V.lim roles r2
      refine wp_seqP (fun ρ => ∃ (few : Nat) (b2 : List PD), Box b2 ∧ ρ = ⟨[.io 0, .val (.str name), .val (ksP ks), .val (rsP roles), .no, .own (.lst []), .val (nP few), .no, .no], [.lst b2]⟩) ?_ ?_
      · obtain ⟨few, _, b2, hb2, e2⟩ := take_ok r4 (n := 4) (by decide) (by decide)
        refine wp_at (a1 := .nx) (ρ1 := ⟨[.io 0, .val (.str name), .val (ksP ks), .val (rsP roles), .no, .own (.lst []), .val (nP few), .no, .no], [.lst b2]⟩) ?_ ⟨rfl, few, b2, hb2, rfl⟩
        rw [wp_dMix]
        refine ⟨rfl, ?_⟩
        simp [wp_els_fre, wp_els_val, wp_els_nil, rho0, slotOf, look, ixOf, getC, setC, getM, setM, getL, MC.look, MC.pd, killS, turnQ, lkOf, outB, iosOf, arsOf, wp_tail, mAppend, mExtend, mPop, wp_dFor, wp_dComp, wp_dIterV, wp_dSeqs, slOkN, lendR, lendB, unS, compEnd, enumD_eq, e2, popS, freS, setE, evS]
      · rintro ρ ⟨few, b2, hb2, rfl⟩
        refine wp_seqP (fun ρ => ∃ (rows : List Rw) (b3 : List PD), List.Sublist (rows.map (·.1)) (bef ks roles) ∧ (∀ w ∈ rows, natsO (lims ks roles) (w.1.map nP) = some w.1 ∧ natsO (lims ks roles) (w.2.map nP) = some w.2) ∧ Box b3 ∧ ρ = ⟨[.io 0, .val (.str name), .val (ksP ks), .val (rsP roles), .no, .own (.lst (rows.map rowP)), .val (nP few), .no, .no], [.lst b3]⟩) ?_ ?_
        · rw [wp_dFor]
          refine wp_at (a1 := ((bef ks roles).map rsP, fun _ => True)) (ρ1 := ⟨[.io 0, .val (.str name), .val (ksP ks), .val (rsP roles), .no, .own (.lst []), .val (nP few), .no, .no], [.lst b2]⟩) (by simp [rho0, slotOf, look, ixOf, getC, setC, getM, setM, getL, MC.look, MC.pd, killS, turnQ, lkOf, outB, iosOf, arsOf, wp_tail, mAppend, mExtend, mPop, wp_dFor, wp_dComp, wp_dIterV, wp_dSeqs, slOkN, lendR, lendB, unS, compEnd, enumD_eq, befores_eq V.lim r3 r2]) ?_
          refine wp_forGo (I := fun i ρ => ∃ (acc : List Rw) (b3 : List PD), List.Sublist (acc.map (·.1)) ((bef ks roles).take i) ∧ (∀ w ∈ acc, natsO (lims ks roles) (w.1.map nP) = some w.1 ∧ natsO (lims ks roles) (w.2.map nP) = some w.2) ∧ Box b3 ∧ ρ = ⟨[.io 0, .val (.str name), .val (ksP ks), .val (rsP roles), .no, .own (.lst (acc.map rowP)), .val (nP few), .no, .no], [.lst b3]⟩) _ (fun _ _ _ => trivial) ?_ ?_ ⟨[], b2, by simp, by simp, hb2, rfl⟩
          · rintro ρ ⟨acc, b3, a1, a2, a3, rfl⟩
            refine ⟨rfl, acc, b3, ?_, a2, a3, rfl⟩
            rwa [List.length_map, List.take_length] at a1
          · rintro i ρ d hd ⟨acc, b3, a1, a2, a3, rfl⟩
            rw [List.getElem?_map] at hd
            cases hbi : (bef ks roles)[i]? with
            | none => rw [hbi] at hd; cases hd
            | some a =>
              rw [hbi] at hd
              cases hd
              have hil : i < (bef ks roles).length := by
                rcases Nat.lt_or_ge i (bef ks roles).length with z | z
                · exact z
                · rw [List.getElem?_eq_none z] at hbi; cases hbi
              have htk : (bef ks roles).take (i + 1) = (bef ks roles).take i ++ [a] := by
                rw [List.take_succ, hbi]
                rfl
              have hacc : acc.length ≤ 216 := by
                have := a1.length_le
                rw [List.length_map, List.length_take] at this
                omega
              have hlt : acc.length < 10000000 := by omega
              refine ⟨_, rfl, ?_⟩
              obtain ⟨r, _, b4, hb4, e4⟩ := take_ok a3 (n := 4) (by decide) (by decide)
              rw [wp_dIf]
              refine wp_at (a1 := decide ((few : Int) ≤ r)) (ρ1 := ⟨[.io 0, .val (.str name), .val (ksP ks), .val (rsP roles), .val (rsP a), .own (.lst (acc.map rowP)), .val (nP few), .no, .no], [.lst b4]⟩) (by simp [rho0, slotOf, look, ixOf, getC, setC, getM, setM, getL, MC.look, MC.pd, killS, turnQ, lkOf, outB, iosOf, arsOf, wp_tail, mAppend, mExtend, mPop, wp_dFor, wp_dComp, wp_dIterV, wp_dSeqs, slOkN, lendR, lendB, unS, compEnd, enumD_eq, e4, nP]) ?_
              by_cases hfr : (few : Int) ≤ r
              · rw [if_pos (by simpa using hfr)]
                generalize hG : dComp (.nm 8) [8] (dIterV (dkE (dVar 3))) (mpure true) (dCall F__law_take (.io 0 :: .val (dOp2 pGet (dkE (dOp2 pGet (dkVar 2) (dkVar 8))) (dkE (mpure (.int 1)))) :: [])) = G
                have eG : Wp G ⟨[.io 0, .val (.str name), .val (ksP ks), .val (rsP roles), .val (rsP a), .own (.lst (acc.map rowP)), .val (nP few), .no, .no], [.lst b4]⟩ (fun ys ρ => ∃ (ns : List Nat) (b' : List PD), Bd ns (lims ks roles) ∧ Box b' ∧ ys = ns.map nP ∧ ρ = ⟨[.io 0, .val (.str name), .val (ksP ks), .val (rsP roles), .val (rsP a), .own (.lst (acc.map rowP)), .val (nP few), .no, .no], [.lst b']⟩) (fun _ _ => False) := by
                  subst hG
                  rw [wp_dComp]
                  refine wp_at (a1 := (roles.map nP, fun _ => True)) (ρ1 := ⟨[.io 0, .val (.str name), .val (ksP ks), .val (rsP roles), .val (rsP a), .own (.lst (acc.map rowP)), .val (nP few), .no, .no], [.lst b4]⟩) (by simp [rho0, slotOf, look, ixOf, getC, setC, getM, setM, getL, MC.look, MC.pd, killS, turnQ, lkOf, outB, iosOf, arsOf, wp_tail, mAppend, mExtend, mPop, wp_dFor, wp_dComp, wp_dIterV, wp_dSeqs, slOkN, lendR, lendB, unS, compEnd, enumD_eq, rsP]) ?_
                  refine ⟨by simp; exact Nat.le_trans r2 (by decide), ?_⟩
                  refine wp_drawn (roles.map nP) (lims ks roles) (fun b => ⟨[.io 0, .val (.str name), .val (ksP ks), .val (rsP roles), .val (rsP a), .own (.lst (acc.map rowP)), .val (nP few), .no, .no], [.lst b]⟩) (by simp [lims]) ?_ b4 hb4 ?_
                  · intro b5 hb5 j l x hx hl
                    unfold lims at hl
                    rw [List.getElem?_map] at hx hl
                    cases hrj : roles[j]? with
                    | none => rw [hrj] at hx; cases hx
                    | some rj =>
                      rw [hrj] at hx hl
                      cases hx
                      cases hl
                      have hrk := r3 rj (List.mem_of_getElem? hrj)
                      obtain ⟨k, k1, k2⟩ := limK_get hrk
                      have l1 := V.lim1 hrk
                      have l6 := V.lim rj
                      obtain ⟨q, hq, b6, hb6, e6⟩ := take_ok hb5 (n := limK ks rj) (by omega) (by omega)
                      refine wp_at (a1 := nP q) (ρ1 := ⟨[.io 0, .val (.str name), .val (ksP ks), .val (rsP roles), .val (rsP a), .own (.lst (acc.map rowP)), .val (nP few), .no, .val (nP rj)], [.lst b6]⟩) (by simp [rho0, slotOf, look, ixOf, getC, setC, getM, setM, getL, MC.look, MC.pd, killS, turnQ, lkOf, outB, iosOf, arsOf, wp_tail, mAppend, mExtend, mPop, wp_dFor, wp_dComp, wp_dIterV, wp_dSeqs, slOkN, lendR, lendB, unS, compEnd, enumD_eq, ksP, nP, k1, kP, ← k2, e6]) ⟨q, b6, by omega, hb6, rfl, rfl⟩
                  · intro ns b' hns hb'
                    exact ⟨ns, b', hns, hb', rfl, by simp [rho0, slotOf, look, ixOf, getC, setC, getM, setM, getL, MC.look, MC.pd, killS, turnQ, lkOf, outB, iosOf, arsOf, wp_tail, mAppend, mExtend, mPop, wp_dFor, wp_dComp, wp_dIterV, wp_dSeqs, slOkN, lendR, lendB, unS, compEnd, enumD_eq]⟩
                have e2 : ∀ (Q : Fl → Rho → Prop) (E : Xc → Rho → Prop), (∀ (ns : List Nat) (b' : List PD), Bd ns (lims ks roles) → Box b' → Q .nx ⟨[.io 0, .val (.str name), .val (ksP ks), .val (rsP roles), .val (rsP a), .own (.lst ((acc ++ [(a, ns)]).map rowP)), .val (nP few), .no, .no], [.lst b']⟩) →
                    Wp (dDrop (dMeth 5 mAppend (dEs (dTup (dEs (dVar 4) (dEs (dCB gTup (dKs (dkE (mbind G (fun xs => mpure (.list xs)))) (mpure []))) (mpure [])))) (mpure [])))) ⟨[.io 0, .val (.str name), .val (ksP ks), .val (rsP roles), .val (rsP a), .own (.lst (acc.map rowP)), .val (nP few), .no, .no], [.lst b4]⟩ Q E := fun Q E q => by
                  rw [wp_dDrop, wp_dMeth]
                  simp only [getL, getM, ixOf, getC, List.getElem?_cons_succ, List.getElem?_cons_zero, ho_some]
                  simp only [wp_dEs, wp_dTup, wp_dVar, List.getElem?_cons_succ, List.getElem?_cons_zero, wp_dCB, wp_dKs, wp_dkE, wp_bind, wp_pure]
                  refine eG.mono (fun ys ρ ⟨ns, b', n1, n2, n3, n4⟩ => ?_) fun _ _ z => z.elim
                  subst n3 n4
                  have := q ns b' n1 n2
                  simp [rho0, slotOf, look, ixOf, getC, setC, getM, setM, getL, MC.look, MC.pd, killS, turnQ, lkOf, outB, iosOf, arsOf, wp_tail, mAppend, mExtend, mPop, wp_dFor, wp_dComp, wp_dIterV, wp_dSeqs, slOkN, lendR, lendB, unS, compEnd, enumD_eq, hlt]
                  simpa [rowP, rsP] using this
                refine e2 _ _ fun ns b' n1 n2 => ?_
                refine ⟨acc ++ [(a, ns)], b', ?_, ?_, n2, by simp [killS]⟩
                · rw [htk, List.map_append]
                  exact a1.append (List.Sublist.refl _)
                · intro w hw
                  rcases List.mem_append.mp hw with z | z
                  · exact a2 w z
                  · simp at z
                    subst z
                    exact ⟨(hbg.bd a (List.mem_of_getElem? hbi)).ok, n1.ok⟩
              · rw [if_neg (by simpa using hfr)]
                rw [wp_dNext]
                exact ⟨acc, b4, by rw [htk]; exact a1.trans (List.sublist_append_left _ _), a2, hb4, rfl⟩
        · rintro ρ ⟨rows, b3, a1, a2, a3, rfl⟩
          have hlen : rows.length ≤ 216 := by
            have := a1.length_le
            rw [List.length_map] at this
            omega
          refine wp_at (a1 := .ret (tlP (name, roles, rows))) (ρ1 := ⟨[.io 0, .val (.str name), .val (ksP ks), .val (rsP roles), .no, .own (.lst (rows.map rowP)), .val (nP few), .no, .no], [.lst b3]⟩) (by simp [rho0, slotOf, look, ixOf, getC, setC, getM, setM, getL, MC.look, MC.pd, killS, turnQ, lkOf, outB, iosOf, arsOf, wp_tail, mAppend, mExtend, mPop, wp_dFor, wp_dComp, wp_dIterV, wp_dSeqs, slOkN, lendR, lendB, unS, compEnd, enumD_eq, tlP, rwsP]) ?_
          exact ⟨(name, roles, rows), b3, rfl, ⟨r1, r2, r3, a2, List.pairwise_map.mp (hbg.asc.sublist a1), Nat.le_trans hlen (by decide)⟩, hlen, a3, rfl⟩
  obtain ⟨t, b', k1, k2, k3, k4, k5⟩ := key
  exact ⟨t, b', k1, k2, k3, k4, k5⟩
end K11

set_option Elab.async false
set_option linter.all false
set_option maxRecDepth 100000
set_option maxHeartbeats 4000000
namespace K11
open PySem PySem.Spec Den
open PyProof.Rows L2

/-! ### what was drawn is taken -/
theorem Fine.int (i : Int) : Fine (.int i) := ⟨0, rfl⟩
theorem Fine.nP (n : Nat) : Fine (nP n) := ⟨0, rfl⟩
theorem Fine.str {z : Str} (h : z.length ≤ 8) (h2 : PyData.strOk z = true) : Fine (.str z) := ⟨0, by simp [fine, h2]; omega⟩
theorem fine_mono : ∀ {m n : Nat} {d : PD}, m ≤ n → fine m d = true → fine n d = true
  | m, n, .none, _, _ => by cases n <;> rfl
  | m, n, .bool _, _, _ => by cases n <;> rfl
  | m, n, .int _, _, _ => by cases n <;> rfl
  | m, n, .str z, _, h => by cases m <;> cases n <;> exact h
  | 0, n, .list xs, _, h => by cases h
  | 0, n, .tuple xs, _, h => by cases h
  | m + 1, 0, .list xs, l, h => by omega
  | m + 1, 0, .tuple xs, l, h => by omega
  | m + 1, n + 1, .list xs, l, h => by
    simp only [fine, Bool.and_eq_true, List.all_eq_true] at h ⊢
    exact ⟨h.1, fun x hx => fine_mono (by omega) (h.2 x hx)⟩
  | m + 1, n + 1, .tuple xs, l, h => by
    simp only [fine, Bool.and_eq_true, List.all_eq_true] at h ⊢
    exact ⟨h.1, fun x hx => fine_mono (by omega) (h.2 x hx)⟩
  | m, n, .dict _, _, h => by cases m <;> cases h
theorem fine_all : ∀ {xs : List PD}, (∀ x ∈ xs, Fine x) → ∃ m, ∀ x ∈ xs, fine m x = true
  | [], _ => ⟨0, by simp⟩
  | x :: r, h => by
    obtain ⟨m1, h1⟩ := h x List.mem_cons_self
    obtain ⟨m2, h2⟩ := fine_all (xs := r) fun y hy => h y (List.mem_cons_of_mem _ hy)
    refine ⟨max m1 m2, fun y hy => ?_⟩
    rcases List.mem_cons.mp hy with rfl | hy
    · exact fine_mono (Nat.le_max_left _ _) h1
    · exact fine_mono (Nat.le_max_right _ _) (h2 y hy)
theorem Fine.tup {xs : List PD} (h : ∀ x ∈ xs, Fine x) (l : xs.length ≤ 1000) : Fine (.tuple xs) := by
  obtain ⟨m, hm⟩ := fine_all h
  exact ⟨m + 1, by simp only [fine, Bool.and_eq_true, List.all_eq_true]; exact ⟨by simpa using l, hm⟩⟩
theorem Fine.lst {xs : List PD} (h : ∀ x ∈ xs, Fine x) (l : xs.length ≤ 1000) : Fine (.list xs) := by
  obtain ⟨m, hm⟩ := fine_all h
  exact ⟨m + 1, by simp only [fine, Bool.and_eq_true, List.all_eq_true]; exact ⟨by simpa using l, hm⟩⟩
theorem Fine.none : Fine .none := ⟨0, rfl⟩
theorem Fine.bool (b : Bool) : Fine (.bool b) := ⟨0, rfl⟩
theorem Fine.rs {ns : List Nat} (l : ns.length ≤ 1000) : Fine (rsP ns) := Fine.tup (fun x hx => by
  obtain ⟨n, _, rfl⟩ := List.mem_map.mp hx
  exact Fine.nP n) (by simpa using l)
theorem Fine.pair {a b : PD} (ha : Fine a) (hb : Fine b) : Fine (.tuple [a, b]) := Fine.tup (fun x hx => by
  simp at hx
  rcases hx with rfl | rfl <;> assumption) (by simp)
theorem VKs.fine {ks : List Kd} (V : VKs ks) : Fine (ksP ks) := Fine.tup (fun x hx => by
  obtain ⟨k, hk, rfl⟩ := List.mem_map.mp hx
  obtain ⟨_, h2, h3, _⟩ := V.one k hk
  exact Fine.pair (Fine.str h3 h2) (Fine.int _)) (by have := V.few; simp; omega)
theorem kinds_back {ks : List Kd} (V : VKs ks) : kindsN (ksP ks) = .go ks := by
  have main : ∀ (r acc : List Kd) (k : Int), (∀ x ∈ r, nameB x.1 = true ∧ 1 ≤ x.2 ∧ x.2 ≤ 6) → ((acc ++ r).map (·.1)).Nodup → foldN stepK acc (enF k (r.map kP)) = .go (acc ++ r) := by
    intro r
    induction r with
    | nil => intro acc k _ _; simp [enF, foldN]
    | cons x t ih =>
      intro acc k h nd
      obtain ⟨h1, h2, h3⟩ := h x List.mem_cons_self
      have hx : x.1 ∉ acc.map (·.1) := by
        rw [List.map_append, List.map_cons] at nd
        have := (List.nodup_append.mp nd).2.2
        intro z
        exact this _ z _ List.mem_cons_self rfl
      have e : kindO (kP x) (acc.map (·.1)) = some x := by
        unfold kP kindO
        simp only [seqOf_t]
        rw [if_pos ⟨h1, hx, by omega, by omega⟩]
        simp
      rw [List.map_cons, enF, foldN]
      have e2 : stepK acc (.tuple [.int k, kP x]) = .go (acc ++ [x]) := by
        unfold stepK
        simp only [e]
      simp only [e2]
      have := ih (acc ++ [x]) (k + 1) (fun y hy => h y (List.mem_cons_of_mem _ hy)) (by simpa using nd)
      simpa using this
  unfold kindsN ksP
  simp only [seqOf_t, List.length_map]
  rw [if_pos ⟨V.pos, V.few⟩]
  have := main ks [] 0 (fun x hx => ⟨(V.one x hx).1, (V.one x hx).2.2.2⟩) (by simpa using V.nd)
  simpa using this
theorem roles_back {nk : Nat} {r : List Nat} (h1 : 1 ≤ r.length) (h3 : r.length ≤ 3) (h : ∀ x ∈ r, x < nk) : rolesO nk (rsP r) = some r := by
  unfold rolesO rsP
  simp only [seqOf_t, Option.bind_some, List.length_map]
  rw [if_pos ⟨h1, h3⟩]
  refine natsO_nP (by simp) fun i n l e1 e2 => ?_
  rw [List.getElem?_replicate] at e2
  split at e2
  · cases e2; exact h n (List.mem_of_getElem? e1)
  · cases e2
theorem rows_back {ks : List Kd} {roles : List Nat} (num : Int) {rs : List Rw} (h : ∀ w ∈ rs, natsO (lims ks roles) (w.1.map nP) = some w.1 ∧ natsO (lims ks roles) (w.2.map nP) = some w.2) (a : Asc rs) : rowsN ks roles num (rwsP rs) = .go rs := by
  have main : ∀ (r acc : List Rw) (k : Int), (∀ w ∈ r, natsO (lims ks roles) (w.1.map nP) = some w.1 ∧ natsO (lims ks roles) (w.2.map nP) = some w.2) → Asc (acc ++ r) → foldN (stepR ks roles num) acc (enF k (r.map rowP)) = .go (acc ++ r) := by
    intro r
    induction r with
    | nil => intro acc k _ _; simp [enF, foldN]
    | cons x t ih =>
      intro acc k h as
      obtain ⟨h1, h2⟩ := h x List.mem_cons_self
      have e : rowO ks roles (rowP x) = some x := by
        unfold rowP rowO statesO rsP
        simp [h1, h2]
      rw [List.map_cons, enF, foldN]
      have e2 : stepR ks roles num acc (.tuple [.int k, rowP x]) = .go (acc ++ [x]) := by
        unfold stepR
        simp only [e]
        cases hl : acc.getLast? with
        | none => rfl
        | some l =>
          have hlm : l ∈ acc := List.mem_of_getLast? hl
          have lt : l.1 < x.1 := (List.pairwise_append.mp as).2.2 l hlm x List.mem_cons_self
          have : leL x.1 l.1 = false := by
            rw [← Bool.not_eq_true, leL_iff]
            exact fun z => z lt
          simp only [this]
          rfl
      simp only [e2]
      have := ih (acc ++ [x]) (k + 1) (fun y hy => h y (List.mem_cons_of_mem _ hy)) (by simpa using as)
      simpa using this
  unfold rowsN rwsP
  simp only [seqOf_t]
  have := main rs [] 0 h (by simpa using a)
  simpa using this
/-- tools that were drawn -/
structure VTs (ks : List Kd) (ts : List Tl) : Prop where
  few : ts.length ≤ 20
  tool : ∀ t ∈ ts, VTool ks t
  name : ∀ t ∈ ts, nameB t.1 = true ∧ PyData.strOk t.1 = true ∧ t.1.length ≤ 8
  nd : (ts.map (·.1)).Nodup
theorem tools_back {ks : List Kd} {ts : List Tl} (V : VTs ks ts) : toolsN ks (tsP ts) = .go ts := by
  have main : ∀ (r acc : List Tl) (k : Int), (∀ t ∈ r, VTool ks t ∧ nameB t.1 = true) → ((acc ++ r).map (·.1)).Nodup → foldN (stepT ks) acc (enF k (r.map tlP)) = .go (acc ++ r) := by
    intro r
    induction r with
    | nil => intro acc k _ _; simp [enF, foldN]
    | cons x t ih =>
      intro acc k h nd
      obtain ⟨h1, h2⟩ := h x List.mem_cons_self
      have hx : x.1 ∉ acc.map (·.1) := by
        rw [List.map_append, List.map_cons] at nd
        have := (List.nodup_append.mp nd).2.2
        intro z
        exact this _ z _ List.mem_cons_self rfl
      have e : toolO ks.length (tlP x) (acc.map (·.1)) = some (x.1, x.2.1, rwsP x.2.2) := by
        unfold tlP toolO
        simp only [seqOf_t]
        rw [if_pos ⟨h2, hx⟩, roles_back h1.len1 h1.len3 h1.below]
        rfl
      rw [List.map_cons, enF, foldN]
      have e2 : stepT ks acc (.tuple [.int k, tlP x]) = .go (acc ++ [x]) := by
        unfold stepT
        simp only [e, rows_back k h1.rows h1.asc]
      simp only [e2]
      have := ih (acc ++ [x]) (k + 1) (fun y hy => h y (List.mem_cons_of_mem _ hy)) (by simpa using nd)
      simpa using this
  unfold toolsN tsP
  simp only [seqOf_t, List.length_map]
  rw [if_pos V.few]
  have := main ts [] 0 (fun x hx => ⟨V.tool x hx, (V.name x hx).1⟩) (by simpa using V.nd)
  simpa using this
/-- repairs that were drawn -/
structure VRs (ks : List Kd) (rs : List R4) : Prop where
  few : rs.length ≤ 1000
  one : ∀ r ∈ rs, r.1 < ks.length ∧ r.2.1 < limK ks r.1 ∧ r.2.2.1 < limK ks r.1 ∧ r.2.1 ≠ r.2.2.1 ∧ 1 ≤ r.2.2.2 ∧ r.2.2.2 ≤ 1000000
  asc : rs.Pairwise fun a b => way a < way b
theorem reps_back {ks : List Kd} {rs : List R4} (V : VRs ks rs) : repsN ks (rpsP rs) = .go rs := by
  have main : ∀ (r acc : List R4) (k : Int), (∀ q ∈ r, q.1 < ks.length ∧ q.2.1 < limK ks q.1 ∧ q.2.2.1 < limK ks q.1 ∧ q.2.1 ≠ q.2.2.1 ∧ 1 ≤ q.2.2.2 ∧ q.2.2.2 ≤ 1000000) → (acc ++ r).Pairwise (fun a b => way a < way b) → foldN (stepP ks) acc (enF k (r.map rpP)) = .go (acc ++ r) := by
    intro r
    induction r with
    | nil => intro acc k _ _; simp [enF, foldN]
    | cons x t ih =>
      intro acc k h as
      obtain ⟨h1, h2, h3, h4, h5, h6⟩ := h x List.mem_cons_self
      have e : repO ks (rpP x) = some x := by
        unfold rpP repO
        simp only [seqOf_t, natO_nP h1, natO_nP h2, natO_nP h3, Option.bind_some]
        unfold priceO nP
        simp only
        rw [if_pos ⟨h4, by omega, by omega⟩]
        simp
      rw [List.map_cons, enF, foldN]
      have e2 : stepP ks acc (.tuple [.int k, rpP x]) = .go (acc ++ [x]) := by
        unfold stepP
        simp only [e]
        cases hl : acc.getLast? with
        | none => rfl
        | some l =>
          have hlm : l ∈ acc := List.mem_of_getLast? hl
          have lt : way l < way x := (List.pairwise_append.mp as).2.2 l hlm x List.mem_cons_self
          have : leL (way x) (way l) = false := by
            rw [← Bool.not_eq_true, leL_iff]
            exact fun z => z lt
          simp only [this]
          rfl
      simp only [e2]
      have := ih (acc ++ [x]) (k + 1) (fun y hy => h y (List.mem_cons_of_mem _ hy)) (by simpa using as)
      simpa using this
  unfold repsN rpsP
  simp only [seqOf_t]
  have := main rs [] 0 V.one (by simpa using V.asc)
  simpa using this
theorem VTs.fine {ks : List Kd} {ts : List Tl} (V : VTs ks ts) : Fine (tsP ts) := Fine.tup (fun x hx => by
  obtain ⟨t, ht, rfl⟩ := List.mem_map.mp hx
  obtain ⟨_, h2, h3⟩ := V.name t ht
  have vt := V.tool t ht
  have l3 := vt.len3
  refine Fine.tup (fun y hy => ?_) (by simp)
  simp at hy
  rcases hy with rfl | rfl | rfl
  · exact Fine.str h3 h2
  · exact Fine.rs (by omega)
  · refine Fine.tup (fun z hz => ?_) (by simpa using vt.few)
    obtain ⟨w, hw, rfl⟩ := List.mem_map.mp hz
    have e1 := natsO_len (vt.rows w hw).1
    have e2 := natsO_len (vt.rows w hw).2
    unfold lims at e1 e2
    rw [List.length_map, List.length_map] at e1 e2
    exact Fine.pair (Fine.rs (by omega)) (Fine.rs (by omega))) (by have := V.few; simp; omega)
theorem VRs.fine {ks : List Kd} {rs : List R4} (V : VRs ks rs) : Fine (rpsP rs) := Fine.tup (fun x hx => by
  obtain ⟨r, _, rfl⟩ := List.mem_map.mp hx
  refine Fine.tup (fun y hy => ?_) (by simp)
  simp at hy
  rcases hy with rfl | rfl | rfl | rfl <;> exact Fine.nP _) (by simpa using V.few)
theorem desk_back {ks : List Kd} {ts : List Tl} {rs : List R4} (V1 : VKs ks) (V2 : VTs ks ts) (V3 : VRs ks rs) : deskN (ksP ks) (tsP ts) (rpsP rs) = .go (ks, ts, rs) := by
  unfold deskN
  simp only [kinds_back V1, tools_back V2, reps_back V3]
end K11

set_option Elab.async false
set_option linter.all false
set_option maxRecDepth 100000
set_option maxHeartbeats 4000000
namespace K11
open PySem PySem.Spec Den
open PyProof.Rows L2

/-! ### names, one after another from the end -/
structure Pool (used rest : List Str) : Prop where
  nd : (used ++ rest).Nodup
  ok : ∀ x ∈ used ++ rest, nameB x = true ∧ PyData.strOk x = true ∧ x.length ≤ 8
  len : used.length + rest.length = 26
theorem Pool.pop {used rest : List Str} (h : Pool used rest) (ne : used.length < 26) : ∃ x rest', rest = rest' ++ [x] ∧ Pool (used ++ [x]) rest' := by
  have hr : rest ≠ [] := by
    rintro rfl
    have := h.len
    simp at this
    omega
  refine ⟨rest.getLast hr, rest.dropLast, (List.dropLast_concat_getLast hr).symm, ?_⟩
  have e := (List.dropLast_concat_getLast hr).symm
  generalize rest.getLast hr = x at e
  generalize rest.dropLast = r at e
  subst e
  have p : (used ++ (r ++ [x])).Perm (used ++ [x] ++ r) := by
    rw [List.append_assoc]
    exact List.Perm.append_left _ List.perm_append_comm
  refine ⟨p.nodup_iff.mp h.nd, fun y hy => h.ok y (p.mem_iff.mpr hy), ?_⟩
  have := h.len
  simp at this ⊢
  omega
theorem Names26.pool {ns : List Str} (h : Names26 ns) : Pool [] ns := ⟨h.nd, h.ok, by simp [h.len]⟩
/-- the state of _law_desk -/
def stD (states : Nat) (ns : List Str) (s3 s4 s6 s7 : Slot) (b : List PD) : Rho := ⟨[.io 0, .val (nP states), .own (.lst (ns.map PyData.str)), s3, s4, .no, s6, s7, .no, .no, .no], [.lst b]⟩
theorem kinds_drawn {states : Nat} (h2 : 2 ≤ states) (h6 : states ≤ 6) {ns : List Str} (hp : Pool [] ns) {b : List PD} (hb : Box b) : Wp (dSet 3 (dCB gTup (dKs (dkE (mbind (dComp (.nm 10) [10] (dRange1 (dEs (dOp2 pAdd (dkE (mpure (.int 1))) (dkE (dCall F__law_take (.io 0 :: .val (mpure (.int 2)) :: [])))) (mpure []))) (mpure true) (dTup (dEs (dMeth 2 mPop (mpure [])) (dEs (dOp2 pAdd (dkE (mpure (.int 2))) (dkE (dCall F__law_take (.io 0 :: .val (dOp2 pSub (dkVar 1) (dkE (mpure (.int 1)))) :: [])))) (mpure []))))) (fun xs => mpure (.list xs)))) (mpure [])))) (stD states ns .no .no .no .no b)
    (fun fl ρ => fl = .nx ∧ ∃ ks rest b', VKs ks ∧ ks.length ≤ 2 ∧ (∀ k ∈ ks, k.2 ≤ states) ∧ Pool (ks.map (·.1)) rest ∧ Box b' ∧ ρ = stD states rest (.val (ksP ks)) .no .no .no b') (fun _ _ => False) := by
  obtain ⟨r, hr, b1, hb1, e1⟩ := take_ok hb (n := 2) (by decide) (by decide)
  rw [wp_dSet, wp_dCB, wp_dKs, wp_dkE, wp_bind, wp_dComp]
  have en : (1 : Int) + r = ((1 + r : Nat) : Int) := by omega
  refine wp_at (a1 := ((List.range (1 + r)).map nP, fun _ => True)) (ρ1 := stD states ns .no .no .no .no b1) (by simp [rho0, slotOf, look, ixOf, getC, setC, getM, setM, getL, MC.look, MC.pd, killS, turnQ, lkOf, outB, iosOf, arsOf, wp_tail, mAppend, mExtend, mPop, wp_dFor, wp_dComp, wp_dIterV, wp_dSeqs, slOkN, lendR, lendB, unS, compEnd, enumD_eq, stD, e1, nP]; rw [en, small_of (by omega)]; simp [nP]; rw [show (1 + (r : Int)).toNat = 1 + r by omega]) ?_
  refine ⟨by simp; exact Nat.le_trans (show 1 + r ≤ 3 by omega) (by decide), ?_⟩
  refine wp_compGo (I := fun i ys ρ => ∃ (ks : List Kd) (rest : List Str) (b' : List PD), ks.length = i ∧ i ≤ 1 + r ∧ (∀ k ∈ ks, 1 ≤ k.2 ∧ k.2 ≤ states) ∧ Pool (ks.map (·.1)) rest ∧ Box b' ∧ ys = ks.map kP ∧ ρ = stD states rest .no .no .no .no b') _ (fun _ _ _ _ => trivial) ?_ ?_ ⟨[], ns, b1, rfl, by omega, by simp, hp, hb1, rfl, rfl⟩
  · rintro ys ρ ⟨ks, rest, b', k1, _, k3, k4, k5, rfl, rfl⟩
    simp at k1
    have V : VKs ks := by
      refine ⟨by omega, by omega, fun k hk => ?_, ?_⟩
      · obtain ⟨a1, a2, a3⟩ := k4.ok k.1 (List.mem_append_left _ (List.mem_map.mpr ⟨k, hk, rfl⟩))
        have := k3 k hk
        exact ⟨a1, a2, a3, this.1, by omega⟩
      · exact (List.nodup_append.mp k4.nd).1
    simp only [wp_pure, wp_dkE, looks_cons, looks_nil, look_d, ho_some, gTup_l]
    exact ⟨trivial, ks, rest, b', V, by omega, fun k hk => (k3 k hk).2, k4, k5, rfl⟩
  · rintro i ys ρ d hd ⟨ks, rest, b', k1, k2, k3, k4, k5, rfl, rfl⟩
    have hi : i < 1 + r := by
      rcases Nat.lt_or_ge i (1 + r) with z | z
      · exact z
      · rw [List.getElem?_eq_none (by simpa using z)] at hd; cases hd
    obtain ⟨x, rest', rfl, kp⟩ := k4.pop (by simp; omega)
    obtain ⟨q, hq, b2, hb2, e2⟩ := take_ok k5 (n := (states : Int) - 1) (by omega) (by omega)
    refine ⟨_, rfl, ?_⟩
    rw [wp_pure]
    simp only [if_true]
    refine wp_at (a1 := kP (x, 2 + q)) (ρ1 := ⟨[.io 0, .val (nP states), .own (.lst (rest'.map PyData.str)), .no, .no, .no, .no, .no, .no, .no, .val d], [.lst b2]⟩) ?_ ⟨ks ++ [(x, 2 + q)], rest', b2, by simp [k1], hi, ?_, by simpa using kp, hb2, by simp, rfl⟩
    · have hd2 : ((rest' ++ [x]).map PyData.str).dropLast = rest'.map PyData.str := by simp
      have hg2 : ((rest' ++ [x]).map PyData.str).getLast? = some (.str x) := by simp
      simp [rho0, slotOf, look, ixOf, getC, setC, getM, setM, getL, MC.look, MC.pd, killS, turnQ, lkOf, outB, iosOf, arsOf, wp_tail, mAppend, mExtend, mPop, wp_dFor, wp_dComp, wp_dIterV, wp_dSeqs, slOkN, lendR, lendB, unS, compEnd, enumD_eq, stD, nP, e2, kP]
    · intro k hk
      rcases List.mem_append.mp hk with z | z
      · exact k3 k z
      · simp at z
        subst z
        exact ⟨by show 1 ≤ 2 + q; omega, by show 2 + q ≤ states; omega⟩
theorem tools_drawn {states : Nat} {ks : List Kd} (V : VKs ks) (k2 : ks.length ≤ 2) {ns : List Str} (hp : Pool (ks.map (·.1)) ns) {b : List PD} (hb : Box b) : Wp (dSet 4 (dCB gTup (dKs (dkE (mbind (dComp (.nm 10) [10] (dRange1 (dEs (dOp2 pAdd (dkE (mpure (.int 1))) (dkE (dCall F__law_take (.io 0 :: .val (mpure (.int 4)) :: [])))) (mpure []))) (mpure true) (dCall F__law_tool (.io 0 :: .val (dMeth 2 mPop (mpure [])) :: .val (dVar 3) :: []))) (fun xs => mpure (.list xs)))) (mpure [])))) (stD states ns (.val (ksP ks)) .no .no .no b)
    (fun fl ρ => fl = .nx ∧ ∃ ts rest b', VTs ks ts ∧ 1 ≤ ts.length ∧ ts.length ≤ 4 ∧ Box b' ∧ ρ = stD states rest (.val (ksP ks)) (.val (tsP ts)) .no .no b') (fun _ _ => False) := by
  obtain ⟨r, hr, b1, hb1, e1⟩ := take_ok hb (n := 4) (by decide) (by decide)
  rw [wp_dSet, wp_dCB, wp_dKs, wp_dkE, wp_bind, wp_dComp]
  have en : (1 : Int) + r = ((1 + r : Nat) : Int) := by omega
  refine wp_at (a1 := ((List.range (1 + r)).map nP, fun _ => True)) (ρ1 := stD states ns (.val (ksP ks)) .no .no .no b1) (by simp [rho0, slotOf, look, ixOf, getC, setC, getM, setM, getL, MC.look, MC.pd, killS, turnQ, lkOf, outB, iosOf, arsOf, wp_tail, mAppend, mExtend, mPop, wp_dFor, wp_dComp, wp_dIterV, wp_dSeqs, slOkN, lendR, lendB, unS, compEnd, enumD_eq, stD, e1, nP]; rw [en, small_of (by omega)]; simp [nP]; rw [show (1 + (r : Int)).toNat = 1 + r by omega]) ?_
  refine ⟨by simp; exact Nat.le_trans (show 1 + r ≤ 5 by omega) (by decide), ?_⟩
  refine wp_compGo (I := fun i ys ρ => ∃ (ts : List Tl) (rest : List Str) (b' : List PD), ts.length = i ∧ i ≤ 1 + r ∧ (∀ t ∈ ts, VTool ks t) ∧ Pool (ks.map (·.1) ++ ts.map (·.1)) rest ∧ Box b' ∧ ys = ts.map tlP ∧ ρ = stD states rest (.val (ksP ks)) .no .no .no b') _ (fun _ _ _ _ => trivial) ?_ ?_ ⟨[], ns, b1, rfl, by omega, by simp, by simpa using hp, hb1, rfl, rfl⟩
  · rintro ys ρ ⟨ts, rest, b', k1, _, k3, k4, k5, rfl, rfl⟩
    simp at k1
    have W : VTs ks ts := by
      refine ⟨by omega, k3, fun t ht => k4.ok t.1 (List.mem_append_left _ (List.mem_append_right _ (List.mem_map.mpr ⟨t, ht, rfl⟩))), ?_⟩
      exact (List.nodup_append.mp (List.nodup_append.mp k4.nd).1).2.1
    simp only [wp_pure, wp_dkE, looks_cons, looks_nil, look_d, ho_some, gTup_l]
    exact ⟨trivial, ts, rest, b', W, by omega, by omega, k5, rfl⟩
  · rintro i ys ρ d hd ⟨ts, rest, b', k1, k2', k3, k4, k5, rfl, rfl⟩
    have hi : i < 1 + r := by
      rcases Nat.lt_or_ge i (1 + r) with z | z
      · exact z
      · rw [List.getElem?_eq_none (by simpa using z)] at hd; cases hd
    obtain ⟨x, rest', rfl, kp⟩ := k4.pop (by simp; omega)
    obtain ⟨t, b2, t1, t2, _, hb2, e2⟩ := tool_ok V k5 x
    refine ⟨_, rfl, ?_⟩
    rw [wp_pure]
    simp only [if_true]
    refine wp_at (a1 := tlP t) (ρ1 := ⟨[.io 0, .val (nP states), .own (.lst (rest'.map PyData.str)), .val (ksP ks), .no, .no, .no, .no, .no, .no, .val d], [.lst b2]⟩) ?_ ⟨ts ++ [t], rest', b2, by simp [k1], hi, ?_, by simpa [t1] using kp, hb2, by simp, rfl⟩
    · simp [rho0, slotOf, look, ixOf, getC, setC, getM, setM, getL, MC.look, MC.pd, killS, turnQ, lkOf, outB, iosOf, arsOf, wp_tail, mAppend, mExtend, mPop, wp_dFor, wp_dComp, wp_dIterV, wp_dSeqs, slOkN, lendR, lendB, unS, compEnd, enumD_eq, stD, e2]
    · intro y hy
      rcases List.mem_append.mp hy with z | z
      · exact k3 y z
      · simp at z
        subst z
        exact t2
/-! ### drawn repairs -/
structure RGood (ks : List Kd) (rs : List R4) (w : List Nat) (L : Nat) : Prop where
  one : ∀ r ∈ rs, r.1 < ks.length ∧ r.2.1 < limK ks r.1 ∧ r.2.2.1 < limK ks r.1 ∧ r.2.1 ≠ r.2.2.1 ∧ 1 ≤ r.2.2.2 ∧ r.2.2.2 ≤ 1000000
  asc : rs.Pairwise fun a b => way a < way b
  ahead : ∀ r ∈ rs, way r < w
  len : rs.length ≤ L
theorem RGood.mono {ks : List Kd} {rs : List R4} {w w' : List Nat} {L L' : Nat} (h : RGood ks rs w L) (lt : w < w') (l : L ≤ L') : RGood ks rs w' L' := ⟨h.one, h.asc, fun r hr => List.lt_trans (h.ahead r hr) lt, Nat.le_trans h.len l⟩
theorem lt1 (k x : Nat) (r : List Nat) : [k] < k :: x :: r := by
  rw [List.cons_lt_cons_iff]
  exact .inr ⟨rfl, List.nil_lt_cons _ _⟩
theorem lt2 (k j x : Nat) : [k, j] < [k, j, x] := by
  rw [List.cons_lt_cons_iff]
  exact .inr ⟨rfl, lt1 j x []⟩
theorem lt3 {a b : Nat} (h : a < b) (r : List Nat) : a :: r < [b] := by
  rw [List.cons_lt_cons_iff]
  exact .inl h
theorem lt4 (k : Nat) {a b : Nat} (h : a < b) (r : List Nat) : k :: a :: r < [k, b] := by
  rw [List.cons_lt_cons_iff]
  exact .inr ⟨rfl, lt3 h r⟩
theorem lt5 (k j : Nat) {a b : Nat} (h : a < b) : [k, j, a] < [k, j, b] := by
  rw [List.cons_lt_cons_iff]
  exact .inr ⟨rfl, lt4 j h []⟩
theorem RGood.add {ks : List Kd} {rs : List R4} {k j m p L : Nat} (h : RGood ks rs [k, j, m] L) (h1 : k < ks.length) (h2 : j < limK ks k) (h3 : m < limK ks k) (h4 : j ≠ m) (h5 : 1 ≤ p) (h6 : p ≤ 1000000) : RGood ks (rs ++ [(k, j, m, p)]) [k, j, m + 1] (L + 1) where
  one := fun r hr => by
    rcases List.mem_append.mp hr with z | z
    · exact h.one r z
    · simp at z
      subst z
      exact ⟨h1, h2, h3, h4, h5, h6⟩
  asc := List.pairwise_append.mpr ⟨h.asc, List.pairwise_singleton _ _, fun a ha b hb => by
    simp at hb
    subst hb
    exact h.ahead a ha⟩
  ahead := fun r hr => by
    rcases List.mem_append.mp hr with z | z
    · exact List.lt_trans (h.ahead r z) (lt5 k j (Nat.lt_succ_self m))
    · simp at z
      subst z
      exact lt5 k j (Nat.lt_succ_self m)
  len := by have := h.len; simp; omega
end K11

set_option Elab.async false
set_option linter.all false
set_option maxRecDepth 100000
set_option maxHeartbeats 4000000
namespace K11
open PySem PySem.Spec Den
open PyProof.Rows L2

theorem mem_range_nP {n i : Nat} {d : PD} (h : ((List.range n).map nP)[i]? = some d) : d = nP i ∧ i < n := by
  rw [List.getElem?_map] at h
  rcases Nat.lt_or_ge i n with z | z
  · rw [List.getElem?_range z] at h
    cases h
    exact ⟨rfl, z⟩
  · rw [List.getElem?_eq_none (by simpa using z)] at h; cases h
/-- the state of _law_desk in its loops -/
def stE (states : Nat) (ns : List Str) (ks : List Kd) (ts : List Tl) (rs : List R4) (few : Nat) (s5 s8 s9 : Slot) (b : List PD) : Rho := ⟨[.io 0, .val (nP states), .own (.lst (ns.map PyData.str)), .val (ksP ks), .val (tsP ts), s5, .own (.lst (rs.map rpP)), .val (nP few), s8, s9, .no], [.lst b]⟩
section
variable {states : Nat} {ns : List Str} {ks : List Kd} {ts : List Tl} {few : Nat}
theorem inner_ok (V : VKs ks) {k j : Nat} (hk : k < ks.length) (hj : j < limK ks k) {rs : List R4} {L : Nat} (g : RGood ks rs [k, j] L) (hL : L ≤ 900) {b : List PD} (hb : Box b) :
    Wp (dFor (.nm 9) [9] (dRange1 (dEs (dOp2 pGet (dkE (dOp2 pGet (dkVar 3) (dkVar 5))) (dkE (mpure (.int 1)))) (mpure []))) (dIf (tAndB (asB (dOp2 pNe (dkVar 8) (dkVar 9))) (asB (dOp2 pGe (dkE (dCall F__law_take (.io 0 :: .val (mpure (.int 4)) :: []))) (dkVar 7)))) (dDrop (dMeth 6 mAppend (dEs (dTup (dEs (dVar 5) (dEs (dVar 8) (dEs (dVar 9) (dEs (dOp2 pAdd (dkE (mpure (.int 1))) (dkE (dCall F__law_take (.io 0 :: .val (mpure (.int 9)) :: [])))) (mpure [])))))) (mpure [])))) (dNext)))
      (stE states ns ks ts rs few (.val (nP k)) (.val (nP j)) .no b) (fun fl ρ => fl = .nx ∧ ∃ rs' b', RGood ks rs' [k, j + 1] (L + 6) ∧ Box b' ∧ ρ = stE states ns ks ts rs' few (.val (nP k)) (.val (nP j)) .no b') (fun _ _ => False) := by
  obtain ⟨kk, k1, k2⟩ := limK_get hk
  have hl6 := V.lim k
  rw [wp_dFor]
  refine wp_at (a1 := ((List.range (limK ks k)).map nP, fun _ => True)) (ρ1 := stE states ns ks ts rs few (.val (nP k)) (.val (nP j)) .no b) (by simp [rho0, slotOf, look, ixOf, getC, setC, getM, setM, getL, MC.look, MC.pd, killS, turnQ, lkOf, outB, iosOf, arsOf, wp_tail, mAppend, mExtend, mPop, wp_dFor, wp_dComp, wp_dIterV, wp_dSeqs, slOkN, lendR, lendB, unS, compEnd, enumD_eq, stE, ksP, nP, k1, kP, ← k2, small_of (show limK ks k ≤ 1000000 by omega)]) ?_
  refine wp_forGo (I := fun i ρ => i ≤ limK ks k ∧ ∃ rs' b', RGood ks rs' [k, j, i] (L + i) ∧ Box b' ∧ ρ = stE states ns ks ts rs' few (.val (nP k)) (.val (nP j)) .no b') _ (fun _ _ _ => trivial) ?_ ?_ ⟨Nat.zero_le _, rs, b, g.mono (lt2 k j 0) (Nat.le_refl _), hb, rfl⟩
  · rintro ρ ⟨_, rs', b', g', hb', rfl⟩
    simp at g'
    exact ⟨rfl, rs', b', g'.mono (lt4 k (Nat.lt_succ_self j) [limK ks k]) (by omega), hb', rfl⟩
  · rintro i ρ d hd ⟨hi0, rs', b', g', hb', rfl⟩
    obtain ⟨rfl, hi⟩ := mem_range_nP hd
    refine ⟨_, rfl, ?_⟩
    have hlen : rs'.length < 10000000 := by have := g'.len; omega
    have step0 : RGood ks rs' [k, j, i + 1] (L + (i + 1)) := g'.mono (lt5 k j (Nat.lt_succ_self i)) (by omega)
    rw [wp_dIf]
    by_cases hji : j = i
    · subst hji
      refine wp_at (a1 := false) (ρ1 := stE states ns ks ts rs' few (.val (nP k)) (.val (nP j)) (.val (nP j)) b') (by simp [rho0, slotOf, look, ixOf, getC, setC, getM, setM, getL, MC.look, MC.pd, killS, turnQ, lkOf, outB, iosOf, arsOf, wp_tail, mAppend, mExtend, mPop, wp_dFor, wp_dComp, wp_dIterV, wp_dSeqs, slOkN, lendR, lendB, unS, compEnd, enumD_eq, stE, nP]) ?_
      rw [if_neg (by simp), wp_dNext]
      exact ⟨hi, rs', b', step0, hb', rfl⟩
    · obtain ⟨r, _, b2, hb2, e2⟩ := take_ok hb' (n := 4) (by decide) (by decide)
      have hji' : ¬ (j : Int) = i := by omega
      refine wp_at (a1 := decide ((few : Int) ≤ r)) (ρ1 := stE states ns ks ts rs' few (.val (nP k)) (.val (nP j)) (.val (nP i)) b2) (by simp [rho0, slotOf, look, ixOf, getC, setC, getM, setM, getL, MC.look, MC.pd, killS, turnQ, lkOf, outB, iosOf, arsOf, wp_tail, mAppend, mExtend, mPop, wp_dFor, wp_dComp, wp_dIterV, wp_dSeqs, slOkN, lendR, lendB, unS, compEnd, enumD_eq, stE, nP, hji', e2]) ?_
      by_cases hfr : (few : Int) ≤ r
      · rw [if_pos (by simpa using hfr)]
        obtain ⟨q, hq, b3, hb3, e3⟩ := take_ok hb2 (n := 9) (by decide) (by decide)
        refine wp_at (a1 := Fl.nx) (ρ1 := stE states ns ks ts (rs' ++ [(k, j, i, 1 + q)]) few (.val (nP k)) (.val (nP j)) (.val (nP i)) b3) ?_ ⟨hi, rs' ++ [(k, j, i, 1 + q)], b3, g'.add hk hj hi hji (by omega) (by omega), hb3, rfl⟩
        simp [rho0, slotOf, look, ixOf, getC, setC, getM, setM, getL, MC.look, MC.pd, killS, turnQ, lkOf, outB, iosOf, arsOf, wp_tail, mAppend, mExtend, mPop, wp_dFor, wp_dComp, wp_dIterV, wp_dSeqs, slOkN, lendR, lendB, unS, compEnd, enumD_eq, stE, nP, e3, hlen, rpP]
      · rw [if_neg (by simpa using hfr), wp_dNext]
        exact ⟨hi, rs', b2, step0, hb2, rfl⟩
theorem middle_ok (V : VKs ks) {k : Nat} (hk : k < ks.length) {rs : List R4} {L : Nat} (g : RGood ks rs [k] L) (hL : L ≤ 800) {b : List PD} (hb : Box b) :
    Wp (dFor (.nm 8) [8] (dRange1 (dEs (dOp2 pGet (dkE (dOp2 pGet (dkVar 3) (dkVar 5))) (dkE (mpure (.int 1)))) (mpure []))) (dFor (.nm 9) [9] (dRange1 (dEs (dOp2 pGet (dkE (dOp2 pGet (dkVar 3) (dkVar 5))) (dkE (mpure (.int 1)))) (mpure []))) (dIf (tAndB (asB (dOp2 pNe (dkVar 8) (dkVar 9))) (asB (dOp2 pGe (dkE (dCall F__law_take (.io 0 :: .val (mpure (.int 4)) :: []))) (dkVar 7)))) (dDrop (dMeth 6 mAppend (dEs (dTup (dEs (dVar 5) (dEs (dVar 8) (dEs (dVar 9) (dEs (dOp2 pAdd (dkE (mpure (.int 1))) (dkE (dCall F__law_take (.io 0 :: .val (mpure (.int 9)) :: [])))) (mpure [])))))) (mpure [])))) (dNext))))
      (stE states ns ks ts rs few (.val (nP k)) .no .no b) (fun fl ρ => fl = .nx ∧ ∃ rs' b', RGood ks rs' [k + 1] (L + 36) ∧ Box b' ∧ ρ = stE states ns ks ts rs' few (.val (nP k)) .no .no b') (fun _ _ => False) := by
  obtain ⟨kk, k1, k2⟩ := limK_get hk
  have hl6 := V.lim k
  rw [wp_dFor]
  refine wp_at (a1 := ((List.range (limK ks k)).map nP, fun _ => True)) (ρ1 := stE states ns ks ts rs few (.val (nP k)) .no .no b) (by simp [rho0, slotOf, look, ixOf, getC, setC, getM, setM, getL, MC.look, MC.pd, killS, turnQ, lkOf, outB, iosOf, arsOf, wp_tail, mAppend, mExtend, mPop, wp_dFor, wp_dComp, wp_dIterV, wp_dSeqs, slOkN, lendR, lendB, unS, compEnd, enumD_eq, stE, ksP, nP, k1, kP, ← k2, small_of (show limK ks k ≤ 1000000 by omega)]) ?_
  refine wp_forGo (I := fun i ρ => i ≤ limK ks k ∧ ∃ rs' b', RGood ks rs' [k, i] (L + 6 * i) ∧ Box b' ∧ ρ = stE states ns ks ts rs' few (.val (nP k)) .no .no b') _ (fun _ _ _ => trivial) ?_ ?_ ⟨Nat.zero_le _, rs, b, g.mono (lt1 k 0 []) (Nat.le_refl _), hb, rfl⟩
  · rintro ρ ⟨_, rs', b', g', hb', rfl⟩
    simp at g'
    exact ⟨rfl, rs', b', g'.mono (lt3 (Nat.lt_succ_self k) [limK ks k]) (by omega), hb', rfl⟩
  · rintro i ρ d hd ⟨hi0, rs', b', g', hb', rfl⟩
    obtain ⟨rfl, hi⟩ := mem_range_nP hd
    refine ⟨_, rfl, ?_⟩
    have hin := inner_ok (states := states) (ns := ns) (ts := ts) (few := few) V hk hi g' (by omega) hb'
    refine Wp.mono hin ?_ (fun _ _ z => z.elim)
    rintro fl ρ' ⟨rfl, rs2, b2, g2, hb2, rfl⟩
    exact ⟨hi, rs2, b2, by rw [show L + 6 * (i + 1) = L + 6 * i + 6 by omega]; exact g2, hb2, rfl⟩
theorem repairs_drawn (V : VKs ks) (k2 : ks.length ≤ 2) {b : List PD} (hb : Box b) :
    Wp (dFor (.nm 5) [5] (dRange1 (dEs (dCB gLen (dKs (dkVar 3) (mpure []))) (mpure []))) (dFor (.nm 8) [8] (dRange1 (dEs (dOp2 pGet (dkE (dOp2 pGet (dkVar 3) (dkVar 5))) (dkE (mpure (.int 1)))) (mpure []))) (dFor (.nm 9) [9] (dRange1 (dEs (dOp2 pGet (dkE (dOp2 pGet (dkVar 3) (dkVar 5))) (dkE (mpure (.int 1)))) (mpure []))) (dIf (tAndB (asB (dOp2 pNe (dkVar 8) (dkVar 9))) (asB (dOp2 pGe (dkE (dCall F__law_take (.io 0 :: .val (mpure (.int 4)) :: []))) (dkVar 7)))) (dDrop (dMeth 6 mAppend (dEs (dTup (dEs (dVar 5) (dEs (dVar 8) (dEs (dVar 9) (dEs (dOp2 pAdd (dkE (mpure (.int 1))) (dkE (dCall F__law_take (.io 0 :: .val (mpure (.int 9)) :: [])))) (mpure [])))))) (mpure [])))) (dNext)))))
      (stE states ns ks ts [] few .no .no .no b) (fun fl ρ => fl = .nx ∧ ∃ rs' b', VRs ks rs' ∧ Box b' ∧ ρ = stE states ns ks ts rs' few .no .no .no b') (fun _ _ => False) := by
  generalize hB : dFor (.nm 8) [8] (dRange1 (dEs (dOp2 pGet (dkE (dOp2 pGet (dkVar 3) (dkVar 5))) (dkE (mpure (.int 1)))) (mpure []))) (dFor (.nm 9) [9] (dRange1 (dEs (dOp2 pGet (dkE (dOp2 pGet (dkVar 3) (dkVar 5))) (dkE (mpure (.int 1)))) (mpure []))) (dIf (tAndB (asB (dOp2 pNe (dkVar 8) (dkVar 9))) (asB (dOp2 pGe (dkE (dCall F__law_take (.io 0 :: .val (mpure (.int 4)) :: []))) (dkVar 7)))) (dDrop (dMeth 6 mAppend (dEs (dTup (dEs (dVar 5) (dEs (dVar 8) (dEs (dVar 9) (dEs (dOp2 pAdd (dkE (mpure (.int 1))) (dkE (dCall F__law_take (.io 0 :: .val (mpure (.int 9)) :: [])))) (mpure [])))))) (mpure [])))) (dNext))) = B
  rw [wp_dFor]
  obtain ⟨ρ0, hρ⟩ : ∃ ρ0, ρ0 = stE states ns ks ts [] few .no .no .no b := ⟨_, rfl⟩
  have hs := small_of (show ks.length ≤ 1000000 by omega)
  rw [← hρ]
  refine wp_at (a1 := ((List.range ks.length).map nP, fun _ => True)) (ρ1 := ρ0) (by rw [hρ]; simp [rho0, slotOf, look, ixOf, getC, setC, getM, setM, getL, MC.look, MC.pd, killS, turnQ, lkOf, outB, iosOf, arsOf, wp_tail, mAppend, mExtend, mPop, wp_dFor, wp_dComp, wp_dIterV, wp_dSeqs, slOkN, lendR, lendB, unS, compEnd, enumD_eq, stE, ksP, hs]) ?_
  rw [hρ]
  refine wp_forGo (I := fun i ρ => i ≤ ks.length ∧ ∃ rs' b', RGood ks rs' [i] (36 * i) ∧ Box b' ∧ ρ = stE states ns ks ts rs' few .no .no .no b') _ (fun _ _ _ => trivial) ?_ ?_ ⟨Nat.zero_le _, [], b, ⟨by simp, List.Pairwise.nil, by simp, by simp⟩, hb, rfl⟩
  · rintro ρ ⟨_, rs', b', g', hb', rfl⟩
    simp at g'
    exact ⟨rfl, rs', b', ⟨by have := g'.len; omega, g'.one, g'.asc⟩, hb', rfl⟩
  · rintro i ρ d hd ⟨hi0, rs', b', g', hb', rfl⟩
    obtain ⟨rfl, hi⟩ := mem_range_nP hd
    refine ⟨_, rfl, ?_⟩
    have hin := middle_ok (states := states) (ns := ns) (ts := ts) (few := few) V hi g' (by omega) hb'
    rw [hB] at hin
    refine Wp.mono hin ?_ (fun _ _ z => z.elim)
    rintro fl ρ' ⟨rfl, rs2, b2, g2, hb2, rfl⟩
    exact ⟨hi, rs2, b2, by rw [show 36 * (i + 1) = 36 * i + 36 by omega]; exact g2, hb2, rfl⟩
end
/-- a drawn desk -/
structure VD (d : Dk) : Prop where
  ks : VKs d.1
  ts : VTs d.1 d.2.1
  rs : VRs d.1 d.2.2
  k2 : d.1.length ≤ 2
  t1 : 1 ≤ d.2.1.length
  t4 : d.2.1.length ≤ 4
def partsP (d : Dk) : PD := .tuple [ksP d.1, tsP d.2.1, rpsP d.2.2]
theorem desk_ok {states : Nat} (h2 : 2 ≤ states) (h6 : states ≤ 6) {b : List PD} (hb : Box b) : ∃ (d : Dk) (b' : List PD), VD d ∧ (∀ k ∈ d.1, k.2 ≤ states) ∧ Box b' ∧ F__law_desk [.io 0, .val (nP states)] [.lst b] = (.ret (partsP d), [.lst b']) := by
  have key : (fun r : Rt × List MC => ∃ (d : Dk) (b' : List PD), VD d ∧ (∀ k ∈ d.1, k.2 ≤ states) ∧ Box b' ∧ r = (.ret (partsP d), [.lst b'])) (F__law_desk [.io 0, .val (nP states)] [.lst b]) := by
    refine runB_post (T := fun r : Rt × List MC => ∃ (d : Dk) (b' : List PD), VD d ∧ (∀ k ∈ d.1, k.2 ≤ states) ∧ Box b' ∧ r = (.ret (partsP d), [.lst b'])) rfl ?_
    unfold g__law_desk
    obtain ⟨ns, b0, n1, hb0, e0⟩ := names_ok hb
    refine wp_seq (ρ1 := stD states ns .no .no .no .no b0) (by simp [rho0, slotOf, look, ixOf, getC, setC, getM, setM, getL, MC.look, MC.pd, killS, turnQ, lkOf, outB, iosOf, arsOf, wp_tail, mAppend, mExtend, mPop, wp_dFor, wp_dComp, wp_dIterV, wp_dSeqs, slOkN, lendR, lendB, unS, compEnd, enumD_eq, e0, stD]) ?_
    refine wp_seqP _ (kinds_drawn h2 h6 n1.pool hb0) ?_
    rintro ρ ⟨ks, rest, b1, V, k2, k3, p1, hb1, rfl⟩
    refine wp_seqP _ (tools_drawn V k2 p1 hb1) ?_
    rintro ρ ⟨ts, rest', b2, W, t1, t4, hb2, rfl⟩
    obtain ⟨few, _, b3, hb3, e3⟩ := take_ok hb2 (n := 4) (by decide) (by decide)
    refine wp_seq (ρ1 := stE states rest' ks ts [] few .no .no .no b3) ?_ ?_
    · rw [wp_dMix]
      refine ⟨rfl, ?_⟩
      simp [wp_els_fre, wp_els_val, wp_els_nil, rho0, slotOf, look, ixOf, getC, setC, getM, setM, getL, MC.look, MC.pd, killS, turnQ, lkOf, outB, iosOf, arsOf, wp_tail, mAppend, mExtend, mPop, wp_dFor, wp_dComp, wp_dIterV, wp_dSeqs, slOkN, lendR, lendB, unS, compEnd, enumD_eq, stD, stE, e3, popS, freS, setE, evS]
    have hr := repairs_drawn (states := states) (ns := rest') (ts := ts) (few := few) V k2 hb3
    obtain ⟨ρ0, hρ⟩ : ∃ ρ0, ρ0 = stE states rest' ks ts [] few .no .no .no b3 := ⟨_, rfl⟩
    rw [← hρ] at hr ⊢
    refine wp_seqP _ hr ?_
    rintro ρ ⟨rs, b4, X, hb4, rfl⟩
    refine wp_at (a1 := .ret (partsP (ks, ts, rs))) (ρ1 := stE states rest' ks ts rs few .no .no .no b4) (by simp [rho0, slotOf, look, ixOf, getC, setC, getM, setM, getL, MC.look, MC.pd, killS, turnQ, lkOf, outB, iosOf, arsOf, wp_tail, mAppend, mExtend, mPop, wp_dFor, wp_dComp, wp_dIterV, wp_dSeqs, slOkN, lendR, lendB, unS, compEnd, enumD_eq, stE, partsP, rpsP]) ?_
    exact ⟨(ks, ts, rs), b4, ⟨V, W, X, k2, t1, t4⟩, k3, hb4, rfl⟩
  obtain ⟨d, b', k1, k2, k3, k4⟩ := key
  exact ⟨d, b', k1, k2, k3, k4⟩
end K11

set_option Elab.async false
set_option linter.all false
set_option maxRecDepth 100000
set_option maxHeartbeats 4000000
namespace K11
open PySem PySem.Spec Den
open PyProof.Rows L2

theorem things_ok {ks : List Kd} (V : VKs ks) {b : List PD} (hb : Box b) {n : Nat} (hn : n ≤ 1000) : ∃ (th : List Nat) (b' : List PD), th.length = n ∧ (∀ k ∈ th, k < ks.length) ∧ Box b' ∧ F__law_things [.io 0, .val (ksP ks), .val (nP n)] [.lst b] = (.ret (rsP th), [.lst b']) := by
  have key : (fun r : Rt × List MC => ∃ (th : List Nat) (b' : List PD), th.length = n ∧ (∀ k ∈ th, k < ks.length) ∧ Box b' ∧ r = (.ret (rsP th), [.lst b'])) (F__law_things [.io 0, .val (ksP ks), .val (nP n)] [.lst b]) := by
    refine runB_post (T := fun r : Rt × List MC => ∃ (th : List Nat) (b' : List PD), th.length = n ∧ (∀ k ∈ th, k < ks.length) ∧ Box b' ∧ r = (.ret (rsP th), [.lst b'])) rfl ?_
    unfold g__law_things
    have hpos := V.pos
    have hfew := V.few
    have glk : gLen [ksP ks] = some (.int ks.length) := by simp [ksP]
    rw [wp_dRet, wp_dCB, wp_dKs, wp_dkE, wp_bind, wp_dComp]
    refine wp_at (a1 := ((List.range n).map nP, fun _ => True)) (ρ1 := ⟨[.io 0, .val (ksP ks), .val (nP n), .no], [.lst b]⟩) (by simp [rho0, slotOf, look, ixOf, getC, setC, getM, setM, getL, MC.look, MC.pd, killS, turnQ, lkOf, outB, iosOf, arsOf, wp_tail, mAppend, mExtend, mPop, wp_dFor, wp_dComp, wp_dIterV, wp_dSeqs, slOkN, lendR, lendB, unS, compEnd, enumD_eq, nP, small_of (show n ≤ 1000000 by omega)]) ?_
    refine ⟨by simp; exact Nat.le_trans hn (by decide), ?_⟩
    refine wp_drawn ((List.range n).map nP) (List.replicate n ks.length) (fun b => ⟨[.io 0, .val (ksP ks), .val (nP n), .no], [.lst b]⟩) (by simp) ?_ b hb ?_
    · intro b2 hb2 i l x hx hl
      have hl2 : l = ks.length := by
        rw [List.getElem?_replicate] at hl
        split at hl
        · cases hl; rfl
        · cases hl
      subst hl2
      obtain ⟨r, hr, b3, hb3, e3⟩ := take_ok hb2 (n := ks.length) (by omega) (by omega)
      exact wp_at (a1 := nP r) (ρ1 := ⟨[.io 0, .val (ksP ks), .val (nP n), .val x], [.lst b3]⟩) (by simp [rho0, slotOf, look, ixOf, getC, setC, getM, setM, getL, MC.look, MC.pd, killS, turnQ, lkOf, outB, iosOf, arsOf, wp_tail, mAppend, mExtend, mPop, wp_dFor, wp_dComp, wp_dIterV, wp_dSeqs, slOkN, lendR, lendB, unS, compEnd, enumD_eq, glk, e3]) ⟨r, b3, by omega, hb3, rfl, rfl⟩
    · intro ns b' hns hb'
      simp only [wp_pure, wp_dkE, looks_cons, looks_nil, look_d, ho_some, gTup_l]
      refine ⟨ns, b', by rw [hns.1]; simp, fun r hr => ?_, hb', rfl⟩
      obtain ⟨i, hi, rfl⟩ := List.getElem_of_mem hr
      exact hns.2 i _ ks.length (List.getElem?_eq_getElem hi) (by rw [List.getElem?_replicate, if_pos (by rw [hns.1] at hi; simpa using hi)])
  obtain ⟨th, b', k1, k2, k3, k4⟩ := key
  exact ⟨th, b', k1, k2, k3, k4⟩
/-! ### drawn tries -/
def optP : Option Tr → PD
  | some o => trP o
  | none => .none
/-- members so far: of these roles, each once -/
structure Mem (th roles ms : List Nat) : Prop where
  fit : ms.map (fun n => th[n]?) = roles.map some
  nd : ms.Nodup
/-- the things that may be next -/
def someT (th : List Nat) (r : Nat) (ms : List Nat) : List Nat := (List.range th.length).filter fun m => decide (th[m]? = some r) && decide (m ∉ ms)
theorem Mem.snoc {th roles ms : List Nat} (h : Mem th roles ms) {r m : Nat} (hm : m ∈ someT th r ms) : Mem th (roles ++ [r]) (ms ++ [m]) := by
  unfold someT at hm
  rw [List.mem_filter] at hm
  simp at hm
  refine ⟨by rw [List.map_append, List.map_append, h.fit]; simp [hm.2.1], List.nodup_append.mpr ⟨h.nd, by simp, fun a ha b hb => ?_⟩⟩
  simp at hb
  subst hb
  rintro rfl
  exact hm.2.2 ha
theorem pNotIn_nP (m : Nat) (ms : List Nat) : pNotIn (nP m) (.list (ms.map nP)) = some (.bool (decide (m ∉ ms))) := by
  unfold pNotIn
  have h1 : okD (nP m) = true := (okN_nP 0 m).ok
  have h2 : okD (.list (ms.map nP)) = true := (okN_lst (n := 0) fun d hd => by
    obtain ⟨x, _, rfl⟩ := List.mem_map.mp hd
    exact okN_nP 0 x).ok
  have e : pIn (nP m) (.list (ms.map nP)) = some (.bool (decide (m ∈ ms))) := by
    show (if okD (nP m) = true ∧ okD (.list (ms.map nP)) = true then some (PyData.bool _) else none) = _
    rw [if_pos ⟨h1, h2⟩]
    congr 2
    rw [List.any_map, Bool.eq_iff_iff]
    simp [nP, PyData.eqv, List.any_eq_true]
    constructor
    · rintro ⟨x, hx, e⟩
      have : x = m := by omega
      rwa [← this]
    · intro h
      exact ⟨m, h, rfl⟩
  rw [e]
  simp
theorem try_ok {d : Dk} (D : VD d) {th : List Nat} (hl : th.length ≤ 100) {b : List PD} (hb : Box b) : ∃ (o : Option Tr) (b' : List PD), (∀ x, o = some x → VTr d th x) ∧ Box b' ∧ F__law_try [.io 0, .val (tsP d.2.1), .val (rsP th)] [.lst b] = (.ret (optP o), [.lst b']) := by
  have key : (fun r : Rt × List MC => ∃ (o : Option Tr) (b' : List PD), (∀ x, o = some x → VTr d th x) ∧ Box b' ∧ r = (.ret (optP o), [.lst b'])) (F__law_try [.io 0, .val (tsP d.2.1), .val (rsP th)] [.lst b]) := by
    refine runB_post (T := fun r : Rt × List MC => ∃ (o : Option Tr) (b' : List PD), (∀ x, o = some x → VTr d th x) ∧ Box b' ∧ r = (.ret (optP o), [.lst b'])) rfl ?_
    unfold g__law_try
    have glt : gLen [tsP d.2.1] = some (.int d.2.1.length) := by simp [tsP]
    have glh : gLen [rsP th] = some (.int th.length) := by simp [rsP]
    have t1 := D.t1
    have t4 := D.t4
    obtain ⟨n, hn, b1, hb1, e1⟩ := take_ok hb (n := d.2.1.length) (by omega) (by omega)
    refine wp_seq (ρ1 := ⟨[.io 0, .val (tsP d.2.1), .val (rsP th), .val (nP n), .no, .no, .no, .no], [.lst b1]⟩) (by simp [rho0, slotOf, look, ixOf, getC, setC, getM, setM, getL, MC.look, MC.pd, killS, turnQ, lkOf, outB, iosOf, arsOf, wp_tail, mAppend, mExtend, mPop, wp_dFor, wp_dComp, wp_dIterV, wp_dSeqs, slOkN, lendR, lendB, unS, compEnd, enumD_eq, glt, e1]) ?_
    refine wp_seq (ρ1 := ⟨[.io 0, .val (tsP d.2.1), .val (rsP th), .val (nP n), .own (.lst []), .no, .no, .no], [.lst b1]⟩) (by simp [rho0, slotOf, look, ixOf, getC, setC, getM, setM, getL, MC.look, MC.pd, killS, turnQ, lkOf, outB, iosOf, arsOf, wp_tail, mAppend, mExtend, mPop, wp_dFor, wp_dComp, wp_dIterV, wp_dSeqs, slOkN, lendR, lendB, unS, compEnd, enumD_eq]) ?_
    have hnl : n < d.2.1.length := by omega
    have ht : d.2.1[n]? = some d.2.1[n] := by simp [hnl]
    have vt := D.ts.tool _ (List.getElem_mem hnl)
    generalize d.2.1[n] = t at ht vt
    have eg : pGet (tsP d.2.1) (nP n) = some (tlP t) := by simp [tsP, nP, ht]
    rw [wp_dSeq, wp_dFor]
    refine wp_at (a1 := (t.2.1.map nP, fun _ => True)) (ρ1 := ⟨[.io 0, .val (tsP d.2.1), .val (rsP th), .val (nP n), .own (.lst []), .no, .no, .no], [.lst b1]⟩) (by simp [rho0, slotOf, look, ixOf, getC, setC, getM, setM, getL, MC.look, MC.pd, killS, turnQ, lkOf, outB, iosOf, arsOf, wp_tail, mAppend, mExtend, mPop, wp_dFor, wp_dComp, wp_dIterV, wp_dSeqs, slOkN, lendR, lendB, unS, compEnd, enumD_eq, eg, tlP, rsP]) ?_
    refine wp_forGo (I := fun i ρ => i ≤ t.2.1.length ∧ ∃ (ms : List Nat) (b' : List PD), Mem th (t.2.1.take i) ms ∧ Box b' ∧ ρ = ⟨[.io 0, .val (tsP d.2.1), .val (rsP th), .val (nP n), .own (.lst (ms.map nP)), .no, .no, .no], [.lst b']⟩) _ (fun _ _ _ => trivial) ?_ ?_ ⟨Nat.zero_le _, [], b1, ⟨rfl, List.Pairwise.nil⟩, hb1, rfl⟩
    · rintro ρ ⟨_, ms, b', m1, hb', rfl⟩
      rw [List.length_map, List.take_length] at m1
      refine wp_at (a1 := .ret (optP (some (n, ms)))) (ρ1 := ⟨[.io 0, .val (tsP d.2.1), .val (rsP th), .val (nP n), .own (.lst (ms.map nP)), .no, .no, .no], [.lst b']⟩) (by simp [rho0, slotOf, look, ixOf, getC, setC, getM, setM, getL, MC.look, MC.pd, killS, turnQ, lkOf, outB, iosOf, arsOf, wp_tail, mAppend, mExtend, mPop, wp_dFor, wp_dComp, wp_dIterV, wp_dSeqs, slOkN, lendR, lendB, unS, compEnd, enumD_eq, optP, trP, rsP]) ?_
      exact ⟨some (n, ms), b', fun x hx => by cases hx; exact ⟨⟨t, ht, m1.fit⟩, m1.nd⟩, hb', rfl⟩
    · rintro i ρ x hx ⟨hi, ms, b', m1, hb', rfl⟩
      rw [List.getElem?_map] at hx
      cases hr : t.2.1[i]? with
      | none => rw [hr] at hx; cases hx
      | some r =>
        rw [hr] at hx
        cases hx
        have hil : i < t.2.1.length := by
          rcases Nat.lt_or_ge i t.2.1.length with q | q
          · exact q
          · rw [List.getElem?_eq_none q] at hr; cases hr
        have htk : t.2.1.take (i + 1) = t.2.1.take i ++ [r] := by
          rw [List.take_succ, hr]
          rfl
        refine ⟨_, rfl, ?_⟩
        have hmsl : ms.length ≤ 3 := by
          have e := congrArg List.length m1.fit
          simp at e
          have := vt.len3
          omega
        refine wp_seq (ρ1 := ⟨[.io 0, .val (tsP d.2.1), .val (rsP th), .val (nP n), .own (.lst (ms.map nP)), .val (nP r), .own (.lst ((someT th r ms).map nP)), .no], [.lst b']⟩) ?_ ?_
        · rw [wp_dSetF, wp_dComp]
          refine wp_at (a1 := ((List.range th.length).map nP, fun _ => True)) (ρ1 := ⟨[.io 0, .val (tsP d.2.1), .val (rsP th), .val (nP n), .own (.lst (ms.map nP)), .val (nP r), .no, .no], [.lst b']⟩) (by simp [rho0, slotOf, look, ixOf, getC, setC, getM, setM, getL, MC.look, MC.pd, killS, turnQ, lkOf, outB, iosOf, arsOf, wp_tail, mAppend, mExtend, mPop, wp_dFor, wp_dComp, wp_dIterV, wp_dSeqs, slOkN, lendR, lendB, unS, compEnd, enumD_eq, glh, small_of (show th.length ≤ 1000000 by omega)]) ?_
          refine ⟨by simp; exact Nat.le_trans hl (by decide), ?_⟩
          refine wp_compFil (fun y => match y with | .int m => decide (th[m.toNat]? = some r) && decide (m.toNat ∉ ms) | _ => false) id _ trivial (fun y hy => ?_) ?_
          · obtain ⟨m, hm, rfl⟩ := List.mem_map.mp hy
            have hmt : m < th.length := List.mem_range.mp hm
            have e1 : th[m]? = some th[m] := by simp [hmt]
            have e2 := pNotIn_nP m ms
            have e4 : pGet (rsP th) (.int (m : Nat)) = some (.int (th[m] : Nat)) := by simp [rsP, nP, e1]
            have e2' : pNotIn (.int (m : Nat)) (.list (ms.map nP)) = some (.bool (decide (m ∉ ms))) := e2
            have e3 : ((th[m] : Nat) : Int) = r ↔ th[m] = r := by omega
            simp [rho0, slotOf, look, ixOf, getC, setC, getM, setM, getL, MC.look, MC.pd, killS, turnQ, lkOf, outB, iosOf, arsOf, wp_tail, mAppend, mExtend, mPop, wp_dFor, wp_dComp, wp_dIterV, wp_dSeqs, slOkN, lendR, lendB, unS, compEnd, enumD_eq, e4, e2', nP, e3, e1]
            split <;> rename_i hq
            · exact fun _ => hq
            · exact fun z => absurd z hq
          · have e : (((List.range th.length).map nP).filter (fun y => match y with | .int m => decide (th[m.toNat]? = some r) && decide (m.toNat ∉ ms) | _ => false)).map id = (someT th r ms).map nP := by
              rw [List.filter_map, List.map_id]
              rfl
            rw [e]
            exact ⟨rfl, by simp [rho0, slotOf, look, ixOf, getC, setC, getM, setM, getL, MC.look, MC.pd, killS, turnQ, lkOf, outB, iosOf, arsOf, wp_tail, mAppend, mExtend, mPop, wp_dFor, wp_dComp, wp_dIterV, wp_dSeqs, slOkN, lendR, lendB, unS, compEnd, enumD_eq]⟩
        · have okl : ∀ y ∈ (someT th r ms).map nP, OkN 0 y := fun y hy => by
            obtain ⟨m, _, rfl⟩ := List.mem_map.mp hy
            exact okN_nP 0 m
          rw [wp_dSeq, wp_dIf]
          refine wp_at (a1 := (someT th r ms).isEmpty) (ρ1 := ⟨[.io 0, .val (tsP d.2.1), .val (rsP th), .val (nP n), .own (.lst (ms.map nP)), .val (nP r), .own (.lst ((someT th r ms).map nP)), .no], [.lst b']⟩) (by simp [rho0, slotOf, look, ixOf, getC, setC, getM, setM, getL, MC.look, MC.pd, killS, turnQ, lkOf, outB, iosOf, arsOf, wp_tail, mAppend, mExtend, mPop, wp_dFor, wp_dComp, wp_dIterV, wp_dSeqs, slOkN, lendR, lendB, unS, compEnd, enumD_eq, pEq_nil okl]) ?_
          cases hse : someT th r ms with
          | nil =>
            simp only [List.isEmpty_nil, if_true, wp_dRet, wp_pure]
            exact ⟨none, b', fun x hx => (by cases hx), hb', rfl⟩
          | cons m0 mr =>
            simp only [List.isEmpty_cons, Bool.false_eq_true, if_false, wp_dNext]
            rw [← hse]
            have hlen : (someT th r ms).length ≤ 100 := by
              unfold someT
              refine Nat.le_trans (List.length_filter_le _ _) ?_
              simpa using hl
            obtain ⟨y, hy, b2, hb2, e2⟩ := pick_ok hb' (v := .list ((someT th r ms).map nP)) rfl (by rw [hse]; simp) (by simp; omega)
            obtain ⟨m, hm, rfl⟩ := List.mem_map.mp hy
            have hlt : ms.length < 10000000 := by omega
            refine wp_at (a1 := Fl.nx) (ρ1 := ⟨[.io 0, .val (tsP d.2.1), .val (rsP th), .val (nP n), .own (.lst ((ms ++ [m]).map nP)), .val (nP r), .val (.list ((someT th r ms).map nP)), .no], [.lst b2]⟩) (by simp [rho0, slotOf, look, ixOf, getC, setC, getM, setM, getL, MC.look, MC.pd, killS, turnQ, lkOf, outB, iosOf, arsOf, wp_tail, mAppend, mExtend, mPop, wp_dFor, wp_dComp, wp_dIterV, wp_dSeqs, slOkN, lendR, lendB, unS, compEnd, enumD_eq, e2, hlt]) ?_
            exact ⟨hil, ms ++ [m], b2, by rw [htk]; exact m1.snoc hm, hb2, rfl⟩
  obtain ⟨o, b', k1, k2, k3⟩ := key
  exact ⟨o, b', k1, k2, k3⟩
end K11

set_option Elab.async false
set_option linter.all false
set_option maxRecDepth 100000
set_option maxHeartbeats 4000000
namespace K11
open PySem PySem.Spec Den
open PyProof.Rows L2

theorem filter_opt : ∀ os : List (Option Tr), ((os.map optP).filter fun y => !Den.isNon y).map id = (os.filterMap id).map trP
  | [] => rfl
  | none :: r => by
    have := filter_opt r
    simpa [optP, Den.isNon] using this
  | some o :: r => by
    have := filter_opt r
    simp [optP, Den.isNon, trP] at this ⊢
    exact this
theorem pIsNot_n (y : PD) : pIsNot y .none = some (.bool (!Den.isNon y)) := by cases y <;> rfl
theorem tries_ok {d : Dk} (D : VD d) {th : List Nat} (hl : th.length ≤ 100) {b : List PD} (hb : Box b) {n : Nat} (hn : n ≤ 100) : ∃ (ts : List Tr) (b' : List PD), (∀ x ∈ ts, VTr d th x) ∧ ts.length ≤ n ∧ Box b' ∧ F__law_tries [.io 0, .val (tsP d.2.1), .val (rsP th), .val (nP n)] [.lst b] = (.ret (.tuple (ts.map trP)), [.lst b']) := by
  have key : (fun r : Rt × List MC => ∃ (ts : List Tr) (b' : List PD), (∀ x ∈ ts, VTr d th x) ∧ ts.length ≤ n ∧ Box b' ∧ r = (.ret (.tuple (ts.map trP)), [.lst b'])) (F__law_tries [.io 0, .val (tsP d.2.1), .val (rsP th), .val (nP n)] [.lst b]) := by
    refine runB_post (T := fun r : Rt × List MC => ∃ (ts : List Tr) (b' : List PD), (∀ x ∈ ts, VTr d th x) ∧ ts.length ≤ n ∧ Box b' ∧ r = (.ret (.tuple (ts.map trP)), [.lst b'])) rfl ?_
    unfold g__law_tries
    refine wp_seqP (fun ρ => ∃ (os : List (Option Tr)) (b' : List PD), os.length = n ∧ (∀ o ∈ os, ∀ x, o = some x → VTr d th x) ∧ Box b' ∧ ρ = ⟨[.io 0, .val (tsP d.2.1), .val (rsP th), .val (nP n), .own (.lst (os.map optP)), .no], [.lst b']⟩) ?_ ?_
    · rw [wp_dSetF, wp_dComp]
      refine wp_at (a1 := ((List.range n).map nP, fun _ => True)) (ρ1 := ⟨[.io 0, .val (tsP d.2.1), .val (rsP th), .val (nP n), .no, .no], [.lst b]⟩) (by simp [rho0, slotOf, look, ixOf, getC, setC, getM, setM, getL, MC.look, MC.pd, killS, turnQ, lkOf, outB, iosOf, arsOf, wp_tail, mAppend, mExtend, mPop, wp_dFor, wp_dComp, wp_dIterV, wp_dSeqs, slOkN, lendR, lendB, unS, compEnd, enumD_eq, nP, small_of (show n ≤ 1000000 by omega)]) ?_
      refine ⟨by simp; exact Nat.le_trans hn (by decide), ?_⟩
      refine wp_compGo (I := fun i ys ρ => ∃ (os : List (Option Tr)) (b' : List PD), os.length = i ∧ (∀ o ∈ os, ∀ x, o = some x → VTr d th x) ∧ Box b' ∧ ys = os.map optP ∧ ρ = ⟨[.io 0, .val (tsP d.2.1), .val (rsP th), .val (nP n), .no, .no], [.lst b']⟩) _ (fun _ _ _ _ => trivial) ?_ ?_ ⟨[], b, rfl, by simp, hb, rfl, rfl⟩
      · rintro ys ρ ⟨os, b', o1, o2, hb', rfl, rfl⟩
        exact ⟨rfl, os, b', by simpa using o1, o2, hb', rfl⟩
      · rintro i ys ρ x hx ⟨os, b', o1, o2, hb', rfl, rfl⟩
        obtain ⟨o, b2, p1, hb2, e2⟩ := try_ok D hl hb'
        refine ⟨_, rfl, ?_⟩
        rw [wp_pure]
        simp only [if_true]
        refine wp_at (a1 := optP o) (ρ1 := ⟨[.io 0, .val (tsP d.2.1), .val (rsP th), .val (nP n), .no, .val x], [.lst b2]⟩) (by simp [rho0, slotOf, look, ixOf, getC, setC, getM, setM, getL, MC.look, MC.pd, killS, turnQ, lkOf, outB, iosOf, arsOf, wp_tail, mAppend, mExtend, mPop, wp_dFor, wp_dComp, wp_dIterV, wp_dSeqs, slOkN, lendR, lendB, unS, compEnd, enumD_eq, e2]) ?_
        refine ⟨os ++ [o], b2, by simp [o1], fun q hq => ?_, hb2, by simp, rfl⟩
        rcases List.mem_append.mp hq with z | z
        · exact o2 q z
        · simp at z
          subst z
          exact p1
    · rintro ρ ⟨os, b', o1, o2, hb', rfl⟩
      rw [wp_dRet, wp_dCB, wp_dKs, wp_dkE, wp_bind, wp_dComp]
      refine wp_at (a1 := (os.map optP, fun _ => True)) (ρ1 := ⟨[.io 0, .val (tsP d.2.1), .val (rsP th), .val (nP n), .val (.list (os.map optP)), .no], [.lst b']⟩) (by simp [rho0, slotOf, look, ixOf, getC, setC, getM, setM, getL, MC.look, MC.pd, killS, turnQ, lkOf, outB, iosOf, arsOf, wp_tail, mAppend, mExtend, mPop, wp_dFor, wp_dComp, wp_dIterV, wp_dSeqs, slOkN, lendR, lendB, unS, compEnd, enumD_eq]) ?_
      refine ⟨by simp; rw [o1]; exact Nat.le_trans hn (by decide), ?_⟩
      refine wp_compFil (fun y => !Den.isNon y) id _ trivial (fun y hy => ?_) ?_
      · by_cases hz : Den.isNon y = true <;> simp [rho0, slotOf, look, ixOf, getC, setC, getM, setM, getL, MC.look, MC.pd, killS, turnQ, lkOf, outB, iosOf, arsOf, wp_tail, mAppend, mExtend, mPop, wp_dFor, wp_dComp, wp_dIterV, wp_dSeqs, slOkN, lendR, lendB, unS, compEnd, enumD_eq, pIsNot_n, hz]
      · rw [filter_opt]
        simp only [wp_pure, wp_dkE, looks_cons, looks_nil, look_d, ho_some, gTup_l]
        refine ⟨os.filterMap id, b', fun x hx => ?_, by rw [← o1]; exact List.length_filterMap_le _ _, hb', rfl⟩
        obtain ⟨o, ho, e⟩ := List.mem_filterMap.mp hx
        exact o2 o ho x e
  obtain ⟨o, b', k1, k2, k3, k4⟩ := key
  exact ⟨o, b', k1, k2, k3, k4⟩
/-! ### the law's own try -/
theorem eqv_rs : ∀ a b : List Nat, PyData.eqv (rsP a) (rsP b) = (a == b) := by
  have main : ∀ a b : List Nat, PyData.eqvAll (a.map nP) (b.map nP) = (a == b) := by
    intro a
    induction a with
    | nil => intro b; cases b <;> rfl
    | cons x a ih =>
      intro b
      cases b with
      | nil => rfl
      | cons y b =>
        rw [List.map_cons, List.map_cons, PyData.eqvAll, ih b]
        have : PyData.eqv (nP x) (nP y) = (x == y) := by
          unfold nP
          rw [PyData.eqv, Bool.eq_iff_iff]
          simp
          omega
        rw [this]
        rfl
  intro a b
  unfold rsP
  rw [PyData.eqv]
  exact main a b
theorem pEq_rs (a b : List Nat) : pEq (rsP a) (rsP b) = some (.bool (a == b)) := by
  rw [pEq_ok (okN_rsP 0 a) (okN_rsP 0 b), eqv_rs]
theorem law_tried_eq {d : Dk} (D : VDk d) {th w : List Nat} (hw : w.length = th.length) (hl : th.length ≤ 1000) {o : Tr} (ho : VTr d th o) : F__law_tried [.val (tsP d.2.1), .val (rsP w), .val (trP o)] [] = (.ret (.tuple [rsP (triedT d w o).1, .bool (triedT d w o).2]), []) := by
  refine runB_eq rfl ?_
  obtain ⟨t, ht, e⟩ := ho.ex
  have vt := D.tools t (List.mem_of_getElem? ht)
  have hlm : o.2.length = t.2.1.length := by
    have := congrArg List.length e
    simpa using this
  have hlt := ho.lt
  have l3 := vt.len3
  unfold g__law_tried
  have e2 : (o.2.map nP).map (fun x => match x with | .int i => nP (w.getD i.toNat 0) | _ => .none) = (hereT w o.2).map nP := by
    simp [hereT, nP]
  refine wp_seq (ρ1 := ⟨[.val (tsP d.2.1), .val (rsP w), .val (trP o), .val (rsP (hereT w o.2)), .no, .no, .no, .no, .no], []⟩) ?_ ?_
  · rw [wp_dSet, wp_dCB, wp_dKs, wp_dkE, wp_bind, wp_dComp]
    refine wp_at (a1 := (o.2.map nP, fun _ => True)) (ρ1 := ⟨[.val (tsP d.2.1), .val (rsP w), .val (trP o), .no, .no, .no, .no, .no, .no], []⟩) (by simp [rho0, slotOf, look, ixOf, getC, setC, getM, setM, getL, MC.look, MC.pd, killS, turnQ, lkOf, outB, iosOf, arsOf, wp_tail, mAppend, mExtend, mPop, wp_dFor, wp_dComp, wp_dIterV, wp_dSeqs, slOkN, lendR, lendB, unS, compEnd, enumD_eq, trP, rsP]) ?_
    refine ⟨by simp; rw [hlm]; exact Nat.le_trans l3 (by decide), ?_⟩
    refine wp_compMap (fun x => match x with | .int i => nP (w.getD i.toNat 0) | _ => .none) _ trivial (fun x hx => ?_) ?_
    · obtain ⟨m, hm, rfl⟩ := List.mem_map.mp hx
      have hmw : m < w.length := by rw [hw]; exact hlt m hm
      have : w[m]? = some w[m] := by simp [hmw]
      simp [rho0, slotOf, look, ixOf, getC, setC, getM, setM, getL, MC.look, MC.pd, killS, turnQ, lkOf, outB, iosOf, arsOf, wp_tail, mAppend, mExtend, mPop, wp_dFor, wp_dComp, wp_dIterV, wp_dSeqs, slOkN, lendR, lendB, unS, compEnd, enumD_eq, nP, this, rsP]
    · rw [e2]
      simp only [wp_pure, wp_dkE, looks_cons, looks_nil, look_d, ho_some, gTup_l]
      exact ⟨trivial, rfl⟩
  have eg : pGet (tsP d.2.1) (nP o.1) = some (tlP t) := by simp [tsP, nP, ht]
  have hT : triedT d w o = match behindO t (hereT w o.2) with
      | none => (w, false)
      | some bs => (setAll w o.2 bs, true) := by
    unfold triedT
    rw [ht, Option.bind_some]
    try rfl
  have eo : ∃ bb, behindO t (hereT w o.2) = bb := ⟨_, rfl⟩
  obtain ⟨bb, hbb⟩ := eo
  rw [hbb] at hT
  rw [wp_dSeq, wp_dFor]
  refine wp_at (a1 := (t.2.2.map rowP, fun _ => True)) (ρ1 := ⟨[.val (tsP d.2.1), .val (rsP w), .val (trP o), .val (rsP (hereT w o.2)), .no, .no, .no, .no, .no], []⟩) (by simp [rho0, slotOf, look, ixOf, getC, setC, getM, setM, getL, MC.look, MC.pd, killS, turnQ, lkOf, outB, iosOf, arsOf, wp_tail, mAppend, mExtend, mPop, wp_dFor, wp_dComp, wp_dIterV, wp_dSeqs, slOkN, lendR, lendB, unS, compEnd, enumD_eq, trP, eg, tlP, rwsP]) ?_
  refine wp_forGo (I := fun i ρ => (t.2.2.drop i).find? (fun z => z.1 == hereT w o.2) = t.2.2.find? (fun z => z.1 == hereT w o.2) ∧ ρ = ⟨[.val (tsP d.2.1), .val (rsP w), .val (trP o), .val (rsP (hereT w o.2)), .no, .no, .no, .no, .no], []⟩) _ (fun _ _ _ => trivial) ?_ ?_ ⟨rfl, rfl⟩
  · rintro ρ ⟨h1, rfl⟩
    rw [List.length_map, List.drop_length] at h1
    have hn : bb = none := by
      rw [← hbb]
      unfold behindO
      rw [← h1]
      rfl
    rw [hT, hn]
    exact wp_at (a1 := .ret (.tuple [rsP w, .bool false])) (ρ1 := ⟨[.val (tsP d.2.1), .val (rsP w), .val (trP o), .val (rsP (hereT w o.2)), .no, .no, .no, .no, .no], []⟩) (by simp [rho0, slotOf, look, ixOf, getC, setC, getM, setM, getL, MC.look, MC.pd, killS, turnQ, lkOf, outB, iosOf, arsOf, wp_tail, mAppend, mExtend, mPop, wp_dFor, wp_dComp, wp_dIterV, wp_dSeqs, slOkN, lendR, lendB, unS, compEnd, enumD_eq]) rfl
  · rintro i ρ x hx ⟨h1, rfl⟩
    rw [List.getElem?_map] at hx
    cases hr : t.2.2[i]? with
    | none => rw [hr] at hx; cases hx
    | some z =>
      rw [hr] at hx
      cases hx
      have hil : i < t.2.2.length := by
        rcases Nat.lt_or_ge i t.2.2.length with q | q
        · exact q
        · rw [List.getElem?_eq_none q] at hr; cases hr
      have hz : t.2.2[i] = z := by
        rw [List.getElem?_eq_getElem hil] at hr
        exact Option.some.inj hr
      have hd : t.2.2.drop i = z :: t.2.2.drop (i + 1) := by
        rw [List.drop_eq_getElem_cons hil, hz]
      refine ⟨[.val (tsP d.2.1), .val (rsP w), .val (trP o), .val (rsP (hereT w o.2)), .val (rsP z.1), .val (rsP z.2), .no, .no, .no], by simp [rowP], ?_⟩
      rw [wp_dIf]
      refine wp_at (a1 := (z.1 == hereT w o.2)) (ρ1 := ⟨[.val (tsP d.2.1), .val (rsP w), .val (trP o), .val (rsP (hereT w o.2)), .val (rsP z.1), .val (rsP z.2), .no, .no, .no], []⟩) (by simp [rho0, slotOf, look, ixOf, getC, setC, getM, setM, getL, MC.look, MC.pd, killS, turnQ, lkOf, outB, iosOf, arsOf, wp_tail, mAppend, mExtend, mPop, wp_dFor, wp_dComp, wp_dIterV, wp_dSeqs, slOkN, lendR, lendB, unS, compEnd, enumD_eq, pEq_rs]) ?_
      rw [hd, List.find?_cons] at h1
      by_cases hq : (z.1 == hereT w o.2) = true
      · rw [if_pos hq]
        rw [hq] at h1
        have hbs : bb = some z.2 := by
          rw [← hbb]
          unfold behindO
          rw [← h1]
          rfl
        rw [hT, hbs]
        have hbl := behindO_len vt (hbb.trans hbs)
        have glo : gLen [rsP o.2] = some (.int o.2.length) := by simp [rsP]
        refine wp_seq (ρ1 := ⟨[.val (tsP d.2.1), .val (rsP w), .val (trP o), .val (rsP (hereT w o.2)), .val (rsP z.1), .val (rsP z.2), .own (.lst (w.map nP)), .no, .no], []⟩) (by simp [rho0, slotOf, look, ixOf, getC, setC, getM, setM, getL, MC.look, MC.pd, killS, turnQ, lkOf, outB, iosOf, arsOf, wp_tail, mAppend, mExtend, mPop, wp_dFor, wp_dComp, wp_dIterV, wp_dSeqs, slOkN, lendR, lendB, unS, compEnd, enumD_eq, rsP]) ?_
        refine wp_seq (ρ1 := ⟨[.val (tsP d.2.1), .val (rsP w), .val (trP o), .val (rsP (hereT w o.2)), .val (rsP z.1), .val (rsP z.2), .own (.lst ((setAll w o.2 z.2).map nP)), .no, .no], []⟩) ?_ ?_
        · rw [wp_dFor]
          refine wp_at (a1 := ((List.range o.2.length).map nP, fun _ => True)) (ρ1 := ⟨[.val (tsP d.2.1), .val (rsP w), .val (trP o), .val (rsP (hereT w o.2)), .val (rsP z.1), .val (rsP z.2), .own (.lst (w.map nP)), .no, .no], []⟩) (by simp [rho0, slotOf, look, ixOf, getC, setC, getM, setM, getL, MC.look, MC.pd, killS, turnQ, lkOf, outB, iosOf, arsOf, wp_tail, mAppend, mExtend, mPop, wp_dFor, wp_dComp, wp_dIterV, wp_dSeqs, slOkN, lendR, lendB, unS, compEnd, enumD_eq, trP, glo, small_of (show o.2.length ≤ 1000000 by omega)]) ?_
          refine wp_forGo (I := fun i ρ => ∃ acc : List Nat, acc.length = w.length ∧ setAll acc (o.2.drop i) (z.2.drop i) = setAll w o.2 z.2 ∧ ρ = ⟨[.val (tsP d.2.1), .val (rsP w), .val (trP o), .val (rsP (hereT w o.2)), .val (rsP z.1), .val (rsP z.2), .own (.lst (acc.map nP)), .no, .no], []⟩) _ (fun _ _ _ => trivial) ?_ ?_ ⟨w, rfl, rfl, rfl⟩
          · rintro ρ ⟨acc, a1, a2, rfl⟩
            have : acc = setAll w o.2 z.2 := by
              rw [← a2]
              simp [setAll]
            rw [← this]
            exact ⟨rfl, rfl⟩
          · rintro j ρ y hy ⟨acc, a1, a2, rfl⟩
            obtain ⟨rfl, hj⟩ := mem_range_nP hy
            have hjm : o.2[j]? = some o.2[j] := by simp [hj]
            have hjz : j < z.2.length := by rw [hbl, ← hlm]; exact hj
            have hjb : z.2[j]? = some z.2[j] := by simp [hjz]
            have hmw : o.2[j] < acc.length := by rw [a1, hw]; exact hlt _ (List.getElem_mem hj)
            refine ⟨_, rfl, ?_⟩
            refine wp_at (a1 := Fl.nx) (ρ1 := ⟨[.val (tsP d.2.1), .val (rsP w), .val (trP o), .val (rsP (hereT w o.2)), .val (rsP z.1), .val (rsP z.2), .own (.lst ((acc.set o.2[j] z.2[j]).map nP)), .val (nP j), .no], []⟩) (by simp [rho0, slotOf, look, ixOf, getC, setC, getM, setM, getL, MC.look, MC.pd, killS, turnQ, lkOf, outB, iosOf, arsOf, wp_tail, mAppend, mExtend, mPop, wp_dFor, wp_dComp, wp_dIterV, wp_dSeqs, slOkN, lendR, lendB, unS, compEnd, enumD_eq, trP, rsP, nP, hjm, hjb, hmw]) ?_
            refine ⟨acc.set o.2[j] z.2[j], by simpa using a1, ?_, rfl⟩
            rw [← a2, List.drop_eq_getElem_cons hj, List.drop_eq_getElem_cons hjz, setAll]
        · exact wp_at (a1 := Fl.ret (.tuple [rsP (setAll w o.2 z.2), .bool true])) (ρ1 := ⟨[.val (tsP d.2.1), .val (rsP w), .val (trP o), .val (rsP (hereT w o.2)), .val (rsP z.1), .val (rsP z.2), .own (.lst ((setAll w o.2 z.2).map nP)), .no, .no], []⟩) (by simp [rho0, slotOf, look, ixOf, getC, setC, getM, setM, getL, MC.look, MC.pd, killS, turnQ, lkOf, outB, iosOf, arsOf, wp_tail, mAppend, mExtend, mPop, wp_dFor, wp_dComp, wp_dIterV, wp_dSeqs, slOkN, lendR, lendB, unS, compEnd, enumD_eq, rsP]) rfl
      · rw [if_neg hq, wp_dNext]
        have hq' : (z.1 == hereT w o.2) = false := by simpa using hq
        rw [hq'] at h1
        exact ⟨h1, rfl⟩
end K11

set_option Elab.async false
set_option linter.all false
set_option maxRecDepth 100000
set_option maxHeartbeats 4000000
namespace K11
open PySem PySem.Spec Den
open PyProof.Rows L2

theorem wp_tryAs {i : Nat} {xs : List Str} {h : Str} {g gs : M Fl} {ρ : Rho} {Q : Fl → Rho → Prop} {E : Xc → Rho → Prop} : Wp (dTryAs i xs h g gs) ρ Q E = Wp g ρ Q (fun x ρ' => x.cls ∈ xs ∧ if Den.mt x.cls h = true then Wp gs { clrX ρ' with sl := (clrX ρ').sl.set i (.xc x) } (fun fl ρ2 => Q fl (endC i ρ2)) (fun _ _ => False) else E x ρ') := by
  unfold Wp dTryAs
  cases g ρ with
  | ok fl ρ' => rfl
  | bad => rfl
  | exc x ρ' =>
    by_cases h1 : x.cls ∈ xs
    · by_cases h2 : Den.mt x.cls h = true
      · simp only [h1, h2, if_true, true_and]
        cases gs { clrX ρ' with sl := (clrX ρ').sl.set i (.xc x) } <;> rfl
      · simp only [h1, h2, if_true, true_and]
        rfl
    · simp only [h1, if_false, false_and]
theorem wp_xf {i : Nat} {xs : List Str} {f : Str} {ρ : Rho} {Q : PD → Rho → Prop} {E : Xc → Rho → Prop} : Wp (dXf i xs f) ρ Q E = match ρ.sl[i]? with
    | some (.xc x) => (x.cls ∈ xs ∧ f = xfn x.cls) ∧ Q x.arg ρ
    | _ => False := by
  unfold Wp dXf
  cases ρ.sl[i]? with
  | none => rfl
  | some s =>
    cases s with
    | xc x =>
      by_cases h : x.cls ∈ xs ∧ f = xfn x.cls
      · simp only [h, and_self, if_true, true_and]
      · simp only [h, if_false, false_and]
    | _ => rfl
/-! ### refused histories -/
def faultP (o : Nx Hs) : PD := match o with
  | .ex x => x.arg
  | _ => .none
theorem histN_err {d : Dk} {v : PD} {x : Xc} (h : histN d v = .ex x) : ∃ at_ : Int, x = errH at_ := by
  have main : ∀ (ds : List PD) (acc : List Tr) (th : List Nat), foldN (stepH d th) acc ds = .ex x → ∃ at_ : Int, x = errH at_ := by
    intro ds
    induction ds with
    | nil => intro acc th e; cases e
    | cons y r ih =>
      intro acc th e
      unfold foldN at e
      cases e2 : stepH d th acc y with
      | go a' => simp only [e2] at e; exact ih a' th e
      | out fl => exact absurd e2 (stepH_no _ _ _ _ _)
      | ex z =>
        simp only [e2] at e
        cases e
        unfold stepH at e2
        split at e2
        · split at e2
          · cases e2
          · cases e2; exact ⟨_, rfl⟩
        · cases e2; exact ⟨_, rfl⟩
  unfold histN at h
  split at h
  · split at h
    · split at h
      · unfold triesN at h
        split at h
        · cases h
        · rename_i z hz
          cases h
          exact main _ _ _ hz
        · cases h
      · cases h; exact ⟨_, rfl⟩
    · cases h; exact ⟨_, rfl⟩
  · cases h; exact ⟨_, rfl⟩
/-! ### histories that are some -/
theorem fitO_back {th : List Nat} : ∀ {rs ns : List Nat}, ns.map (fun n => th[n]?) = rs.map some → fitO th rs (ns.map nP) = some ns
  | [], [], _ => rfl
  | r :: rs, n :: ns, h => by
    simp only [List.map_cons, List.cons.injEq] at h
    have hn : n < th.length := by
      rcases Nat.lt_or_ge n th.length with q | q
      · exact q
      · rw [List.getElem?_eq_none q] at h; cases h.1
    rw [List.map_cons, fitO, natO_nP hn, Option.bind_some, if_pos h.1, fitO_back h.2]
    rfl
  | [], _ :: _, h => by simp at h
  | _ :: _, [], h => by simp at h
theorem tryO_back {d : Dk} {th : List Nat} {o : Tr} (h : VTr d th o) {v b : PD} (hv : seqOf v = some [nP o.1, b]) (hb : seqOf b = some (o.2.map nP)) : tryO d th v = some o := by
  obtain ⟨t, ht, e⟩ := h.ex
  have hn : o.1 < d.2.1.length := by
    rcases Nat.lt_or_ge o.1 d.2.1.length with q | q
    · exact q
    · rw [List.getElem?_eq_none q] at ht; cases ht
  unfold tryO
  rw [hv]
  simp only [natO_nP hn, Option.bind_some, ht, hb, fitO_back e, if_pos h.nodup]
theorem thingsO_back {d : Dk} {th : List Nat} (h : ∀ k ∈ th, k < d.1.length) {a : PD} (ha : seqOf a = some (th.map nP)) : thingsO d a = some th := by
  unfold thingsO
  rw [ha, Option.bind_some]
  refine natsO_nP (by simp) fun i n l e1 e2 => ?_
  rw [List.getElem?_replicate] at e2
  split at e2
  · cases e2; exact h n (List.mem_of_getElem? e1)
  · cases e2
theorem fold_tries {d : Dk} {th : List Nat} : ∀ (vs : List PD) (ts acc : List Tr) (k : Int), vs.map (tryO d th) = ts.map some → foldN (stepH d th) acc (enF k vs) = .go (acc ++ ts)
  | [], [], acc, k, _ => by simp [enF, foldN]
  | v :: vs, o :: ts, acc, k, h => by
    simp only [List.map_cons, List.cons.injEq] at h
    rw [enF, foldN]
    have e : stepH d th acc (.tuple [.int k, v]) = .go (acc ++ [o]) := by
      unfold stepH
      simp only [h.1]
    simp only [e]
    rw [fold_tries vs ts (acc ++ [o]) (k + 1) h.2]
    simp
  | [], _ :: _, _, _, h => by simp at h
  | _ :: _, [], _, _, h => by simp at h
theorem fold_bad {d : Dk} {th : List Nat} {bad : PD} (hb : tryO d th bad = none) (rest : List PD) : ∀ (vs : List PD) (ts acc : List Tr) (k : Nat), vs.map (tryO d th) = ts.map some → foldN (stepH d th) acc (enF k (vs ++ bad :: rest)) = .ex (errH ((k + vs.length : Nat) : Int))
  | [], [], acc, k, _ => by
    rw [List.nil_append, enF, foldN]
    have e : stepH d th acc (.tuple [.int k, bad]) = .ex (errH k) := by
      unfold stepH
      simp only [hb]
    simp only [e]
    rfl
  | v :: vs, o :: ts, acc, k, h => by
    simp only [List.map_cons, List.cons.injEq] at h
    rw [List.cons_append, enF, foldN]
    have e : stepH d th acc (.tuple [.int k, v]) = .go (acc ++ [o]) := by
      unfold stepH
      simp only [h.1]
    simp only [e]
    have := fold_bad hb rest vs ts (acc ++ [o]) (k + 1) h.2
    rw [show ((k : Int) + 1) = ((k + 1 : Nat) : Int) by omega, this]
    congr 2
    simp
    omega
  | [], _ :: _, _, _, h => by simp at h
  | _ :: _, [], _, _, h => by simp at h
theorem hist_back {d : Dk} {th : List Nat} {ts : List Tr} (ht : ∀ k ∈ th, k < d.1.length) {v a b : PD} {vs : List PD} (hv : seqOf v = some [a, b]) (ha : seqOf a = some (th.map nP)) (hb : seqOf b = some vs) (h : vs.map (tryO d th) = ts.map some) : histN d v = .go (th, ts) := by
  unfold histN
  rw [hv]
  simp only [hb, thingsO_back ht ha]
  unfold triesN
  rw [fold_tries vs ts [] 0 h]
  rfl
theorem hist_bad {d : Dk} {th : List Nat} {ts : List Tr} (ht : ∀ k ∈ th, k < d.1.length) {v a b bad : PD} {vs rest : List PD} (hv : seqOf v = some [a, b]) (ha : seqOf a = some (th.map nP)) (hb : seqOf b = some (vs ++ bad :: rest)) (h : vs.map (tryO d th) = ts.map some) (hbad : tryO d th bad = none) : histN d v = .ex (errH (vs.length : Nat)) := by
  unfold histN
  rw [hv]
  simp only [hb, thingsO_back ht ha]
  unfold triesN
  have := fold_bad hbad rest vs ts [] 0 h
  simp only [Nat.zero_add] at this
  rw [show ((0 : Nat) : Int) = 0 from rfl] at this
  rw [this]
theorem tries_map {d : Dk} {th : List Nat} : ∀ {ts : List Tr}, (∀ o ∈ ts, VTr d th o) → (ts.map trP).map (tryO d th) = ts.map some
  | [], _ => rfl
  | o :: r, h => by
    rw [List.map_cons, List.map_cons, tries_map (ts := r) fun x hx => h x (List.mem_cons_of_mem _ hx), tryO_back (h o List.mem_cons_self) (v := trP o) (b := rsP o.2) rfl rfl]
    rfl
def trL (o : Tr) : PD := .list [nP o.1, .list (o.2.map nP)]
theorem tries_mapL {d : Dk} {th : List Nat} : ∀ {ts : List Tr}, (∀ o ∈ ts, VTr d th o) → (ts.map trL).map (tryO d th) = ts.map some
  | [], _ => rfl
  | o :: r, h => by
    rw [List.map_cons, List.map_cons, tries_mapL (ts := r) fun x hx => h x (List.mem_cons_of_mem _ hx), tryO_back (h o List.mem_cons_self) (v := trL o) (b := .list (o.2.map nP)) rfl rfl]
    rfl
end K11

set_option Elab.async false
set_option linter.all false
set_option maxRecDepth 100000
set_option maxHeartbeats 4000000
namespace K11
open PySem PySem.Spec Den
open PyProof.Rows L2

/-! ### the source of a cell -/
theorem box_ok (ns : List Int) {k : Nat} (hk : k ≤ 100) : ∃ b, Box b ∧ F__law_box [.val (scrD ns), .val (nP k)] [] = (.fre b, []) := by
  have key : (fun r : Rt × List MC => ∃ b, Box b ∧ r = (.fre b, [])) (F__law_box [.val (scrD ns), .val (nP k)] []) := by
    refine runB_post (T := fun r : Rt × List MC => ∃ b, Box b ∧ r = (.fre b, [])) rfl ?_
    unfold g__law_box
    have gl : gLen [scrD ns] = some (.int ns.length) := by simp [scrD, gLen]
    have pg : ∀ i : Int, pGet (scrD ns) (.int i) = atI (ns.map PyData.int) i := fun _ => rfl
    refine wp_seq (ρ1 := ⟨[.val (scrD ns), .val (nP k), .val (.int (6007 * (k : Int) + 281))], []⟩) (by simp [rho0, slotOf, look, ixOf, getC, setC, getM, setM, getL, MC.look, MC.pd, killS, turnQ, lkOf, outB, iosOf, arsOf, wp_tail, mAppend, mExtend, mPop, wp_dFor, wp_dComp, wp_dIterV, wp_dSeqs, slOkN, lendR, lendB, unS, compEnd, enumD_eq, nP, pMul_l]) ?_
    refine wp_seqP (fun ρ => ∃ c : Int, ρ = ⟨[.val (scrD ns), .val (nP k), .val (.int c)], []⟩) ?_ ?_
    · rw [wp_dIf]
      refine wp_at (a1 := decide ((k : Int) < ns.length)) (ρ1 := ⟨[.val (scrD ns), .val (nP k), .val (.int (6007 * (k : Int) + 281))], []⟩) (by simp [rho0, slotOf, look, ixOf, getC, setC, getM, setM, getL, MC.look, MC.pd, killS, turnQ, lkOf, outB, iosOf, arsOf, wp_tail, mAppend, mExtend, mPop, wp_dFor, wp_dComp, wp_dIterV, wp_dSeqs, slOkN, lendR, lendB, unS, compEnd, enumD_eq, gl, nP]) ?_
      by_cases h1 : (k : Int) < ns.length
      · rw [if_pos (by simpa using h1)]
        have hkl : k < ns.length := by omega
        have e : pGet (scrD ns) (nP k) = some (.int ns[k]) := by
          show pGet (scrD ns) (.int k) = _
          rw [pg]
          simp [hkl]
        exact wp_at (a1 := Fl.nx) (ρ1 := ⟨[.val (scrD ns), .val (nP k), .val (.int (if ns[k] < 0 then -ns[k] else ns[k]))], []⟩) (by simp [rho0, slotOf, look, ixOf, getC, setC, getM, setM, getL, MC.look, MC.pd, killS, turnQ, lkOf, outB, iosOf, arsOf, wp_tail, mAppend, mExtend, mPop, wp_dFor, wp_dComp, wp_dIterV, wp_dSeqs, slOkN, lendR, lendB, unS, compEnd, enumD_eq, e]) ⟨rfl, _, rfl⟩
      · rw [if_neg (by simpa using h1), wp_dIf]
        refine wp_at (a1 := decide ((0 : Int) < ns.length)) (ρ1 := ⟨[.val (scrD ns), .val (nP k), .val (.int (6007 * (k : Int) + 281))], []⟩) (by simp [rho0, slotOf, look, ixOf, getC, setC, getM, setM, getL, MC.look, MC.pd, killS, turnQ, lkOf, outB, iosOf, arsOf, wp_tail, mAppend, mExtend, mPop, wp_dFor, wp_dComp, wp_dIterV, wp_dSeqs, slOkN, lendR, lendB, unS, compEnd, enumD_eq, gl]) ?_
        by_cases h2 : (0 : Int) < ns.length
        · rw [if_pos (by simpa using h2)]
          have hj : ∃ j : Nat, (k : Int) % (ns.length : Int) = j ∧ j < ns.length := ⟨((k : Int) % (ns.length : Int)).toNat, by have := Int.emod_nonneg (k : Int) (show (ns.length : Int) ≠ 0 by omega); omega, by have := Int.emod_lt_of_pos (k : Int) h2; have := Int.emod_nonneg (k : Int) (show (ns.length : Int) ≠ 0 by omega); omega⟩
          obtain ⟨j, j1, j2⟩ := hj
          have e : pGet (scrD ns) (.int j) = some (.int ns[j]) := by
            rw [pg]
            simp [j2]
          exact wp_at (a1 := Fl.nx) (ρ1 := ⟨[.val (scrD ns), .val (nP k), .val (.int (6007 * (k : Int) + 281 + (if ns[j] < 0 then -ns[j] else ns[j]) % 2147483629 * 70009))], []⟩) (by simp [rho0, slotOf, look, ixOf, getC, setC, getM, setM, getL, MC.look, MC.pd, killS, turnQ, lkOf, outB, iosOf, arsOf, wp_tail, mAppend, mExtend, mPop, wp_dFor, wp_dComp, wp_dIterV, wp_dSeqs, slOkN, lendR, lendB, unS, compEnd, enumD_eq, gl, nP, pMod_ii _ _ h2, j1, e, pMod_ii, pMul_r]) ⟨rfl, _, rfl⟩
        · rw [if_neg (by simpa using h2), wp_dNext]
          exact ⟨rfl, _, rfl⟩
    · rintro ρ ⟨c, rfl⟩
      have p18 : pPow (.int 10) (.int 18) = some (.int (10 ^ 18)) := by
        have h : CPow 10 18 := by unfold CPow; decide
        simp [pPow, h]
      refine wp_at (a1 := Fl.fre [.int (if (10 : Int) ^ 18 ≤ c then c else 0), .int ((c % 2147483629 * 44017 + 53089 * (k : Int)) % 2147483629 + 1), .int 0]) (ρ1 := ⟨[.val (scrD ns), .val (nP k), .val (.int c)], []⟩) ?_ ⟨_, ⟨_, _, _, rfl⟩, rfl⟩
      by_cases hc : (10 : Int) ^ 18 ≤ c
      · have hc' : (1000000000000000000 : Int) ≤ c := by simpa using hc
        simp [rho0, slotOf, look, ixOf, getC, setC, getM, setM, getL, MC.look, MC.pd, killS, turnQ, lkOf, outB, iosOf, arsOf, wp_tail, mAppend, mExtend, mPop, wp_dFor, wp_dComp, wp_dIterV, wp_dSeqs, slOkN, lendR, lendB, unS, compEnd, enumD_eq, p18, nP, pMod_ii, pMul_r, pMul_l, hc']
      · have hc' : ¬ (1000000000000000000 : Int) ≤ c := by simpa using hc
        simp [rho0, slotOf, look, ixOf, getC, setC, getM, setM, getL, MC.look, MC.pd, killS, turnQ, lkOf, outB, iosOf, arsOf, wp_tail, mAppend, mExtend, mPop, wp_dFor, wp_dComp, wp_dIterV, wp_dSeqs, slOkN, lendR, lendB, unS, compEnd, enumD_eq, p18, nP, pMod_ii, pMul_r, pMul_l, hc']
  exact key
/-! ### what is shown -/
theorem strOk_app {x y : Str} (h : PyData.strOk x = true) (h' : PyData.strOk y = true) : PyData.strOk (x ++ y) = true := by
  unfold PyData.strOk at h h' ⊢
  rw [← Array.all_toList] at h h' ⊢
  rw [app_list, List.all_append, h, h']
  rfl
theorem strOk_join {sep : Str} (hs : PyData.strOk sep = true) : ∀ {l : List Str}, (∀ x ∈ l, PyData.strOk x = true) → PyData.strOk (Str.join sep l) = true
  | [], _ => by
    show PyData.strOk Str.empty = true
    decide +kernel
  | [x], h => h x List.mem_cons_self
  | x :: y :: r, h => by
    have ih := strOk_join hs (l := y :: r) fun z hz => h z (List.mem_cons_of_mem _ hz)
    show PyData.strOk (x ++ sep ++ Str.join sep (y :: r)) = true
    exact strOk_app (strOk_app (h x List.mem_cons_self) hs) ih
/-- may be shown, and the text compared -/
structure Sw (n L : Nat) (d : PD) : Prop where
  sh : Sh n L d
  st : PyData.strOk d.shown = true
theorem Sw.ne {n L : Nat} {d : PD} (h : Sw n L d) : pNe (.str d.shown) (.str d.shown) = some (.bool false) := by
  have e : OkN 0 (.str d.shown) := okN_str (by simpa [PyData.canLay0] using h.st)
  rw [pNe_ok e e]
  simp [PyData.eqv]
theorem sw_nat {i : Nat} (h : i < 100) : Sw 0 5 (nP i) := ⟨sh_nat h, by
  have : ∀ i : _root_.Fin 100, PyData.strOk (PyData.int (i.val : Nat)).shown = true := by decide +kernel
  exact this ⟨i, h⟩⟩
theorem sw_bool (b : Bool) : Sw 0 5 (.bool b) := ⟨sh_bool b, by cases b <;> decide +kernel⟩
theorem strAll {n L : Nat} : ∀ {ds : List PD}, (∀ d ∈ ds, Sw n L d) → ∀ x ∈ PyData.shownAll ds, PyData.strOk x = true
  | [], _, x, hx => by simp [PyData.shownAll] at hx
  | d :: r, h, x, hx => by
    rw [PyData.shownAll] at hx
    rcases List.mem_cons.mp hx with rfl | hx
    · exact (h d List.mem_cons_self).st
    · exact strAll (ds := r) (fun y hy => h y (List.mem_cons_of_mem _ hy)) x hx
theorem sw_tup {n L : Nat} {ds : List PD} (h : ∀ d ∈ ds, Sw n L d) : Sw (n + 1) (ds.length * (L + 2) + 3) (.tuple ds) where
  sh := sh_tup fun d hd => (h d hd).sh
  st := by
    rw [PyData.shown_tuple]
    refine strOk_app (strOk_app (by decide +kernel) (strOk_join (by decide +kernel) (strAll h))) ?_
    split <;> decide +kernel
theorem Sw.mono {n m L L' : Nat} {d : PD} (h : Sw n L d) (l : n ≤ m) (l' : L ≤ L') : Sw m L' d := ⟨h.sh.mono l l', h.st⟩
def WB (w : List Nat) : Prop := ∀ x ∈ w, x < 100
theorem sw_rs {w : List Nat} (h : WB w) (l : w.length ≤ 100) : Sw 1 703 (rsP w) := by
  have := sw_tup (ds := w.map nP) (n := 0) (L := 5) (fun d hd => by
    obtain ⟨x, hx, rfl⟩ := List.mem_map.mp hd
    exact sw_nat (h x hx))
  exact this.mono (Nat.le_refl _) (by simp; omega)
theorem sw_ws {ws : List (List Nat)} (h : ∀ w ∈ ws, WB w ∧ w.length ≤ 100) (l : ws.length ≤ 200) : Sw 2 150000 (wsP ws) := by
  have := sw_tup (ds := ws.map rsP) (n := 1) (L := 703) (fun d hd => by
    obtain ⟨x, hx, rfl⟩ := List.mem_map.mp hd
    exact sw_rs (h x hx).1 (h x hx).2)
  exact this.mono (Nat.le_refl _) (by simp; omega)
theorem sw_cs (bs : List Bool) (l : bs.length ≤ 200) : Sw 1 2000 (csP bs) := by
  have := sw_tup (ds := bs.map fun b => PyData.bool b) (n := 0) (L := 5) (fun d hd => by
    obtain ⟨x, hx, rfl⟩ := List.mem_map.mp hd
    exact sw_bool x)
  exact this.mono (Nat.le_refl _) (by simp; omega)
theorem sw_pair {n L : Nat} {a b : PD} (ha : Sw n L a) (hb : Sw n L b) : Sw (n + 1) (2 * (L + 2) + 3) (.tuple [a, b]) := sw_tup (ds := [a, b]) (fun d hd => by
  simp at hd
  rcases hd with rfl | rfl <;> assumption)
theorem setAll_WB : ∀ (ms bs w : List Nat), WB w → (∀ x ∈ bs, x < 100) → WB (setAll w ms bs)
  | [], _, w, h, _ => by rw [setAll]; exact h; simp
  | _ :: _, [], w, h, _ => by rw [setAll]; exact h; simp
  | m :: ms, b :: bs, w, h, hb => by
    rw [setAll]
    refine setAll_WB ms bs _ (fun x hx => ?_) fun x hx => hb x (List.mem_cons_of_mem _ hx)
    rcases List.mem_or_eq_of_mem_set hx with z | z
    · exact h x z
    · subst z
      exact hb x List.mem_cons_self
theorem triedT_WB {d : Dk} (D : VD d) {w : List Nat} (h : WB w) (o : Tr) : WB (triedT d w o).1 := by
  unfold triedT
  split
  · exact h
  · rename_i bs hb
    refine setAll_WB _ _ _ h fun x hx => ?_
    cases ht : d.2.1[o.1]? with
    | none => rw [ht] at hb; cases hb
    | some t =>
      rw [ht, Option.bind_some] at hb
      unfold behindO at hb
      cases hf : t.2.2.find? (fun z => z.1 == hereT w o.2) with
      | none => rw [hf] at hb; cases hb
      | some z =>
        rw [hf] at hb
        cases hb
        have r := (D.ts.tool t (List.mem_of_getElem? ht)).rows z (List.mem_of_find?_eq_some hf)
        obtain ⟨_, _, q⟩ := natsO_eq r.2
        obtain ⟨i, hi, rfl⟩ := List.getElem_of_mem hx
        obtain ⟨l, l1, l2⟩ := q i _ (List.getElem?_eq_getElem hi)
        unfold lims at l1
        rw [List.getElem?_map] at l1
        cases hr : t.2.1[i]? with
        | none => rw [hr] at l1; cases l1
        | some r0 =>
          rw [hr] at l1
          cases l1
          have := D.ks.lim r0
          omega
theorem zerosT_WB (th : List Nat) : WB (zerosT th) := fun x hx => by
  unfold zerosT at hx
  obtain ⟨_, _, rfl⟩ := List.mem_map.mp hx
  decide
theorem alongT_WB {d : Dk} (D : VD d) : ∀ (ts : List Tr) (w : List Nat), WB w → ∀ z ∈ alongT d w ts, WB z ∧ z.length = w.length
  | [], w, h, z, hz => by
    simp [alongT] at hz
    subst hz
    exact ⟨h, rfl⟩
  | o :: r, w, h, z, hz => by
    rw [alongT] at hz
    rcases List.mem_cons.mp hz with rfl | hz
    · exact ⟨h, rfl⟩
    · have := alongT_WB D r _ (triedT_WB D h o) z hz
      rw [triedT_len] at this
      exact this
theorem alongT_len (d : Dk) : ∀ (ts : List Tr) (w : List Nat), (alongT d w ts).length = ts.length + 1
  | [], _ => rfl
  | o :: r, w => by rw [alongT, List.length_cons, alongT_len d r]; rfl
theorem cameT_len (d : Dk) : ∀ (ts : List Tr) (w : List Nat), (cameT d w ts).length = ts.length
  | [], _ => rfl
  | o :: r, w => by rw [cameT, List.length_cons, cameT_len d r]; rfl
end K11

set_option Elab.async false
set_option linter.all false
set_option maxRecDepth 100000
set_option maxHeartbeats 4000000
namespace K11
open PySem PySem.Spec Den
open PyProof.Rows L2

def tsT (ts : List Tr) : PD := .tuple (ts.map trP)
/-- what is drawn for one cell -/
structure Cell (d : Dk) (th : List Nat) (ts : List Tr) : Prop where
  D : VD d
  len : th.length ≤ 100
  lt : ∀ k ∈ th, k < d.1.length
  tr : ∀ o ∈ ts, VTr d th o
  few : ts.length ≤ 100
theorem VD.v {d : Dk} (D : VD d) : VDk d := ⟨D.ts.tool⟩
theorem VTr.len {d : Dk} (D : VDk d) {th : List Nat} {o : Tr} (h : VTr d th o) : o.2.length ≤ 3 := by
  obtain ⟨t, ht, e⟩ := h.ex
  have := congrArg List.length e
  simp at this
  have := (D.tools t (List.mem_of_getElem? ht)).len3
  omega
theorem Fine.tr {d : Dk} (D : VDk d) {th : List Nat} {o : Tr} (h : VTr d th o) : Fine (trP o) := Fine.pair (Fine.nP _) (Fine.rs (by have := h.len D; omega))
theorem Cell.fts {d : Dk} {th : List Nat} {ts : List Tr} (C : Cell d th ts) : Fine (tsT ts) := Fine.tup (fun x hx => by
  obtain ⟨o, ho, rfl⟩ := List.mem_map.mp hx
  exact Fine.tr C.D.v (C.tr o ho)) (by have := C.few; simp; omega)
theorem Cell.fth {d : Dk} {th : List Nat} {ts : List Tr} (C : Cell d th ts) : Fine (rsP th) := Fine.rs (by have := C.len; omega)
theorem Cell.back {d : Dk} {th : List Nat} {ts : List Tr} (C : Cell d th ts) : histN d (.tuple [rsP th, tsT ts]) = .go (th, ts) := hist_back C.lt (a := rsP th) (b := tsT ts) rfl rfl rfl (tries_map C.tr)
theorem Cell.fine {d : Dk} {th : List Nat} {ts : List Tr} (C : Cell d th ts) : Fine (.tuple [rsP th, tsT ts]) := Fine.pair C.fth C.fts
theorem Cell.need {d : Dk} {th : List Nat} {ts : List Tr} (C : Cell d th ts) : F_need_history [.val (deskP d), .val (.tuple [rsP th, tsT ts])] [] = (.ret (.tuple [rsP th, tsT ts]), []) := by
  have q := need_history_eq C.fine C.D.v
  rw [C.back] at q
  exact q
/-! ### lots -/
structure Lot (n : Nat) (l : List Nat) : Prop where
  asc : l.Pairwise (· < ·)
  lt : ∀ x ∈ l, x < n
  len : l.length ≤ n
theorem Lot.nil (n : Nat) : Lot n [] := ⟨List.Pairwise.nil, by simp, by simp⟩
theorem Lot.skip {n : Nat} {l : List Nat} (h : Lot n l) : Lot (n + 1) l := ⟨h.asc, fun x hx => Nat.lt_succ_of_lt (h.lt x hx), Nat.le_succ_of_le h.len⟩
theorem Lot.add {n : Nat} {l : List Nat} (h : Lot n l) : Lot (n + 1) (l ++ [n]) where
  asc := List.pairwise_append.mpr ⟨h.asc, by simp, fun a ha b hb => by
    simp at hb
    subst hb
    exact h.lt a ha⟩
  lt := fun x hx => by
    rcases List.mem_append.mp hx with z | z
    · have := h.lt x z; omega
    · simp at z; omega
  len := by have := h.len; simp; omega
theorem Lot.fil (n : Nat) (p : Nat → Bool) : Lot n ((List.range n).filter p) where
  asc := List.Pairwise.filter _ List.pairwise_lt_range
  lt := fun x hx => List.mem_range.mp (List.mem_filter.mp hx).1
  len := by have := List.length_filter_le p (List.range n); simpa using this
theorem pIn_t (m : Nat) (ms : List Nat) : pIn (nP m) (rsP ms) = some (.bool (decide (m ∈ ms))) := by
  have h1 : flatP (nP m) = true := rfl
  have h2 : (ms.map nP).all flatP = true := List.all_eq_true.mpr fun y hy => by
    obtain ⟨x, _, rfl⟩ := List.mem_map.mp hy
    rfl
  show (if flatP (nP m) = true ∧ (ms.map nP).all flatP = true then some (PyData.bool _) else none) = _
  rw [if_pos ⟨h1, h2⟩]
  congr 2
  rw [List.any_map, Bool.eq_iff_iff]
  simp [nP, PyData.eqv, List.any_eq_true]
  constructor
  · rintro ⟨x, hx, e⟩
    have : x = m := by omega
    rwa [← this]
  · intro h
    exact ⟨m, h, rfl⟩
theorem pNotIn_t (m : Nat) (ms : List Nat) : pNotIn (nP m) (rsP ms) = some (.bool (decide (m ∉ ms))) := by
  unfold pNotIn
  rw [pIn_t]
  simp
theorem lot_wrong_eq {n : Nat} {l : List Nat} (h : Lot n l) : F_lot_wrong [.val (rsP l), .val (.int (n : Nat))] [] = (.ret (.int (-1)), []) := by
  refine runB_eq rfl ?_
  unfold g_lot_wrong
  refine wp_seq (ρ1 := ⟨[.val (rsP l), .val (.int (n : Nat)), .no, .no], []⟩) ?_ (by simp [rho0, slotOf, look, ixOf, getC, setC, getM, setM, getL, MC.look, MC.pd, killS, turnQ, lkOf, outB, iosOf, arsOf, wp_tail, mAppend, mExtend, mPop, wp_dFor, wp_dComp, wp_dIterV, wp_dSeqs, slOkN, lendR, lendB, unS, compEnd, enumD_eq])
  rw [wp_dFor]
  refine wp_at (a1 := (enF 0 (l.map nP), fun _ => True)) (ρ1 := ⟨[.val (rsP l), .val (.int (n : Nat)), .no, .no], []⟩) (by simp [rho0, slotOf, look, ixOf, getC, setC, getM, setM, getL, MC.look, MC.pd, killS, turnQ, lkOf, outB, iosOf, arsOf, wp_tail, mAppend, mExtend, mPop, wp_dFor, wp_dComp, wp_dIterV, wp_dSeqs, slOkN, lendR, lendB, unS, compEnd, enumD_eq, rsP]) ?_
  refine wp_forGo (I := fun _ ρ => ρ = ⟨[.val (rsP l), .val (.int (n : Nat)), .no, .no], []⟩) _ (fun _ _ _ => trivial) (fun ρ hρ => ⟨rfl, hρ⟩) ?_ rfl
  rintro i ρ x hx rfl
  obtain ⟨j, y, rfl, hy⟩ := enF_mem_at (List.mem_of_getElem? hx)
  rw [List.getElem?_map] at hy
  cases hm : l[j]? with
  | none => rw [hm] at hy; cases hy
  | some m =>
    rw [hm] at hy
    cases hy
    have lt := h.lt m (List.mem_of_getElem? hm)
    have e1 : F_is_below [.val (.int (m : Nat)), .val (.int (n : Nat))] [] = (.ret (.bool true), []) := by
      rw [is_below_eq (m := 0) rfl]
      simp [belowB]
      exact lt
    simp only [bindT_tup, bindTs_cons, bindTs_nil, bindT_nm, Option.bind_some]
    refine ⟨_, rfl, ?_⟩
    rw [wp_dIf]
    refine wp_at (a1 := false) (ρ1 := ⟨[.val (rsP l), .val (.int (n : Nat)), .val (.int (0 + (j : Nat))), .val (nP m)], []⟩) ?_ ?_
    · cases j with
      | zero => simp [rho0, slotOf, look, ixOf, getC, setC, getM, setM, getL, MC.look, MC.pd, killS, turnQ, lkOf, outB, iosOf, arsOf, wp_tail, mAppend, mExtend, mPop, wp_dFor, wp_dComp, wp_dIterV, wp_dSeqs, slOkN, lendR, lendB, unS, compEnd, enumD_eq, e1, nP]
      | succ j =>
        have hj : j + 1 < l.length := by
          rcases Nat.lt_or_ge (j + 1) l.length with q | q
          · exact q
          · rw [List.getElem?_eq_none q] at hm; cases hm
        have hjj : j < l.length := by omega
        have e2 : pGet (rsP l) (.int (j : Nat)) = some (.int (l[j] : Nat)) := by simp [rsP, nP, hjj]
        have e3 : l[j] < m := by
          have := List.pairwise_iff_getElem.mp h.asc j (j + 1) hjj hj (by omega)
          rw [List.getElem?_eq_getElem hj] at hm
          cases hm
          exact this
        have e4 : ((0 : Int) + ((j + 1 : Nat) : Int)) - 1 = (j : Nat) := by omega
        have e5 : (0 : Int) < 0 + ((j + 1 : Nat) : Int) := by omega
        have e6 : ¬ (m : Int) ≤ (l[j] : Nat) := by omega
        simp [rho0, slotOf, look, ixOf, getC, setC, getM, setM, getL, MC.look, MC.pd, killS, turnQ, lkOf, outB, iosOf, arsOf, wp_tail, mAppend, mExtend, mPop, wp_dFor, wp_dComp, wp_dIterV, wp_dSeqs, slOkN, lendR, lendB, unS, compEnd, enumD_eq, e1, e2, e4, e5, e6, nP]
        try omega
    · rw [if_neg (by decide), wp_dNext]
      rfl
theorem need_struck_eq {th : List Nat} {ts : List Tr} {l : List Nat} (hf : ts.length ≤ 100) (h : Lot ts.length l) : F_need_struck [.val (.tuple [rsP th, tsT ts]), .val (rsP l)] [] = (.ret (rsP l), []) := by
  obtain ⟨m, hm⟩ : Fine (rsP l) := Fine.rs (by have := h.len; omega)
  have e1 : seqB (rsP l) = true := rfl
  have e2 : gLen [tsT ts] = some (.int ts.length) := by simp [tsT]
  refine runB_eq rfl ?_
  unfold g_need_struck
  simp [rho0, slotOf, look, ixOf, getC, setC, getM, setM, getL, MC.look, MC.pd, killS, turnQ, lkOf, outB, iosOf, arsOf, wp_tail, mAppend, mExtend, mPop, wp_dFor, wp_dComp, wp_dIterV, wp_dSeqs, slOkN, lendR, lendB, unS, compEnd, enumD_eq, is_sequence_eq hm, e1, e2, lot_wrong_eq h]
  simp [rsP]
end K11

set_option Elab.async false
set_option linter.all false
set_option maxRecDepth 100000
set_option maxHeartbeats 4000000
namespace K11
open PySem PySem.Spec Den
open PyProof.Rows L2

/-! ### the plain law -/
def filI {α : Type} (p : Nat → α → Bool) : Nat → List α → List α
  | _, [] => []
  | k, x :: r => if p k x = true then x :: filI p (k + 1) r else filI p (k + 1) r
theorem filI_go {α : Type} (x0 : α) (p : Nat → α → Bool) : ∀ (xs pre : List α), ((List.range' pre.length xs.length).filter (fun i => p i ((pre ++ xs).getD i x0))).map (fun i => (pre ++ xs).getD i x0) = filI p pre.length xs
  | [], pre => by simp [filI]
  | x :: r, pre => by
    have ih := filI_go x0 p r (pre ++ [x])
    have e : (pre ++ [x]) ++ r = pre ++ x :: r := by simp
    rw [e] at ih
    have l : (pre ++ [x]).length = pre.length + 1 := by simp
    rw [l] at ih
    have g : (pre ++ x :: r).getD pre.length x0 = x := by simp
    rw [List.length_cons, List.range'_succ, List.filter_cons, filI, g]
    by_cases hp : p pre.length x = true
    · rw [if_pos hp, if_pos hp, List.map_cons, g, ih]
    · rw [if_neg hp, if_neg hp, ih]
theorem filI_eq {α : Type} (x0 : α) (p : Nat → α → Bool) (xs : List α) : ((List.range xs.length).filter (fun i => p i (xs.getD i x0))).map (fun i => xs.getD i x0) = filI p 0 xs := by
  have := filI_go x0 p xs []
  rw [List.range_eq_range']
  simpa using this
theorem filI_mem {α : Type} {p : Nat → α → Bool} : ∀ {xs : List α} {k : Nat} {y : α}, y ∈ filI p k xs → y ∈ xs
  | [], _, _, h => by simp [filI] at h
  | x :: r, k, y, h => by
    rw [filI] at h
    by_cases hp : p k x = true
    · rw [if_pos hp] at h
      rcases List.mem_cons.mp h with rfl | z
      · exact List.mem_cons_self
      · exact List.mem_cons_of_mem _ (filI_mem z)
    · rw [if_neg hp] at h
      exact List.mem_cons_of_mem _ (filI_mem h)
theorem filI_len {α : Type} {p : Nat → α → Bool} : ∀ {xs : List α} {k : Nat}, (filI p k xs).length ≤ xs.length
  | [], _ => by simp [filI]
  | x :: r, k => by
    rw [filI]
    have := filI_len (p := p) (xs := r) (k := k + 1)
    by_cases hp : p k x = true
    · rw [if_pos hp]; simp; omega
    · rw [if_neg hp]; simp; omega
/-- the tries that are not struck -/
def lessT (l : List Nat) (k : Nat) (ts : List Tr) : List Tr := filI (fun i _ => decide (i ∉ l)) k ts
abbrev Bo := Bool × Option Bool × List Nat × List Nat
def bothT (d : Dk) (l : List Nat) : Nat → List Nat → List Nat → List Tr → List Bo
  | _, _, _, [] => []
  | k, w, z, o :: r => if k ∈ l then ((triedT d w o).2, none, (triedT d w o).1, z) :: bothT d l (k + 1) (triedT d w o).1 z r
    else ((triedT d w o).2, some (triedT d z o).2, (triedT d w o).1, (triedT d z o).1) :: bothT d l (k + 1) (triedT d w o).1 (triedT d z o).1 r
def othB : Nat → List Bo → List Nat
  | _, [] => []
  | k, (b, some c, _, _) :: r => if b != c then k :: othB (k + 1) r else othB (k + 1) r
  | k, (_, none, _, _) :: r => othB (k + 1) r
theorem bothT_len (d : Dk) (l : List Nat) : ∀ (ts : List Tr) (k : Nat) (w z : List Nat), (bothT d l k w z ts).length = ts.length
  | [], _, _, _ => rfl
  | o :: r, k, w, z => by
    rw [bothT]
    split <;> simp [bothT_len d l r]
theorem othB_lt : ∀ (bs : List Bo) (k : Nat), ∀ x ∈ othB k bs, x < k + bs.length
  | [], _, x, h => by simp [othB] at h
  | (b, some c, _, _) :: r, k, x, h => by
    rw [othB] at h
    have ih := othB_lt r (k + 1)
    rw [List.length_cons]
    split at h
    · rcases List.mem_cons.mp h with rfl | z
      · omega
      · have := ih x z; omega
    · have := ih x h; omega
  | (_, none, _, _) :: r, k, x, h => by
    rw [othB] at h
    have := othB_lt r (k + 1) x h
    rw [List.length_cons]
    omega
theorem othB_len : ∀ (bs : List Bo) (k : Nat), (othB k bs).length ≤ bs.length
  | [], _ => by simp [othB]
  | (b, some c, _, _) :: r, k => by
    rw [othB]
    have ih := othB_len r (k + 1)
    split
    · simp; omega
    · simp; omega
  | (_, none, _, _) :: r, k => by
    rw [othB]
    have := othB_len r (k + 1)
    simp; omega
/-- the law's own list is the program's -/
theorem own_oth (d : Dk) (l : List Nat) : ∀ (r : List Tr) (hp tp : List Bool) (w z : List Nat), filI (fun i a => (hp ++ cameT d w r).getD a false != (tp ++ cameT d z (lessT l hp.length r)).getD i false) tp.length ((List.range' hp.length r.length).filter fun i => decide (i ∉ l)) = othB hp.length (bothT d l hp.length w z r)
  | [], hp, tp, w, z => by simp [filI, bothT, othB]
  | o :: r, hp, tp, w, z => by
    have e1 : hp ++ cameT d w (o :: r) = (hp ++ [(triedT d w o).2]) ++ cameT d (triedT d w o).1 r := by simp [cameT]
    have l1 : (hp ++ [(triedT d w o).2]).length = hp.length + 1 := by simp
    have g1 : ((hp ++ [(triedT d w o).2]) ++ cameT d (triedT d w o).1 r).getD hp.length false = (triedT d w o).2 := by simp
    rw [List.length_cons, List.range'_succ, List.filter_cons, bothT, e1]
    by_cases hk : hp.length ∈ l
    · have e2 : lessT l hp.length (o :: r) = lessT l (hp.length + 1) r := by simp [lessT, filI, hk]
      have ih := own_oth d l r (hp ++ [(triedT d w o).2]) tp (triedT d w o).1 z
      rw [l1] at ih
      rw [e2, if_pos hk, if_neg (by simpa using hk), othB, ih]
    · have e2 : lessT l hp.length (o :: r) = o :: lessT l (hp.length + 1) r := by simp [lessT, filI, hk]
      have ih := own_oth d l r (hp ++ [(triedT d w o).2]) (tp ++ [(triedT d z o).2]) (triedT d w o).1 (triedT d z o).1
      have l2 : (tp ++ [(triedT d z o).2]).length = tp.length + 1 := by simp
      have e3 : tp ++ cameT d z (o :: lessT l (hp.length + 1) r) = (tp ++ [(triedT d z o).2]) ++ cameT d (triedT d z o).1 (lessT l (hp.length + 1) r) := by simp [cameT]
      have g2 : ((tp ++ [(triedT d z o).2]) ++ cameT d (triedT d z o).1 (lessT l (hp.length + 1) r)).getD tp.length false = (triedT d z o).2 := by simp
      rw [l1, l2] at ih
      rw [e2, e3, if_neg hk, if_pos (by simpa using hk), othB, filI, g1, g2, ih]
theorem own_oth0 (d : Dk) (l : List Nat) (ts : List Tr) (w : List Nat) : filI (fun i a => (cameT d w ts).getD a false != (cameT d w (lessT l 0 ts)).getD i false) 0 ((List.range ts.length).filter fun i => decide (i ∉ l)) = othB 0 (bothT d l 0 w w ts) := by
  have := own_oth d l ts [] [] w w
  rw [List.range_eq_range']
  simpa using this
theorem triedT_no {d : Dk} {w : List Nat} {o : Tr} (h : (triedT d w o).2 = false) : (triedT d w o).1 = w := by
  unfold triedT at h ⊢
  split at h
  · rename_i e; simp only [e]
  · cases h
/-- tries struck that turned nothing -/
theorem oth_none (d : Dk) (l : List Nat) : ∀ (r : List Tr) (hp : List Bool) (w : List Nat), (∀ i, hp.length ≤ i → i ∈ l → (hp ++ cameT d w r).getD i false = false) → othB hp.length (bothT d l hp.length w w r) = []
  | [], _, _, _ => rfl
  | o :: r, hp, w, h => by
    have e1 : hp ++ cameT d w (o :: r) = (hp ++ [(triedT d w o).2]) ++ cameT d (triedT d w o).1 r := by simp [cameT]
    have l1 : (hp ++ [(triedT d w o).2]).length = hp.length + 1 := by simp
    have ih := oth_none d l r (hp ++ [(triedT d w o).2]) (triedT d w o).1 (fun i hi hl => by
      rw [← e1]
      exact h i (by rw [l1] at hi; omega) hl)
    rw [l1] at ih
    rw [bothT]
    by_cases hk : hp.length ∈ l
    · have hq := h hp.length (Nat.le_refl _) hk
      rw [e1] at hq
      have g1 : ((hp ++ [(triedT d w o).2]) ++ cameT d (triedT d w o).1 r).getD hp.length false = (triedT d w o).2 := by simp
      rw [g1] at hq
      have hw := triedT_no hq
      rw [if_pos hk, othB]
      rw [hw] at ih ⊢
      exact ih
    · rw [if_neg hk, othB]
      simpa using ih
theorem oth_nil (d : Dk) (ts : List Tr) (w : List Nat) : othB 0 (bothT d [] 0 w w ts) = [] := oth_none d [] ts [] w (fun _ _ h => by cases h)
theorem oth_refused (d : Dk) (ts : List Tr) (w : List Nat) : othB 0 (bothT d ((List.range ts.length).filter fun i => !(cameT d w ts).getD i false) 0 w w ts) = [] := oth_none d _ ts [] w (fun i _ h => by
  have := (List.mem_filter.mp h).2
  simpa using this)
theorem Cell.less {d : Dk} {th : List Nat} {ts : List Tr} (C : Cell d th ts) (l : List Nat) (k : Nat) : Cell d th (lessT l k ts) := ⟨C.D, C.len, C.lt, fun o ho => C.tr o (filI_mem ho), Nat.le_trans filI_len C.few⟩
end K11

set_option Elab.async false
set_option linter.all false
set_option maxRecDepth 100000
set_option maxHeartbeats 4000000
namespace K11
open PySem PySem.Spec Den
open PyProof.Rows L2

theorem wp_dAsg2 {t t2 : Tg} {f : M PD} {ρ : Rho} {Q : Fl → Rho → Prop} {E : Xc → Rho → Prop} : Wp (dAsg2 t t2 f) ρ Q E = Wp f ρ (fun d ρ' => Ho (bindT t d ρ'.sl) fun sl => Ho (bindT t2 d sl) fun sl2 => Q .nx { ρ' with sl := sl2 }) E := by
  unfold dAsg2
  simp only [wp_bind]
  congr; funext d ρ1
  unfold Wp
  cases h : bindT t d ρ1.sl with
  | none => simp [h]
  | some sl => cases h2 : bindT t2 d sl <;> simp [h, h2]
theorem fil_enum (p : Nat → Bool) : ∀ (ts : List Tr) (k : Nat), ((enF k (ts.map trP)).filter (fun x => match x with | .tuple [.int i, _] => p i.toNat | _ => false)).map (fun x => match x with | .tuple [_, y] => y | _ => .none) = (filI (fun i _ => p i) k ts).map trP
  | [], k => rfl
  | o :: r, k => by
    have ih := fil_enum p r (k + 1)
    rw [show (((k + 1 : Nat) : Int)) = (k : Int) + 1 by omega] at ih
    rw [List.map_cons, enF, List.filter_cons, filI]
    by_cases hp : p k = true
    · simp [hp]
      exact ih
    · simp [hp]
      exact ih
theorem less_eq {d : Dk} {th : List Nat} {ts : List Tr} (C : Cell d th ts) {l : List Nat} (h : Lot ts.length l) : F_less [.val (deskP d), .val (.tuple [rsP th, tsT ts]), .val (rsP l)] [] = (.ret (.tuple [rsP th, tsT (lessT l 0 ts)]), []) := by
  refine runB_eq rfl ?_
  unfold g_less
  have hf := C.few
  have e1 := need_struck_eq (th := th) hf h
  refine wp_seq (ρ1 := ⟨[.val (deskP d), .val (.tuple [rsP th, tsT ts]), .val (rsP l), .no, .val (rsP th), .val (tsT ts), .no, .no], []⟩) (by simp [rho0, slotOf, look, ixOf, getC, setC, getM, setM, getL, MC.look, MC.pd, killS, turnQ, lkOf, outB, iosOf, arsOf, wp_tail, mAppend, mExtend, mPop, wp_dFor, wp_dComp, wp_dIterV, wp_dSeqs, slOkN, lendR, lendB, unS, compEnd, enumD_eq, C.need]) ?_
  refine wp_seq (ρ1 := ⟨[.val (deskP d), .val (.tuple [rsP th, tsT ts]), .val (rsP l), .val (rsP l), .val (rsP th), .val (tsT ts), .no, .no], []⟩) (by simp [rho0, slotOf, look, ixOf, getC, setC, getM, setM, getL, MC.look, MC.pd, killS, turnQ, lkOf, outB, iosOf, arsOf, wp_tail, mAppend, mExtend, mPop, wp_dFor, wp_dComp, wp_dIterV, wp_dSeqs, slOkN, lendR, lendB, unS, compEnd, enumD_eq, e1]) ?_
  have core : Wp (dComp (.tup (.nm 6 :: .nm 7 :: [])) [6, 7] (dEnum (dKs (dkVar 5) (mpure []))) (asB (dOp2 pNotIn (dkVar 6) (dkVar 3))) (dVar 7)) ⟨[.val (deskP d), .val (.tuple [rsP th, tsT ts]), .val (rsP l), .val (rsP l), .val (rsP th), .val (tsT ts), .no, .no], []⟩ (fun ys ρ' => ys = (lessT l 0 ts).map trP ∧ ρ' = ⟨[.val (deskP d), .val (.tuple [rsP th, tsT ts]), .val (rsP l), .val (rsP l), .val (rsP th), .val (tsT ts), .no, .no], []⟩) (fun _ _ => False) := by
    rw [wp_dComp]
    refine wp_at (a1 := (enF 0 (ts.map trP), fun _ => True)) (ρ1 := ⟨[.val (deskP d), .val (.tuple [rsP th, tsT ts]), .val (rsP l), .val (rsP l), .val (rsP th), .val (tsT ts), .no, .no], []⟩) (by simp [rho0, slotOf, look, ixOf, getC, setC, getM, setM, getL, MC.look, MC.pd, killS, turnQ, lkOf, outB, iosOf, arsOf, wp_tail, mAppend, mExtend, mPop, wp_dFor, wp_dComp, wp_dIterV, wp_dSeqs, slOkN, lendR, lendB, unS, compEnd, enumD_eq, tsT]) ?_
    refine ⟨by simp; exact Nat.le_trans hf (by decide), ?_⟩
    refine wp_compFil (fun x => match x with | .tuple [.int i, _] => decide (i.toNat ∉ l) | _ => false) (fun x => match x with | .tuple [_, y] => y | _ => .none) _ trivial (fun x hx => ?_) ?_
    · obtain ⟨j, y, rfl, hy⟩ := enF_mem_at hx
      have e2 : pNotIn (.int (0 + (j : Int))) (rsP l) = some (.bool (decide (j ∉ l))) := by
        rw [Int.zero_add]
        exact pNotIn_t j l
      simp only [Int.zero_add] at e2
      by_cases hj : j ∈ l <;> simp [rho0, slotOf, look, ixOf, getC, setC, getM, setM, getL, MC.look, MC.pd, killS, turnQ, lkOf, outB, iosOf, arsOf, wp_tail, mAppend, mExtend, mPop, wp_dFor, wp_dComp, wp_dIterV, wp_dSeqs, slOkN, lendR, lendB, unS, compEnd, enumD_eq, e2, hj]
    · have := fil_enum (fun i => decide (i ∉ l)) ts 0
      rw [show ((0 : Nat) : Int) = 0 from rfl] at this
      rw [this]
      exact ⟨rfl, by simp [rho0, slotOf, look, ixOf, getC, setC, getM, setM, getL, MC.look, MC.pd, killS, turnQ, lkOf, outB, iosOf, arsOf, wp_tail, mAppend, mExtend, mPop, wp_dFor, wp_dComp, wp_dIterV, wp_dSeqs, slOkN, lendR, lendB, unS, compEnd, enumD_eq]⟩
  generalize dComp (.tup (.nm 6 :: .nm 7 :: [])) [6, 7] (dEnum (dKs (dkVar 5) (mpure []))) (asB (dOp2 pNotIn (dkVar 6) (dkVar 3))) (dVar 7) = G at core ⊢
  have ec := ok_of_wp core
  simp [rho0, slotOf, look, ixOf, getC, setC, getM, setM, getL, MC.look, MC.pd, killS, turnQ, lkOf, outB, iosOf, arsOf, wp_tail, mAppend, mExtend, mPop, wp_dFor, wp_dComp, wp_dIterV, wp_dSeqs, slOkN, lendR, lendB, unS, compEnd, enumD_eq, wp_of ec]
  simp [tsT]
theorem law_less_eq {d : Dk} {th : List Nat} {ts : List Tr} (C : Cell d th ts) {l : List Nat} : F__law_less [.val (tsT ts), .val (rsP l)] [] = (.ret (tsT (lessT l 0 ts)), []) := by
  refine runB_eq rfl ?_
  unfold g__law_less
  have hf := C.few
  have gl : gLen [tsT ts] = some (.int ts.length) := by simp [tsT]
  have core : Wp (dComp (.nm 2) [2] (dRange1 (dEs (dCB gLen (dKs (dkVar 0) (mpure []))) (mpure []))) (asB (dOp2 pNotIn (dkVar 2) (dkVar 1))) (dOp2 pGet (dkVar 0) (dkVar 2))) ⟨[.val (tsT ts), .val (rsP l), .no], []⟩ (fun ys ρ' => ys = (lessT l 0 ts).map trP ∧ ρ' = ⟨[.val (tsT ts), .val (rsP l), .no], []⟩) (fun _ _ => False) := by
    rw [wp_dComp]
    refine wp_at (a1 := ((List.range ts.length).map nP, fun _ => True)) (ρ1 := ⟨[.val (tsT ts), .val (rsP l), .no], []⟩) (by simp [rho0, slotOf, look, ixOf, getC, setC, getM, setM, getL, MC.look, MC.pd, killS, turnQ, lkOf, outB, iosOf, arsOf, wp_tail, mAppend, mExtend, mPop, wp_dFor, wp_dComp, wp_dIterV, wp_dSeqs, slOkN, lendR, lendB, unS, compEnd, enumD_eq, gl, small_of (show ts.length ≤ 1000000 by omega)]) ?_
    refine ⟨by simp; exact Nat.le_trans hf (by decide), ?_⟩
    refine wp_compFil (fun x => match x with | .int i => decide (i.toNat ∉ l) | _ => false) (fun x => match x with | .int i => trP (ts.getD i.toNat (0, [])) | _ => .none) _ trivial (fun x hx => ?_) ?_
    · obtain ⟨j, hj, rfl⟩ := List.mem_map.mp hx
      have hjt : j < ts.length := List.mem_range.mp hj
      have e2 : pNotIn (.int (j : Nat)) (rsP l) = some (.bool (decide (j ∉ l))) := pNotIn_t j l
      have e3 : pGet (tsT ts) (.int (j : Nat)) = some (trP ts[j]) := by simp [tsT, hjt]
      by_cases hj : j ∈ l <;> simp [rho0, slotOf, look, ixOf, getC, setC, getM, setM, getL, MC.look, MC.pd, killS, turnQ, lkOf, outB, iosOf, arsOf, wp_tail, mAppend, mExtend, mPop, wp_dFor, wp_dComp, wp_dIterV, wp_dSeqs, slOkN, lendR, lendB, unS, compEnd, enumD_eq, nP, e2, e3, hj, hjt]
    · have := filI_eq (0, []) (fun i _ => decide (i ∉ l)) ts
      have e : (((List.range ts.length).map nP).filter (fun x => match x with | .int i => decide (i.toNat ∉ l) | _ => false)).map (fun x => match x with | .int i => trP (ts.getD i.toNat (0, [])) | _ => .none) = (lessT l 0 ts).map trP := by
        unfold lessT
        rw [← this, List.filter_map, List.map_map, List.map_map]
        rfl
      rw [e]
      exact ⟨rfl, by simp [rho0, slotOf, look, ixOf, getC, setC, getM, setM, getL, MC.look, MC.pd, killS, turnQ, lkOf, outB, iosOf, arsOf, wp_tail, mAppend, mExtend, mPop, wp_dFor, wp_dComp, wp_dIterV, wp_dSeqs, slOkN, lendR, lendB, unS, compEnd, enumD_eq]⟩
  generalize dComp (.nm 2) [2] (dRange1 (dEs (dCB gLen (dKs (dkVar 0) (mpure []))) (mpure []))) (asB (dOp2 pNotIn (dkVar 2) (dkVar 1))) (dOp2 pGet (dkVar 0) (dkVar 2)) = G at core ⊢
  have ec := ok_of_wp core
  simp [rho0, slotOf, look, ixOf, getC, setC, getM, setM, getL, MC.look, MC.pd, killS, turnQ, lkOf, outB, iosOf, arsOf, wp_tail, mAppend, mExtend, mPop, wp_dFor, wp_dComp, wp_dIterV, wp_dSeqs, slOkN, lendR, lendB, unS, compEnd, enumD_eq, wp_of ec]
  simp [tsT]
/-- what came of the tries, in a list -/
def bsL (bs : List Bool) : List PD := bs.map fun b => PyData.bool b
end K11

set_option Elab.async false
set_option linter.all false
set_option maxRecDepth 100000
set_option maxHeartbeats 4000000
namespace K11
open PySem PySem.Spec Den
open PyProof.Rows L2

theorem law_lot_ok {b : List PD} (hb : Box b) {n : Nat} (hn : n ≤ 100) : ∃ (l : List Nat) (b' : List PD), Lot n l ∧ Box b' ∧ F__law_lot [.io 0, .val (.int (n : Nat))] [.lst b] = (.ret (rsP l), [.lst b']) := by
  have key : (fun r : Rt × List MC => ∃ (l : List Nat) (b' : List PD), Lot n l ∧ Box b' ∧ r = (.ret (rsP l), [.lst b'])) (F__law_lot [.io 0, .val (.int (n : Nat))] [.lst b]) := by
    refine runB_post (T := fun r : Rt × List MC => ∃ (l : List Nat) (b' : List PD), Lot n l ∧ Box b' ∧ r = (.ret (rsP l), [.lst b'])) rfl ?_
    unfold g__law_lot
    obtain ⟨r, hr, b1, hb1, e1⟩ := take_ok hb (n := 3) (by decide) (by decide)
    refine wp_seq (ρ1 := ⟨[.io 0, .val (.int (n : Nat)), .val (.int (1 + (r : Int))), .no], [.lst b1]⟩) (by simp [rho0, slotOf, look, ixOf, getC, setC, getM, setM, getL, MC.look, MC.pd, killS, turnQ, lkOf, outB, iosOf, arsOf, wp_tail, mAppend, mExtend, mPop, wp_dFor, wp_dComp, wp_dIterV, wp_dSeqs, slOkN, lendR, lendB, unS, compEnd, enumD_eq, e1, nP]) ?_
    rw [wp_dRet, wp_dCB, wp_dKs, wp_dkE, wp_bind, wp_dComp]
    refine wp_at (a1 := ((List.range n).map nP, fun _ => True)) (ρ1 := ⟨[.io 0, .val (.int (n : Nat)), .val (.int (1 + (r : Int))), .no], [.lst b1]⟩) (by simp [rho0, slotOf, look, ixOf, getC, setC, getM, setM, getL, MC.look, MC.pd, killS, turnQ, lkOf, outB, iosOf, arsOf, wp_tail, mAppend, mExtend, mPop, wp_dFor, wp_dComp, wp_dIterV, wp_dSeqs, slOkN, lendR, lendB, unS, compEnd, enumD_eq, small_of (show n ≤ 1000000 by omega)]) ?_
    refine ⟨by simp; exact Nat.le_trans hn (by decide), ?_⟩
    refine wp_compGo (I := fun i ys ρ => ∃ (l : List Nat) (b' : List PD), Lot i l ∧ Box b' ∧ ys = l.map nP ∧ ρ = ⟨[.io 0, .val (.int (n : Nat)), .val (.int (1 + (r : Int))), .no], [.lst b']⟩) _ (fun _ _ _ _ => trivial) ?_ ?_ ⟨[], b1, Lot.nil 0, hb1, rfl, rfl⟩
    · rintro ys ρ ⟨l, b', l1, hb', rfl, rfl⟩
      simp only [wp_pure, wp_dkE, looks_cons, looks_nil, look_d, ho_some, gTup_l]
      exact ⟨l, b', by simpa using l1, hb', rfl⟩
    · rintro i ys ρ x hx ⟨l, b', l1, hb', rfl, rfl⟩
      obtain ⟨rfl, hi⟩ := mem_range_nP hx
      obtain ⟨q, hq, b2, hb2, e2⟩ := take_ok hb' (n := 4) (by decide) (by decide)
      refine ⟨_, rfl, ?_⟩
      refine wp_at (a1 := decide ((q : Int) < 1 + (r : Int))) (ρ1 := ⟨[.io 0, .val (.int (n : Nat)), .val (.int (1 + (r : Int))), .val (nP i)], [.lst b2]⟩) (by simp [rho0, slotOf, look, ixOf, getC, setC, getM, setM, getL, MC.look, MC.pd, killS, turnQ, lkOf, outB, iosOf, arsOf, wp_tail, mAppend, mExtend, mPop, wp_dFor, wp_dComp, wp_dIterV, wp_dSeqs, slOkN, lendR, lendB, unS, compEnd, enumD_eq, e2, nP]) ?_
      by_cases hz : (q : Int) < 1 + (r : Int)
      · rw [if_pos (by simpa using hz)]
        exact wp_at (a1 := nP i) (ρ1 := ⟨[.io 0, .val (.int (n : Nat)), .val (.int (1 + (r : Int))), .val (nP i)], [.lst b2]⟩) (by simp [rho0, slotOf, look, ixOf, getC, setC, getM, setM, getL, MC.look, MC.pd, killS, turnQ, lkOf, outB, iosOf, arsOf, wp_tail, mAppend, mExtend, mPop, wp_dFor, wp_dComp, wp_dIterV, wp_dSeqs, slOkN, lendR, lendB, unS, compEnd, enumD_eq]) ⟨l ++ [i], b2, l1.add, hb2, by simp, rfl⟩
      · rw [if_neg (by simpa using hz)]
        exact ⟨l, b2, l1.skip, hb2, rfl, rfl⟩
  obtain ⟨l, b', k1, k2, k3⟩ := key
  exact ⟨l, b', k1, k2, k3⟩
end K11

set_option Elab.async false
set_option linter.all false
set_option maxRecDepth 100000
set_option maxHeartbeats 4000000
namespace K11
open PySem PySem.Spec Den
open PyProof.Rows L2

/-! ### worlds of all lots: the plain law -/
theorem filI_append {α : Type} (p : Nat → α → Bool) : ∀ (xs ys : List α) (k : Nat), filI p k (xs ++ ys) = filI p k xs ++ filI p (k + xs.length) ys
  | [], ys, k => by simp [filI]
  | x :: r, ys, k => by
    have ih := filI_append p r ys (k + 1)
    have e : k + 1 + r.length = k + (x :: r).length := by simp; omega
    rw [List.cons_append, filI, filI, ih, e]
    split <;> rfl
theorem filI_congr {α : Type} {p q : Nat → α → Bool} : ∀ (xs : List α) (k : Nat), (∀ i x, k ≤ i → i < k + xs.length → x ∈ xs → p i x = q i x) → filI p k xs = filI q k xs
  | [], k, _ => rfl
  | x :: r, k, h => by
    have h0 := h k x (Nat.le_refl _) (by simp) List.mem_cons_self
    have ih := filI_congr (p := p) (q := q) r (k + 1) (fun i y h1 h2 h3 => h i y (by omega) (by simp; omega) (List.mem_cons_of_mem _ h3))
    rw [filI, filI, h0, ih]
theorem filI_shift {α : Type} {p q : Nat → α → Bool} : ∀ (xs : List α) (k j : Nat), (∀ i x, p (k + i) x = q (j + i) x) → filI p k xs = filI q j xs
  | [], k, j, _ => rfl
  | x :: r, k, j, h => by
    have h0 := h 0 x
    have ih := filI_shift (p := p) (q := q) r (k + 1) (j + 1) (fun i y => by
      have := h (i + 1) y
      rw [show k + 1 + i = k + (i + 1) by omega, show j + 1 + i = j + (i + 1) by omega]
      exact this)
    rw [filI, filI, ih]
    rw [Nat.add_zero, Nat.add_zero] at h0
    rw [h0]
theorem filI_map {α β : Type} (f : α → β) (p : Nat → Bool) : ∀ (xs : List α) (k : Nat), filI (fun i _ => p i) k (xs.map f) = (filI (fun i _ => p i) k xs).map f
  | [], _ => rfl
  | x :: r, k => by
    rw [List.map_cons, filI, filI, filI_map f p r (k + 1)]
    split <;> rfl
/-- the numbers of a lot that a number's digits tell -/
def strk (l : List Nat) (b : Nat) : List Nat := filI (fun i _ => b.testBit i) 0 l
def lotW (d : Dk) (l : List Nat) : Nat → List (List Nat) → List Tr → List (List Nat)
  | _, ws, [] => ws
  | k, ws, o :: r => lotW d l (k + 1) (if k ∈ l then (ws.map fun w => (triedT d w o).1) ++ ws else ws.map fun w => (triedT d w o).1) r
def cube (d : Dk) (z : List Nat) (l : List Nat) (ts : List Tr) : List (List Nat) := (List.range (2 ^ l.length)).map fun b => endT d z (lessT (strk l b) 0 ts)
theorem strk_mem {l : List Nat} {b x : Nat} (h : x ∈ strk l b) : x ∈ l := filI_mem h
theorem endT_snoc (d : Dk) (z : List Nat) (ts : List Tr) (o : Tr) : endT d z (ts ++ [o]) = (triedT d (endT d z ts) o).1 := by
  unfold endT
  rw [List.foldl_append]
  rfl
theorem lessT_in {s : List Nat} {ts : List Tr} {o : Tr} (h : ts.length ∈ s) : lessT s 0 (ts ++ [o]) = lessT s 0 ts := by
  unfold lessT
  rw [filI_append]
  simp [filI, h]
theorem lessT_out {s : List Nat} {ts : List Tr} {o : Tr} (h : ts.length ∉ s) : lessT s 0 (ts ++ [o]) = lessT s 0 ts ++ [o] := by
  unfold lessT
  rw [filI_append]
  simp [filI, h]
theorem strk_low {l : List Nat} {k b : Nat} (hb : b < 2 ^ l.length) : strk (l ++ [k]) b = strk l b := by
  unfold strk
  rw [filI_append]
  have : b.testBit l.length = false := Nat.testBit_lt_two_pow hb
  simp [filI, this]
theorem strk_high {l : List Nat} {k b : Nat} (hb : b < 2 ^ l.length) : strk (l ++ [k]) (2 ^ l.length + b) = strk l b ++ [k] := by
  unfold strk
  rw [filI_append]
  have e : (2 ^ l.length + b).testBit l.length = true := by
    rw [Nat.testBit_two_pow_add_eq, Nat.testBit_lt_two_pow hb]
    rfl
  have e2 : filI (fun i (_ : Nat) => (2 ^ l.length + b).testBit i) 0 l = filI (fun i _ => b.testBit i) 0 l := filI_congr l 0 fun i x _ h _ => by
    rw [Nat.testBit_two_pow_add_gt (by omega)]
  rw [e2]
  simp [filI, e]
theorem lessT_ext {s t : List Nat} {ts : List Tr} {k : Nat} (h : ∀ i, k ≤ i → i < k + ts.length → (i ∈ s ↔ i ∈ t)) : lessT s k ts = lessT t k ts := by
  unfold lessT
  exact filI_congr ts k fun i x h1 h2 _ => by
    have := h i h1 h2
    simp only [this]
theorem cube_out {d : Dk} {z l : List Nat} {ts : List Tr} {o : Tr} (h : ts.length ∉ l) : cube d z l (ts ++ [o]) = (cube d z l ts).map fun w => (triedT d w o).1 := by
  unfold cube
  rw [List.map_map]
  refine List.map_congr_left fun b _ => ?_
  rw [lessT_out (fun q => h (strk_mem q)), endT_snoc]
  rfl
theorem cube_in {d : Dk} {z l : List Nat} {ts : List Tr} {o : Tr} (h : ∀ x ∈ l, x < ts.length) : cube d z (l ++ [ts.length]) (ts ++ [o]) = ((cube d z l ts).map fun w => (triedT d w o).1) ++ cube d z l ts := by
  have hn : ts.length ∉ l := fun q => Nat.lt_irrefl _ (h _ q)
  unfold cube
  have e : 2 ^ (l ++ [ts.length]).length = 2 ^ l.length + 2 ^ l.length := by
    rw [List.length_append, List.length_singleton, Nat.pow_succ]
    omega
  rw [e, List.range_add, List.map_append, List.map_map, List.map_map]
  congr 1
  · refine List.map_congr_left fun b hb => ?_
    have hb' := List.mem_range.mp hb
    rw [strk_low hb', lessT_out (fun q => hn (strk_mem q)), endT_snoc]
    rfl
  · refine List.map_congr_left fun b hb => ?_
    have hb' := List.mem_range.mp hb
    show endT d z (lessT (strk (l ++ [ts.length]) (2 ^ l.length + b)) 0 (ts ++ [o])) = _
    rw [strk_high hb', lessT_in (by simp)]
    congr 1
    exact lessT_ext fun i _ hi => by
      have : i ≠ ts.length := by omega
      simp [this]
theorem lotW_cube (d : Dk) (z : List Nat) : ∀ (r pre : List Tr) (l1 l2 : List Nat), (∀ x ∈ l1, x < pre.length) → (∀ x ∈ l2, pre.length ≤ x ∧ x < pre.length + r.length) → l2.Pairwise (· < ·) → lotW d (l1 ++ l2) pre.length (cube d z l1 pre) r = cube d z (l1 ++ l2) (pre ++ r)
  | [], pre, l1, l2, h1, h2, _ => by
    cases l2 with
    | nil => simp [lotW]
    | cons x l2 =>
      have := h2 x List.mem_cons_self
      simp at this
      omega
  | o :: r, pre, l1, l2, h1, h2, h3 => by
    have n1 : pre.length ∉ l1 := fun q => Nat.lt_irrefl _ (h1 _ q)
    have le : (pre ++ [o]).length = pre.length + 1 := by simp
    have e : pre ++ o :: r = (pre ++ [o]) ++ r := by simp
    rw [lotW, e]
    by_cases hk : pre.length ∈ l2
    · cases l2 with
      | nil => cases hk
      | cons x l2 =>
        have hx := (h2 x List.mem_cons_self).1
        have hp := List.pairwise_cons.mp h3
        have hxe : x = pre.length := by
          rcases List.mem_cons.mp hk with q | q
          · exact q.symm
          · have := hp.1 _ q; omega
        subst hxe
        have ih := lotW_cube d z r (pre ++ [o]) (l1 ++ [pre.length]) l2 (fun y hy => by
            rw [le]
            rcases List.mem_append.mp hy with q | q
            · have := h1 y q; omega
            · simp at q; omega) (fun y hy => by
            rw [le]
            have q1 := hp.1 y hy
            have q2 := h2 y (List.mem_cons_of_mem _ hy)
            simp at q2
            omega) hp.2
        rw [le, cube_in h1] at ih
        have e2 : l1 ++ [pre.length] ++ l2 = l1 ++ pre.length :: l2 := by simp
        rw [e2] at ih
        rw [if_pos (by simp), ih]
    · have ih := lotW_cube d z r (pre ++ [o]) l1 l2 (fun y hy => by rw [le]; have := h1 y hy; omega) (fun y hy => by
        rw [le]
        have q2 := h2 y hy
        have : y ≠ pre.length := fun q => hk (q ▸ hy)
        simp at q2
        omega) h3
      rw [le, cube_out n1] at ih
      rw [if_neg (by simp [n1, hk]), ih]
theorem lotW_all {d : Dk} {z l : List Nat} {ts : List Tr} (h : Lot ts.length l) : lotW d l 0 [z] ts = cube d z l ts := by
  have := lotW_cube d z ts [] [] l (by simp) (fun x hx => ⟨Nat.zero_le _, by simpa using h.lt x hx⟩) h.asc
  simpa [cube, endT, lessT, filI] using this
end K11

set_option Elab.async false
set_option linter.all false
set_option maxRecDepth 100000
set_option maxHeartbeats 4000000
namespace K11
open PySem PySem.Spec Den
open PyProof.Rows L2

/-! ### faces: a digit put in -/
def insR (p : Nat) (s : Bool) : Nat → Nat → Nat
  | 0, b => if s = true then 2 ^ p + b else b
  | q + 1, b => if b < 2 ^ (p + q) then insR p s q b else 2 ^ (p + 1 + q) + insR p s q (b - 2 ^ (p + q))
theorem insR_lt (p : Nat) (s : Bool) : ∀ (q b : Nat), b < 2 ^ (p + q) → insR p s q b < 2 ^ (p + 1 + q)
  | 0, b, h => by
    have e : 2 ^ (p + 1 + 0) = 2 ^ p + 2 ^ p := by rw [Nat.add_zero, Nat.pow_succ]; omega
    rw [insR, e]
    rw [Nat.add_zero] at h
    split <;> omega
  | q + 1, b, h => by
    have e : 2 ^ (p + 1 + (q + 1)) = 2 ^ (p + 1 + q) + 2 ^ (p + 1 + q) := by rw [← Nat.add_assoc, Nat.pow_succ]; omega
    have e2 : 2 ^ (p + (q + 1)) = 2 ^ (p + q) + 2 ^ (p + q) := by rw [← Nat.add_assoc, Nat.pow_succ]; omega
    rw [insR, e]
    by_cases hb : b < 2 ^ (p + q)
    · rw [if_pos hb]
      have := insR_lt p s q b hb
      omega
    · rw [if_neg hb]
      have := insR_lt p s q (b - 2 ^ (p + q)) (by omega)
      omega
theorem ins_filter (p : Nat) (s : Bool) : ∀ q : Nat, (List.range (2 ^ (p + 1 + q))).filter (fun b => b.testBit p == s) = (List.range (2 ^ (p + q))).map (insR p s q)
  | 0 => by
    have e : 2 ^ (p + 1 + 0) = 2 ^ p + 2 ^ p := by rw [Nat.add_zero, Nat.pow_succ]; omega
    rw [e, List.range_add, List.filter_append, List.filter_map, Nat.add_zero]
    have a1 : ∀ b ∈ List.range (2 ^ p), b.testBit p = false := fun b hb => Nat.testBit_lt_two_pow (List.mem_range.mp hb)
    have a2 : ∀ b ∈ List.range (2 ^ p), (2 ^ p + b).testBit p = true := fun b hb => by
      rw [Nat.testBit_two_pow_add_eq, a1 b hb]
      rfl
    cases s with
    | false =>
      have f1 : (List.range (2 ^ p)).filter (fun b => b.testBit p == false) = List.range (2 ^ p) := List.filter_eq_self.mpr fun b hb => by simp [a1 b hb]
      have f2 : (List.range (2 ^ p)).filter ((fun b => b.testBit p == false) ∘ fun x => 2 ^ p + x) = [] := List.filter_eq_nil_iff.mpr fun b hb => by simp [a2 b hb]
      rw [f1, f2]
      simp [insR]
    | true =>
      have f1 : (List.range (2 ^ p)).filter (fun b => b.testBit p == true) = [] := List.filter_eq_nil_iff.mpr fun b hb => by simp [a1 b hb]
      have f2 : (List.range (2 ^ p)).filter ((fun b => b.testBit p == true) ∘ fun x => 2 ^ p + x) = List.range (2 ^ p) := List.filter_eq_self.mpr fun b hb => by simp [a2 b hb]
      rw [f1, f2]
      simp [insR]
  | q + 1 => by
    have ih := ins_filter p s q
    have e : 2 ^ (p + 1 + (q + 1)) = 2 ^ (p + 1 + q) + 2 ^ (p + 1 + q) := by rw [← Nat.add_assoc, Nat.pow_succ]; omega
    have e2 : 2 ^ (p + (q + 1)) = 2 ^ (p + q) + 2 ^ (p + q) := by rw [← Nat.add_assoc, Nat.pow_succ]; omega
    have c : ((fun b : Nat => b.testBit p == s) ∘ fun x => 2 ^ (p + 1 + q) + x) = fun b => b.testBit p == s := by
      funext b
      show ((2 ^ (p + 1 + q) + b).testBit p == s) = _
      rw [Nat.testBit_two_pow_add_gt (by omega)]
    rw [e, e2, List.range_add, List.range_add, List.filter_append, List.filter_map, c, ih, List.map_append, List.map_map, List.map_map]
    congr 1
    · refine List.map_congr_left fun b hb => ?_
      rw [insR, if_pos (List.mem_range.mp hb)]
    · refine List.map_congr_left fun b hb => ?_
      show 2 ^ (p + 1 + q) + insR p s q b = insR p s (q + 1) (2 ^ (p + q) + b)
      rw [insR, if_neg (by omega), Nat.add_sub_cancel_left]
theorem insR_bit (p : Nat) (s : Bool) : ∀ (q b : Nat), b < 2 ^ (p + q) → ∀ i, i < p + 1 + q → (insR p s q b).testBit i = if i < p then b.testBit i else if i = p then s else b.testBit (i - 1)
  | 0, b, h, i, hi => by
    rw [Nat.add_zero] at h
    rw [insR]
    by_cases h1 : i < p
    · rw [if_pos h1]
      split
      · rw [Nat.testBit_two_pow_add_gt h1]
      · rfl
    · have : i = p := by omega
      subst this
      rw [if_neg h1, if_pos rfl]
      cases s with
      | true => rw [if_pos rfl, Nat.testBit_two_pow_add_eq, Nat.testBit_lt_two_pow h]; rfl
      | false => rw [if_neg (by decide), Nat.testBit_lt_two_pow h]
  | q + 1, b, h, i, hi => by
    have e2 : 2 ^ (p + (q + 1)) = 2 ^ (p + q) + 2 ^ (p + q) := by rw [← Nat.add_assoc, Nat.pow_succ]; omega
    rw [insR]
    by_cases hb : b < 2 ^ (p + q)
    · rw [if_pos hb]
      by_cases hq : i < p + 1 + q
      · exact insR_bit p s q b hb i hq
      · have : i = p + 1 + q := by omega
        subst this
        rw [Nat.testBit_lt_two_pow (insR_lt p s q b hb), if_neg (by omega), if_neg (by omega), show p + 1 + q - 1 = p + q by omega, Nat.testBit_lt_two_pow hb]
    · rw [if_neg hb]
      obtain ⟨c, rfl⟩ : ∃ c, b = 2 ^ (p + q) + c := ⟨b - 2 ^ (p + q), by omega⟩
      have hc : c < 2 ^ (p + q) := by omega
      rw [Nat.add_sub_cancel_left]
      by_cases hq : i < p + 1 + q
      · rw [Nat.testBit_two_pow_add_gt hq, insR_bit p s q c hc i hq]
        by_cases h1 : i < p
        · rw [if_pos h1, if_pos h1, Nat.testBit_two_pow_add_gt (by omega)]
        · rw [if_neg h1, if_neg h1]
          by_cases h2 : i = p
          · rw [if_pos h2, if_pos h2]
          · rw [if_neg h2, if_neg h2, Nat.testBit_two_pow_add_gt (by omega)]
      · have : i = p + 1 + q := by omega
        subst this
        rw [Nat.testBit_two_pow_add_eq, Nat.testBit_lt_two_pow (insR_lt p s q c hc), if_neg (by omega), if_neg (by omega), show p + 1 + q - 1 = p + q by omega, Nat.testBit_two_pow_add_eq, Nat.testBit_lt_two_pow hc]
end K11

set_option Elab.async false
set_option linter.all false
set_option maxRecDepth 100000
set_option maxHeartbeats 4000000
namespace K11
open PySem PySem.Spec Den
open PyProof.Rows L2

theorem strk_ins {l1 l2 : List Nat} {x b : Nat} {s : Bool} (hb : b < 2 ^ (l1.length + l2.length)) : strk (l1 ++ x :: l2) (insR l1.length s l2.length b) = filI (fun i _ => b.testBit i) 0 l1 ++ ((if s = true then [x] else []) ++ filI (fun i _ => b.testBit i) l1.length l2) := by
  have bit := insR_bit l1.length s l2.length b hb
  have b0 : (insR l1.length s l2.length b).testBit l1.length = s := by rw [bit l1.length (by omega), if_neg (by omega), if_pos rfl]
  unfold strk
  rw [filI_append, Nat.zero_add, filI, b0]
  have e1 : filI (fun i (_ : Nat) => (insR l1.length s l2.length b).testBit i) 0 l1 = filI (fun i _ => b.testBit i) 0 l1 := filI_congr l1 0 fun i y _ h _ => by
    rw [bit i (by omega), if_pos (by omega)]
  have e2 : filI (fun i (_ : Nat) => (insR l1.length s l2.length b).testBit i) (l1.length + 1) l2 = filI (fun i _ => b.testBit (i - 1)) (l1.length + 1) l2 := filI_congr l2 _ fun i y h h' _ => by
    rw [bit i (by omega), if_neg (by omega), if_neg (by omega)]
  have e3 : filI (fun i (_ : Nat) => b.testBit (i - 1)) (l1.length + 1) l2 = filI (fun i _ => b.testBit i) l1.length l2 := filI_shift l2 _ _ fun i y => by
    show b.testBit (l1.length + 1 + i - 1) = _
    rw [show l1.length + 1 + i - 1 = l1.length + i by omega]
  rw [e1, e2, e3]
  cases s <;> rfl
theorem lessT_none {x : Nat} : ∀ (ts : List Tr) (k : Nat), x < k → lessT [x] k ts = ts
  | [], _, _ => rfl
  | o :: r, k, h => by
    have ih := lessT_none (x := x) r (k + 1) (by omega)
    have hk : k ≠ x := by omega
    unfold lessT at ih ⊢
    rw [filI, ih]
    simp [hk]
theorem lessT_down {x : Nat} {S T : List Nat} (h : ∀ i, x < i → (i ∈ S ↔ i - 1 ∈ T)) (ts : List Tr) {k : Nat} (hk : x ≤ k) : lessT S (k + 1) ts = lessT T k ts := by
  unfold lessT
  refine filI_shift ts _ _ fun i y => ?_
  have := h (k + 1 + i) (by omega)
  rw [show k + 1 + i - 1 = k + i by omega] at this
  simp only [this]
theorem lessT_two {x : Nat} {S T : List Nat} (h1 : ∀ i, i < x → (i ∈ S ↔ i ∈ T)) (h2 : x ∈ S) (h3 : ∀ i, x < i → (i ∈ S ↔ i - 1 ∈ T)) : ∀ (ts : List Tr) (k : Nat), k ≤ x → lessT S k ts = lessT T k (lessT [x] k ts)
  | [], _, _ => rfl
  | o :: r, k, hk => by
    by_cases he : k = x
    · subst he
      have a := lessT_down h3 r (Nat.le_refl k)
      have c := lessT_none r (k + 1) (Nat.lt_succ_self k)
      have e1 : lessT S k (o :: r) = lessT S (k + 1) r := by
        unfold lessT
        rw [filI]
        simp [h2]
      have e2 : lessT [k] k (o :: r) = lessT [k] (k + 1) r := by
        unfold lessT
        rw [filI]
        simp
      rw [e1, e2, c, a]
    · have ih := lessT_two h1 h2 h3 r (k + 1) (by omega)
      have e2 : lessT [x] k (o :: r) = o :: lessT [x] (k + 1) r := by
        unfold lessT
        rw [filI]
        simp [he]
      have hm := h1 k (by omega)
      rw [e2]
      unfold lessT at ih ⊢
      rw [filI, filI, ih]
      simp only [hm]
/-- the worlds without what is struck, or with what is kept -/
def faceL (p : Nat) (s : Bool) (ws : List (List Nat)) : List (List Nat) := filI (fun i _ => i.testBit p == s) 0 ws
theorem filI_range {β : Type} (P : Nat → Bool) (f : Nat → β) (n : Nat) : filI (fun i _ => P i) 0 ((List.range n).map f) = ((List.range n).filter P).map f := by
  rw [filI_map f P]
  congr 1
  have := filI_eq 0 (fun i (_ : Nat) => P i) (List.range n)
  rw [← this, List.length_range]
  have e : ∀ i ∈ (List.range n).filter P, (List.range n).getD i 0 = id i := fun i hi => by
    have := List.mem_range.mp (List.mem_filter.mp hi).1
    simp [this]
  rw [List.map_congr_left e, List.map_id]
theorem face_cube {d : Dk} {z : List Nat} {l1 l2 : List Nat} {x : Nat} {ts : List Tr} {s : Bool} (ha : (l1 ++ x :: l2).Pairwise (· < ·)) : faceL l1.length s (cube d z (l1 ++ x :: l2) ts) = if s = true then cube d z (l1 ++ l2.map (· - 1)) (lessT [x] 0 ts) else cube d z (l1 ++ l2) ts := by
  have hp := List.pairwise_append.mp ha
  have hx1 : ∀ y ∈ l1, y < x := fun y hy => hp.2.2 y hy x List.mem_cons_self
  have hx2 : ∀ y ∈ l2, x < y := (List.pairwise_cons.mp hp.2.1).1
  unfold faceL cube
  have el : (l1 ++ x :: l2).length = l1.length + 1 + l2.length := by simp; omega
  rw [filI_range (fun i => i.testBit l1.length == s), el, ins_filter, List.map_map]
  cases s with
  | false =>
    rw [if_neg (by decide)]
    have el2 : (l1 ++ l2).length = l1.length + l2.length := by simp
    rw [el2]
    refine List.map_congr_left fun b hb => ?_
    have hb' := List.mem_range.mp hb
    show endT d z (lessT (strk (l1 ++ x :: l2) (insR l1.length false l2.length b)) 0 ts) = _
    rw [strk_ins hb', if_neg (by decide), List.nil_append]
    unfold strk
    rw [filI_append, Nat.zero_add]
  | true =>
    rw [if_pos rfl]
    have el2 : (l1 ++ l2.map (· - 1)).length = l1.length + l2.length := by simp
    rw [el2]
    refine List.map_congr_left fun b hb => ?_
    have hb' := List.mem_range.mp hb
    show endT d z (lessT (strk (l1 ++ x :: l2) (insR l1.length true l2.length b)) 0 ts) = _
    rw [strk_ins hb', if_pos rfl]
    unfold strk
    rw [filI_append, Nat.zero_add, filI_map]
    have g1 : ∀ y ∈ filI (fun i (_ : Nat) => b.testBit i) 0 l1, y < x := fun y hy => hx1 y (filI_mem hy)
    have g2 : ∀ y ∈ filI (fun i (_ : Nat) => b.testBit i) l1.length l2, x < y := fun y hy => hx2 y (filI_mem hy)
    generalize filI (fun i (_ : Nat) => b.testBit i) 0 l1 = A at g1
    generalize filI (fun i (_ : Nat) => b.testBit i) l1.length l2 = B at g2
    congr 1
    refine lessT_two (x := x) (fun i hi => ?_) (by simp) (fun i hi => ?_) ts 0 (Nat.zero_le _)
    · constructor
      · intro q
        rcases List.mem_append.mp q with q | q
        · exact List.mem_append_left _ q
        · simp at q
          rcases q with q | q
          · omega
          · have := g2 i q; omega
      · intro q
        rcases List.mem_append.mp q with q | q
        · exact List.mem_append_left _ q
        · obtain ⟨y, hy, e⟩ := List.mem_map.mp q
          have := g2 y hy
          omega
    · constructor
      · intro q
        rcases List.mem_append.mp q with q | q
        · have := g1 i q; omega
        · simp at q
          rcases q with q | q
          · omega
          · exact List.mem_append_right _ (List.mem_map.mpr ⟨i, q, rfl⟩)
      · intro q
        rcases List.mem_append.mp q with q | q
        · have := g1 _ q; omega
        · obtain ⟨y, hy, e⟩ := List.mem_map.mp q
          have := g2 y hy
          have : y = i := by omega
          subst this
          simp [hy]
end K11

set_option Elab.async false
set_option linter.all false
set_option maxRecDepth 100000
set_option maxHeartbeats 4000000
namespace K11
open PySem PySem.Spec Den
open PyProof.Rows L2

theorem law_end_eq {d : Dk} {th : List Nat} {ts : List Tr} (C : Cell d th ts) : F__law_end [.val (tsP d.2.1), .val (rsP th), .val (tsT ts)] [] = (.ret (rsP (endT d (zerosT th) ts)), []) := by
  refine runB_eq rfl ?_
  unfold g__law_end
  have hl := C.len
  have V := C.D.v
  refine wp_seq (ρ1 := ⟨[.val (tsP d.2.1), .val (rsP th), .val (tsT ts), .val (rsP (zerosT th)), .no, .no], []⟩) ?_ ?_
  · have hz : Wp (dComp (.nm 5) [5] (dIterV (dkE (dVar 1))) (mpure true) (mpure (.int 0))) ⟨[.val (tsP d.2.1), .val (rsP th), .val (tsT ts), .no, .no, .no], []⟩ (fun ys r => ys = (zerosT th).map nP ∧ r = ⟨[.val (tsP d.2.1), .val (rsP th), .val (tsT ts), .no, .no, .no], []⟩) (fun _ _ => False) := by
      rw [wp_dComp]
      refine wp_at (a1 := (th.map nP, fun _ => True)) (ρ1 := ⟨[.val (tsP d.2.1), .val (rsP th), .val (tsT ts), .no, .no, .no], []⟩) (by simp [rho0, slotOf, look, ixOf, getC, setC, getM, setM, getL, MC.look, MC.pd, killS, turnQ, lkOf, outB, iosOf, arsOf, wp_tail, mAppend, mExtend, mPop, wp_dFor, wp_dComp, wp_dIterV, wp_dSeqs, slOkN, lendR, lendB, unS, compEnd, enumD_eq, rsP]) ?_
      refine ⟨by simp; exact Nat.le_trans hl (by decide), ?_⟩
      exact kinds_zero (ρ := ⟨[.val (tsP d.2.1), .val (rsP th), .val (tsT ts), .no, .no, .no], []⟩) (by omega) (by simp) (by simp) ⟨rfl, by simp [rho0, slotOf, look, ixOf, getC, setC, getM, setM, getL, MC.look, MC.pd, killS, turnQ, lkOf, outB, iosOf, arsOf, wp_tail, mAppend, mExtend, mPop, wp_dFor, wp_dComp, wp_dIterV, wp_dSeqs, slOkN, lendR, lendB, unS, compEnd, enumD_eq]⟩
    generalize dComp (.nm 5) [5] (dIterV (dkE (dVar 1))) (mpure true) (mpure (.int 0)) = G2 at hz ⊢
    have hz' := ok_of_wp hz
    simp [rho0, slotOf, look, ixOf, getC, setC, getM, setM, getL, MC.look, MC.pd, killS, turnQ, lkOf, outB, iosOf, arsOf, wp_tail, mAppend, mExtend, mPop, wp_dFor, wp_dComp, wp_dIterV, wp_dSeqs, slOkN, lendR, lendB, unS, compEnd, enumD_eq, wp_of hz']
    simp [rsP]
  · rw [wp_dSeq, wp_dFor]
    refine wp_at (a1 := (ts.map trP, fun _ => True)) (ρ1 := ⟨[.val (tsP d.2.1), .val (rsP th), .val (tsT ts), .val (rsP (zerosT th)), .no, .no], []⟩) (by simp [rho0, slotOf, look, ixOf, getC, setC, getM, setM, getL, MC.look, MC.pd, killS, turnQ, lkOf, outB, iosOf, arsOf, wp_tail, mAppend, mExtend, mPop, wp_dFor, wp_dComp, wp_dIterV, wp_dSeqs, slOkN, lendR, lendB, unS, compEnd, enumD_eq, tsT]) ?_
    refine wp_forT trP (st := fun w : List Nat => ⟨[.val (tsP d.2.1), .val (rsP th), .val (tsT ts), .val (rsP w), .no, .no], []⟩) (fun w o => (triedT d w o).1) (fun _ w => w.length = th.length) ?hok ts (zerosT th) ?turn ?inv ?fin
    case hok => exact fun _ _ _ => trivial
    case inv => simp [zerosT]
    case turn =>
      intro n w inv o ho
      have q := law_tried_eq V inv (by omega) (C.tr o ho)
      simp [rho0, slotOf, look, ixOf, getC, setC, getM, setM, getL, MC.look, MC.pd, killS, turnQ, lkOf, outB, iosOf, arsOf, wp_tail, mAppend, mExtend, mPop, wp_dFor, wp_dComp, wp_dIterV, wp_dSeqs, slOkN, lendR, lendB, unS, compEnd, enumD_eq, q]
      rw [triedT_len]
      exact inv
    case fin =>
      intro _
      simp [rho0, slotOf, look, ixOf, getC, setC, getM, setM, getL, MC.look, MC.pd, killS, turnQ, lkOf, outB, iosOf, arsOf, wp_tail, mAppend, mExtend, mPop, wp_dFor, wp_dComp, wp_dIterV, wp_dSeqs, slOkN, lendR, lendB, unS, compEnd, enumD_eq, endT]
end K11

set_option Elab.async false
set_option linter.all false
set_option maxRecDepth 100000
set_option maxHeartbeats 4000000
namespace K11
open PySem PySem.Spec Den
open PyProof.Rows L2

theorem pMul2 (v : Nat) : pMul (.int (v : Nat)) (.int 2) = some (.int ((v * 2 : Nat) : Int)) := by
  have h : -(2 ^ 64) < (2 : Int) ∧ (2 : Int) < 2 ^ 64 := by decide
  rw [pMul_r _ _ h]
  congr 2
/-- for any operation -/
theorem step_op {g : PD → PD → Option PD} {p0 p1 p2 p3 q : PD} (e : g p1 q = some p3) : Wp (dSet 1 (dOp2 g (dkVar 1) (dkE (mpure q)))) ⟨[.val p0, .val p1, .val p2], []⟩ (fun fl r => fl = .nx ∧ r = ⟨[.val p0, .val p3, .val p2], []⟩) (fun _ _ => False) := by
  simp [rho0, slotOf, look, ixOf, getC, setC, getM, setM, getL, MC.look, MC.pd, killS, turnQ, lkOf, outB, iosOf, arsOf, wp_tail, mAppend, mExtend, mPop, wp_dFor, wp_dComp, wp_dIterV, wp_dSeqs, slOkN, lendR, lendB, unS, compEnd, enumD_eq, e]
theorem law_power_eq {n : Nat} (hn : n ≤ 40) : F__law_power [.val (.int (n : Nat))] [] = (.ret (.int (2 ^ n : Nat)), []) := by
  refine runB_eq rfl ?_
  unfold g__law_power
  refine wp_seq (ρ1 := ⟨[.val (.int (n : Nat)), .val (.int 1), .no], []⟩) (by simp [rho0, slotOf, look, ixOf, getC, setC, getM, setM, getL, MC.look, MC.pd, killS, turnQ, lkOf, outB, iosOf, arsOf, wp_tail, mAppend, mExtend, mPop, wp_dFor, wp_dComp, wp_dIterV, wp_dSeqs, slOkN, lendR, lendB, unS, compEnd, enumD_eq]) ?_
  refine wp_seq (ρ1 := ⟨[.val (.int (n : Nat)), .val (.int (2 ^ n : Nat)), .no], []⟩) ?_ ?_
  · rw [wp_dFor]
    refine wp_at (a1 := ((List.range n).map nP, fun _ => True)) (ρ1 := ⟨[.val (.int (n : Nat)), .val (.int 1), .no], []⟩) (by simp [rho0, slotOf, look, ixOf, getC, setC, getM, setM, getL, MC.look, MC.pd, killS, turnQ, lkOf, outB, iosOf, arsOf, wp_tail, mAppend, mExtend, mPop, wp_dFor, wp_dComp, wp_dIterV, wp_dSeqs, slOkN, lendR, lendB, unS, compEnd, enumD_eq, small_of (show n ≤ 1000000 by omega)]) ?_
    refine wp_forGo (I := fun i ρ => ∃ v : Nat, v = 2 ^ i ∧ ρ = ⟨[.val (.int (n : Nat)), .val (.int (v : Nat)), .no], []⟩) _ (fun _ _ _ => trivial) ?_ ?_ ⟨1, rfl, rfl⟩
    · rintro ρ ⟨v, hv, rfl⟩
      rw [List.length_map, List.length_range] at hv
      rw [← hv]
      exact ⟨rfl, rfl⟩
    · rintro i ρ x hx ⟨v, hv, rfl⟩
      obtain ⟨rfl, hi⟩ := mem_range_nP hx
      refine ⟨_, rfl, ?_⟩
      have hq : v * 2 = 2 ^ (i + 1) := by rw [hv, Nat.pow_succ]
      have q := pMul2 v
      generalize pMul = g at q ⊢
      generalize v * 2 = v2 at q hq
      refine (step_op q).mono ?_ fun _ _ z => z.elim
      rintro fl r ⟨rfl, rfl⟩
      exact ⟨v2, hq, rfl⟩
  · generalize ((2 ^ n : Nat) : Int) = w
    simp [rho0, slotOf, look, ixOf, getC, setC, getM, setM, getL, MC.look, MC.pd, killS, turnQ, lkOf, outB, iosOf, arsOf, wp_tail, mAppend, mExtend, mPop, wp_dFor, wp_dComp, wp_dIterV, wp_dSeqs, slOkN, lendR, lendB, unS, compEnd, enumD_eq]
end K11

set_option Elab.async false
set_option linter.all false
set_option maxRecDepth 100000
set_option maxHeartbeats 4000000
namespace K11
open PySem PySem.Spec Den
open PyProof.Rows L2

section
variable {ρ : Rho} {t : Tg} {vs : List Nat} {ok : Rho → Prop} {tt : M Bool} {f : M PD}
/-- a comprehension over known things -/
theorem wp_compE {β : Type} (enc h : β → PD) (xs : List β) {Q : List PD → Rho → Prop} (hok : ok ρ)
    (hs : ∀ x ∈ xs, ∃ sl, bindT t (enc x) ρ.sl = some sl ∧ Wp f { ρ with sl := sl } (fun y ρ2 => y = h x ∧ killS vs ρ2 = ρ) (fun _ _ => False)) (q : Q (xs.map h) ρ) :
    Wp (compGo t vs ok (mpure true) f (xs.map enc)) ρ Q (fun _ _ => False) := by
  refine wp_compGo (I := fun i ys r => ys = (xs.take i).map h ∧ r = ρ) _ (fun i ys r hi => by rw [hi.2]; exact hok) ?_ ?_ ⟨rfl, rfl⟩
  · rintro ys r ⟨rfl, rfl⟩
    rw [List.length_map, List.take_length]
    exact q
  · rintro i ys r d hd ⟨rfl, rfl⟩
    rw [List.getElem?_map] at hd
    cases hx : xs[i]? with
    | none => rw [hx] at hd; cases hd
    | some x =>
      rw [hx] at hd
      cases hd
      obtain ⟨sl, h1, h2⟩ := hs x (List.mem_of_getElem? hx)
      refine ⟨sl, h1, ?_⟩
      rw [wp_pure, if_pos rfl]
      refine h2.mono (fun y ρ2 ⟨e1, e2⟩ => ⟨?_, e2⟩) fun _ _ z => z
      rw [e1, List.take_succ, hx]
      simp
/-- the same, with a test -/
theorem wp_compFE {β : Type} (enc h : β → PD) (p : β → Bool) (xs : List β) {Q : List PD → Rho → Prop} (hok : ok ρ)
    (hs : ∀ x ∈ xs, ∃ sl, bindT t (enc x) ρ.sl = some sl ∧ Wp tt { ρ with sl := sl } (fun b ρ1 => b = p x ∧ ρ1 = { ρ with sl := sl }) (fun _ _ => False) ∧ (p x = true → Wp f { ρ with sl := sl } (fun y ρ2 => y = h x ∧ killS vs ρ2 = ρ) (fun _ _ => False)) ∧ killS vs { ρ with sl := sl } = ρ) (q : Q ((xs.filter p).map h) ρ) :
    Wp (compGo t vs ok tt f (xs.map enc)) ρ Q (fun _ _ => False) := by
  refine wp_compGo (I := fun i ys r => ys = ((xs.take i).filter p).map h ∧ r = ρ) _ (fun i ys r hi => by rw [hi.2]; exact hok) ?_ ?_ ⟨rfl, rfl⟩
  · rintro ys r ⟨rfl, rfl⟩
    rw [List.length_map, List.take_length]
    exact q
  · rintro i ys r d hd ⟨rfl, rfl⟩
    rw [List.getElem?_map] at hd
    cases hx : xs[i]? with
    | none => rw [hx] at hd; cases hd
    | some x =>
      rw [hx] at hd
      cases hd
      obtain ⟨sl, h1, h2, h3, h4⟩ := hs x (List.mem_of_getElem? hx)
      have et : (xs.take (i + 1)).filter p = (xs.take i).filter p ++ if p x = true then [x] else [] := by
        rw [List.take_succ, hx, List.filter_append]
        simp [List.filter_cons]
      refine ⟨sl, h1, h2.mono (fun b ρ1 ⟨e1, e2⟩ => ?_) fun _ _ z => z⟩
      subst e1 e2
      by_cases hp : p x = true
      · rw [if_pos hp]
        refine (h3 hp).mono (fun y ρ2 ⟨e1, e2⟩ => ⟨?_, e2⟩) fun _ _ z => z
        rw [e1, et, if_pos hp]
        simp
      · rw [if_neg hp]
        refine ⟨?_, h4⟩
        rw [et, if_neg hp]
        simp
end
theorem enF_at : ∀ {k : Int} {ds : List PD} {i : Nat} {x : PD}, (enF k ds)[i]? = some x → ∃ y, x = .tuple [.int (k + i), y] ∧ ds[i]? = some y
  | _, [], i, x, h => by simp [enF] at h
  | k, d :: r, 0, x, h => by
    simp [enF] at h
    exact ⟨d, by rw [← h]; simp, rfl⟩
  | k, d :: r, i + 1, x, h => by
    rw [enF, List.getElem?_cons_succ] at h
    obtain ⟨y, h1, h2⟩ := enF_at h
    refine ⟨y, ?_, h2⟩
    rw [h1]
    rw [show k + 1 + (i : Int) = k + ((i + 1 : Nat) : Int) by omega]
/-! ### lots told by tuples or lists -/
theorem lot_wrong_v {n : Nat} {l : List Nat} (h : Lot n l) {v : PD} (hs : seqOf v = some (l.map nP)) : F_lot_wrong [.val v, .val (.int (n : Nat))] [] = (.ret (.int (-1)), []) := by
  refine runB_eq rfl ?_
  unfold g_lot_wrong
  refine wp_seq (ρ1 := ⟨[.val v, .val (.int (n : Nat)), .no, .no], []⟩) ?_ (by simp [rho0, slotOf, look, ixOf, getC, setC, getM, setM, getL, MC.look, MC.pd, killS, turnQ, lkOf, outB, iosOf, arsOf, wp_tail, mAppend, mExtend, mPop, wp_dFor, wp_dComp, wp_dIterV, wp_dSeqs, slOkN, lendR, lendB, unS, compEnd, enumD_eq])
  rw [wp_dFor]
  refine wp_at (a1 := (enF 0 (l.map nP), fun _ => True)) (ρ1 := ⟨[.val v, .val (.int (n : Nat)), .no, .no], []⟩) (by simp [rho0, slotOf, look, ixOf, getC, setC, getM, setM, getL, MC.look, MC.pd, killS, turnQ, lkOf, outB, iosOf, arsOf, wp_tail, mAppend, mExtend, mPop, wp_dFor, wp_dComp, wp_dIterV, wp_dSeqs, slOkN, lendR, lendB, unS, compEnd, enumD_eq, hs]) ?_
  refine wp_forGo (I := fun _ ρ => ρ = ⟨[.val v, .val (.int (n : Nat)), .no, .no], []⟩) _ (fun _ _ _ => trivial) (fun ρ hρ => ⟨rfl, hρ⟩) ?_ rfl
  rintro i ρ x hx rfl
  obtain ⟨j, y, rfl, hy⟩ := enF_mem_at (List.mem_of_getElem? hx)
  rw [List.getElem?_map] at hy
  cases hm : l[j]? with
  | none => rw [hm] at hy; cases hy
  | some m =>
    rw [hm] at hy
    cases hy
    have lt := h.lt m (List.mem_of_getElem? hm)
    have e1 : F_is_below [.val (.int (m : Nat)), .val (.int (n : Nat))] [] = (.ret (.bool true), []) := by
      rw [is_below_eq (m := 0) rfl]
      simp [belowB]
      exact lt
    simp only [bindT_tup, bindTs_cons, bindTs_nil, bindT_nm, Option.bind_some]
    refine ⟨_, rfl, ?_⟩
    rw [wp_dIf]
    refine wp_at (a1 := false) (ρ1 := ⟨[.val v, .val (.int (n : Nat)), .val (.int (0 + (j : Nat))), .val (nP m)], []⟩) ?_ ?_
    · cases j with
      | zero => simp [rho0, slotOf, look, ixOf, getC, setC, getM, setM, getL, MC.look, MC.pd, killS, turnQ, lkOf, outB, iosOf, arsOf, wp_tail, mAppend, mExtend, mPop, wp_dFor, wp_dComp, wp_dIterV, wp_dSeqs, slOkN, lendR, lendB, unS, compEnd, enumD_eq, e1, nP]
      | succ j =>
        have hj : j + 1 < l.length := by
          rcases Nat.lt_or_ge (j + 1) l.length with q | q
          · exact q
          · rw [List.getElem?_eq_none q] at hm; cases hm
        have hjj : j < l.length := by omega
        have e2 : pGet v (.int (j : Nat)) = some (.int (l[j] : Nat)) := by
          rw [pGet_seq hs]
          simp [nP, hjj]
        have e3 : l[j] < m := by
          have := List.pairwise_iff_getElem.mp h.asc j (j + 1) hjj hj (by omega)
          rw [List.getElem?_eq_getElem hj] at hm
          cases hm
          exact this
        have e4 : ((0 : Int) + ((j + 1 : Nat) : Int)) - 1 = (j : Nat) := by omega
        have e5 : (0 : Int) < 0 + ((j + 1 : Nat) : Int) := by omega
        have e6 : ¬ (m : Int) ≤ (l[j] : Nat) := by omega
        simp [rho0, slotOf, look, ixOf, getC, setC, getM, setM, getL, MC.look, MC.pd, killS, turnQ, lkOf, outB, iosOf, arsOf, wp_tail, mAppend, mExtend, mPop, wp_dFor, wp_dComp, wp_dIterV, wp_dSeqs, slOkN, lendR, lendB, unS, compEnd, enumD_eq, e1, e2, e4, e5, e6, nP]
        try omega
    · rw [if_neg (by decide), wp_dNext]
      rfl
theorem need_struck_v {th : List Nat} {ts : List Tr} {l : List Nat} (hf : ts.length ≤ 100) (h : Lot ts.length l) {v : PD} (hs : seqOf v = some (l.map nP)) (hfv : Fine v) : F_need_struck [.val (.tuple [rsP th, tsT ts]), .val v] [] = (.ret (rsP l), []) := by
  obtain ⟨m, hm⟩ := hfv
  have e1 : seqB v = true := by unfold seqB; rw [hs]; rfl
  have e2 : gLen [tsT ts] = some (.int ts.length) := by simp [tsT]
  have e3 : gTup [v] = some (rsP l) := gTup_seq hs
  refine runB_eq rfl ?_
  unfold g_need_struck
  simp [rho0, slotOf, look, ixOf, getC, setC, getM, setM, getL, MC.look, MC.pd, killS, turnQ, lkOf, outB, iosOf, arsOf, wp_tail, mAppend, mExtend, mPop, wp_dFor, wp_dComp, wp_dIterV, wp_dSeqs, slOkN, lendR, lendB, unS, compEnd, enumD_eq, is_sequence_eq hm, e1, e2, lot_wrong_v h hs, e3]
end K11

set_option Elab.async false
set_option linter.all false
set_option maxRecDepth 100000
set_option maxHeartbeats 4000000
namespace K11
open PySem PySem.Spec Den
open PyProof.Rows L2

/-! ### the worlds of all lots, as the program plays them -/
theorem lotW_append (d : Dk) (l : List Nat) : ∀ (xs ys : List Tr) (k : Nat) (ws : List (List Nat)), lotW d l k ws (xs ++ ys) = lotW d l (k + xs.length) (lotW d l k ws xs) ys
  | [], ys, k, ws => rfl
  | o :: r, ys, k, ws => by
    have ih := lotW_append d l r ys (k + 1)
    rw [List.cons_append, lotW, lotW, ih, List.length_cons]
    rw [show k + 1 + r.length = k + (r.length + 1) by omega]
theorem lotW_take (d : Dk) (l : List Nat) (ws : List (List Nat)) {ts : List Tr} {i : Nat} {o : Tr} (h : ts[i]? = some o) : lotW d l 0 ws (ts.take (i + 1)) = if i ∈ l then ((lotW d l 0 ws (ts.take i)).map fun w => (triedT d w o).1) ++ lotW d l 0 ws (ts.take i) else (lotW d l 0 ws (ts.take i)).map fun w => (triedT d w o).1 := by
  have hi : i < ts.length := by
    rcases Nat.lt_or_ge i ts.length with q | q
    · exact q
    · rw [List.getElem?_eq_none q] at h; cases h
  rw [List.take_succ, h]
  show lotW d l 0 ws (ts.take i ++ [o]) = _
  rw [lotW_append, lotW, lotW, List.length_take, Nat.min_eq_left (by omega), Nat.zero_add]
theorem lotW_map {d : Dk} {l : List Nat} : ∀ {ys : List Tr} {k : Nat} {ws : List (List Nat)}, (∀ x ∈ l, x < k) → lotW d l k ws ys = ys.foldl (fun ws o => ws.map fun w => (triedT d w o).1) ws
  | [], k, ws, _ => rfl
  | o :: r, k, ws, h => by
    have n1 : k ∉ l := fun q => Nat.lt_irrefl _ (h _ q)
    rw [lotW, if_neg n1, lotW_map (k := k + 1) (fun x hx => Nat.lt_succ_of_lt (h x hx))]
    rfl
def stL (d : Dk) (th : List Nat) (ts : List Tr) (v : PD) (l : List Nat) (s4 s9 : Slot) : Rho := ⟨[.val (deskP d), .val (.tuple [rsP th, tsT ts]), .val v, .val (rsP l), s4, .val (rsP th), .val (tsT ts), .no, .no, s9, .no, .no], []⟩
/-- as many worlds at one place -/
def Wsl (ws : List (List Nat)) (s : Slot) : Prop := s = .own (.lst (ws.map rsP)) ∨ s = .val (.list (ws.map rsP))
theorem pAdd_ll {xs ys : List PD} (h : xs.length + ys.length ≤ 10000) : pAdd (.list xs) (.list ys) = some (.list (xs ++ ys)) := if_pos (small_size h)
section
variable {F : FD} {d : Dk} {th : List Nat} {ts : List Tr} {v : PD} {l : List Nat} {o : Tr} {ws : List (List Nat)} {s : Slot} {i : Nat}
/-- all of the worlds, one try further -/
theorem turn_worlds (q : ∀ w ∈ ws, F [.val (deskP d), .val (rsP w), .val (trP o)] [] = (.ret (.tuple [rsP (triedT d w o).1, .bool (triedT d w o).2]), [])) (hs : Wsl ws s) (hn : ws.length ≤ 10000) :
    Wp (dSetF 9 (dComp (.nm 10) [10] (dIterV (dkE (dVar 4))) (mpure true) (dOp2 pGet (dkE (dCall F (.val (dVar 0) :: .val (dVar 10) :: .val (dVar 8) :: []))) (dkE (mpure (.int 0)))))) ⟨[.val (deskP d), .val (.tuple [rsP th, tsT ts]), .val v, .val (rsP l), s, .val (rsP th), .val (tsT ts), .val (nP i), .val (trP o), .no, .no, .no], []⟩
      (fun fl r => fl = .nx ∧ r = ⟨[.val (deskP d), .val (.tuple [rsP th, tsT ts]), .val v, .val (rsP l), .val (.list (ws.map rsP)), .val (rsP th), .val (tsT ts), .val (nP i), .val (trP o), .own (.lst ((ws.map fun w => (triedT d w o).1).map rsP)), .no, .no], []⟩) (fun _ _ => False) := by
  rw [wp_dSetF, wp_dComp]
  refine wp_at (a1 := (ws.map rsP, fun _ => True)) (ρ1 := ⟨[.val (deskP d), .val (.tuple [rsP th, tsT ts]), .val v, .val (rsP l), .val (.list (ws.map rsP)), .val (rsP th), .val (tsT ts), .val (nP i), .val (trP o), .no, .no, .no], []⟩) ?_ ?_
  · rcases hs with rfl | rfl <;> simp [rho0, slotOf, look, ixOf, getC, setC, getM, setM, getL, MC.look, MC.pd, killS, turnQ, lkOf, outB, iosOf, arsOf, wp_tail, mAppend, mExtend, mPop, wp_dFor, wp_dComp, wp_dIterV, wp_dSeqs, slOkN, lendR, lendB, unS, compEnd, enumD_eq]
  refine ⟨by rw [List.length_map]; exact small_size hn, ?_⟩
  refine wp_compE rsP (fun w => rsP (triedT d w o).1) ws trivial (fun w hw => ⟨_, rfl, ?_⟩) ?_
  · have q1 := q w hw
    simp [rho0, slotOf, look, ixOf, getC, setC, getM, setM, getL, MC.look, MC.pd, killS, turnQ, lkOf, outB, iosOf, arsOf, wp_tail, mAppend, mExtend, mPop, wp_dFor, wp_dComp, wp_dIterV, wp_dSeqs, slOkN, lendR, lendB, unS, compEnd, enumD_eq, q1]
  · rw [List.map_map]
    refine ⟨rfl, ?_⟩
    simp [rho0, slotOf, look, ixOf, getC, setC, getM, setM, getL, MC.look, MC.pd, killS, turnQ, lkOf, outB, iosOf, arsOf, wp_tail, mAppend, mExtend, mPop, wp_dFor, wp_dComp, wp_dIterV, wp_dSeqs, slOkN, lendR, lendB, unS, compEnd, enumD_eq]
    try rfl
theorem lot_worlds_eq (C : Cell d th ts) (h12 : ts.length ≤ 12) (h : Lot ts.length l) (hs : seqOf v = some (l.map nP)) (hfv : Fine v) : F_lot_worlds [.val (deskP d), .val (.tuple [rsP th, tsT ts]), .val v] [] = (.ret (wsP (lotW d l 0 [zerosT th] ts)), []) := by
  refine runB_eq rfl ?_
  unfold g_lot_worlds
  have hf := C.few
  have hl := C.len
  have V := C.D.v
  have e1 := need_struck_v (th := th) hf h hs hfv
  refine wp_seq (ρ1 := ⟨[.val (deskP d), .val (.tuple [rsP th, tsT ts]), .val v, .no, .no, .val (rsP th), .val (tsT ts), .no, .no, .no, .no, .no], []⟩) (by simp [rho0, slotOf, look, ixOf, getC, setC, getM, setM, getL, MC.look, MC.pd, killS, turnQ, lkOf, outB, iosOf, arsOf, wp_tail, mAppend, mExtend, mPop, wp_dFor, wp_dComp, wp_dIterV, wp_dSeqs, slOkN, lendR, lendB, unS, compEnd, enumD_eq, C.need]) ?_
  refine wp_seq (ρ1 := ⟨[.val (deskP d), .val (.tuple [rsP th, tsT ts]), .val v, .val (rsP l), .no, .val (rsP th), .val (tsT ts), .no, .no, .no, .no, .no], []⟩) (by simp [rho0, slotOf, look, ixOf, getC, setC, getM, setM, getL, MC.look, MC.pd, killS, turnQ, lkOf, outB, iosOf, arsOf, wp_tail, mAppend, mExtend, mPop, wp_dFor, wp_dComp, wp_dIterV, wp_dSeqs, slOkN, lendR, lendB, unS, compEnd, enumD_eq, e1]) ?_
  refine wp_seq (ρ1 := stL d th ts v l (.own (.lst ([zerosT th].map rsP))) .no) ?_ ?_
  · have hz : Wp (dComp (.nm 11) [11] (dIterV (dkE (dVar 5))) (mpure true) (mpure (.int 0))) ⟨[.val (deskP d), .val (.tuple [rsP th, tsT ts]), .val v, .val (rsP l), .no, .val (rsP th), .val (tsT ts), .no, .no, .no, .no, .no], []⟩ (fun ys r => ys = (zerosT th).map nP ∧ r = ⟨[.val (deskP d), .val (.tuple [rsP th, tsT ts]), .val v, .val (rsP l), .no, .val (rsP th), .val (tsT ts), .no, .no, .no, .no, .no], []⟩) (fun _ _ => False) := by
      rw [wp_dComp]
      refine wp_at (a1 := (th.map nP, fun _ => True)) (ρ1 := ⟨[.val (deskP d), .val (.tuple [rsP th, tsT ts]), .val v, .val (rsP l), .no, .val (rsP th), .val (tsT ts), .no, .no, .no, .no, .no], []⟩) (by simp [rho0, slotOf, look, ixOf, getC, setC, getM, setM, getL, MC.look, MC.pd, killS, turnQ, lkOf, outB, iosOf, arsOf, wp_tail, mAppend, mExtend, mPop, wp_dFor, wp_dComp, wp_dIterV, wp_dSeqs, slOkN, lendR, lendB, unS, compEnd, enumD_eq, rsP]) ?_
      refine ⟨by simp; exact Nat.le_trans hl (by decide), ?_⟩
      exact kinds_zero (ρ := ⟨[.val (deskP d), .val (.tuple [rsP th, tsT ts]), .val v, .val (rsP l), .no, .val (rsP th), .val (tsT ts), .no, .no, .no, .no, .no], []⟩) (by omega) (by simp) (by simp) ⟨rfl, by simp [rho0, slotOf, look, ixOf, getC, setC, getM, setM, getL, MC.look, MC.pd, killS, turnQ, lkOf, outB, iosOf, arsOf, wp_tail, mAppend, mExtend, mPop, wp_dFor, wp_dComp, wp_dIterV, wp_dSeqs, slOkN, lendR, lendB, unS, compEnd, enumD_eq]⟩
    generalize dComp (.nm 11) [11] (dIterV (dkE (dVar 5))) (mpure true) (mpure (.int 0)) = G2 at hz ⊢
    have hz' := ok_of_wp hz
    simp [rho0, slotOf, look, ixOf, getC, setC, getM, setM, getL, MC.look, MC.pd, killS, turnQ, lkOf, outB, iosOf, arsOf, wp_tail, mAppend, mExtend, mPop, wp_dFor, wp_dComp, wp_dIterV, wp_dSeqs, slOkN, lendR, lendB, unS, compEnd, enumD_eq, wp_of hz', stL]
    rfl
  refine wp_seqP (fun ρ => ∃ s, Wsl (lotW d l 0 [zerosT th] ts) s ∧ ρ = stL d th ts v l s .no) ?_ ?_
  · rw [wp_dFor]
    refine wp_at (a1 := (enF 0 (ts.map trP), fun _ => True)) (ρ1 := stL d th ts v l (.own (.lst ([zerosT th].map rsP))) .no) (by simp [rho0, slotOf, look, ixOf, getC, setC, getM, setM, getL, MC.look, MC.pd, killS, turnQ, lkOf, outB, iosOf, arsOf, wp_tail, mAppend, mExtend, mPop, wp_dFor, wp_dComp, wp_dIterV, wp_dSeqs, slOkN, lendR, lendB, unS, compEnd, enumD_eq, stL, tsT]) ?_
    refine wp_forGo (I := fun i ρ => ∃ s, (∀ w ∈ lotW d l 0 [zerosT th] (ts.take i), w.length = th.length) ∧ (lotW d l 0 [zerosT th] (ts.take i)).length ≤ 2 ^ i ∧ Wsl (lotW d l 0 [zerosT th] (ts.take i)) s ∧ ρ = stL d th ts v l s .no) _ (fun _ _ _ => trivial) ?_ ?_ ⟨_, by simp [lotW, zerosT], by simp [lotW], .inl rfl, rfl⟩
    · rintro ρ ⟨s, h1, h2, h3, rfl⟩
      have el : (enF 0 (ts.map trP)).length = ts.length := by simp
      rw [el, List.take_length] at h3
      exact ⟨rfl, s, h3, rfl⟩
    · rintro i ρ x hx ⟨s, h1, h2, h3, rfl⟩
      obtain ⟨hi, o, ho, rfl⟩ : i < ts.length ∧ ∃ o, ts[i]? = some o ∧ x = .tuple [nP i, trP o] := by
        have := enF_at hx
        rw [List.getElem?_map] at this
        obtain ⟨y, rfl, hy⟩ := this
        cases hm : ts[i]? with
        | none => rw [hm] at hy; cases hy
        | some o =>
          rw [hm] at hy
          cases hy
          refine ⟨?_, o, rfl, ?_⟩
          · rcases Nat.lt_or_ge i ts.length with q | q
            · exact q
            · rw [List.getElem?_eq_none q] at hm; cases hm
          · simp [nP]
      have ht := lotW_take d l [zerosT th] ho
      have pw : 2 ^ i ≤ 2 ^ 11 := Nat.pow_le_pow_right (by decide) (by omega)
      generalize lotW d l 0 [zerosT th] (ts.take i) = ws at h1 h2 h3 ht
      simp only [bindT_tup, bindTs_cons, bindTs_nil, bindT_nm, Option.bind_some]
      refine ⟨_, rfl, ?_⟩
      have q : ∀ w ∈ ws, F_tried [.val (deskP d), .val (rsP w), .val (trP o)] [] = (.ret (.tuple [rsP (triedT d w o).1, .bool (triedT d w o).2]), []) := fun w hw => tried_eq V (h1 w hw) (by omega) (C.tr o (List.mem_of_getElem? ho))
      refine wp_seq (turn_worlds q h3 (by omega)) ?_
      have e2 := pIn_t i l
      have ha := pAdd_ll (xs := (ws.map fun w => (triedT d w o).1).map rsP) (ys := ws.map rsP) (by simp; omega)
      rw [ht]
      by_cases hil : i ∈ l
      · refine wp_seq (ρ1 := ⟨[.val (deskP d), .val (.tuple [rsP th, tsT ts]), .val v, .val (rsP l), .val (.list (ws.map rsP)), .val (rsP th), .val (tsT ts), .val (nP i), .val (trP o), .val (.list (((ws.map fun w => (triedT d w o).1).map rsP) ++ ws.map rsP)), .no, .no], []⟩) (by simp [rho0, slotOf, look, ixOf, getC, setC, getM, setM, getL, MC.look, MC.pd, killS, turnQ, lkOf, outB, iosOf, arsOf, wp_tail, mAppend, mExtend, mPop, wp_dFor, wp_dComp, wp_dIterV, wp_dSeqs, slOkN, lendR, lendB, unS, compEnd, enumD_eq, e2, hil, -List.map_map, ha]) ?_
        rw [if_pos hil]
        simp only [wp_dSet, wp_dVar]
        refine ⟨_, ?_, ?_, .inr rfl, ?_⟩
        · intro w hw
          rcases List.mem_append.mp hw with q | q
          · obtain ⟨w', hw', rfl⟩ := List.mem_map.mp q
            rw [triedT_len]
            exact h1 w' hw'
          · exact h1 w q
        · rw [List.length_append, List.length_map, Nat.pow_succ]; omega
        · simp [rho0, slotOf, look, ixOf, getC, setC, getM, setM, getL, MC.look, MC.pd, killS, turnQ, lkOf, outB, iosOf, arsOf, wp_tail, mAppend, mExtend, mPop, wp_dFor, wp_dComp, wp_dIterV, wp_dSeqs, slOkN, lendR, lendB, unS, compEnd, enumD_eq, stL]
      · refine wp_seq (ρ1 := ⟨[.val (deskP d), .val (.tuple [rsP th, tsT ts]), .val v, .val (rsP l), .val (.list (ws.map rsP)), .val (rsP th), .val (tsT ts), .val (nP i), .val (trP o), .own (.lst ((ws.map fun w => (triedT d w o).1).map rsP)), .no, .no], []⟩) (by simp [rho0, slotOf, look, ixOf, getC, setC, getM, setM, getL, MC.look, MC.pd, killS, turnQ, lkOf, outB, iosOf, arsOf, wp_tail, mAppend, mExtend, mPop, wp_dFor, wp_dComp, wp_dIterV, wp_dSeqs, slOkN, lendR, lendB, unS, compEnd, enumD_eq, e2, hil]) ?_
        rw [if_neg hil]
        simp only [wp_dSet, wp_dVar]
        refine ⟨_, ?_, ?_, .inr rfl, ?_⟩
        · intro w hw
          obtain ⟨w', hw', rfl⟩ := List.mem_map.mp hw
          rw [triedT_len]
          exact h1 w' hw'
        · rw [List.length_map, Nat.pow_succ]; omega
        · simp [rho0, slotOf, look, ixOf, getC, setC, getM, setM, getL, MC.look, MC.pd, killS, turnQ, lkOf, outB, iosOf, arsOf, wp_tail, mAppend, mExtend, mPop, wp_dFor, wp_dComp, wp_dIterV, wp_dSeqs, slOkN, lendR, lendB, unS, compEnd, enumD_eq, stL]
  · rintro ρ ⟨s, hsl, rfl⟩
    unfold wsP
    rcases hsl with rfl | rfl <;> simp [rho0, slotOf, look, ixOf, getC, setC, getM, setM, getL, MC.look, MC.pd, killS, turnQ, lkOf, outB, iosOf, arsOf, wp_tail, mAppend, mExtend, mPop, wp_dFor, wp_dComp, wp_dIterV, wp_dSeqs, slOkN, lendR, lendB, unS, compEnd, enumD_eq, stL]
end
end K11

set_option Elab.async false
set_option linter.all false
set_option maxRecDepth 100000
set_option maxHeartbeats 4000000
namespace K11
open PySem PySem.Spec Den
open PyProof.Rows L2

theorem law_less_v {d : Dk} {th : List Nat} {ts : List Tr} (C : Cell d th ts) {l : List Nat} {v : PD} (hv : ∀ j : Nat, pNotIn (nP j) v = some (.bool (decide (j ∉ l)))) : F__law_less [.val (tsT ts), .val v] [] = (.ret (tsT (lessT l 0 ts)), []) := by
  refine runB_eq rfl ?_
  unfold g__law_less
  have hf := C.few
  have gl : gLen [tsT ts] = some (.int ts.length) := by simp [tsT]
  rw [wp_dRet, wp_dCB, wp_dKs, wp_dkE, wp_bind, wp_dComp]
  refine wp_at (a1 := ((List.range ts.length).map nP, fun _ => True)) (ρ1 := ⟨[.val (tsT ts), .val v, .no], []⟩) (by simp [rho0, slotOf, look, ixOf, getC, setC, getM, setM, getL, MC.look, MC.pd, killS, turnQ, lkOf, outB, iosOf, arsOf, wp_tail, mAppend, mExtend, mPop, wp_dFor, wp_dComp, wp_dIterV, wp_dSeqs, slOkN, lendR, lendB, unS, compEnd, enumD_eq, gl, small_of (show ts.length ≤ 1000000 by omega)]) ?_
  refine ⟨by simp; exact Nat.le_trans hf (by decide), ?_⟩
  refine wp_compFE nP (fun i => trP (ts.getD i (0, []))) (fun i => decide (i ∉ l)) _ trivial (fun j hj => ⟨_, rfl, ?_, fun _ => ?_, by simp [rho0, slotOf, look, ixOf, getC, setC, getM, setM, getL, MC.look, MC.pd, killS, turnQ, lkOf, outB, iosOf, arsOf, wp_tail, mAppend, mExtend, mPop, wp_dFor, wp_dComp, wp_dIterV, wp_dSeqs, slOkN, lendR, lendB, unS, compEnd, enumD_eq]⟩) ?_
  · simp [rho0, slotOf, look, ixOf, getC, setC, getM, setM, getL, MC.look, MC.pd, killS, turnQ, lkOf, outB, iosOf, arsOf, wp_tail, mAppend, mExtend, mPop, wp_dFor, wp_dComp, wp_dIterV, wp_dSeqs, slOkN, lendR, lendB, unS, compEnd, enumD_eq, hv j]
  · have hjt : j < ts.length := List.mem_range.mp hj
    have e3 : pGet (tsT ts) (nP j) = some (trP ts[j]) := by simp [tsT, nP, hjt]
    simp [rho0, slotOf, look, ixOf, getC, setC, getM, setM, getL, MC.look, MC.pd, killS, turnQ, lkOf, outB, iosOf, arsOf, wp_tail, mAppend, mExtend, mPop, wp_dFor, wp_dComp, wp_dIterV, wp_dSeqs, slOkN, lendR, lendB, unS, compEnd, enumD_eq, e3, hjt]
  · have := filI_eq (0, []) (fun i _ => decide (i ∉ l)) ts
    have e : ((List.range ts.length).filter fun i => decide (i ∉ l)).map (fun i => trP (ts.getD i (0, []))) = (lessT l 0 ts).map trP := by
      unfold lessT
      rw [← this, List.map_map]
      rfl
    rw [e]
    simp only [wp_pure, wp_dkE, looks_cons, looks_nil, look_d, ho_some, gTup_l]
    rfl
/-- a digit of a number, as the law finds it -/
theorem bit_iff (b n : Nat) : decide (b / 2 ^ n % 2 = 1) = b.testBit n := by
  rw [Nat.testBit_eq_decide_div_mod_eq]
section
variable {FP : FD} {ρ : Rho} {i j : Nat}
theorem bit_ok {b n c : Nat} {k : M Pk} {p : Pk} (hp : FP [.val (nP n)] [] = (.ret (.int (2 ^ n : Nat)), [])) (hn : n ≤ 40) (hi : ρ.sl[i]? = some (.val (nP b))) (hj : ρ.sl[j]? = some (.val (nP n))) (hc : ∀ Q E, Wp k ρ Q E = Q p ρ) (hl : look p ρ = some (nP c)) :
    Wp (asB (dOp2 pEq (dkE (dOp2 pMod (dkE (dOp2 pFdiv (dkE (dCB gInt (dKs (dkVar i) (mpure [])))) (dkE (dCall FP (.val (dVar j) :: []))))) (dkE (mpure (.int 2))))) k)) ρ (fun x r => x = decide (b / 2 ^ n % 2 = c) ∧ r = ρ) (fun _ _ => False) := by
  have h1 : pFdiv (.int (b : Nat)) (.int ((2 ^ n : Nat) : Int)) = some (.int ((b / 2 ^ n : Nat) : Int)) := by
    have p0 : 0 < 2 ^ n := Nat.two_pow_pos n
    have p1 : 2 ^ n ≤ 2 ^ 40 := Nat.pow_le_pow_right (by decide) hn
    have p2 : (2 : Nat) ^ 40 < 2 ^ 64 := by decide
    generalize 2 ^ n = w at p0 p1
    rw [pFdiv_ii _ _ (by omega) (by omega)]
    congr 2
  have h2 : pMod (.int ((b / 2 ^ n : Nat) : Int)) (.int 2) = some (nP (b / 2 ^ n % 2)) := by
    rw [pMod_ii _ _ (by decide)]
    congr 2
  have h3 : pEq (nP (b / 2 ^ n % 2)) (nP c) = some (.bool (decide (b / 2 ^ n % 2 = c))) := by
    generalize b / 2 ^ n % 2 = m
    unfold nP
    rw [pEq_ii]
    congr 2
    rw [Bool.eq_iff_iff, decide_eq_true_iff, decide_eq_true_iff]
    exact Int.ofNat_inj
  have h5 : look (.sl i) ρ = some (nP b) := by simp [look, hi]
  generalize b / 2 ^ n = w at h1 h2 h3 ⊢
  generalize ((2 ^ n : Nat) : Int) = w2 at h1 hp
  have h4 : gInt [nP b] = some (.int (b : Nat)) := rfl
  simp [rho0, slotOf, look, ixOf, getC, setC, getM, setM, getL, MC.look, MC.pd, killS, turnQ, lkOf, outB, iosOf, arsOf, wp_tail, mAppend, mExtend, mPop, wp_dFor, wp_dComp, wp_dIterV, wp_dSeqs, slOkN, lendR, lendB, unS, compEnd, enumD_eq, -look, h5, hi, hj, hc, hl, hp, h1, h2, h3, h4]
end
end K11

set_option Elab.async false
set_option linter.all false
set_option maxRecDepth 100000
set_option maxHeartbeats 4000000
namespace K11
open PySem PySem.Spec Den
open PyProof.Rows L2

section
variable {d : Dk} {th : List Nat} {ts : List Tr} {l : List Nat}
def stQ (d : Dk) (th : List Nat) (ts : List Tr) (l : List Nat) (ws : List (List Nat)) : Rho := ⟨[.val (tsP d.2.1), .val (rsP th), .val (tsT ts), .val (rsP l), .own (.lst (ws.map rsP)), .no, .no, .no], []⟩
theorem strk_ok (hl : l.length ≤ 40) (b : Nat) {s0 s1 s2 s4 : Slot} : Wp (dSetF 6 (dComp (.nm 7) [7] (dRange1 (dEs (dCB gLen (dKs (dkVar 3) (mpure []))) (mpure []))) (asB (dOp2 pEq (dkE (dOp2 pMod (dkE (dOp2 pFdiv (dkE (dCB gInt (dKs (dkVar 5) (mpure [])))) (dkE (dCall F__law_power (.val (dVar 7) :: []))))) (dkE (mpure (.int 2))))) (dkE (mpure (.int 1))))) (dOp2 pGet (dkVar 3) (dkVar 7))))
    ⟨[s0, s1, s2, .val (rsP l), s4, .val (nP b), .no, .no], []⟩ (fun fl r => fl = .nx ∧ r = ⟨[s0, s1, s2, .val (rsP l), s4, .val (nP b), .own (.lst ((strk l b).map nP)), .no], []⟩) (fun _ _ => False) := by
  have gl : gLen [rsP l] = some (.int l.length) := by simp [rsP]
  rw [wp_dSetF, wp_dComp]
  refine wp_at (a1 := ((List.range l.length).map nP, fun _ => True)) (ρ1 := ⟨[s0, s1, s2, .val (rsP l), s4, .val (nP b), .no, .no], []⟩) (by simp [rho0, slotOf, look, ixOf, getC, setC, getM, setM, getL, MC.look, MC.pd, killS, turnQ, lkOf, outB, iosOf, arsOf, wp_tail, mAppend, mExtend, mPop, wp_dFor, wp_dComp, wp_dIterV, wp_dSeqs, slOkN, lendR, lendB, unS, compEnd, enumD_eq, gl, small_of (show l.length ≤ 1000000 by omega)]) ?_
  refine ⟨by simp; exact Nat.le_trans hl (by decide), ?_⟩
  refine wp_compFE nP (fun i => nP (l.getD i 0)) (fun i => b.testBit i) _ trivial (fun j hj => ⟨_, rfl, ?_, fun _ => ?_, by simp [rho0, slotOf, look, ixOf, getC, setC, getM, setM, getL, MC.look, MC.pd, killS, turnQ, lkOf, outB, iosOf, arsOf, wp_tail, mAppend, mExtend, mPop, wp_dFor, wp_dComp, wp_dIterV, wp_dSeqs, slOkN, lendR, lendB, unS, compEnd, enumD_eq]⟩) ?_
  · have hjt : j < l.length := List.mem_range.mp hj
    rw [← bit_iff]
    exact bit_ok (p := .d (nP 1)) (law_power_eq (by omega)) (by omega) rfl rfl (fun Q E => by rw [wp_dkE, wp_pure]; rfl) rfl
  · have hjt : j < l.length := List.mem_range.mp hj
    have e3 : pGet (rsP l) (nP j) = some (nP l[j]) := by simp [rsP, nP, hjt]
    simp [rho0, slotOf, look, ixOf, getC, setC, getM, setM, getL, MC.look, MC.pd, killS, turnQ, lkOf, outB, iosOf, arsOf, wp_tail, mAppend, mExtend, mPop, wp_dFor, wp_dComp, wp_dIterV, wp_dSeqs, slOkN, lendR, lendB, unS, compEnd, enumD_eq, e3, hjt]
  · have := filI_eq 0 (fun i _ => b.testBit i) l
    have e : ((List.range l.length).filter fun i => b.testBit i).map (fun i => nP (l.getD i 0)) = (strk l b).map nP := by
      unfold strk
      rw [← this, List.map_map]
      rfl
    rw [e]
    exact ⟨rfl, by simp [rho0, slotOf, look, ixOf, getC, setC, getM, setM, getL, MC.look, MC.pd, killS, turnQ, lkOf, outB, iosOf, arsOf, wp_tail, mAppend, mExtend, mPop, wp_dFor, wp_dComp, wp_dIterV, wp_dSeqs, slOkN, lendR, lendB, unS, compEnd, enumD_eq]⟩
section
variable {FE FL : FD} {p0 p1 p2 p3 q e : PD} {xs ys : List PD} {s5 : Slot}
theorem step_cube (hx : xs.length < 10000000) (h1 : FL [.val p2, .val (.list ys)] [] = (.ret q, [])) (h2 : FE [.val p0, .val p1, .val q] [] = (.ret e, [])) : Wp (dDrop (dMeth 4 mAppend (dEs (dCall FE (.val (dVar 0) :: .val (dVar 1) :: .val (dCall FL (.val (dVar 2) :: .val (dVar 6) :: [])) :: [])) (mpure [])))) ⟨[.val p0, .val p1, .val p2, .val p3, .own (.lst xs), s5, .own (.lst ys), .no], []⟩ (fun fl r => fl = .nx ∧ r = ⟨[.val p0, .val p1, .val p2, .val p3, .own (.lst (xs ++ [e])), s5, .val (.list ys), .no], []⟩) (fun _ _ => False) := by
  simp [rho0, slotOf, look, ixOf, getC, setC, getM, setM, getL, MC.look, MC.pd, killS, turnQ, lkOf, outB, iosOf, arsOf, wp_tail, mAppend, mExtend, mPop, wp_dFor, wp_dComp, wp_dIterV, wp_dSeqs, slOkN, lendR, lendB, unS, compEnd, enumD_eq, h1, h2, hx]
end
section
variable {FP : FD} {p0 p1 p2 p3 : PD} {s4 : Slot} {n w : Nat}
theorem step_rng (gl : gLen [p3] = some (.int n)) (hp : FP [.val (.int n)] [] = (.ret (.int w), [])) (hs : smallI (w : Int) = true) : Wp (dRange1 (dEs (dCall FP (.val (dCB gLen (dKs (dkVar 3) (mpure []))) :: [])) (mpure []))) ⟨[.val p0, .val p1, .val p2, .val p3, s4, .no, .no, .no], []⟩ (fun a r => a = ((List.range w).map nP, fun _ => True) ∧ r = ⟨[.val p0, .val p1, .val p2, .val p3, s4, .no, .no, .no], []⟩) (fun _ _ => False) := by
  simp [rho0, slotOf, look, ixOf, getC, setC, getM, setM, getL, MC.look, MC.pd, killS, turnQ, lkOf, outB, iosOf, arsOf, wp_tail, mAppend, mExtend, mPop, wp_dFor, wp_dComp, wp_dIterV, wp_dSeqs, slOkN, lendR, lendB, unS, compEnd, enumD_eq, gl, hp, hs]
end
theorem law_cube_eq (C : Cell d th ts) (hl : l.length ≤ 4) : F__law_cube [.val (tsP d.2.1), .val (rsP th), .val (tsT ts), .val (rsP l)] [] = (.ret (wsP (cube d (zerosT th) l ts)), []) := by
  refine runB_eq rfl ?_
  unfold g__law_cube
  have gl : gLen [rsP l] = some (.int (l.length : Nat)) := by simp [rsP]
  have hp := law_power_eq (n := l.length) (by omega)
  have pw : 2 ^ l.length ≤ 2 ^ 4 := Nat.pow_le_pow_right (by decide) hl
  refine wp_seq (ρ1 := stQ d th ts l []) (by simp [rho0, slotOf, look, ixOf, getC, setC, getM, setM, getL, MC.look, MC.pd, killS, turnQ, lkOf, outB, iosOf, arsOf, wp_tail, mAppend, mExtend, mPop, wp_dFor, wp_dComp, wp_dIterV, wp_dSeqs, slOkN, lendR, lendB, unS, compEnd, enumD_eq, stQ]) ?_
  refine wp_seq (ρ1 := stQ d th ts l (cube d (zerosT th) l ts)) ?_ (by simp [rho0, slotOf, look, ixOf, getC, setC, getM, setM, getL, MC.look, MC.pd, killS, turnQ, lkOf, outB, iosOf, arsOf, wp_tail, mAppend, mExtend, mPop, wp_dFor, wp_dComp, wp_dIterV, wp_dSeqs, slOkN, lendR, lendB, unS, compEnd, enumD_eq, stQ, wsP])
  rw [wp_dFor]
  refine wp_at (a1 := ((List.range (2 ^ l.length)).map nP, fun _ => True)) (ρ1 := stQ d th ts l []) (step_rng gl hp (small_of (show 2 ^ l.length ≤ 1000000 by omega))) ?_
  refine wp_forGo (I := fun i ρ => ρ = stQ d th ts l ((List.range i).map fun b => endT d (zerosT th) (lessT (strk l b) 0 ts))) _ (fun _ _ _ => trivial) ?_ ?_ rfl
  · rintro ρ rfl
    rw [List.length_map, List.length_range]
    have e : (List.range (2 ^ l.length)).map (fun b => endT d (zerosT th) (lessT (strk l b) 0 ts)) = cube d (zerosT th) l ts := rfl
    rw [e]
    exact ⟨rfl, rfl⟩
  · rintro b ρ x hx rfl
    obtain ⟨rfl, hb⟩ := mem_range_nP hx
    refine ⟨_, rfl, ?_⟩
    refine wp_seq (strk_ok (by omega) b) ?_
    have q1 := law_less_v C (l := strk l b) (v := .list ((strk l b).map nP)) (fun j => pNotIn_nP j _)
    have q2 := law_end_eq (C.less (strk l b) 0)
    refine (step_cube (by rw [List.length_map, List.length_map, List.length_range]; omega) q1 q2).mono ?_ fun _ _ z => z.elim
    rintro fl r ⟨rfl, rfl⟩
    show _ = _
    simp [rho0, slotOf, look, ixOf, getC, setC, getM, setM, getL, MC.look, MC.pd, killS, turnQ, lkOf, outB, iosOf, arsOf, wp_tail, mAppend, mExtend, mPop, wp_dFor, wp_dComp, wp_dIterV, wp_dSeqs, slOkN, lendR, lendB, unS, compEnd, enumD_eq, stQ, List.range_succ]
/-- the face of worlds -/
theorem law_face_eq {ws : List (List Nat)} (hw : ws.length ≤ 10000) {p s : Nat} (hp : p ≤ 40) (hs : s < 2) : F__law_face [.val (wsP ws), .val (nP p), .val (nP s)] [] = (.ret (wsP (faceL p (decide (s = 1)) ws)), []) := by
  refine runB_eq rfl ?_
  unfold g__law_face
  have gl : gLen [wsP ws] = some (.int ws.length) := by simp [wsP]
  rw [wp_dRet, wp_dCB, wp_dKs, wp_dkE, wp_bind, wp_dComp]
  refine wp_at (a1 := ((List.range ws.length).map nP, fun _ => True)) (ρ1 := ⟨[.val (wsP ws), .val (nP p), .val (nP s), .no], []⟩) (by simp [rho0, slotOf, look, ixOf, getC, setC, getM, setM, getL, MC.look, MC.pd, killS, turnQ, lkOf, outB, iosOf, arsOf, wp_tail, mAppend, mExtend, mPop, wp_dFor, wp_dComp, wp_dIterV, wp_dSeqs, slOkN, lendR, lendB, unS, compEnd, enumD_eq, gl, small_of (show ws.length ≤ 1000000 by omega)]) ?_
  refine ⟨by simp; exact small_size hw, ?_⟩
  refine wp_compFE nP (fun i => rsP (ws.getD i [])) (fun i => i.testBit p == decide (s = 1)) _ trivial (fun j hj => ⟨_, rfl, ?_, fun _ => ?_, by simp [rho0, slotOf, look, ixOf, getC, setC, getM, setM, getL, MC.look, MC.pd, killS, turnQ, lkOf, outB, iosOf, arsOf, wp_tail, mAppend, mExtend, mPop, wp_dFor, wp_dComp, wp_dIterV, wp_dSeqs, slOkN, lendR, lendB, unS, compEnd, enumD_eq]⟩) ?_
  · have e : (j.testBit p == decide (s = 1)) = decide (j / 2 ^ p % 2 = s) := by
      rw [← bit_iff, Bool.eq_iff_iff]
      simp
      omega
    rw [e]
    exact bit_ok (p := .sl 2) (law_power_eq hp) hp rfl rfl (fun Q E => by rw [wp_dkVar]; rfl) rfl
  · have hjt : j < ws.length := List.mem_range.mp hj
    have e3 : pGet (wsP ws) (nP j) = some (rsP ws[j]) := by simp [wsP, nP, hjt]
    simp [rho0, slotOf, look, ixOf, getC, setC, getM, setM, getL, MC.look, MC.pd, killS, turnQ, lkOf, outB, iosOf, arsOf, wp_tail, mAppend, mExtend, mPop, wp_dFor, wp_dComp, wp_dIterV, wp_dSeqs, slOkN, lendR, lendB, unS, compEnd, enumD_eq, e3, hjt]
  · have := filI_eq [] (fun i _ => i.testBit p == decide (s = 1)) ws
    have e : ((List.range ws.length).filter fun i => i.testBit p == decide (s = 1)).map (fun i => rsP (ws.getD i [])) = (faceL p (decide (s = 1)) ws).map rsP := by
      unfold faceL
      rw [← this, List.map_map]
      rfl
    rw [e]
    simp only [wp_pure, wp_dkE, looks_cons, looks_nil, look_d, ho_some, gTup_l]
    rfl
end
end K11

set_option Elab.async false
set_option linter.all false
set_option maxRecDepth 100000
set_option maxHeartbeats 4000000
namespace K11
open PySem PySem.Spec Den
open PyProof.Rows L2

mutual
theorem eqv_refl : ∀ d : PD, plainD d = true → PyData.eqv d d = true
  | .none, _ => by simp [PyData.eqv]
  | .bool _, _ => by simp [PyData.eqv]
  | .int _, _ => by simp [PyData.eqv]
  | .str _, _ => by simp [PyData.eqv]
  | .list xs, h => by
    rw [PyData.eqv]
    exact eqvAll_refl xs (by simpa [plainD] using h)
  | .tuple xs, h => by
    rw [PyData.eqv]
    exact eqvAll_refl xs (by simpa [plainD] using h)
  | .dict _, h => by simp [plainD] at h
theorem eqvAll_refl : ∀ ds : List PD, plainDs ds = true → PyData.eqvAll ds ds = true
  | [], _ => by simp [PyData.eqvAll]
  | d :: r, h => by
    rw [plainDs, Bool.and_eq_true] at h
    rw [PyData.eqvAll, eqv_refl d h.1, eqvAll_refl r h.2]
    rfl
end
theorem pNe_same {n : Nat} {d : PD} (h : OkN n d) (l : n ≤ 64 := by decide) : pNe d d = some (.bool false) := by
  rw [pNe_ok h h l l, eqv_refl d h.pl]
  rfl
theorem wsP_ne (ws : List (List Nat)) : pNe (wsP ws) (wsP ws) = some (.bool false) := pNe_same (n := 2) (okN_tup fun x hx => by
  obtain ⟨w, _, rfl⟩ := List.mem_map.mp hx
  exact okN_rsP 0 w)
/-! ### an answer, in plain words -/
theorem less_one_len {x : Nat} : ∀ (ts : List Tr) (k : Nat), k ≤ x → x < k + ts.length → (lessT [x] k ts).length = ts.length - 1
  | [], k, h1, h2 => by simp at h2; omega
  | o :: r, k, h1, h2 => by
    unfold lessT
    rw [filI]
    by_cases he : k = x
    · subst he
      have := lessT_none (x := k) r (k + 1) (by omega)
      unfold lessT at this
      rw [this]
      simp
    · have ih := less_one_len (x := x) r (k + 1) (by omega) (by simp at h2; omega)
      unfold lessT at ih
      have h0 : decide (k ∉ [x]) = true := by simp [he]
      rw [if_pos h0, List.length_cons, ih, List.length_cons]
      rw [List.length_cons] at h2
      omega
theorem Lot.cut {n : Nat} {l1 l2 : List Nat} {x : Nat} (h : Lot n (l1 ++ x :: l2)) : Lot n (l1 ++ l2) where
  asc := by
    have hp := List.pairwise_append.mp h.asc
    refine List.pairwise_append.mpr ⟨hp.1, (List.pairwise_cons.mp hp.2.1).2, fun a ha b hb => hp.2.2 a ha b (List.mem_cons_of_mem _ hb)⟩
  lt := fun y hy => h.lt y (by
    rcases List.mem_append.mp hy with q | q
    · exact List.mem_append_left _ q
    · exact List.mem_append_right _ (List.mem_cons_of_mem _ q))
  len := by have := h.len; simp at this ⊢; omega
theorem Lot.down {n : Nat} {l1 l2 : List Nat} {x : Nat} (h : Lot n (l1 ++ x :: l2)) : Lot (n - 1) (l1 ++ l2.map (· - 1)) := by
  have hp := List.pairwise_append.mp h.asc
  have hx1 : ∀ y ∈ l1, y < x := fun y hy => hp.2.2 y hy x List.mem_cons_self
  have hx2 : ∀ y ∈ l2, x < y := (List.pairwise_cons.mp hp.2.1).1
  have hn : x < n := h.lt x (by simp)
  have hl2 : ∀ y ∈ l2, y < n := fun y hy => h.lt y (by simp [hy])
  refine ⟨List.pairwise_append.mpr ⟨hp.1, List.pairwise_map.mpr ?_, fun a ha b hb => ?_⟩, fun y hy => ?_, by have := h.len; simp at this ⊢; omega⟩
  · refine (List.pairwise_cons.mp hp.2.1).2.imp_of_mem fun {a b} ha hb hab => ?_
    have := hx2 a ha
    omega
  · obtain ⟨c, hc, rfl⟩ := List.mem_map.mp hb
    have := hx1 a ha
    have := hx2 c hc
    omega
  · rcases List.mem_append.mp hy with q | q
    · have := hx1 y q; omega
    · obtain ⟨c, hc, rfl⟩ := List.mem_map.mp q
      have := hx2 c hc
      have := hl2 c hc
      omega
theorem down_eq {l1 l2 : List Nat} {x : Nat} (h : (l1 ++ x :: l2).Pairwise (· < ·)) : (l1 ++ l2).map (fun y => if x < y then y - 1 else y) = l1 ++ l2.map (· - 1) := by
  have hp := List.pairwise_append.mp h
  have hx1 : ∀ y ∈ l1, y < x := fun y hy => hp.2.2 y hy x List.mem_cons_self
  have hx2 : ∀ y ∈ l2, x < y := (List.pairwise_cons.mp hp.2.1).1
  rw [List.map_append]
  congr 1
  · have : ∀ y ∈ l1, (fun y => if x < y then y - 1 else y) y = id y := fun y hy => by
      have := hx1 y hy
      show (if x < y then y - 1 else y) = y
      rw [if_neg (by omega)]
    rw [List.map_congr_left this, List.map_id]
  · refine List.map_congr_left fun y hy => ?_
    rw [if_pos (hx2 y hy)]
/-! ### the steps of a turn -/
def stA (p1 p2 p3 : PD) (s4 s5 s6 s7 s8 s9 s10 : Slot) (b : List PD) : Rho := ⟨[.io 0, .val p1, .val p2, .val p3, s4, s5, s6, s7, s8, s9, s10, .no], [.lst b]⟩
def Nsl (xs : List PD) (s : Slot) : Prop := s = .own (.lst xs) ∨ s = .val (.list xs)
theorem cut_lo (xs : List PD) (p : Nat) : pSl (.list xs) none (some (p : Int)) = some (.list (xs.take p)) := by
  show some (PyData.list (Den.cutD xs none (some (p : Int)))) = _
  unfold Den.cutD
  rw [HT.sIx_none, HT.sIx_nat, List.drop_zero, Nat.sub_zero, ← List.take_eq_take_min]
theorem cut_hi (xs : List PD) (p : Nat) : pSl (.list xs) (some (p : Int)) none = some (.list (xs.drop p)) := by
  show some (PyData.list (Den.cutD xs (some (p : Int)) none)) = _
  unfold Den.cutD
  rw [HT.sIx_none, HT.sIx_nat]
  congr 2
  by_cases h : p ≤ xs.length
  · rw [Nat.min_eq_left h, List.take_of_length_le (by simp)]
  · rw [Nat.min_eq_right (by omega), List.drop_eq_nil_of_le (Nat.le_refl _), List.drop_eq_nil_of_le (by omega), List.take_nil]
section
variable {FA FB : FD} {p1 p2 p3 q1 q2 v w : PD} {s4 s5 s6 s7 s8 s9 s10 : Slot} {b b1 b2 : List PD} {xs : List PD} {n : Int}
theorem stepA1 (h : gList [p3] = some xs) : Wp (dMix [6, 7] (.val (dVar 2) :: .val (mbind (dCBf gList (dKs (dkVar 3) (mpure []))) (fun xs => mpure (.list xs))) :: [])) (stA p1 p2 p3 .no .no .no .no .no .no .no b) (fun fl r => fl = .nx ∧ r = stA p1 p2 p3 .no .no (.val p2) (.val (.list xs)) .no .no .no b) (fun _ _ => False) := by
  have eM : elsM [.val (dVar 2), .val (mbind (dCBf gList (dKs (dkVar 3) (mpure []))) (fun xs => mpure (.list xs)))] 1 (stA p1 p2 p3 .no .no .no .no .no .no .no b) = .ok [.val p2, .val (.list xs)] (stA p1 p2 p3 .no .no .no .no .no .no .no b) := by
    refine ok_of_wp ?_
    simp [elsM, rho0, slotOf, look, ixOf, getC, setC, getM, setM, getL, MC.look, MC.pd, killS, turnQ, lkOf, outB, iosOf, arsOf, wp_tail, mAppend, mExtend, mPop, wp_dFor, wp_dComp, wp_dIterV, wp_dSeqs, slOkN, lendR, lendB, unS, compEnd, enumD_eq, stA, h]
  have e1 : (stA p1 p2 p3 .no .no .no .no .no .no .no b).io.length = 1 := rfl
  have e2 : slOkN (stA p1 p2 p3 .no .no .no .no .no .no .no b) = true := rfl
  unfold Wp dMix
  rw [e1, e2]
  simp [eM, popS, freS, setE, evS]
  simp [stA]
theorem stepA2 (h : FA [.val p1, .val v, .val p3] [] = (.ret w, [])) : Wp (dSet 4 (dCall FA (.val (dVar 1) :: .val (dVar 6) :: .val (dVar 3) :: []))) (stA p1 p2 p3 .no .no (.val v) s7 .no .no .no b) (fun fl r => fl = .nx ∧ r = stA p1 p2 p3 (.val w) .no (.val v) s7 .no .no .no b) (fun _ _ => False) := by
  simp [rho0, slotOf, look, ixOf, getC, setC, getM, setM, getL, MC.look, MC.pd, killS, turnQ, lkOf, outB, iosOf, arsOf, wp_tail, mAppend, mExtend, mPop, wp_dFor, wp_dComp, wp_dIterV, wp_dSeqs, slOkN, lendR, lendB, unS, compEnd, enumD_eq, stA, h]
theorem stepT1 (hs : Nsl xs s7) (h4 : s4 = .val v) (h6 : s6 = .val w) (h5 : s5 = .val q1) {r1 r2 : PD} (e1 : FA [.io 0, .val (.int xs.length)] [.lst b] = (.ret r1, [.lst b1])) (e2 : FA [.io 0, .val (.int 2)] [.lst b1] = (.ret r2, [.lst b2])) : Wp (dMix [9, 10] (.val (dCall FA (.io 0 :: .val (dCB gLen (dKs (dkVar 7) (mpure []))) :: [])) :: .val (dCall FA (.io 0 :: .val (mpure (.int 2)) :: [])) :: [])) (stA p1 p2 p3 s4 s5 s6 s7 .no .no .no b) (fun fl r => fl = .nx ∧ r = stA p1 p2 p3 s4 s5 s6 s7 .no (.val r1) (.val r2) b2) (fun _ _ => False) := by
  subst h4 h5 h6
  have eM : elsM [.val (dCall FA (.io 0 :: .val (dCB gLen (dKs (dkVar 7) (mpure []))) :: [])), .val (dCall FA (.io 0 :: .val (mpure (.int 2)) :: []))] 1 (stA p1 p2 p3 (.val v) (.val q1) (.val w) s7 .no .no .no b) = .ok [.val r1, .val r2] (stA p1 p2 p3 (.val v) (.val q1) (.val w) s7 .no .no .no b2) := by
    refine ok_of_wp ?_
    rcases hs with rfl | rfl <;> simp [elsM, rho0, slotOf, look, ixOf, getC, setC, getM, setM, getL, MC.look, MC.pd, killS, turnQ, lkOf, outB, iosOf, arsOf, wp_tail, mAppend, mExtend, mPop, wp_dFor, wp_dComp, wp_dIterV, wp_dSeqs, slOkN, lendR, lendB, unS, compEnd, enumD_eq, stA, e1, e2]
  have l1 : (stA p1 p2 p3 (.val v) (.val q1) (.val w) s7 .no .no .no b).io.length = 1 := rfl
  have l2 : slOkN (stA p1 p2 p3 (.val v) (.val q1) (.val w) s7 .no .no .no b) = true := by rcases hs with rfl | rfl <;> rfl
  unfold Wp dMix
  rw [l1, l2]
  simp [eM, popS, freS, setE, evS]
  simp [stA]
theorem stepT2 (h : FA [.val v, .val q1, .val q2] [] = (.ret w, [])) : Wp (dSet 4 (dCall FA (.val (dVar 4) :: .val (dVar 9) :: .val (dVar 10) :: []))) (stA p1 p2 p3 (.val v) s5 s6 s7 s8 (.val q1) (.val q2) b) (fun fl r => fl = .nx ∧ r = stA p1 p2 p3 (.val w) s5 s6 s7 s8 (.val q1) (.val q2) b) (fun _ _ => False) := by
  simp [rho0, slotOf, look, ixOf, getC, setC, getM, setM, getL, MC.look, MC.pd, killS, turnQ, lkOf, outB, iosOf, arsOf, wp_tail, mAppend, mExtend, mPop, wp_dFor, wp_dComp, wp_dIterV, wp_dSeqs, slOkN, lendR, lendB, unS, compEnd, enumD_eq, stA, h]
theorem stepT3 (hs : Nsl xs s7) (h : pGet (.list xs) q1 = some w) : Wp (dSet 8 (dOp2 pGet (dkVar 7) (dkVar 9))) (stA p1 p2 p3 s4 s5 s6 s7 .no (.val q1) s10 b) (fun fl r => fl = .nx ∧ r = stA p1 p2 p3 s4 s5 s6 s7 (.val w) (.val q1) s10 b) (fun _ _ => False) := by
  rcases hs with rfl | rfl <;> simp [rho0, slotOf, look, ixOf, getC, setC, getM, setM, getL, MC.look, MC.pd, killS, turnQ, lkOf, outB, iosOf, arsOf, wp_tail, mAppend, mExtend, mPop, wp_dFor, wp_dComp, wp_dIterV, wp_dSeqs, slOkN, lendR, lendB, unS, compEnd, enumD_eq, stA, h]
theorem stepT4 (hs : Nsl xs s7) {p : Nat} {ys zs : List PD} (h1 : xs.take p = ys) (h2 : xs.drop (p + 1) = zs) (hl : ys.length + zs.length ≤ 10000) : Wp (dSet 7 (dOp2 pAdd (dkE (dSl (dkVar 7) none (some (dVar 9)))) (dkE (dSl (dkVar 7) (some (dOp2 pAdd (dkVar 9) (dkE (mpure (.int 1))))) none)))) (stA p1 p2 p3 s4 s5 s6 s7 s8 (.val (nP p)) s10 b) (fun fl r => fl = .nx ∧ r = stA p1 p2 p3 s4 s5 s6 (.val (.list (ys ++ zs))) s8 (.val (nP p)) s10 b) (fun _ _ => False) := by
  have c1 := cut_lo xs p
  have c2 := cut_hi xs (p + 1)
  have c3 : pAdd (nP p) (.int 1) = some (.int ((p + 1 : Nat) : Int)) := rfl
  have c4 := pAdd_ll hl
  rw [h1] at c1
  rw [h2] at c2
  generalize ((p + 1 : Nat) : Int) = p' at c2 c3
  have c0 : asIo (nP p) = some (p : Int) := rfl
  generalize nP p = np at c0 c3 ⊢
  generalize (p : Int) = pI at c1 c0
  rcases hs with rfl | rfl <;> simp [rho0, slotOf, look, ixOf, getC, setC, getM, setM, getL, MC.look, MC.pd, killS, turnQ, lkOf, outB, iosOf, arsOf, wp_tail, mAppend, mExtend, mPop, wp_dFor, wp_dComp, wp_dIterV, wp_dSeqs, slOkN, lendR, lendB, unS, compEnd, enumD_eq, stA, c0, c1, c2, c3, c4]
theorem stepT5a (h : FA [.val p1, .val v, .val (.tuple [q1])] [] = (.ret w, [])) : Wp (dSet 6 (dCall FA (.val (dVar 1) :: .val (dVar 6) :: .val (dTup (dEs (dVar 8) (mpure []))) :: []))) (stA p1 p2 p3 s4 s5 (.val v) s7 (.val q1) s9 s10 b) (fun fl r => fl = .nx ∧ r = stA p1 p2 p3 s4 s5 (.val w) s7 (.val q1) s9 s10 b) (fun _ _ => False) := by
  simp [rho0, slotOf, look, ixOf, getC, setC, getM, setM, getL, MC.look, MC.pd, killS, turnQ, lkOf, outB, iosOf, arsOf, wp_tail, mAppend, mExtend, mPop, wp_dFor, wp_dComp, wp_dIterV, wp_dSeqs, slOkN, lendR, lendB, unS, compEnd, enumD_eq, stA, h]
theorem stepT5b {ys : List Nat} {x : Nat} (hl : ys.length ≤ 10000) : Wp (dSetF 7 (dComp (.nm 11) [11] (dIterV (dkE (dVar 7))) (mpure true) (dOp2 pSub (dkVar 11) (dkE (dCB gInt (dKs (dkE (dOp2 pGt (dkVar 11) (dkVar 8))) (mpure []))))))) (stA p1 p2 p3 s4 s5 s6 (.val (.list (ys.map nP))) (.val (nP x)) s9 s10 b) (fun fl r => fl = .nx ∧ r = stA p1 p2 p3 s4 s5 s6 (.own (.lst ((ys.map fun y => if x < y then y - 1 else y).map nP))) (.val (nP x)) s9 s10 b) (fun _ _ => False) := by
  rw [wp_dSetF, wp_dComp]
  refine wp_at (a1 := (ys.map nP, fun _ => True)) (ρ1 := stA p1 p2 p3 s4 s5 s6 (.val (.list (ys.map nP))) (.val (nP x)) s9 s10 b) (by simp [rho0, slotOf, look, ixOf, getC, setC, getM, setM, getL, MC.look, MC.pd, killS, turnQ, lkOf, outB, iosOf, arsOf, wp_tail, mAppend, mExtend, mPop, wp_dFor, wp_dComp, wp_dIterV, wp_dSeqs, slOkN, lendR, lendB, unS, compEnd, enumD_eq, stA]) ?_
  refine ⟨by rw [List.length_map]; exact small_size hl, ?_⟩
  refine wp_compE nP (fun y => nP (if x < y then y - 1 else y)) ys trivial (fun y hy => ⟨_, rfl, ?_⟩) ?_
  · have c1 : pGt (nP y) (nP x) = some (.bool (decide (x < y))) := by
      show some (PyData.bool (decide ((x : Int) < (y : Int)))) = _
      congr 2
      rw [Bool.eq_iff_iff]
      simp
    have c2 : gInt [.bool (decide (x < y))] = some (.int (if x < y then 1 else 0)) := by
      show some (PyData.int (if decide (x < y) = true then 1 else 0)) = _
      simp
    have c3 : pSub (nP y) (.int (if x < y then 1 else 0)) = some (nP (if x < y then y - 1 else y)) := by
      show some (PyData.int ((y : Int) - (if x < y then 1 else 0))) = some (.int ((if x < y then y - 1 else y : Nat) : Int))
      by_cases hxy : x < y
      · simp only [if_pos hxy]
        congr 2
        omega
      · simp only [if_neg hxy]
        rw [Int.sub_zero]
    generalize nP (if x < y then y - 1 else y) = res at c3 ⊢
    generalize (if x < y then (1 : Int) else 0) = q at c2 c3
    simp [rho0, slotOf, look, ixOf, getC, setC, getM, setM, getL, MC.look, MC.pd, killS, turnQ, lkOf, outB, iosOf, arsOf, wp_tail, mAppend, mExtend, mPop, wp_dFor, wp_dComp, wp_dIterV, wp_dSeqs, slOkN, lendR, lendB, unS, compEnd, enumD_eq, stA, c1, c2, c3]
  · rw [List.map_map]
    refine ⟨rfl, ?_⟩
    simp [rho0, slotOf, look, ixOf, getC, setC, getM, setM, getL, MC.look, MC.pd, killS, turnQ, lkOf, outB, iosOf, arsOf, wp_tail, mAppend, mExtend, mPop, wp_dFor, wp_dComp, wp_dIterV, wp_dSeqs, slOkN, lendR, lendB, unS, compEnd, enumD_eq, stA]
    try rfl
theorem stepT6 (hs : Nsl xs s7) (h : FA [.val p1, .val v, .val (.tuple xs)] [] = (.ret w, [])) (hn : pNe w w = some (.bool false)) : Wp (dIf (asB (dOp2 pNe (dkE (dCall FA (.val (dVar 1) :: .val (dVar 6) :: .val (dCB gTup (dKs (dkVar 7) (mpure []))) :: []))) (dkVar 4))) (dRet (mpure (.bool false))) (dNext)) (stA p1 p2 p3 (.val w) s5 (.val v) s7 s8 s9 s10 b) (fun fl r => fl = .nx ∧ r = stA p1 p2 p3 (.val w) s5 (.val v) s7 s8 s9 s10 b) (fun _ _ => False) := by
  rcases hs with rfl | rfl <;> simp [rho0, slotOf, look, ixOf, getC, setC, getM, setM, getL, MC.look, MC.pd, killS, turnQ, lkOf, outB, iosOf, arsOf, wp_tail, mAppend, mExtend, mPop, wp_dFor, wp_dComp, wp_dIterV, wp_dSeqs, slOkN, lendR, lendB, unS, compEnd, enumD_eq, stA, h, hn]
theorem struck_ok {s : Nat} : (asB (dOp2 pEq (dkVar 10) (dkE (mpure (.int 1))))) (stA p1 p2 p3 s4 s5 s6 s7 s8 s9 (.val (nP s)) b) = .ok (decide (s = 1)) (stA p1 p2 p3 s4 s5 s6 s7 s8 s9 (.val (nP s)) b) := by
  have e : pEq (nP s) (.int 1) = some (.bool (decide (s = 1))) := by
    unfold nP
    rw [pEq_ii]
    congr 2
    rw [Bool.eq_iff_iff]
    simp
    omega
  refine ok_of_wp ?_
  simp [rho0, slotOf, look, ixOf, getC, setC, getM, setM, getL, MC.look, MC.pd, killS, turnQ, lkOf, outB, iosOf, arsOf, wp_tail, mAppend, mExtend, mPop, wp_dFor, wp_dComp, wp_dIterV, wp_dSeqs, slOkN, lendR, lendB, unS, compEnd, enumD_eq, stA, e]
end
end K11

set_option Elab.async false
set_option linter.all false
set_option maxRecDepth 100000
set_option maxHeartbeats 4000000
namespace K11
open PySem PySem.Spec Den
open PyProof.Rows L2

theorem split_at {l : List Nat} {p : Nat} (h : p < l.length) : ∃ l1 x l2, l = l1 ++ x :: l2 ∧ l1.length = p := ⟨l.take p, l[p], l.drop (p + 1), by rw [← List.drop_eq_getElem_cons h, List.take_append_drop], by rw [List.length_take]; omega⟩
section
variable {d : Dk} {th : List Nat} {ts : List Tr} {l : List Nat} {v : PD}
theorem lot_worlds_cube (C : Cell d th ts) (h12 : ts.length ≤ 12) (h : Lot ts.length l) (hs : seqOf v = some (l.map nP)) (hfv : Fine v) : F_lot_worlds [.val (deskP d), .val (.tuple [rsP th, tsT ts]), .val v] [] = (.ret (wsP (cube d (zerosT th) l ts)), []) := by
  rw [lot_worlds_eq C h12 h hs hfv, lotW_all h]
def hyP (th : List Nat) (ts : List Tr) : PD := .tuple [rsP th, tsT ts]
theorem law_answers_ok (C : Cell d th ts) (h12 : ts.length ≤ 12) (h : Lot ts.length l) (h4 : l.length ≤ 4) {b : List PD} (hb : Box b) : ∃ b', Box b' ∧ F__law_answers [.io 0, .val (deskP d), .val (hyP th ts), .val (rsP l)] [.lst b] = (.ret (.bool true), [.lst b']) := by
  have key : (fun r : Rt × List MC => ∃ b', Box b' ∧ r = (.ret (.bool true), [.lst b'])) (F__law_answers [.io 0, .val (deskP d), .val (hyP th ts), .val (rsP l)] [.lst b]) := by
    refine runB_post (T := fun r : Rt × List MC => ∃ b', Box b' ∧ r = (.ret (.bool true), [.lst b'])) rfl ?_
    unfold g__law_answers
    refine wp_seq (ρ1 := stA (deskP d) (hyP th ts) (rsP l) .no .no (.val (hyP th ts)) (.val (.list (l.map nP))) .no .no .no b) (stepA1 rfl) ?_
    refine wp_seq (ρ1 := stA (deskP d) (hyP th ts) (rsP l) (.val (wsP (cube d (zerosT th) l ts))) .no (.val (hyP th ts)) (.val (.list (l.map nP))) .no .no .no b) (stepA2 (lot_worlds_cube C h12 h rfl (Fine.rs (by omega)))) ?_
    refine wp_seqP (fun ρ => ∃ b', Box b' ∧ ρ.io = [.lst b']) ?_ ?_
    · rw [wp_dFor]
      have gl : gLen [rsP l] = some (.int l.length) := by simp [rsP]
      refine wp_at (a1 := ((List.range l.length).map nP, fun _ => True)) (ρ1 := stA (deskP d) (hyP th ts) (rsP l) (.val (wsP (cube d (zerosT th) l ts))) .no (.val (hyP th ts)) (.val (.list (l.map nP))) .no .no .no b) (by simp [rho0, slotOf, look, ixOf, getC, setC, getM, setM, getL, MC.look, MC.pd, killS, turnQ, lkOf, outB, iosOf, arsOf, wp_tail, mAppend, mExtend, mPop, wp_dFor, wp_dComp, wp_dIterV, wp_dSeqs, slOkN, lendR, lendB, unS, compEnd, enumD_eq, stA, gl, small_of (show l.length ≤ 1000000 by omega)]) ?_
      refine wp_forGo (I := fun i ρ => ∃ (ts' : List Tr) (l' : List Nat) (s7 : Slot) (b' : List PD), Cell d th ts' ∧ ts'.length ≤ 12 ∧ Lot ts'.length l' ∧ l'.length + i = l.length ∧ Box b' ∧ Nsl (l'.map nP) s7 ∧ ρ = stA (deskP d) (hyP th ts) (rsP l) (.val (wsP (cube d (zerosT th) l' ts'))) .no (.val (hyP th ts')) s7 .no .no .no b') _ (fun _ _ _ => trivial) ?_ ?_ ⟨ts, l, _, b, C, h12, h, rfl, hb, .inr rfl, rfl⟩
      · rintro ρ ⟨ts', l', s7, b', _, _, _, _, hb', _, rfl⟩
        exact ⟨rfl, b', hb', rfl⟩
      · rintro i ρ x0 hx ⟨ts', l', s7, b', C', h12', hl', hlen, hb', hs7, rfl⟩
        obtain ⟨rfl, hi⟩ := mem_range_nP hx
        refine ⟨_, rfl, ?_⟩
        obtain ⟨p, hp, b1, hb1, e1⟩ := take_ok hb' (n := (l'.length : Nat)) (by omega) (by omega)
        obtain ⟨s, hs, b2, hb2, e2⟩ := take_ok hb1 (n := 2) (by decide) (by decide)
        obtain ⟨l1, x, l2, rfl, rfl⟩ := split_at (l := l') (p := p) (by omega)
        have e1' : F__law_take [.io 0, .val (.int ((l1 ++ x :: l2).map nP).length)] [.lst b'] = (.ret (nP l1.length), [.lst b1]) := by rw [List.length_map]; exact e1
        have hxl : l1.length + 1 + l2.length ≤ 4 := by simp at hlen; omega
        have pw : (cube d (zerosT th) (l1 ++ x :: l2) ts').length ≤ 10000 := by
          have : 2 ^ (l1 ++ x :: l2).length ≤ 2 ^ 4 := Nat.pow_le_pow_right (by decide) (by simp; omega)
          unfold cube
          rw [List.length_map, List.length_range]
          omega
        have e3 := law_face_eq pw (p := l1.length) (s := s) (by omega) (by omega)
        rw [face_cube hl'.asc] at e3
        have hg : pGet (.list ((l1 ++ x :: l2).map nP)) (nP l1.length) = some (nP x) := by
          show atI _ ((l1.length : Nat) : Int) = _
          rw [Den.atI_nat, List.getElem?_map]
          simp
        have ht : ((l1 ++ x :: l2).map nP).take l1.length = l1.map nP := by simp
        have hd : ((l1 ++ x :: l2).map nP).drop (l1.length + 1) = l2.map nP := by
          rw [← List.map_drop, show l1 ++ x :: l2 = (l1 ++ [x]) ++ l2 by simp, List.drop_left' (by simp)]
        refine wp_seq (stepT1 hs7 rfl rfl rfl e1' e2) ?_
        refine wp_seq (stepT2 e3) ?_
        refine wp_seq (stepT3 hs7 hg) ?_
        refine wp_seq (stepT4 hs7 ht hd (by simp; omega)) ?_
        rw [← List.map_append, wp_ifT struck_ok]
        by_cases h1 : s = 1
        · subst h1
          have hx1 : Lot ts'.length [x] := ⟨by simp, fun y hy => by
            simp at hy
            subst hy
            exact hl'.lt y (by simp), by
            have := hl'.lt x (by simp)
            simp
            omega⟩
          have q1 := less_eq C' hx1
          have C2 := C'.less [x] 0
          have ln : (lessT [x] 0 ts').length = ts'.length - 1 := less_one_len ts' 0 (Nat.zero_le _) (by have := hl'.lt x (by simp); omega)
          have hl2 := hl'.down
          rw [← ln] at hl2
          have q2 := lot_worlds_cube C2 (by omega) hl2 rfl (Fine.rs (ns := l1 ++ l2.map (· - 1)) (by simp; omega))
          have q3 := wsP_ne (cube d (zerosT th) (l1 ++ l2.map (· - 1)) (lessT [x] 0 ts'))
          have q4 := down_eq hl'.asc
          rw [if_pos (by decide), if_pos (by decide), wp_assoc]
          refine wp_seq (stepT5a q1) ?_
          refine wp_seq (stepT5b (by simp; omega)) ?_
          rw [q4]
          refine (stepT6 (.inl rfl) q2 q3).mono ?_ fun _ _ z => z.elim
          rintro fl r ⟨rfl, rfl⟩
          exact ⟨_, _, _, b2, C2, by omega, hl2, by simp at hlen ⊢; omega, hb2, .inl rfl, rfl⟩
        · have q2 := lot_worlds_cube C' h12' hl'.cut rfl (Fine.rs (ns := l1 ++ l2) (by simp; omega))
          have q3 := wsP_ne (cube d (zerosT th) (l1 ++ l2) ts')
          have hd1 : ¬ decide (s = 1) = true := by simpa using h1
          rw [if_neg hd1, if_neg hd1, wp_skip]
          refine (stepT6 (.inr rfl) q2 q3).mono ?_ fun _ _ z => z.elim
          rintro fl r ⟨rfl, rfl⟩
          exact ⟨_, _, _, b2, C', h12', hl'.cut, by simp at hlen ⊢; omega, hb2, .inr rfl, rfl⟩
    · rintro ρ ⟨b', hb', hio⟩
      rw [wp_dRet, wp_pure]
      exact ⟨b', hb', by simp [outB, hio]⟩
  exact key
end
end K11

set_option Elab.async false
set_option linter.all false
set_option maxRecDepth 100000
set_option maxHeartbeats 4000000
namespace K11
open PySem PySem.Spec Den
open PyProof.Rows L2

theorem endT_WB {d : Dk} (D : VD d) {w : List Nat} (h : WB w) (ts : List Tr) : WB (endT d w ts) ∧ (endT d w ts).length = w.length := alongT_WB D ts w h _ (List.mem_of_getLast? (alongT_last d ts w))
theorem cube_sw {d : Dk} {th : List Nat} {ts : List Tr} {l : List Nat} (C : Cell d th ts) (h4 : l.length ≤ 4) : Sw 2 150000 (wsP (cube d (zerosT th) l ts)) := by
  have pw : 2 ^ l.length ≤ 2 ^ 4 := Nat.pow_le_pow_right (by decide) h4
  refine sw_ws (fun w hw => ?_) (by unfold cube; rw [List.length_map, List.length_range]; omega)
  unfold cube at hw
  obtain ⟨b, _, rfl⟩ := List.mem_map.mp hw
  obtain ⟨h1, h2⟩ := endT_WB C.D (zerosT_WB th) (lessT (strk l b) 0 ts)
  refine ⟨h1, ?_⟩
  rw [h2]
  have := C.len
  simpa [zerosT] using this
theorem Lot.take {n : Nat} {l : List Nat} (h : Lot n l) (k : Nat) : Lot n (l.take k) := ⟨h.asc.sublist (List.take_sublist k l), fun x hx => h.lt x (List.mem_of_mem_take hx), Nat.le_trans (List.length_take_le' _ _) h.len⟩
theorem Lot.up {n m : Nat} {l : List Nat} (h : Lot n l) (hm : n ≤ m) : Lot m l := ⟨h.asc, fun x hx => Nat.lt_of_lt_of_le (h.lt x hx) hm, Nat.le_trans h.len hm⟩
theorem Cell.app {d : Dk} {th : List Nat} {ts us : List Tr} (C : Cell d th ts) (h : ∀ o ∈ us, VTr d th o) (hl : ts.length + us.length ≤ 100) : Cell d th (ts ++ us) := ⟨C.D, C.len, C.lt, fun o ho => by
  rcases List.mem_append.mp ho with q | q
  · exact C.tr o q
  · exact h o q, by rw [List.length_append]; exact hl⟩
/-! ### the steps of the law -/
def stK (ns : List Int) (k : Nat) (s3 s4 s5 s6 s7 s8 s9 s11 s12 s13 : Slot) (b : List PD) : Rho := ⟨[.val (scrD ns), .val (nP k), .own (.lst b), s3, s4, s5, s6, s7, s8, s9, .no, s11, s12, s13, .no], []⟩
section
variable {FT FK : FD} {ns : List Int} {k : Nat} {s3 s6 s7 s8 s9 : Slot} {p3 p4 p5 p6 p7 p8 p9 p11 p12 p13 v y : PD} {b1 b2 b3 : List PD}
theorem step_things (e2 : FK [.io 0, .val (.int 5)] [.lst b1] = (.ret y, [.lst b2])) {y' : PD} (ey : pAdd (.int 1) y = some y') (e3 : FT [.io 0, .val p11, .val y'] [.lst b2] = (.ret v, [.lst b3])) :
    Wp (dSet 4 (dCall FT (.io 2 :: .val (dVar 11) :: .val (dOp2 pAdd (dkE (mpure (.int 1))) (dkE (dCall FK (.io 2 :: .val (mpure (.int 5)) :: [])))) :: []))) (stK ns k (.val p3) .no .no .no .no .no .no (.val p11) (.val p12) (.val p13) b1) (fun fl r => fl = .nx ∧ r = stK ns k (.val p3) (.val v) .no .no .no .no .no (.val p11) (.val p12) (.val p13) b3) (fun _ _ => False) := by
  simp [rho0, slotOf, look, ixOf, getC, setC, getM, setM, getL, MC.look, MC.pd, killS, turnQ, lkOf, outB, iosOf, arsOf, wp_tail, mAppend, mExtend, mPop, wp_dFor, wp_dComp, wp_dIterV, wp_dSeqs, slOkN, lendR, lendB, unS, compEnd, enumD_eq, stK, e2, ey, e3]
theorem step_tries (e2 : FK [.io 0, .val (.int 10)] [.lst b1] = (.ret y, [.lst b2])) (e3 : FT [.io 0, .val p12, .val p4, .val y] [.lst b2] = (.ret v, [.lst b3])) :
    Wp (dSet 5 (dCall FT (.io 2 :: .val (dVar 12) :: .val (dVar 4) :: .val (dCall FK (.io 2 :: .val (mpure (.int 10)) :: [])) :: []))) (stK ns k (.val p3) (.val p4) .no .no .no .no .no (.val p11) (.val p12) (.val p13) b1) (fun fl r => fl = .nx ∧ r = stK ns k (.val p3) (.val p4) (.val v) .no .no .no .no (.val p11) (.val p12) (.val p13) b3) (fun _ _ => False) := by
  simp [rho0, slotOf, look, ixOf, getC, setC, getM, setM, getL, MC.look, MC.pd, killS, turnQ, lkOf, outB, iosOf, arsOf, wp_tail, mAppend, mExtend, mPop, wp_dFor, wp_dComp, wp_dIterV, wp_dSeqs, slOkN, lendR, lendB, unS, compEnd, enumD_eq, stK, e2, e3]
theorem step_more (e2 : FK [.io 0, .val (.int 4)] [.lst b1] = (.ret y, [.lst b2])) (e3 : FT [.io 0, .val p12, .val p4, .val y] [.lst b2] = (.ret v, [.lst b3])) :
    Wp (dSet 6 (dCall FT (.io 2 :: .val (dVar 12) :: .val (dVar 4) :: .val (dCall FK (.io 2 :: .val (mpure (.int 4)) :: [])) :: []))) (stK ns k (.val p3) (.val p4) (.val p5) .no .no .no .no (.val p11) (.val p12) (.val p13) b1) (fun fl r => fl = .nx ∧ r = stK ns k (.val p3) (.val p4) (.val p5) (.val v) .no .no .no (.val p11) (.val p12) (.val p13) b3) (fun _ _ => False) := by
  simp [rho0, slotOf, look, ixOf, getC, setC, getM, setM, getL, MC.look, MC.pd, killS, turnQ, lkOf, outB, iosOf, arsOf, wp_tail, mAppend, mExtend, mPop, wp_dFor, wp_dComp, wp_dIterV, wp_dSeqs, slOkN, lendR, lendB, unS, compEnd, enumD_eq, stK, e2, e3]
theorem step_lot {n : Int} (gl : gLen [p5] = some (.int n)) (e2 : FK [.io 0, .val (.int n)] [.lst b1] = (.ret v, [.lst b2])) {w : PD} (e3 : pSl v none (some 4) = some w) :
    Wp (dSet 7 (dSl (dkE (dCall FK (.io 2 :: .val (dCB gLen (dKs (dkVar 5) (mpure []))) :: []))) none (some (mpure (.int 4))))) (stK ns k (.val p3) (.val p4) (.val p5) (.val p6) .no .no .no (.val p11) (.val p12) (.val p13) b1) (fun fl r => fl = .nx ∧ r = stK ns k (.val p3) (.val p4) (.val p5) (.val p6) (.val w) .no .no (.val p11) (.val p12) (.val p13) b2) (fun _ _ => False) := by
  simp [rho0, slotOf, look, ixOf, getC, setC, getM, setM, getL, MC.look, MC.pd, killS, turnQ, lkOf, outB, iosOf, arsOf, wp_tail, mAppend, mExtend, mPop, wp_dFor, wp_dComp, wp_dIterV, wp_dSeqs, slOkN, lendR, lendB, unS, compEnd, enumD_eq, stK, gl, e2, e3]
theorem step_worlds (e : FK [.val p3, .val (.tuple [p4, p5]), .val p7] [] = (.ret v, [])) : Wp (dSet 8 (dCall FK (.val (dVar 3) :: .val (dTup (dEs (dVar 4) (dEs (dVar 5) (mpure [])))) :: .val (dVar 7) :: []))) (stK ns k (.val p3) (.val p4) (.val p5) (.val p6) (.val p7) .no .no (.val p11) (.val p12) (.val p13) b1) (fun fl r => fl = .nx ∧ r = stK ns k (.val p3) (.val p4) (.val p5) (.val p6) (.val p7) (.val v) .no (.val p11) (.val p12) (.val p13) b1) (fun _ _ => False) := by
  simp [rho0, slotOf, look, ixOf, getC, setC, getM, setM, getL, MC.look, MC.pd, killS, turnQ, lkOf, outB, iosOf, arsOf, wp_tail, mAppend, mExtend, mPop, wp_dFor, wp_dComp, wp_dIterV, wp_dSeqs, slOkN, lendR, lendB, unS, compEnd, enumD_eq, stK, e]
theorem step_shown (e : FK [.val p12, .val p4, .val p5, .val p7] [] = (.ret p8, [])) {z : Str} (er : gRepr [p8] = some (.str z)) (en : pNe (.str z) (.str z) = some (.bool false)) : Wp (dIf (asB (dOp2 pNe (dkE (dCB gRepr (dKs (dkVar 8) (mpure [])))) (dkE (dCB gRepr (dKs (dkE (dCall FK (.val (dVar 12) :: .val (dVar 4) :: .val (dVar 5) :: .val (dVar 7) :: []))) (mpure [])))))) (dRet (mpure (.bool false))) (dNext)) (stK ns k (.val p3) (.val p4) (.val p5) (.val p6) (.val p7) (.val p8) .no (.val p11) (.val p12) (.val p13) b1) (fun fl r => fl = .nx ∧ r = stK ns k (.val p3) (.val p4) (.val p5) (.val p6) (.val p7) (.val p8) .no (.val p11) (.val p12) (.val p13) b1) (fun _ _ => False) := by
  simp [rho0, slotOf, look, ixOf, getC, setC, getM, setM, getL, MC.look, MC.pd, killS, turnQ, lkOf, outB, iosOf, arsOf, wp_tail, mAppend, mExtend, mPop, wp_dFor, wp_dComp, wp_dIterV, wp_dSeqs, slOkN, lendR, lendB, unS, compEnd, enumD_eq, stK, e, er, en]
theorem step_list {xs : List PD} (e : gList [p8] = some xs) : Wp (dSetF 9 (dCBf gList (dKs (dkVar 8) (mpure [])))) (stK ns k (.val p3) (.val p4) (.val p5) (.val p6) (.val p7) (.val p8) .no (.val p11) (.val p12) (.val p13) b1) (fun fl r => fl = .nx ∧ r = stK ns k (.val p3) (.val p4) (.val p5) (.val p6) (.val p7) (.val p8) (.own (.lst xs)) (.val p11) (.val p12) (.val p13) b1) (fun _ _ => False) := by
  simp [rho0, slotOf, look, ixOf, getC, setC, getM, setM, getL, MC.look, MC.pd, killS, turnQ, lkOf, outB, iosOf, arsOf, wp_tail, mAppend, mExtend, mPop, wp_dFor, wp_dComp, wp_dIterV, wp_dSeqs, slOkN, lendR, lendB, unS, compEnd, enumD_eq, stK, e]
theorem step_behind {xs ys : List PD} (ea : pAdd p5 p6 = some v) (eg : gList [p7] = some ys) (e : FK [.val p3, .val (.tuple [p4, v]), .val (.list ys)] [] = (.ret (.tuple xs), [])) (en : pNe (.tuple xs) (.tuple xs) = some (.bool false)) : Wp (dIf (asB (dOp2 pNe (dkE (dCall FK (.val (dVar 3) :: .val (dTup (dEs (dVar 4) (dEs (dOp2 pAdd (dkVar 5) (dkVar 6)) (mpure [])))) :: .val (mbind (dCBf gList (dKs (dkVar 7) (mpure []))) (fun xs => mpure (.list xs))) :: []))) (dkE (dCB gTup (dKs (dkVar 9) (mpure [])))))) (dRet (mpure (.bool false))) (dNext)) (stK ns k (.val p3) (.val p4) (.val p5) (.val p6) (.val p7) (.val p8) (.own (.lst xs)) (.val p11) (.val p12) (.val p13) b1) (fun fl r => fl = .nx ∧ r = stK ns k (.val p3) (.val p4) (.val p5) (.val p6) (.val p7) (.val p8) (.own (.lst xs)) (.val p11) (.val p12) (.val p13) b1) (fun _ _ => False) := by
  simp [rho0, slotOf, look, ixOf, getC, setC, getM, setM, getL, MC.look, MC.pd, killS, turnQ, lkOf, outB, iosOf, arsOf, wp_tail, mAppend, mExtend, mPop, wp_dFor, wp_dComp, wp_dIterV, wp_dSeqs, slOkN, lendR, lendB, unS, compEnd, enumD_eq, stK, ea, eg, e, en]
theorem step_answers {xs : List PD} (ea : pAdd p5 p6 = some v) (e : FK [.io 0, .val p3, .val (.tuple [p4, v]), .val p7] [.lst b1] = (.ret (.bool true), [.lst b2])) : Wp (dIf (tNotB (dTru (dkE (dCall FK (.io 2 :: .val (dVar 3) :: .val (dTup (dEs (dVar 4) (dEs (dOp2 pAdd (dkVar 5) (dkVar 6)) (mpure [])))) :: .val (dVar 7) :: []))))) (dRet (mpure (.bool false))) (dNext)) (stK ns k (.val p3) (.val p4) (.val p5) (.val p6) (.val p7) (.val p8) (.own (.lst xs)) (.val p11) (.val p12) (.val p13) b1) (fun fl r => fl = .nx ∧ r = stK ns k (.val p3) (.val p4) (.val p5) (.val p6) (.val p7) (.val p8) (.own (.lst xs)) (.val p11) (.val p12) (.val p13) b2) (fun _ _ => False) := by
  simp [rho0, slotOf, look, ixOf, getC, setC, getM, setM, getL, MC.look, MC.pd, killS, turnQ, lkOf, outB, iosOf, arsOf, wp_tail, mAppend, mExtend, mPop, wp_dFor, wp_dComp, wp_dIterV, wp_dSeqs, slOkN, lendR, lendB, unS, compEnd, enumD_eq, stK, ea, e]
/-- each try behind, in each world -/
theorem behind_ok {d : Dk} {th : List Nat} {us : List Tr} {ws : List (List Nat)} (V : VDk d) (hl : th.length ≤ 1000) (hu : ∀ o ∈ us, VTr d th o) (hw : ∀ w ∈ ws, w.length = th.length) (hn : ws.length ≤ 10000) :
    Wp (dFor (.nm 10) [10] (dIterV (dkE (dVar 6))) (dSetF 9 (dComp (.nm 14) [14] (dIterV (dkE (dVar 9))) (mpure true) (dOp2 pGet (dkE (dCall F__law_tried (.val (dVar 12) :: .val (dVar 14) :: .val (dVar 10) :: []))) (dkE (mpure (.int 0))))))) (stK ns k (.val p3) (.val p4) (.val p5) (.val (tsT us)) (.val p7) (.val p8) (.own (.lst (ws.map rsP))) (.val p11) (.val (tsP d.2.1)) (.val p13) b1)
      (fun fl r => fl = .nx ∧ r = stK ns k (.val p3) (.val p4) (.val p5) (.val (tsT us)) (.val p7) (.val p8) (.own (.lst ((us.foldl (fun ws o => ws.map fun w => (triedT d w o).1) ws).map rsP))) (.val p11) (.val (tsP d.2.1)) (.val p13) b1) (fun _ _ => False) := by
  rw [wp_dFor]
  refine wp_at (a1 := (us.map trP, fun _ => True)) (ρ1 := stK ns k (.val p3) (.val p4) (.val p5) (.val (tsT us)) (.val p7) (.val p8) (.own (.lst (ws.map rsP))) (.val p11) (.val (tsP d.2.1)) (.val p13) b1) (by simp [rho0, slotOf, look, ixOf, getC, setC, getM, setM, getL, MC.look, MC.pd, killS, turnQ, lkOf, outB, iosOf, arsOf, wp_tail, mAppend, mExtend, mPop, wp_dFor, wp_dComp, wp_dIterV, wp_dSeqs, slOkN, lendR, lendB, unS, compEnd, enumD_eq, stK, tsT]) ?_
  refine wp_forT trP (st := fun ws : List (List Nat) => stK ns k (.val p3) (.val p4) (.val p5) (.val (tsT us)) (.val p7) (.val p8) (.own (.lst (ws.map rsP))) (.val p11) (.val (tsP d.2.1)) (.val p13) b1) (fun ws o => ws.map fun w => (triedT d w o).1) (fun _ ws => (∀ w ∈ ws, w.length = th.length) ∧ ws.length ≤ 10000) ?hok us ws ?turn ⟨hw, hn⟩ ?fin
  case hok => exact fun _ _ _ => trivial
  case fin => exact fun _ => ⟨rfl, rfl⟩
  case turn =>
    rintro n ws ⟨hw, hn⟩ o ho
    have q : ∀ w ∈ ws, F__law_tried [.val (tsP d.2.1), .val (rsP w), .val (trP o)] [] = (.ret (.tuple [rsP (triedT d w o).1, .bool (triedT d w o).2]), []) := fun w hx => law_tried_eq V (hw w hx) (by omega) (hu o ho)
    rw [bindT_nm, ho_some]
    generalize F__law_tried = FT at q ⊢
    rw [wp_dSetF, wp_dComp]
    refine wp_at (a1 := (ws.map rsP, fun _ => True)) (ρ1 := ⟨[.val (scrD ns), .val (nP k), .own (.lst b1), .val p3, .val p4, .val p5, .val (tsT us), .val p7, .val p8, .val (.list (ws.map rsP)), .val (trP o), .val p11, .val (tsP d.2.1), .val p13, .no], []⟩) (by simp [rho0, slotOf, look, ixOf, getC, setC, getM, setM, getL, MC.look, MC.pd, killS, turnQ, lkOf, outB, iosOf, arsOf, wp_tail, mAppend, mExtend, mPop, wp_dFor, wp_dComp, wp_dIterV, wp_dSeqs, slOkN, lendR, lendB, unS, compEnd, enumD_eq, stK]) ?_
    refine ⟨by rw [List.length_map]; exact small_size hn, ?_⟩
    refine wp_compE rsP (fun w => rsP (triedT d w o).1) ws trivial (fun w hx => ⟨_, rfl, ?_⟩) ?_
    · have q1 := q w hx
      simp [rho0, slotOf, look, ixOf, getC, setC, getM, setM, getL, MC.look, MC.pd, killS, turnQ, lkOf, outB, iosOf, arsOf, wp_tail, mAppend, mExtend, mPop, wp_dFor, wp_dComp, wp_dIterV, wp_dSeqs, slOkN, lendR, lendB, unS, compEnd, enumD_eq, q1]
    · refine ⟨rfl, ⟨?_, by rw [List.length_map]; exact hn⟩, ?_⟩
      · intro w hx
        obtain ⟨w', hw', rfl⟩ := List.mem_map.mp hx
        rw [triedT_len]
        exact hw w' hw'
      · rw [List.map_map]
        simp [rho0, slotOf, look, ixOf, getC, setC, getM, setM, getL, MC.look, MC.pd, killS, turnQ, lkOf, outB, iosOf, arsOf, wp_tail, mAppend, mExtend, mPop, wp_dFor, wp_dComp, wp_dIterV, wp_dSeqs, slOkN, lendR, lendB, unS, compEnd, enumD_eq, stK]
        try rfl
end
end K11

set_option Elab.async false
set_option linter.all false
set_option maxRecDepth 100000
set_option maxHeartbeats 4000000
namespace K11
open PySem PySem.Spec Den
open PyProof.Rows L2

/-- between two cells -/
def stO (ns : List Int) : Rho := ⟨[.val (scrD ns), .no, .no, .no, .no, .no, .no, .no, .no, .no, .no, .no, .no, .no, .no], []⟩
theorem pAdd_tsT {ts us : List Tr} (h : ts.length + us.length ≤ 10000) : pAdd (tsT ts) (tsT us) = some (tsT (ts ++ us)) := by
  show (if _ then some (PyData.tuple (ts.map trP ++ us.map trP)) else none) = _
  rw [if_pos (by rw [List.length_map, List.length_map]; exact small_size h), ← List.map_append]
  rfl
theorem cut4 (l : List Nat) : pSl (rsP l) none (some 4) = some (rsP (l.take 4)) := by
  show some (PyData.tuple (Den.cutD (l.map nP) none (some 4))) = _
  have h4 : HT.sIx (l.map nP).length (l.map nP).length (some 4) = min 4 (l.map nP).length := HT.sIx_nat _ _ 4
  unfold Den.cutD
  rw [HT.sIx_none, h4, List.drop_zero, Nat.sub_zero, ← List.take_eq_take_min]
  unfold rsP
  rw [List.map_take]
theorem law_yes (ns : List Int) : F_law [.val (scrD ns)] [] = (.ret (.bool true), []) := by
  refine runB_eq rfl ?_
  unfold g_law
  refine wp_seq (ρ1 := stO ns) ?_ (by simp [rho0, slotOf, look, ixOf, getC, setC, getM, setM, getL, MC.look, MC.pd, killS, turnQ, lkOf, outB, iosOf, arsOf, wp_tail, mAppend, mExtend, mPop, wp_dFor, wp_dComp, wp_dIterV, wp_dSeqs, slOkN, lendR, lendB, unS, compEnd, enumD_eq, stO])
  rw [wp_dFor]
  refine wp_at (a1 := ((List.range 4).map nP, fun _ => True)) (ρ1 := stO ns) ?_ ?_
  · have hs : smallI 4 = true := by decide
    simp [rho0, slotOf, look, ixOf, getC, setC, getM, setM, getL, MC.look, MC.pd, killS, turnQ, lkOf, outB, iosOf, arsOf, wp_tail, mAppend, mExtend, mPop, wp_dFor, wp_dComp, wp_dIterV, wp_dSeqs, slOkN, lendR, lendB, unS, compEnd, enumD_eq, stO, hs]
  refine wp_forGo (I := fun i ρ => i ≤ 4 ∧ ρ = stO ns) _ (fun _ _ _ => trivial) (fun ρ hρ => ⟨rfl, hρ.2⟩) ?_ ⟨Nat.zero_le _, rfl⟩
  rintro k ρ x hx ⟨_, rfl⟩
  obtain ⟨rfl, hk⟩ := mem_range_nP hx
  refine ⟨_, rfl, ?_⟩
  obtain ⟨b0, hb0, e0⟩ := box_ok ns (k := k) (by omega)
  refine wp_seq (ρ1 := stK ns k .no .no .no .no .no .no .no .no .no .no b0) (by simp [rho0, slotOf, look, ixOf, getC, setC, getM, setM, getL, MC.look, MC.pd, killS, turnQ, lkOf, outB, iosOf, arsOf, wp_tail, mAppend, mExtend, mPop, wp_dFor, wp_dComp, wp_dIterV, wp_dSeqs, slOkN, lendR, lendB, unS, compEnd, enumD_eq, stO, stK, e0]) ?_
  obtain ⟨d, b1, D, d2, hb1, e1⟩ := desk_ok (states := 3) (by decide) (by decide) hb0
  have e1' : F__law_desk [.io 0, .val (.int 3)] [.lst b0] = (.ret (partsP d), [.lst b1]) := e1
  refine wp_seq (ρ1 := stK ns k .no .no .no .no .no .no .no (.val (ksP d.1)) (.val (tsP d.2.1)) (.val (rpsP d.2.2)) b1) (by simp [rho0, slotOf, look, ixOf, getC, setC, getM, setM, getL, MC.look, MC.pd, killS, turnQ, lkOf, outB, iosOf, arsOf, wp_tail, mAppend, mExtend, mPop, wp_dFor, wp_dComp, wp_dIterV, wp_dSeqs, slOkN, lendR, lendB, unS, compEnd, enumD_eq, stK, e1', partsP]) ?_
  refine wp_seq (ρ1 := stK ns k (.val (deskP d)) .no .no .no .no .no .no (.val (ksP d.1)) (.val (tsP d.2.1)) (.val (rpsP d.2.2)) b1) ?_ ?_
  · simp [rho0, slotOf, look, ixOf, getC, setC, getM, setM, getL, MC.look, MC.pd, killS, turnQ, lkOf, outB, iosOf, arsOf, wp_tail, mAppend, mExtend, mPop, wp_dFor, wp_dComp, wp_dIterV, wp_dSeqs, slOkN, lendR, lendB, unS, compEnd, enumD_eq, stK]
    refine wp_desk D.ks.fine D.ts.fine D.rs.fine ?_
    rw [desk_back D.ks D.ts D.rs]
    try simp
  obtain ⟨n1, hn1, b2, hb2, e2⟩ := take_ok hb1 (n := 5) (by decide) (by decide)
  obtain ⟨th, b3, l3, lt3, hb3, e3⟩ := things_ok D.ks hb2 (n := 1 + n1) (by omega)
  have ey : pAdd (.int 1) (nP n1) = some (nP (1 + n1)) := by
    show some (PyData.int (1 + (n1 : Int))) = some (.int ((1 + n1 : Nat) : Int))
    congr 2
  refine wp_seq (step_things e2 ey e3) ?_
  obtain ⟨n2, hn2, b4, hb4, e4⟩ := take_ok hb3 (n := 10) (by decide) (by decide)
  obtain ⟨ts, b5, tr5, few5, hb5, e5⟩ := tries_ok D (th := th) (by omega) hb4 (n := n2) (by omega)
  have C : Cell d th ts := ⟨D, by omega, lt3, tr5, by omega⟩
  refine wp_seq (step_tries (v := tsT ts) e4 e5) ?_
  obtain ⟨n3, hn3, b6, hb6, e6⟩ := take_ok hb5 (n := 4) (by decide) (by decide)
  obtain ⟨us, b7, tr7, few7, hb7, e7⟩ := tries_ok D (th := th) (by omega) hb6 (n := n3) (by omega)
  have C2 : Cell d th (ts ++ us) := C.app tr7 (by omega)
  refine wp_seq (step_more (v := tsT us) e6 e7) ?_
  obtain ⟨l0, b8, hl0, hb8, e8⟩ := law_lot_ok hb7 (n := ts.length) C.few
  have gl : gLen [tsT ts] = some (.int ts.length) := by simp [tsT]
  refine wp_seq (step_lot gl e8 (cut4 l0)) ?_
  have hl : Lot ts.length (l0.take 4) := hl0.take 4
  have h4 : (l0.take 4).length ≤ 4 := List.length_take_le _ _
  generalize l0.take 4 = l at hl h4
  have hf : Fine (rsP l) := Fine.rs (by omega)
  have q1 := lot_worlds_cube C (by omega) hl rfl hf
  refine wp_seq (step_worlds q1) ?_
  have sw := cube_sw C h4
  refine wp_seq (step_shown (law_cube_eq C h4) sw.sh.ok sw.ne) ?_
  refine wp_seq (step_list (xs := (cube d (zerosT th) l ts).map rsP) rfl) ?_
  have pw : (cube d (zerosT th) l ts).length ≤ 10000 := by
    have : 2 ^ l.length ≤ 2 ^ 4 := Nat.pow_le_pow_right (by decide) h4
    unfold cube
    rw [List.length_map, List.length_range]
    omega
  have lw : ∀ w ∈ cube d (zerosT th) l ts, w.length = th.length := fun w hw => by
    unfold cube at hw
    obtain ⟨b, _, rfl⟩ := List.mem_map.mp hw
    rw [(endT_WB C.D (zerosT_WB th) _).2]
    simp [zerosT]
  refine wp_seq (behind_ok D.v (by omega) tr7 lw pw) ?_
  have hlen : (ts ++ us).length ≤ 12 := by rw [List.length_append]; omega
  have hl2 : Lot (ts ++ us).length l := hl.up (by rw [List.length_append]; omega)
  have hfl : Fine (.list (l.map nP)) := Fine.lst (fun x hx => by
    obtain ⟨y, _, rfl⟩ := List.mem_map.mp hx
    exact Fine.nP y) (by simp; omega)
  have q2 := lot_worlds_eq (v := .list (l.map nP)) C2 hlen hl2 rfl hfl
  rw [lotW_append, lotW_all hl, Nat.zero_add, lotW_map hl.lt] at q2
  have ea := pAdd_tsT (ts := ts) (us := us) (by omega)
  refine wp_seq (step_behind ea rfl q2 (wsP_ne _)) ?_
  obtain ⟨b9, hb9, q3⟩ := law_answers_ok C2 hlen hl2 h4 hb8
  refine (step_answers ea q3).mono ?_ fun _ _ z => z.elim
  rintro fl r ⟨rfl, rfl⟩
  exact ⟨hk, rfl⟩
end K11

set_option Elab.async false
set_option linter.all false
set_option maxRecDepth 100000
set_option maxHeartbeats 4000000
namespace K11
open PySem PySem.Spec Den
open PyProof.Rows L2
/-- what is asked of the written part -/
structure Facts (P : Program) (K : PySem.W.Frag) (mg : Str → Option Value) (kc : Kc) : Prop where
  hK : kc.K = K
  gs : Gs mg
  x_InvalidDesk : ∃ C, kc.kl "InvalidDesk" = some C ∧ CalX P K mg C "InvalidDesk" "at"
  x_InvalidHistory : ∃ C, kc.kl "InvalidHistory" = some C ∧ CalX P K mg C "InvalidHistory" "at"
  x_InvalidStruck : ∃ C, kc.kl "InvalidStruck" = some C ∧ CalX P K mg C "InvalidStruck" "at"
  flds : ∀ f ∈ deskFs, FldC kc ["Desk"] f
  desk : ∃ C, mg "Desk" = some (.ref C) ∧ kc.kl "Desk" = some C ∧ Cls K C ∧ (∃ f fd, Mk K C f ∧ FunD K "__init__" "Desk.__init__" (defArgs (inCls (top 29) 0)) (defBody (inCls (top 29) 0)) (defScope (inCls (top 29) 0)) [] [] f fd) ∧ ∃ f fd, Meth K C "behind" f ∧ FunD K "behind" "Desk.behind" (defArgs (inCls (top 29) 1)) (defBody (inCls (top 29) 1)) (defScope (inCls (top 29) 1)) [] [] f fd
  d_is_integer : ∃ f fd, mg "is_integer" = some (.ref f) ∧ FunD K "is_integer" "is_integer" (defArgs (top 8)) (defBody (top 8)) (defScope (top 8)) [] [] f fd
  d_is_below : ∃ f fd, mg "is_below" = some (.ref f) ∧ FunD K "is_below" "is_below" (defArgs (top 9)) (defBody (top 9)) (defScope (top 9)) [] [] f fd
  d_is_sequence : ∃ f fd, mg "is_sequence" = some (.ref f) ∧ FunD K "is_sequence" "is_sequence" (defArgs (top 10)) (defBody (top 10)) (defScope (top 10)) [] [] f fd
  d_is_row : ∃ f fd, mg "is_row" = some (.ref f) ∧ FunD K "is_row" "is_row" (defArgs (top 11)) (defBody (top 11)) (defScope (top 11)) [] [] f fd
  d_is_name : ∃ f fd, mg "is_name" = some (.ref f) ∧ FunD K "is_name" "is_name" (defArgs (top 12)) (defBody (top 12)) (defScope (top 12)) [] [] f fd
  d_lot_wrong : ∃ f fd, mg "lot_wrong" = some (.ref f) ∧ FunD K "lot_wrong" "lot_wrong" (defArgs (top 13)) (defBody (top 13)) (defScope (top 13)) [] [] f fd
  d_need_things : ∃ f fd, mg "need_things" = some (.ref f) ∧ FunD K "need_things" "need_things" (defArgs (top 16)) (defBody (top 16)) (defScope (top 16)) [] [] f fd
  d_is_kind : ∃ f fd, mg "is_kind" = some (.ref f) ∧ FunD K "is_kind" "is_kind" (defArgs (top 31)) (defBody (top 31)) (defScope (top 31)) [] [] f fd
  d_need_kinds : ∃ f fd, mg "need_kinds" = some (.ref f) ∧ FunD K "need_kinds" "need_kinds" (defArgs (top 30)) (defBody (top 30)) (defScope (top 30)) [] [] f fd
  d_are_roles : ∃ f fd, mg "are_roles" = some (.ref f) ∧ FunD K "are_roles" "are_roles" (defArgs (top 34)) (defBody (top 34)) (defScope (top 34)) [] [] f fd
  d_is_tool : ∃ f fd, mg "is_tool" = some (.ref f) ∧ FunD K "is_tool" "is_tool" (defArgs (top 33)) (defBody (top 33)) (defScope (top 33)) [] [] f fd
  d_are_states : ∃ f fd, mg "are_states" = some (.ref f) ∧ FunD K "are_states" "are_states" (defArgs (top 37)) (defBody (top 37)) (defScope (top 37)) [] [] f fd
  d_is_tool_row : ∃ f fd, mg "is_tool_row" = some (.ref f) ∧ FunD K "is_tool_row" "is_tool_row" (defArgs (top 36)) (defBody (top 36)) (defScope (top 36)) [] [] f fd
  d_need_rows : ∃ f fd, mg "need_rows" = some (.ref f) ∧ FunD K "need_rows" "need_rows" (defArgs (top 35)) (defBody (top 35)) (defScope (top 35)) [] [] f fd
  d_need_tools : ∃ f fd, mg "need_tools" = some (.ref f) ∧ FunD K "need_tools" "need_tools" (defArgs (top 32)) (defBody (top 32)) (defScope (top 32)) [] [] f fd
  d_is_repair : ∃ f fd, mg "is_repair" = some (.ref f) ∧ FunD K "is_repair" "is_repair" (defArgs (top 39)) (defBody (top 39)) (defScope (top 39)) [] [] f fd
  d_need_repairs : ∃ f fd, mg "need_repairs" = some (.ref f) ∧ FunD K "need_repairs" "need_repairs" (defArgs (top 38)) (defBody (top 38)) (defScope (top 38)) [] [] f fd
  d_is_try : ∃ f fd, mg "is_try" = some (.ref f) ∧ FunD K "is_try" "is_try" (defArgs (top 15)) (defBody (top 15)) (defScope (top 15)) [] [] f fd
  d_need_history : ∃ f fd, mg "need_history" = some (.ref f) ∧ FunD K "need_history" "need_history" (defArgs (top 17)) (defBody (top 17)) (defScope (top 17)) [] [] f fd
  d_tried : ∃ f fd, mg "tried" = some (.ref f) ∧ FunD K "tried" "tried" (defArgs (top 18)) (defBody (top 18)) (defScope (top 18)) [] [] f fd
  d_need_struck : ∃ f fd, mg "need_struck" = some (.ref f) ∧ FunD K "need_struck" "need_struck" (defArgs (top 20)) (defBody (top 20)) (defScope (top 20)) [] [] f fd
  d_less : ∃ f fd, mg "less" = some (.ref f) ∧ FunD K "less" "less" (defArgs (top 21)) (defBody (top 21)) (defScope (top 21)) [] [] f fd
  d_lot_worlds : ∃ f fd, mg "lot_worlds" = some (.ref f) ∧ FunD K "lot_worlds" "lot_worlds" (defArgs (top 22)) (defBody (top 22)) (defScope (top 22)) [] [] f fd
  d__law_power : ∃ f fd, mg "_law_power" = some (.ref f) ∧ FunD K "_law_power" "_law_power" (defArgs (top 41)) (defBody (top 41)) (defScope (top 41)) [] [] f fd
  d__law_box : ∃ f fd, mg "_law_box" = some (.ref f) ∧ FunD K "_law_box" "_law_box" (defArgs (top 42)) (defBody (top 42)) (defScope (top 42)) [] [] f fd
  d__law_take : ∃ f fd, mg "_law_take" = some (.ref f) ∧ FunD K "_law_take" "_law_take" (defArgs (top 43)) (defBody (top 43)) (defScope (top 43)) [] [] f fd
  d__law_pick : ∃ f fd, mg "_law_pick" = some (.ref f) ∧ FunD K "_law_pick" "_law_pick" (defArgs (top 44)) (defBody (top 44)) (defScope (top 44)) [] [] f fd
  d__law_names : ∃ f fd, mg "_law_names" = some (.ref f) ∧ FunD K "_law_names" "_law_names" (defArgs (top 45)) (defBody (top 45)) (defScope (top 45)) [] [] f fd
  d__law_befores : ∃ f fd, mg "_law_befores" = some (.ref f) ∧ FunD K "_law_befores" "_law_befores" (defArgs (top 46)) (defBody (top 46)) (defScope (top 46)) [] [] f fd
  d__law_tool : ∃ f fd, mg "_law_tool" = some (.ref f) ∧ FunD K "_law_tool" "_law_tool" (defArgs (top 47)) (defBody (top 47)) (defScope (top 47)) [] [] f fd
  d__law_desk : ∃ f fd, mg "_law_desk" = some (.ref f) ∧ FunD K "_law_desk" "_law_desk" (defArgs (top 48)) (defBody (top 48)) (defScope (top 48)) [] [] f fd
  d__law_things : ∃ f fd, mg "_law_things" = some (.ref f) ∧ FunD K "_law_things" "_law_things" (defArgs (top 49)) (defBody (top 49)) (defScope (top 49)) [] [] f fd
  d__law_try : ∃ f fd, mg "_law_try" = some (.ref f) ∧ FunD K "_law_try" "_law_try" (defArgs (top 50)) (defBody (top 50)) (defScope (top 50)) [] [] f fd
  d__law_tries : ∃ f fd, mg "_law_tries" = some (.ref f) ∧ FunD K "_law_tries" "_law_tries" (defArgs (top 51)) (defBody (top 51)) (defScope (top 51)) [] [] f fd
  d__law_tried : ∃ f fd, mg "_law_tried" = some (.ref f) ∧ FunD K "_law_tried" "_law_tried" (defArgs (top 52)) (defBody (top 52)) (defScope (top 52)) [] [] f fd
  d__law_end : ∃ f fd, mg "_law_end" = some (.ref f) ∧ FunD K "_law_end" "_law_end" (defArgs (top 53)) (defBody (top 53)) (defScope (top 53)) [] [] f fd
  d__law_lot : ∃ f fd, mg "_law_lot" = some (.ref f) ∧ FunD K "_law_lot" "_law_lot" (defArgs (top 54)) (defBody (top 54)) (defScope (top 54)) [] [] f fd
  d__law_less : ∃ f fd, mg "_law_less" = some (.ref f) ∧ FunD K "_law_less" "_law_less" (defArgs (top 55)) (defBody (top 55)) (defScope (top 55)) [] [] f fd
  d__law_cube : ∃ f fd, mg "_law_cube" = some (.ref f) ∧ FunD K "_law_cube" "_law_cube" (defArgs (top 56)) (defBody (top 56)) (defScope (top 56)) [] [] f fd
  d__law_face : ∃ f fd, mg "_law_face" = some (.ref f) ∧ FunD K "_law_face" "_law_face" (defArgs (top 57)) (defBody (top 57)) (defScope (top 57)) [] [] f fd
  d__law_answers : ∃ f fd, mg "_law_answers" = some (.ref f) ∧ FunD K "_law_answers" "_law_answers" (defArgs (top 58)) (defBody (top 58)) (defScope (top 58)) [] [] f fd
  d_law : ∃ f fd, mg "law" = some (.ref f) ∧ FunD K "law" "law" (defArgs (top 59)) (defBody (top 59)) (defScope (top 59)) [] [] f fd
section
variable {P : Program} {w : World} {K : PySem.W.Frag} {mg : Str → Option Value} {base : PySem.Heap} {kc : Kc}
theorem l_is_integer (F : Facts P K mg kc) : Cal P w K mg base kc 1 "is_integer" F_is_integer := by
  obtain ⟨_, _, hm, hd⟩ := F.d_is_integer
  exact cal_of hm F.hK hd sc_is_integer (fun _ _ _ _ _ _ us hl => match us, hl with | [_], _ => rfl) (b_is_integer F.gs)
theorem l_is_below (F : Facts P K mg kc) : Cal P w K mg base kc 2 "is_below" F_is_below := by
  obtain ⟨_, _, hm, hd⟩ := F.d_is_below
  exact cal_of hm F.hK hd sc_is_below (fun _ _ _ _ _ _ us hl => match us, hl with | [_, _], _ => rfl) (b_is_below F.gs (l_is_integer F))
theorem l_is_sequence (F : Facts P K mg kc) : Cal P w K mg base kc 1 "is_sequence" F_is_sequence := by
  obtain ⟨_, _, hm, hd⟩ := F.d_is_sequence
  exact cal_of hm F.hK hd sc_is_sequence (fun _ _ _ _ _ _ us hl => match us, hl with | [_], _ => rfl) (b_is_sequence F.gs)
theorem l_is_row (F : Facts P K mg kc) : Cal P w K mg base kc 2 "is_row" F_is_row := by
  obtain ⟨_, _, hm, hd⟩ := F.d_is_row
  exact cal_of hm F.hK hd sc_is_row (fun _ _ _ _ _ _ us hl => match us, hl with | [_, _], _ => rfl) (b_is_row F.gs (l_is_sequence F))
theorem l_is_name (F : Facts P K mg kc) : Cal P w K mg base kc 1 "is_name" F_is_name := by
  obtain ⟨_, _, hm, hd⟩ := F.d_is_name
  exact cal_of hm F.hK hd sc_is_name (fun _ _ _ _ _ _ us hl => match us, hl with | [_], _ => rfl) (b_is_name F.gs)
theorem l_lot_wrong (F : Facts P K mg kc) : Cal P w K mg base kc 3 "lot_wrong" F_lot_wrong := by
  obtain ⟨_, _, hm, hd⟩ := F.d_lot_wrong
  exact cal_of hm F.hK hd sc_lot_wrong (fun _ _ _ _ _ _ us hl => match us, hl with | [_, _], _ => rfl) (b_lot_wrong F.gs (l_is_below F))
theorem l_need_things (F : Facts P K mg kc) : Cal P w K mg base kc 3 "need_things" F_need_things := by
  obtain ⟨_, _, hm, hd⟩ := F.d_need_things
  obtain ⟨_, k_InvalidHistory, x_InvalidHistory⟩ := F.x_InvalidHistory
  exact cal_of hm F.hK hd sc_need_things (fun _ _ _ _ _ _ us hl => match us, hl with | [_, _], _ => rfl) (b_need_things F.gs (l_is_below F) (l_is_sequence F) k_InvalidHistory x_InvalidHistory F.flds)
theorem l_is_kind (F : Facts P K mg kc) : Cal P w K mg base kc 3 "is_kind" F_is_kind := by
  obtain ⟨_, _, hm, hd⟩ := F.d_is_kind
  exact cal_of hm F.hK hd sc_is_kind (fun _ _ _ _ _ _ us hl => match us, hl with | [_, _], _ => rfl) (b_is_kind F.gs (l_is_integer F) (l_is_name F) (l_is_row F))
theorem l_need_kinds (F : Facts P K mg kc) : Cal P w K mg base kc 4 "need_kinds" F_need_kinds := by
  obtain ⟨_, _, hm, hd⟩ := F.d_need_kinds
  obtain ⟨_, k_InvalidDesk, x_InvalidDesk⟩ := F.x_InvalidDesk
  exact cal_of hm F.hK hd sc_need_kinds (fun _ _ _ _ _ _ us hl => match us, hl with | [_], _ => rfl) (b_need_kinds F.gs (l_is_kind F) (l_is_sequence F) k_InvalidDesk x_InvalidDesk)
theorem l_are_roles (F : Facts P K mg kc) : Cal P w K mg base kc 3 "are_roles" F_are_roles := by
  obtain ⟨_, _, hm, hd⟩ := F.d_are_roles
  exact cal_of hm F.hK hd sc_are_roles (fun _ _ _ _ _ _ us hl => match us, hl with | [_, _], _ => rfl) (b_are_roles F.gs (l_is_below F) (l_is_sequence F))
theorem l_is_tool (F : Facts P K mg kc) : Cal P w K mg base kc 4 "is_tool" F_is_tool := by
  obtain ⟨_, _, hm, hd⟩ := F.d_is_tool
  exact cal_of hm F.hK hd sc_is_tool (fun _ _ _ _ _ _ us hl => match us, hl with | [_, _, _], _ => rfl) (b_is_tool F.gs (l_are_roles F) (l_is_name F) (l_is_row F))
theorem l_are_states (F : Facts P K mg kc) : Cal P w K mg base kc 3 "are_states" F_are_states := by
  obtain ⟨_, _, hm, hd⟩ := F.d_are_states
  exact cal_of hm F.hK hd sc_are_states (fun _ _ _ _ _ _ us hl => match us, hl with | [_, _, _], _ => rfl) (b_are_states F.gs (l_is_below F) (l_is_row F))
theorem l_is_tool_row (F : Facts P K mg kc) : Cal P w K mg base kc 4 "is_tool_row" F_is_tool_row := by
  obtain ⟨_, _, hm, hd⟩ := F.d_is_tool_row
  exact cal_of hm F.hK hd sc_is_tool_row (fun _ _ _ _ _ _ us hl => match us, hl with | [_, _, _], _ => rfl) (b_is_tool_row F.gs (l_are_states F) (l_is_row F))
theorem l_need_rows (F : Facts P K mg kc) : Cal P w K mg base kc 5 "need_rows" F_need_rows := by
  obtain ⟨_, _, hm, hd⟩ := F.d_need_rows
  obtain ⟨_, k_InvalidDesk, x_InvalidDesk⟩ := F.x_InvalidDesk
  exact cal_of hm F.hK hd sc_need_rows (fun _ _ _ _ _ _ us hl => match us, hl with | [_, _, _, _], _ => rfl) (b_need_rows F.gs (l_is_tool_row F) (l_is_sequence F) k_InvalidDesk x_InvalidDesk)
theorem l_need_tools (F : Facts P K mg kc) : Cal P w K mg base kc 6 "need_tools" F_need_tools := by
  obtain ⟨_, _, hm, hd⟩ := F.d_need_tools
  obtain ⟨_, k_InvalidDesk, x_InvalidDesk⟩ := F.x_InvalidDesk
  exact cal_of hm F.hK hd sc_need_tools (fun _ _ _ _ _ _ us hl => match us, hl with | [_, _], _ => rfl) (b_need_tools F.gs (l_need_rows F) (l_is_tool F) (l_is_sequence F) k_InvalidDesk x_InvalidDesk)
theorem l_is_repair (F : Facts P K mg kc) : Cal P w K mg base kc 3 "is_repair" F_is_repair := by
  obtain ⟨_, _, hm, hd⟩ := F.d_is_repair
  exact cal_of hm F.hK hd sc_is_repair (fun _ _ _ _ _ _ us hl => match us, hl with | [_, _], _ => rfl) (b_is_repair F.gs (l_is_integer F) (l_is_below F) (l_is_row F))
theorem l_need_repairs (F : Facts P K mg kc) : Cal P w K mg base kc 4 "need_repairs" F_need_repairs := by
  obtain ⟨_, _, hm, hd⟩ := F.d_need_repairs
  obtain ⟨_, k_InvalidDesk, x_InvalidDesk⟩ := F.x_InvalidDesk
  exact cal_of hm F.hK hd sc_need_repairs (fun _ _ _ _ _ _ us hl => match us, hl with | [_, _], _ => rfl) (b_need_repairs F.gs (l_is_repair F) (l_is_sequence F) k_InvalidDesk x_InvalidDesk)
theorem l_is_try (F : Facts P K mg kc) : Cal P w K mg base kc 3 "is_try" F_is_try := by
  obtain ⟨_, _, hm, hd⟩ := F.d_is_try
  exact cal_of hm F.hK hd sc_is_try (fun _ _ _ _ _ _ us hl => match us, hl with | [_, _, _], _ => rfl) (b_is_try F.gs (l_is_below F) (l_is_row F) F.flds)
theorem l_need_history (F : Facts P K mg kc) : Cal P w K mg base kc 4 "need_history" F_need_history := by
  obtain ⟨_, _, hm, hd⟩ := F.d_need_history
  obtain ⟨_, k_InvalidHistory, x_InvalidHistory⟩ := F.x_InvalidHistory
  exact cal_of hm F.hK hd sc_need_history (fun _ _ _ _ _ _ us hl => match us, hl with | [_, _], _ => rfl) (b_need_history F.gs (l_is_try F) (l_need_things F) (l_is_sequence F) (l_is_row F) k_InvalidHistory x_InvalidHistory)
theorem l_Desk_behind (F : Facts P K mg kc) : CalM P w K mg base kc 1 "Desk" "behind" F_Desk_behind := by
  obtain ⟨C, _, hk, hc, _, g, fd, hm, hd⟩ := F.desk
  exact ⟨C, g, fd, _, hk, hc, hm, hd.bindsN (fun _ _ _ _ _ _ us hl => match us, hl with | [_, _, _], _ => rfl), fn_body F.hK hd sc_Desk_behind (b_Desk_behind F.gs F.flds)⟩
theorem l_Desk (F : Facts P K mg kc) : CalC P w K mg base kc 7 "Desk" F_Desk___init__ := by
  obtain ⟨C, hg, hk, _, ⟨g, fd, hm, hd⟩, _⟩ := F.desk
  exact ⟨C, g, fd, _, hg, hk, hm, hd.bindsN (fun _ _ _ _ _ _ us hl => match us, hl with | [_, _, _, _], _ => rfl), fn_body F.hK hd sc_Desk___init__ (b_Desk___init__ F.gs (l_need_repairs F) (l_need_tools F) (l_need_kinds F) F.flds)⟩
theorem l_tried (F : Facts P K mg kc) : Cal P w K mg base kc 2 "tried" F_tried := by
  obtain ⟨_, _, hm, hd⟩ := F.d_tried
  exact cal_of hm F.hK hd sc_tried (fun _ _ _ _ _ _ us hl => match us, hl with | [_, _, _], _ => rfl) (b_tried F.gs (l_Desk_behind F))
theorem l_need_struck (F : Facts P K mg kc) : Cal P w K mg base kc 4 "need_struck" F_need_struck := by
  obtain ⟨_, _, hm, hd⟩ := F.d_need_struck
  obtain ⟨_, k_InvalidStruck, x_InvalidStruck⟩ := F.x_InvalidStruck
  exact cal_of hm F.hK hd sc_need_struck (fun _ _ _ _ _ _ us hl => match us, hl with | [_, _], _ => rfl) (b_need_struck F.gs (l_lot_wrong F) (l_is_sequence F) k_InvalidStruck x_InvalidStruck)
theorem l_less (F : Facts P K mg kc) : Cal P w K mg base kc 5 "less" F_less := by
  obtain ⟨_, _, hm, hd⟩ := F.d_less
  exact cal_of hm F.hK hd sc_less (fun _ _ _ _ _ _ us hl => match us, hl with | [_, _, _], _ => rfl) (b_less F.gs (l_need_struck F) (l_need_history F))
theorem l_lot_worlds (F : Facts P K mg kc) : Cal P w K mg base kc 5 "lot_worlds" F_lot_worlds := by
  obtain ⟨_, _, hm, hd⟩ := F.d_lot_worlds
  exact cal_of hm F.hK hd sc_lot_worlds (fun _ _ _ _ _ _ us hl => match us, hl with | [_, _, _], _ => rfl) (b_lot_worlds F.gs (l_tried F) (l_need_struck F) (l_need_history F))
theorem l__law_power (F : Facts P K mg kc) : Cal P w K mg base kc 1 "_law_power" F__law_power := by
  obtain ⟨_, _, hm, hd⟩ := F.d__law_power
  exact cal_of hm F.hK hd sc__law_power (fun _ _ _ _ _ _ us hl => match us, hl with | [_], _ => rfl) (b__law_power F.gs)
theorem l__law_box (F : Facts P K mg kc) : Cal P w K mg base kc 1 "_law_box" F__law_box := by
  obtain ⟨_, _, hm, hd⟩ := F.d__law_box
  exact cal_of hm F.hK hd sc__law_box (fun _ _ _ _ _ _ us hl => match us, hl with | [_, _], _ => rfl) (b__law_box F.gs)
theorem l__law_take (F : Facts P K mg kc) : Cal P w K mg base kc 1 "_law_take" F__law_take := by
  obtain ⟨_, _, hm, hd⟩ := F.d__law_take
  exact cal_of hm F.hK hd sc__law_take (fun _ _ _ _ _ _ us hl => match us, hl with | [_, _], _ => rfl) (b__law_take F.gs)
theorem l__law_pick (F : Facts P K mg kc) : Cal P w K mg base kc 2 "_law_pick" F__law_pick := by
  obtain ⟨_, _, hm, hd⟩ := F.d__law_pick
  exact cal_of hm F.hK hd sc__law_pick (fun _ _ _ _ _ _ us hl => match us, hl with | [_, _], _ => rfl) (b__law_pick F.gs (l__law_take F))
theorem l__law_names (F : Facts P K mg kc) : Cal P w K mg base kc 2 "_law_names" F__law_names := by
  obtain ⟨_, _, hm, hd⟩ := F.d__law_names
  exact cal_of hm F.hK hd sc__law_names (fun _ _ _ _ _ _ us hl => match us, hl with | [_], _ => rfl) (b__law_names F.gs (l__law_take F))
theorem l__law_befores (F : Facts P K mg kc) : Cal P w K mg base kc 1 "_law_befores" F__law_befores := by
  obtain ⟨_, _, hm, hd⟩ := F.d__law_befores
  exact cal_of hm F.hK hd sc__law_befores (fun _ _ _ _ _ _ us hl => match us, hl with | [_, _], _ => rfl) (b__law_befores F.gs)
theorem l__law_tool (F : Facts P K mg kc) : Cal P w K mg base kc 3 "_law_tool" F__law_tool := by
  obtain ⟨_, _, hm, hd⟩ := F.d__law_tool
  exact cal_of hm F.hK hd sc__law_tool (fun _ _ _ _ _ _ us hl => match us, hl with | [_, _, _], _ => rfl) (b__law_tool F.gs (l__law_befores F) (l__law_take F) (l__law_pick F))
theorem l__law_desk (F : Facts P K mg kc) : Cal P w K mg base kc 4 "_law_desk" F__law_desk := by
  obtain ⟨_, _, hm, hd⟩ := F.d__law_desk
  exact cal_of hm F.hK hd sc__law_desk (fun _ _ _ _ _ _ us hl => match us, hl with | [_, _], _ => rfl) (b__law_desk F.gs (l__law_take F) (l__law_tool F) (l__law_names F))
theorem l__law_things (F : Facts P K mg kc) : Cal P w K mg base kc 2 "_law_things" F__law_things := by
  obtain ⟨_, _, hm, hd⟩ := F.d__law_things
  exact cal_of hm F.hK hd sc__law_things (fun _ _ _ _ _ _ us hl => match us, hl with | [_, _, _], _ => rfl) (b__law_things F.gs (l__law_take F))
theorem l__law_try (F : Facts P K mg kc) : Cal P w K mg base kc 3 "_law_try" F__law_try := by
  obtain ⟨_, _, hm, hd⟩ := F.d__law_try
  exact cal_of hm F.hK hd sc__law_try (fun _ _ _ _ _ _ us hl => match us, hl with | [_, _, _], _ => rfl) (b__law_try F.gs (l__law_pick F) (l__law_take F))
theorem l__law_tries (F : Facts P K mg kc) : Cal P w K mg base kc 4 "_law_tries" F__law_tries := by
  obtain ⟨_, _, hm, hd⟩ := F.d__law_tries
  exact cal_of hm F.hK hd sc__law_tries (fun _ _ _ _ _ _ us hl => match us, hl with | [_, _, _, _], _ => rfl) (b__law_tries F.gs (l__law_try F))
theorem l__law_tried (F : Facts P K mg kc) : Cal P w K mg base kc 1 "_law_tried" F__law_tried := by
  obtain ⟨_, _, hm, hd⟩ := F.d__law_tried
  exact cal_of hm F.hK hd sc__law_tried (fun _ _ _ _ _ _ us hl => match us, hl with | [_, _, _], _ => rfl) (b__law_tried F.gs)
theorem l__law_end (F : Facts P K mg kc) : Cal P w K mg base kc 2 "_law_end" F__law_end := by
  obtain ⟨_, _, hm, hd⟩ := F.d__law_end
  exact cal_of hm F.hK hd sc__law_end (fun _ _ _ _ _ _ us hl => match us, hl with | [_, _, _], _ => rfl) (b__law_end F.gs (l__law_tried F))
theorem l__law_lot (F : Facts P K mg kc) : Cal P w K mg base kc 2 "_law_lot" F__law_lot := by
  obtain ⟨_, _, hm, hd⟩ := F.d__law_lot
  exact cal_of hm F.hK hd sc__law_lot (fun _ _ _ _ _ _ us hl => match us, hl with | [_, _], _ => rfl) (b__law_lot F.gs (l__law_take F))
theorem l__law_less (F : Facts P K mg kc) : Cal P w K mg base kc 1 "_law_less" F__law_less := by
  obtain ⟨_, _, hm, hd⟩ := F.d__law_less
  exact cal_of hm F.hK hd sc__law_less (fun _ _ _ _ _ _ us hl => match us, hl with | [_, _], _ => rfl) (b__law_less F.gs)
theorem l__law_cube (F : Facts P K mg kc) : Cal P w K mg base kc 3 "_law_cube" F__law_cube := by
  obtain ⟨_, _, hm, hd⟩ := F.d__law_cube
  exact cal_of hm F.hK hd sc__law_cube (fun _ _ _ _ _ _ us hl => match us, hl with | [_, _, _, _], _ => rfl) (b__law_cube F.gs (l__law_power F) (l__law_less F) (l__law_end F))
theorem l__law_face (F : Facts P K mg kc) : Cal P w K mg base kc 2 "_law_face" F__law_face := by
  obtain ⟨_, _, hm, hd⟩ := F.d__law_face
  exact cal_of hm F.hK hd sc__law_face (fun _ _ _ _ _ _ us hl => match us, hl with | [_, _, _], _ => rfl) (b__law_face F.gs (l__law_power F))
theorem l__law_answers (F : Facts P K mg kc) : Cal P w K mg base kc 6 "_law_answers" F__law_answers := by
  obtain ⟨_, _, hm, hd⟩ := F.d__law_answers
  exact cal_of hm F.hK hd sc__law_answers (fun _ _ _ _ _ _ us hl => match us, hl with | [_, _, _, _], _ => rfl) (b__law_answers F.gs (l_lot_worlds F) (l_less F) (l__law_face F) (l__law_take F))
theorem whole (F : Facts P K mg kc) : ∃ fa fd, mg "law" = some (.ref fa) ∧ Binds K fd ["script"] [] ∧ FnG P w K mg base 9 fa fd ["script"] (spOf kc F_law) := by
  obtain ⟨fa, fd, hm, hd⟩ := F.d_law
  exact ⟨fa, fd, hm, hd.bindsN (fun _ _ _ _ _ _ us hl => match us, hl with | [_], _ => rfl), fn_body F.hK hd sc_law (b_law F.gs (l__law_answers F) (l_lot_worlds F) (l__law_tried F) (l__law_cube F) (l__law_lot F) (l__law_take F) (l__law_tries F) (l__law_things F) (l__law_desk F) (l__law_box F) (l_Desk F))⟩
theorem l_law (F : Facts P K mg kc) : Cal P w K mg base kc 9 "law" F_law := by
  obtain ⟨_, _, hm, hd⟩ := F.d_law
  exact cal_of hm F.hK hd sc_law (fun _ _ _ _ _ _ us hl => match us, hl with | [_], _ => rfl) (b_law F.gs (l__law_answers F) (l_lot_worlds F) (l__law_tried F) (l__law_cube F) (l__law_lot F) (l__law_take F) (l__law_tries F) (l__law_things F) (l__law_desk F) (l__law_box F) (l_Desk F))
end
theorem answers {P : Program} {w : World} {K : PySem.W.Frag} {mg : Str → Option Value} {kc : Kc} {s : Shared} {a fa : Addr} {vs : List Value} {ns : List Int} (F : Facts P K mg kc) (En : Entry K mg s a vs ns) (hm : mg "law" = some (.ref fa)) (yes : F_law [.val (scrD ns)] [] = (.ret (.bool true), [])) :
    codeAny (model P w) callerA (.call (.ref fa) ⟨[.ref a], []⟩) (fun r s' => r = .ok (.ret (.bool true)) ∧ OldK s.heap s'.heap ∧ s'.os = s.os ∧ AllBare s'.gens) s := by
  obtain ⟨f, fd, h1, h2, h3⟩ := whole (P := P) (w := w) (base := ground K s a vs ns) F
  rw [hm] at h1
  cases h1
  exact law_answers En F.hK ⟨rfl, by decide, by decide⟩ h3 (h2 s [.ref a] En.kin rfl) yes
end K11

set_option Elab.async false
set_option linter.all false
set_option maxRecDepth 100000
set_option maxHeartbeats 0
namespace K11
open PySem PySem.Spec Den
open PyProof.Rows L2
theorem t_InvalidDesk : TxtX "InvalidDesk.__init__" (defArgs (inCls (top 2) 0)) (defBody (inCls (top 2) 0)) (defScope (inCls (top 2) 0)) "at" "at" "self" where
  ex := by
    refine ⟨_, _, _, _, _, _, _, _, _, _, _, _, _, rfl, fun env he => ⟨_, rfl⟩, fun env he => ⟨?_, ?_, ?_⟩, rfl, rfl⟩
    · unfold interactive; rw [he]; rfl
    · rfl
    · rfl
  bind := fun _ _ _ _ _ _ _ _ _ _ => rfl
  hks := rfl
  hkc := rfl
  hka := rfl
  hkf := rfl
  hne := by decide
  hk := rfl
  hco := rfl
  hgen := rfl
  hnc := by decide +kernel
  hda := by decide
  hds := by decide
def e_InvalidDesk : ExI := ⟨"InvalidDesk", "at", "InvalidDesk.__init__", defArgs (inCls (top 2) 0), defBody (inCls (top 2) 0), defScope (inCls (top 2) 0)⟩
theorem t_InvalidHistory : TxtX "InvalidHistory.__init__" (defArgs (inCls (top 3) 0)) (defBody (inCls (top 3) 0)) (defScope (inCls (top 3) 0)) "at" "at" "self" where
  ex := by
    refine ⟨_, _, _, _, _, _, _, _, _, _, _, _, _, rfl, fun env he => ⟨_, rfl⟩, fun env he => ⟨?_, ?_, ?_⟩, rfl, rfl⟩
    · unfold interactive; rw [he]; rfl
    · rfl
    · rfl
  bind := fun _ _ _ _ _ _ _ _ _ _ => rfl
  hks := rfl
  hkc := rfl
  hka := rfl
  hkf := rfl
  hne := by decide
  hk := rfl
  hco := rfl
  hgen := rfl
  hnc := by decide +kernel
  hda := by decide
  hds := by decide
def e_InvalidHistory : ExI := ⟨"InvalidHistory", "at", "InvalidHistory.__init__", defArgs (inCls (top 3) 0), defBody (inCls (top 3) 0), defScope (inCls (top 3) 0)⟩
theorem t_InvalidStruck : TxtX "InvalidStruck.__init__" (defArgs (inCls (top 4) 0)) (defBody (inCls (top 4) 0)) (defScope (inCls (top 4) 0)) "at" "at" "self" where
  ex := by
    refine ⟨_, _, _, _, _, _, _, _, _, _, _, _, _, rfl, fun env he => ⟨_, rfl⟩, fun env he => ⟨?_, ?_, ?_⟩, rfl, rfl⟩
    · unfold interactive; rw [he]; rfl
    · rfl
    · rfl
  bind := fun _ _ _ _ _ _ _ _ _ _ => rfl
  hks := rfl
  hkc := rfl
  hka := rfl
  hkf := rfl
  hne := by decide
  hk := rfl
  hco := rfl
  hgen := rfl
  hnc := by decide +kernel
  hda := by decide
  hds := by decide
def e_InvalidStruck : ExI := ⟨"InvalidStruck", "at", "InvalidStruck.__init__", defArgs (inCls (top 4) 0), defBody (inCls (top 4) 0), defScope (inCls (top 4) 0)⟩
def ins : List ExI := [e_InvalidDesk, e_InvalidHistory, e_InvalidStruck]
def own (K : PySem.W.Frag) : Bool := ins.all fun e => e.ok PySem.Challenge.pw_lateno_k11_whole_worlds_for_all_lots_tha K
def fa : List He.Fa := [.free "abs", .free "all", .free "bool", .free "dict", .free "enumerate", .free "int", .free "isinstance", .free "len", .free "list", .free "range", .free "repr", .free "set", .free "str", .free "tuple", .int "LONGEST_NAME" 8, .int "MOST_KINDS" 6, .int "MOST_PRICE" 1000000, .int "MOST_ROLES" 3, .int "MOST_STATES" 6, .int "MOST_TOOLS" 20, .str "SMALL_LETTERS" "abcdefghijklmnopqrstuvwxyz", .glo "InvalidDesk", .free "super", .noat "InvalidDesk" "at", .glo "InvalidHistory", .noat "InvalidHistory" "at", .glo "InvalidStruck", .noat "InvalidStruck" "at", .cls "Desk", .noat "Desk" "kinds", .noat "Desk" "tools", .noat "Desk" "repairs", .noat "Desk" "told", .noat "Desk" "found_rows", .glo "Desk", .mkr "Desk", .meth "Desk" "behind", .glo "is_integer", .glo "is_below", .glo "is_sequence", .glo "is_row", .glo "is_name", .glo "lot_wrong", .glo "need_things", .glo "is_kind", .glo "need_kinds", .glo "are_roles", .glo "is_tool", .glo "are_states", .glo "is_tool_row", .glo "need_rows", .glo "need_tools", .glo "is_repair", .glo "need_repairs", .glo "is_try", .glo "need_history", .glo "tried", .glo "need_struck", .glo "less", .glo "lot_worlds", .glo "_law_power", .glo "_law_box", .glo "_law_take", .glo "_law_pick", .glo "_law_names", .glo "_law_befores", .glo "_law_tool", .glo "_law_desk", .glo "_law_things", .glo "_law_try", .glo "_law_tries", .glo "_law_tried", .glo "_law_end", .glo "_law_lot", .glo "_law_less", .glo "_law_cube", .glo "_law_face", .glo "_law_answers", .glo "law"]
def fn : List He.DefD := [⟨("Desk", some "__init__"), "__init__", "Desk.__init__", defArgs (inCls (top 29) 0), defBody (inCls (top 29) 0), defScope (inCls (top 29) 0), [], []⟩, ⟨("Desk", some "behind"), "behind", "Desk.behind", defArgs (inCls (top 29) 1), defBody (inCls (top 29) 1), defScope (inCls (top 29) 1), [], []⟩, ⟨("is_integer", none), "is_integer", "is_integer", defArgs (top 8), defBody (top 8), defScope (top 8), [], []⟩, ⟨("is_below", none), "is_below", "is_below", defArgs (top 9), defBody (top 9), defScope (top 9), [], []⟩, ⟨("is_sequence", none), "is_sequence", "is_sequence", defArgs (top 10), defBody (top 10), defScope (top 10), [], []⟩, ⟨("is_row", none), "is_row", "is_row", defArgs (top 11), defBody (top 11), defScope (top 11), [], []⟩, ⟨("is_name", none), "is_name", "is_name", defArgs (top 12), defBody (top 12), defScope (top 12), [], []⟩, ⟨("lot_wrong", none), "lot_wrong", "lot_wrong", defArgs (top 13), defBody (top 13), defScope (top 13), [], []⟩, ⟨("need_things", none), "need_things", "need_things", defArgs (top 16), defBody (top 16), defScope (top 16), [], []⟩, ⟨("is_kind", none), "is_kind", "is_kind", defArgs (top 31), defBody (top 31), defScope (top 31), [], []⟩, ⟨("need_kinds", none), "need_kinds", "need_kinds", defArgs (top 30), defBody (top 30), defScope (top 30), [], []⟩, ⟨("are_roles", none), "are_roles", "are_roles", defArgs (top 34), defBody (top 34), defScope (top 34), [], []⟩, ⟨("is_tool", none), "is_tool", "is_tool", defArgs (top 33), defBody (top 33), defScope (top 33), [], []⟩, ⟨("are_states", none), "are_states", "are_states", defArgs (top 37), defBody (top 37), defScope (top 37), [], []⟩, ⟨("is_tool_row", none), "is_tool_row", "is_tool_row", defArgs (top 36), defBody (top 36), defScope (top 36), [], []⟩, ⟨("need_rows", none), "need_rows", "need_rows", defArgs (top 35), defBody (top 35), defScope (top 35), [], []⟩, ⟨("need_tools", none), "need_tools", "need_tools", defArgs (top 32), defBody (top 32), defScope (top 32), [], []⟩, ⟨("is_repair", none), "is_repair", "is_repair", defArgs (top 39), defBody (top 39), defScope (top 39), [], []⟩, ⟨("need_repairs", none), "need_repairs", "need_repairs", defArgs (top 38), defBody (top 38), defScope (top 38), [], []⟩, ⟨("is_try", none), "is_try", "is_try", defArgs (top 15), defBody (top 15), defScope (top 15), [], []⟩, ⟨("need_history", none), "need_history", "need_history", defArgs (top 17), defBody (top 17), defScope (top 17), [], []⟩, ⟨("tried", none), "tried", "tried", defArgs (top 18), defBody (top 18), defScope (top 18), [], []⟩, ⟨("need_struck", none), "need_struck", "need_struck", defArgs (top 20), defBody (top 20), defScope (top 20), [], []⟩, ⟨("less", none), "less", "less", defArgs (top 21), defBody (top 21), defScope (top 21), [], []⟩, ⟨("lot_worlds", none), "lot_worlds", "lot_worlds", defArgs (top 22), defBody (top 22), defScope (top 22), [], []⟩, ⟨("_law_power", none), "_law_power", "_law_power", defArgs (top 41), defBody (top 41), defScope (top 41), [], []⟩, ⟨("_law_box", none), "_law_box", "_law_box", defArgs (top 42), defBody (top 42), defScope (top 42), [], []⟩, ⟨("_law_take", none), "_law_take", "_law_take", defArgs (top 43), defBody (top 43), defScope (top 43), [], []⟩, ⟨("_law_pick", none), "_law_pick", "_law_pick", defArgs (top 44), defBody (top 44), defScope (top 44), [], []⟩, ⟨("_law_names", none), "_law_names", "_law_names", defArgs (top 45), defBody (top 45), defScope (top 45), [], []⟩, ⟨("_law_befores", none), "_law_befores", "_law_befores", defArgs (top 46), defBody (top 46), defScope (top 46), [], []⟩, ⟨("_law_tool", none), "_law_tool", "_law_tool", defArgs (top 47), defBody (top 47), defScope (top 47), [], []⟩, ⟨("_law_desk", none), "_law_desk", "_law_desk", defArgs (top 48), defBody (top 48), defScope (top 48), [], []⟩, ⟨("_law_things", none), "_law_things", "_law_things", defArgs (top 49), defBody (top 49), defScope (top 49), [], []⟩, ⟨("_law_try", none), "_law_try", "_law_try", defArgs (top 50), defBody (top 50), defScope (top 50), [], []⟩, ⟨("_law_tries", none), "_law_tries", "_law_tries", defArgs (top 51), defBody (top 51), defScope (top 51), [], []⟩, ⟨("_law_tried", none), "_law_tried", "_law_tried", defArgs (top 52), defBody (top 52), defScope (top 52), [], []⟩, ⟨("_law_end", none), "_law_end", "_law_end", defArgs (top 53), defBody (top 53), defScope (top 53), [], []⟩, ⟨("_law_lot", none), "_law_lot", "_law_lot", defArgs (top 54), defBody (top 54), defScope (top 54), [], []⟩, ⟨("_law_less", none), "_law_less", "_law_less", defArgs (top 55), defBody (top 55), defScope (top 55), [], []⟩, ⟨("_law_cube", none), "_law_cube", "_law_cube", defArgs (top 56), defBody (top 56), defScope (top 56), [], []⟩, ⟨("_law_face", none), "_law_face", "_law_face", defArgs (top 57), defBody (top 57), defScope (top 57), [], []⟩, ⟨("_law_answers", none), "_law_answers", "_law_answers", defArgs (top 58), defBody (top 58), defScope (top 58), [], []⟩, ⟨("law", none), "law", "law", defArgs (top 59), defBody (top 59), defScope (top 59), [], []⟩]
def klN : List Str := ["InvalidDesk", "InvalidHistory", "InvalidStruck", "Desk"]
theorem own_ok {K : PySem.W.Frag} {h : PySem.Heap} (S : Says fa fn ins own K h) (e : ExI) (he : e ∈ ins) : e.ok PySem.Challenge.pw_lateno_k11_whole_worlds_for_all_lots_tha K = true := List.all_eq_true.mp S.own e he
theorem facts {K : PySem.W.Frag} {h : PySem.Heap} {mg : Str → Option Value} (S : Says fa fn ins own K h) (G : h.Ns mainGlobals mg) : Facts PySem.Challenge.pw_lateno_k11_whole_worlds_for_all_lots_tha K mg (kcOf klN K) := by
  have X := S.kin
  have c := S.facts
  exact {
  hK := rfl,
  gs := { n_abs := He.free_ok X G (c.fact 0), n_all := He.free_ok X G (c.fact 1), n_bool := He.free_ok X G (c.fact 2), n_dict := He.free_ok X G (c.fact 3), n_enumerate := He.free_ok X G (c.fact 4), n_int := He.free_ok X G (c.fact 5), n_isinstance := He.free_ok X G (c.fact 6), n_len := He.free_ok X G (c.fact 7), n_list := He.free_ok X G (c.fact 8), n_range := He.free_ok X G (c.fact 9), n_repr := He.free_ok X G (c.fact 10), n_set := He.free_ok X G (c.fact 11), n_str := He.free_ok X G (c.fact 12), n_tuple := He.free_ok X G (c.fact 13), c_LONGEST_NAME := He.int_ok X G (c.fact 14), c_MOST_KINDS := He.int_ok X G (c.fact 15), c_MOST_PRICE := He.int_ok X G (c.fact 16), c_MOST_ROLES := He.int_ok X G (c.fact 17), c_MOST_STATES := He.int_ok X G (c.fact 18), c_MOST_TOOLS := He.int_ok X G (c.fact 19), c_SMALL_LETTERS := He.str_ok X G (c.fact 20) },
  x_InvalidDesk := ⟨_, kcOf_kl (by decide), ExI.calX (own_ok S e_InvalidDesk (by simp [ins])) (S.ini 0) (He.glo_ok X G (c.fact 21)) (He.free_ok X G (c.fact 22)) (He.noat_ok (c.fact 23)) t_InvalidDesk⟩,
  x_InvalidHistory := ⟨_, kcOf_kl (by decide), ExI.calX (own_ok S e_InvalidHistory (by simp [ins])) (S.ini 1) (He.glo_ok X G (c.fact 24)) (He.free_ok X G (c.fact 22)) (He.noat_ok (c.fact 25)) t_InvalidHistory⟩,
  x_InvalidStruck := ⟨_, kcOf_kl (by decide), ExI.calX (own_ok S e_InvalidStruck (by simp [ins])) (S.ini 2) (He.glo_ok X G (c.fact 26)) (He.free_ok X G (c.fact 22)) (He.noat_ok (c.fact 27)) t_InvalidStruck⟩,
  flds := fun f hf n hn C e => by
    cases kcOf_eq e
    simp only [List.mem_cons, List.not_mem_nil, or_false] at hn
    subst hn
    refine ⟨He.cls_ok (c.fact 28), ?_⟩
    simp only [deskFs, List.mem_cons, List.not_mem_nil, or_false] at hf
    rcases hf with rfl | rfl | rfl | rfl | rfl <;> first | exact He.noat_ok (c.fact 29) | exact He.noat_ok (c.fact 30) | exact He.noat_ok (c.fact 31) | exact He.noat_ok (c.fact 32) | exact He.noat_ok (c.fact 33),
  desk := by
    obtain ⟨f1, h1⟩ := (c.def_ 0 rfl)
    obtain ⟨f2, h2⟩ := (c.def_ 1 rfl)
    exact ⟨_, (He.glo_ok X G (c.fact 34)), kcOf_kl (by decide), He.cls_ok (c.fact 28), ⟨_, f1, He.mkr_ok (c.fact 35), h1⟩, ⟨_, f2, He.meth_ok (c.fact 36), h2⟩⟩,
  d_is_integer := by
    obtain ⟨f1, h1⟩ := (c.def_ 2 rfl)
    exact ⟨_, f1, (He.glo_ok X G (c.fact 37)), h1⟩,
  d_is_below := by
    obtain ⟨f1, h1⟩ := (c.def_ 3 rfl)
    exact ⟨_, f1, (He.glo_ok X G (c.fact 38)), h1⟩,
  d_is_sequence := by
    obtain ⟨f1, h1⟩ := (c.def_ 4 rfl)
    exact ⟨_, f1, (He.glo_ok X G (c.fact 39)), h1⟩,
  d_is_row := by
    obtain ⟨f1, h1⟩ := (c.def_ 5 rfl)
    exact ⟨_, f1, (He.glo_ok X G (c.fact 40)), h1⟩,
  d_is_name := by
    obtain ⟨f1, h1⟩ := (c.def_ 6 rfl)
    exact ⟨_, f1, (He.glo_ok X G (c.fact 41)), h1⟩,
  d_lot_wrong := by
    obtain ⟨f1, h1⟩ := (c.def_ 7 rfl)
    exact ⟨_, f1, (He.glo_ok X G (c.fact 42)), h1⟩,
  d_need_things := by
    obtain ⟨f1, h1⟩ := (c.def_ 8 rfl)
    exact ⟨_, f1, (He.glo_ok X G (c.fact 43)), h1⟩,
  d_is_kind := by
    obtain ⟨f1, h1⟩ := (c.def_ 9 rfl)
    exact ⟨_, f1, (He.glo_ok X G (c.fact 44)), h1⟩,
  d_need_kinds := by
    obtain ⟨f1, h1⟩ := (c.def_ 10 rfl)
    exact ⟨_, f1, (He.glo_ok X G (c.fact 45)), h1⟩,
  d_are_roles := by
    obtain ⟨f1, h1⟩ := (c.def_ 11 rfl)
    exact ⟨_, f1, (He.glo_ok X G (c.fact 46)), h1⟩,
  d_is_tool := by
    obtain ⟨f1, h1⟩ := (c.def_ 12 rfl)
    exact ⟨_, f1, (He.glo_ok X G (c.fact 47)), h1⟩,
  d_are_states := by
    obtain ⟨f1, h1⟩ := (c.def_ 13 rfl)
    exact ⟨_, f1, (He.glo_ok X G (c.fact 48)), h1⟩,
  d_is_tool_row := by
    obtain ⟨f1, h1⟩ := (c.def_ 14 rfl)
    exact ⟨_, f1, (He.glo_ok X G (c.fact 49)), h1⟩,
  d_need_rows := by
    obtain ⟨f1, h1⟩ := (c.def_ 15 rfl)
    exact ⟨_, f1, (He.glo_ok X G (c.fact 50)), h1⟩,
  d_need_tools := by
    obtain ⟨f1, h1⟩ := (c.def_ 16 rfl)
    exact ⟨_, f1, (He.glo_ok X G (c.fact 51)), h1⟩,
  d_is_repair := by
    obtain ⟨f1, h1⟩ := (c.def_ 17 rfl)
    exact ⟨_, f1, (He.glo_ok X G (c.fact 52)), h1⟩,
  d_need_repairs := by
    obtain ⟨f1, h1⟩ := (c.def_ 18 rfl)
    exact ⟨_, f1, (He.glo_ok X G (c.fact 53)), h1⟩,
  d_is_try := by
    obtain ⟨f1, h1⟩ := (c.def_ 19 rfl)
    exact ⟨_, f1, (He.glo_ok X G (c.fact 54)), h1⟩,
  d_need_history := by
    obtain ⟨f1, h1⟩ := (c.def_ 20 rfl)
    exact ⟨_, f1, (He.glo_ok X G (c.fact 55)), h1⟩,
  d_tried := by
    obtain ⟨f1, h1⟩ := (c.def_ 21 rfl)
    exact ⟨_, f1, (He.glo_ok X G (c.fact 56)), h1⟩,
  d_need_struck := by
    obtain ⟨f1, h1⟩ := (c.def_ 22 rfl)
    exact ⟨_, f1, (He.glo_ok X G (c.fact 57)), h1⟩,
  d_less := by
    obtain ⟨f1, h1⟩ := (c.def_ 23 rfl)
    exact ⟨_, f1, (He.glo_ok X G (c.fact 58)), h1⟩,
  d_lot_worlds := by
    obtain ⟨f1, h1⟩ := (c.def_ 24 rfl)
    exact ⟨_, f1, (He.glo_ok X G (c.fact 59)), h1⟩,
  d__law_power := by
    obtain ⟨f1, h1⟩ := (c.def_ 25 rfl)
    exact ⟨_, f1, (He.glo_ok X G (c.fact 60)), h1⟩,
  d__law_box := by
    obtain ⟨f1, h1⟩ := (c.def_ 26 rfl)
    exact ⟨_, f1, (He.glo_ok X G (c.fact 61)), h1⟩,
  d__law_take := by
    obtain ⟨f1, h1⟩ := (c.def_ 27 rfl)
    exact ⟨_, f1, (He.glo_ok X G (c.fact 62)), h1⟩,
  d__law_pick := by
    obtain ⟨f1, h1⟩ := (c.def_ 28 rfl)
    exact ⟨_, f1, (He.glo_ok X G (c.fact 63)), h1⟩,
  d__law_names := by
    obtain ⟨f1, h1⟩ := (c.def_ 29 rfl)
    exact ⟨_, f1, (He.glo_ok X G (c.fact 64)), h1⟩,
  d__law_befores := by
    obtain ⟨f1, h1⟩ := (c.def_ 30 rfl)
    exact ⟨_, f1, (He.glo_ok X G (c.fact 65)), h1⟩,
  d__law_tool := by
    obtain ⟨f1, h1⟩ := (c.def_ 31 rfl)
    exact ⟨_, f1, (He.glo_ok X G (c.fact 66)), h1⟩,
  d__law_desk := by
    obtain ⟨f1, h1⟩ := (c.def_ 32 rfl)
    exact ⟨_, f1, (He.glo_ok X G (c.fact 67)), h1⟩,
  d__law_things := by
    obtain ⟨f1, h1⟩ := (c.def_ 33 rfl)
    exact ⟨_, f1, (He.glo_ok X G (c.fact 68)), h1⟩,
  d__law_try := by
    obtain ⟨f1, h1⟩ := (c.def_ 34 rfl)
    exact ⟨_, f1, (He.glo_ok X G (c.fact 69)), h1⟩,
  d__law_tries := by
    obtain ⟨f1, h1⟩ := (c.def_ 35 rfl)
    exact ⟨_, f1, (He.glo_ok X G (c.fact 70)), h1⟩,
  d__law_tried := by
    obtain ⟨f1, h1⟩ := (c.def_ 36 rfl)
    exact ⟨_, f1, (He.glo_ok X G (c.fact 71)), h1⟩,
  d__law_end := by
    obtain ⟨f1, h1⟩ := (c.def_ 37 rfl)
    exact ⟨_, f1, (He.glo_ok X G (c.fact 72)), h1⟩,
  d__law_lot := by
    obtain ⟨f1, h1⟩ := (c.def_ 38 rfl)
    exact ⟨_, f1, (He.glo_ok X G (c.fact 73)), h1⟩,
  d__law_less := by
    obtain ⟨f1, h1⟩ := (c.def_ 39 rfl)
    exact ⟨_, f1, (He.glo_ok X G (c.fact 74)), h1⟩,
  d__law_cube := by
    obtain ⟨f1, h1⟩ := (c.def_ 40 rfl)
    exact ⟨_, f1, (He.glo_ok X G (c.fact 75)), h1⟩,
  d__law_face := by
    obtain ⟨f1, h1⟩ := (c.def_ 41 rfl)
    exact ⟨_, f1, (He.glo_ok X G (c.fact 76)), h1⟩,
  d__law_answers := by
    obtain ⟨f1, h1⟩ := (c.def_ 42 rfl)
    exact ⟨_, f1, (He.glo_ok X G (c.fact 77)), h1⟩,
  d_law := by
    obtain ⟨f1, h1⟩ := (c.def_ 43 rfl)
    exact ⟨_, f1, (He.glo_ok X G (c.fact 78)), h1⟩ }
def loose0 : List PySem.Str := ["__name__", "LateError", "InvalidDesk", "InvalidHistory", "InvalidStruck", "SMALL_LETTERS", "LONGEST_NAME", "is_integer", "is_below", "is_sequence", "is_row", "is_name", "lot_wrong", "is_try", "need_things", "need_history", "tried", "need_struck", "less", "lot_worlds", "MOST_KINDS", "MOST_STATES", "MOST_TOOLS", "MOST_ROLES", "MOST_PRICE", "Desk", "need_kinds", "is_kind", "need_tools", "is_tool"]
def loose1 : List PySem.Str := ["are_roles", "need_rows", "is_tool_row", "are_states", "need_repairs", "is_repair", "_law_power", "_law_box", "_law_take", "_law_pick", "_law_names", "_law_befores", "_law_tool", "_law_desk", "_law_things", "_law_try", "_law_tries", "_law_tried", "_law_end", "_law_lot", "_law_less", "_law_cube", "_law_face", "_law_answers"]
def loose : List PySem.Str := loose0 ++ loose1
abbrev R : PySem.W.OpenRow := PySem.W.OpenLaw.row PySem.Challenge.rw_lateno_k11_whole_worlds_for_all_lots_tha
abbrev hk : PySem.W.Hook := hookO 5 fa fn ins own
def ob (s : PySem.W.SharedT) : Den.Seen := seen 5 fa fn ins own (HandSHeadRun.getT s)
theorem ob_eq (s : PySem.W.SharedT) : ob s = hk.obs s.abs := seen_eq (HandSHeadRun.getT_eq s)
theorem run (w : World) : HandSHeadRun.RunEq R (PySem.W.view R.prog [59]) hk ob 3000 loose w := by
  intro os
  kernel_rfl
/-- the row, from what the law's def does -/
theorem holds (yes : ∀ ns : List Int, ns.length ≤ 63 → F_law [.val (scrD ns)] [] = (.ret (.bool true), [])) : PySem.Challenge.rw_lateno_k11_whole_worlds_for_all_lots_tha.Holds := by
  w_on; o_law
  refine HandSHeadRun.head_any (r := R) (q := PySem.W.view R.prog [59]) (H := hk) (ob := ob) (M := 3000) (loose := loose) (d := HandSHeadRun.topDef R.prog 59) (kwd := []) ob_eq
    (by kernel_rfl) (fun s => by kernel_rfl) run (by kernel_rfl) (by kernel_rfl) (by kernel_rfl) (by rfl) (by first | assumption | decide +kernel) (by decide +kernel) ⟨rfl, rfl, rfl, rfl, rfl, by decide +kernel⟩ ?hw ?hc
  case hw => w_witness2
  case hc =>
    refine walk_den (l := PySem.Challenge.rw_lateno_k11_whole_worlds_for_all_lots_tha) (n := 63) rfl (by decide) (by kernel_rfl) fun w mg s fa a vs ns Y G hmg En hlen hbits => ?_
    obtain ⟨K, S⟩ := Y
    have hm : mg ("law" : PySem.Str) = some (.ref fa) := by
      have e : (HandSHeadRun.topDef R.prog 59).name = ("law" : PySem.Str) := by kernel_rfl
      rw [← e]
      exact hmg
    exact answers (facts S G) (En K S.kin) hm (yes ns hlen)
end K11


open PySem PySem.W PyProof.Rows
set_option maxRecDepth 100000 in
set_option maxHeartbeats 0 in
theorem PySem.Challenge.cw_lateno_k11_whole_worlds_for_all_lots_tha_holds : PySem.Challenge.rw_lateno_k11_whole_worlds_for_all_lots_tha.Holds := by
  exact K11.holds fun ns _ => K11.law_yes ns
