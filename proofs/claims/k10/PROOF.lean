import PyProof.Rows.All
import Wide.All
import OpenK.AllK
import Wide.FinOn
import PyProof.EqAt
import PyProof.EqKinds
import PyProof.TupleCall
import HandS.ForMost
import HandS.ForExc
import HandS.Lambda
import HandS.TryOnly
import HandS.IsInst
import HandS.TupAny
import HandS.TupMul
import HandS.Style
import HandS.Deep
import HandS.Conv
import HandS.SetFor
import HandS.Strs
import HandS.Zip
import KE.KDictPairs
import HandS.HotCalls
import HandS.ExcIs
import HandS.EndOwn
import HandS.SetKeys
import PyProof.DictMoreH
import KE.GoesEnum
import PyProof.Draws
import HandS.ExcOwn
import HandS.DictTup
import KE.SortData
import KE.DataMinMax
import HandS.SetTxt0
import HandS.Zip0
import PySem.Challenge.RW_buttonplans_k10_whole_ways
set_option Elab.async false
set_option linter.all false
set_option maxRecDepth 100000
set_option maxHeartbeats 8000000
/-! Pd0: the names of the defs that make lambdas (a law's own; asm.py writes the list). -/
namespace Pd
open PySem PySem.Spec
def lams : List Str := []
end Pd

/-! Pd1: pure data D, its bearing in an abstract heap (Rep), growth (Grow), slots (Stt), the readings of pure denotations (exOf, tsOf). -/
namespace Pd
open PySem PySem.Spec L2
variable {K : PySem.W.Frag}

/-! ### data -/
inductive D where
  | non | bl (b : Bool) | int (i : Int) | str (x : Str) | fn (v : V) | scr (ns : List Int) | tup (xs : List D) | lst (xs : List D) | dct (t : Bool) (kvs : List (D × D)) | pt (xs : List D) | ldc (t : Bool) (kvs : List (D × D)) | ob (i : Nat)

/-- what a reckoning comes to -/
inductive R (α : Type) where
  | ok (a : α) | exc (c : Str) | bad
def R.bind {α β : Type} (r : R α) (f : α → R β) : R β := match r with
  | .ok a => f a
  | .exc c => .exc c
  | .bad => .bad
@[simp] theorem R.bind_ok {α β : Type} (a : α) (f : α → R β) : (R.ok a).bind f = f a := rfl
@[simp] theorem R.bind_exc {α β : Type} (c : Str) (f : α → R β) : (R.exc c).bind f = .exc c := rfl
@[simp] theorem R.bind_bad {α β : Type} (f : α → R β) : (R.bad).bind f = .bad := rfl

def kD : Key → D
  | .inl i => .int i
  | .inr x => .str x

/-- marks: G tells of an object of an own class alone that it is there, and which it is (or whose it is) -/
def mark (i : Nat) : HO := .tbl #[.int (i : Int) 0]
def pmark (i : Nat) (f : Str) : HO := .tbl #[.int (i : Int) 0, .str f 0]
mutual
/-- the value v bears d, by what stands in G -/
inductive Rep (K : PySem.W.Frag) (G : Hp) : V → D → Prop
  | non : Rep K G .non .non
  | bl (b : Bool) : Rep K G (.bl b) (.bl b)
  | int (i : Int) : Rep K G (.int i) (.int i)
  | str (x : Str) : Rep K G (.str x) (.str x)
  | fn (v : V) : Rep K G v (.fn v)
  | scr {a : Addr} {ns : List Int} : SqL K G a (ns.map V.int) → Rep K G (.ref a) (.scr ns)
  | tup {a : Addr} {xs : List V} {ds : List D} : G a = some (.tup xs) → RepL K G xs ds → Rep K G (.ref a) (.tup ds)
  | lst {a : Addr} {xs : List V} {ds : List D} : G a = some (.lst xs) → RepL K G xs ds → Rep K G (.ref a) (.lst ds)
  | dK {a : Addr} {ks : List (Key × V)} {kvs : List (D × D)} : G a = some (.dK ks) → RepK K G ks kvs → Rep K G (.ref a) (.dct false kvs)
  | dT {a : Addr} {ks : List (List Key × V)} {kvs : List (D × D)} : G a = some (.dT ks) → RepT K G ks kvs → Rep K G (.ref a) (.dct true kvs)
  | pt {a : Addr} {o : Obj} {xs : List V} {ds : List D} : G a = some (.frz o (.tup xs)) → o.dict = none → RepL K G xs ds → Rep K G (.ref a) (.pt ds)
  | lK {a : Addr} {o : Obj} {ks : List (Key × V)} {kvs : List (D × D)} : G a = some (.frz o (.dK ks)) → RepK K G ks kvs → Rep K G (.ref a) (.ldc false kvs)
  | lT {a : Addr} {o : Obj} {ks : List (List Key × V)} {kvs : List (D × D)} : G a = some (.frz o (.dT ks)) → RepT K G ks kvs → Rep K G (.ref a) (.ldc true kvs)
  | ob {a : Addr} {i : Nat} : G a = some (mark i) → Rep K G (.ref a) (.ob i)
inductive RepL (K : PySem.W.Frag) (G : Hp) : List V → List D → Prop
  | nil : RepL K G [] []
  | cons {v : V} {vs : List V} {d : D} {ds : List D} : Rep K G v d → RepL K G vs ds → RepL K G (v :: vs) (d :: ds)
inductive RepK (K : PySem.W.Frag) (G : Hp) : List (Key × V) → List (D × D) → Prop
  | nil : RepK K G [] []
  | cons {k : Key} {v : V} {ks : List (Key × V)} {d : D} {kvs : List (D × D)} : Rep K G v d → RepK K G ks kvs → RepK K G ((k, v) :: ks) ((kD k, d) :: kvs)
inductive RepT (K : PySem.W.Frag) (G : Hp) : List (List Key × V) → List (D × D) → Prop
  | nil : RepT K G [] []
  | cons {k : List Key} {v : V} {ks : List (List Key × V)} {d : D} {kvs : List (D × D)} : Rep K G v d → RepT K G ks kvs → RepT K G ((k, v) :: ks) ((.tup (k.map kD), d) :: kvs)
end

/-- no table of code objects -/
def nt (o : HO) : Prop := ∀ ps, o ≠ .tbl ps
/-- all but the tables stay -/
def Ext (H H' : Hp) : Prop := ∀ b o, H b = some o → nt o → H' b = some o
theorem _root_.L2.Same.ext {H H' : Hp} (s : Same H H') : Ext H H' := fun b o h _ => s b o h
theorem Ext.refl (H : Hp) : Ext H H := fun _ _ h _ => h
theorem Ext.trans {H H1 H2 : Hp} (a : Ext H H1) (b : Ext H1 H2) : Ext H H2 := fun c o h n => b c o (a c o h n) n
/-- nothing stands there, or a table -/
def Fr (H : Hp) (p : Addr) : Prop := ∀ o, H p = some o → ¬ nt o
theorem Fr.of {H : Hp} {p : Addr} (h : H p = none) : Fr H p := fun o e => by rw [h] at e; cases e
theorem Ext.free {H H' : Hp} (e : Ext H H') {p : Addr} (h : Fr H' p) : Fr H p := fun o q n => h o (e p o q n) n
theorem Ext.rd {H H' : Hp} (e : Ext H H') {p : Addr} {o : HO} (h : Rd H p o) (n : nt o := by intro _ z; cases z) : Rd H' p o := by
  rcases h with h | ⟨u, h⟩
  · exact .inl (e _ _ h n)
  · exact .inr ⟨u, e _ _ h fun _ z => nomatch z⟩
theorem Ext.seq {H H' : Hp} {p : Addr} {xs : List V} (e : Ext H H') (h : SqL K H p xs) : SqL K H' p xs := by
  rcases h with h | h
  · exact .inl (e.rd h)
  · exact .inr h
/-! the tables that G knows of -/
def mkT : List (Addr × Str) → List Value
  | [] => []
  | p :: T => .ref p.1 :: .str p.2 0 :: mkT T
theorem mkT_inj : ∀ {T U : List (Addr × Str)}, mkT T = mkT U → T = U
  | [], [], _ => rfl
  | [], _ :: _, h => by cases h
  | _ :: _, [], h => by cases h
  | (a, x) :: T, (b, y) :: U, h => by
    unfold mkT at h
    injection h with h1 h2
    injection h2 with h2 h3
    injection h1 with h1
    injection h2 with h2
    simp only at h1 h2
    rw [h1, h2, mkT_inj h3]
def isMk (ps : Array Value) : Prop := ∃ i t, ps[0]? = some (.int i t)
/-- what may stand where a mark is -/
def isObO : HO → Prop
  | .ins _ _ _ => True
  | .own _ => True
  | .lst _ => True
  | .dK _ => True
  | .dT _ => True
  | _ => False
theorem isObO.nt {o : HO} (h : isObO o) : nt o := fun ps e => by subst e; exact h
theorem isMk_T {T : List (Addr × Str)} {ps : Array Value} (h : ps.toList = mkT T) : ¬ isMk ps := fun ⟨i, t, e⟩ => by
  rw [← Array.getElem?_toList, h] at e
  cases T <;> simp [mkT] at e
theorem isMk_mark (i : Nat) : isMk #[.int (i : Int) 0] := ⟨_, _, rfl⟩
theorem isMk_pmark (i : Nat) (f : Str) : isMk #[.int (i : Int) 0, .str f 0] := ⟨_, _, rfl⟩
def SubAt (H : Hp) (b : Addr) : HO → Prop
  | .tbl ps => (∃ T, ps.toList = mkT T ∧ LamX.Tabs T H ∧ ∃ q, (b, q) ∈ T) ∨ (isMk ps ∧ ∃ o, H b = some o ∧ isObO o)
  | o => H b = some o
theorem subAt_nt {H : Hp} {b : Addr} {o : HO} (n : nt o) : SubAt H b o ↔ H b = some o := by
  cases o <;> first | exact Iff.rfl | exact absurd rfl (n _)
/-- what is known for ever stands in H; tables are told by their names -/
structure Sub (G H : Hp) : Prop where
  at_ : ∀ b o, G b = some o → SubAt H b o
  one : ∀ b c ps qs, G b = some (.tbl ps) → G c = some (.tbl qs) → ¬ isMk ps → ¬ isMk qs → ps = qs
  uni : ∀ b c i, G b = some (mark i) → G c = some (mark i) → b = c
instance {G H : Hp} : CoeFun (Sub G H) (fun _ => ∀ b o, G b = some o → SubAt H b o) := ⟨Sub.at_⟩
theorem Sub.free {G H : Hp} (s : Sub G H) {p : Addr} (h : H p = none) : G p = none := by
  cases e : G p with
  | none => rfl
  | some o =>
    have z := s.at_ p o e
    cases o with
    | tbl ps =>
      rcases z with ⟨T, _, ht, q, hq⟩ | ⟨_, o, ho, _⟩
      · obtain ⟨us, hu, _⟩ := ht _ hq
        rw [show H p = some (.tbl us) from hu] at h
        cases h
      · rw [ho] at h
        cases h
    | _ => rw [show H p = some _ from z] at h; cases h
theorem Sub.rd {G H : Hp} (s : Sub G H) {p : Addr} {o : HO} (h : Rd G p o) (n : nt o := by intro _ z; cases z) : Rd H p o := by
  rcases h with h | ⟨u, h⟩
  · exact .inl ((subAt_nt n).mp (s.at_ _ _ h))
  · exact .inr ⟨u, s.at_ _ _ h⟩
theorem Sub.seq {G H : Hp} (s : Sub G H) {p : Addr} {xs : List V} (h : SqL K G p xs) : SqL K H p xs := by
  rcases h with h | h
  · exact .inl (s.rd h)
  · exact .inr h
theorem Sub.same {G H H' : Hp} (s : Sub G H) (e : Same H H') : Sub G H' := ⟨fun b o h => by
    have z := s.at_ b o h
    cases o with
    | tbl ps =>
      rcases z with ⟨T, h1, h2, h3⟩ | ⟨hm, o, ho, io⟩
      · exact .inl ⟨T, h1, h2.ext e, h3⟩
      · exact .inr ⟨hm, o, e _ _ ho, io⟩
    | _ => exact e _ _ z, s.one, s.uni⟩
theorem Sub.old {G G' H : Hp} (s : Sub G' H) (g : Same G G') : Sub G H := ⟨fun b o h => s.at_ b o (g b o h), fun b c ps qs h1 h2 => s.one b c ps qs (g _ _ h1) (g _ _ h2), fun b c i h1 h2 => s.uni b c i (g _ _ h1) (g _ _ h2)⟩
/-- the tables of the defs that make lambdas, each with its lambdas' name -/
def tabsOf (x y : Option Value) : Option (Addr × Str) := match x, y with
  | some (.str q _), some (.ref p) => if q ∈ lams then some (p, (q ++ ".<locals>.") ++ "<lambda>") else none
  | _, _ => none
def tabsAt (c : Addr × Obj) : Option (Addr × Str) := match c.2.data with
  | .fields (vs : Array Value) => tabsOf vs[1]? vs[11]?
  | _ => none
def tabs (K : PySem.W.Frag) : List (Addr × Str) := K.filterMap tabsAt
/-- the tables are known of -/
def MarkOk (K : PySem.W.Frag) (G : Hp) : Prop := tabs K ≠ [] → ∃ b, G b = some (.tbl (mkT (tabs K)).toArray)
theorem MarkOk.mono {G G' : Hp} (m : MarkOk K G) (s : Same G G') : MarkOk K G' := fun n => let ⟨b, h⟩ := m n; ⟨b, s _ _ h⟩
/-- a heap without tables -/
theorem Sub.self {H : Hp} (n : ∀ b o, H b = some o → nt o) : Sub H H := ⟨fun b o h => (subAt_nt (n b o h)).mpr h, fun b c ps qs h _ => absurd rfl (n _ _ h ps), fun b c i h _ => absurd rfl (n _ _ h _)⟩
theorem rd_same {G G' : Hp} {a : Addr} {o : HO} (s : Same G G') (h : Rd G a o) : Rd G' a o := by
  rcases h with h | ⟨u, h⟩
  · exact .inl (s _ _ h)
  · exact .inr ⟨u, s _ _ h⟩

mutual
theorem Rep.mono {G G' : Hp} (s : Same G G') : ∀ {v : V} {d : D}, Rep K G v d → Rep K G' v d
  | _, _, .non => .non
  | _, _, .bl b => .bl b
  | _, _, .int i => .int i
  | _, _, .str x => .str x
  | _, _, .fn v => .fn v
  | _, _, .scr h => .scr (s.seq h)
  | _, _, .tup h r => .tup (s _ _ h) (RepL.mono s r)
  | _, _, .lst h r => .lst (s _ _ h) (RepL.mono s r)
  | _, _, .dK h r => .dK (s _ _ h) (RepK.mono s r)
  | _, _, .dT h r => .dT (s _ _ h) (RepT.mono s r)
  | _, _, .pt h e r => .pt (s _ _ h) e (RepL.mono s r)
  | _, _, .lK h r => .lK (s _ _ h) (RepK.mono s r)
  | _, _, .lT h r => .lT (s _ _ h) (RepT.mono s r)
  | _, _, .ob h => .ob (s _ _ h)
theorem RepL.mono {G G' : Hp} (s : Same G G') : ∀ {vs : List V} {ds : List D}, RepL K G vs ds → RepL K G' vs ds
  | _, _, .nil => .nil
  | _, _, .cons h r => .cons (Rep.mono s h) (RepL.mono s r)
theorem RepK.mono {G G' : Hp} (s : Same G G') : ∀ {ks : List (Key × V)} {kvs : List (D × D)}, RepK K G ks kvs → RepK K G' ks kvs
  | _, _, .nil => .nil
  | _, _, .cons h r => .cons (Rep.mono s h) (RepK.mono s r)
theorem RepT.mono {G G' : Hp} (s : Same G G') : ∀ {ks : List (List Key × V)} {kvs : List (D × D)}, RepT K G ks kvs → RepT K G' ks kvs
  | _, _, .nil => .nil
  | _, _, .cons h r => .cons (Rep.mono s h) (RepT.mono s r)
end

theorem RepL.length {G : Hp} : ∀ {vs : List V} {ds : List D}, RepL K G vs ds → vs.length = ds.length
  | _, _, .nil => rfl
  | _, _, .cons _ r => by rw [List.length_cons, List.length_cons, RepL.length r]
theorem RepL.get {G : Hp} : ∀ {vs : List V} {ds : List D} {i : Nat} {d : D}, RepL K G vs ds → ds[i]? = some d → ∃ v, vs[i]? = some v ∧ Rep K G v d
  | _, _, _, _, .nil, e => by simp at e
  | _, _, 0, _, .cons h _, e => by
    simp at e
    subst e
    exact ⟨_, rfl, h⟩
  | _, _, i + 1, _, .cons _ r, e => by
    obtain ⟨v, h1, h2⟩ := RepL.get (i := i) r (by simpa using e)
    exact ⟨v, by simpa using h1, h2⟩
theorem RepL.append {G : Hp} : ∀ {vs ws : List V} {ds es : List D}, RepL K G vs ds → RepL K G ws es → RepL K G (vs ++ ws) (ds ++ es)
  | _, _, _, _, .nil, r => r
  | _, _, _, _, .cons h t, r => .cons h (RepL.append t r)
theorem RepL.take {G : Hp} : ∀ (n : Nat) {vs : List V} {ds : List D}, RepL K G vs ds → RepL K G (vs.take n) (ds.take n)
  | 0, _, _, _ => .nil
  | _ + 1, _, _, .nil => .nil
  | n + 1, _, _, .cons h t => .cons h (RepL.take n t)
theorem RepL.drop {G : Hp} : ∀ (n : Nat) {vs : List V} {ds : List D}, RepL K G vs ds → RepL K G (vs.drop n) (ds.drop n)
  | 0, _, _, r => r
  | _ + 1, _, _, .nil => .nil
  | n + 1, _, _, .cons _ t => RepL.drop n t
theorem RepL.set {G : Hp} {v : V} {d : D} (h : Rep K G v d) : ∀ (i : Nat) {vs : List V} {ds : List D}, RepL K G vs ds → RepL K G (vs.set i v) (ds.set i d)
  | _, _, _, .nil => .nil
  | 0, _, _, .cons _ t => .cons h t
  | i + 1, _, _, .cons g t => .cons g (RepL.set h i t)
theorem RepL.eraseIdx {G : Hp} : ∀ (i : Nat) {vs : List V} {ds : List D}, RepL K G vs ds → RepL K G (vs.eraseIdx i) (ds.eraseIdx i)
  | _, _, _, .nil => .nil
  | 0, _, _, .cons _ t => t
  | i + 1, _, _, .cons g t => .cons g (RepL.eraseIdx i t)
theorem RepL.dropLast {G : Hp} {vs : List V} {ds : List D} (r : RepL K G vs ds) : RepL K G vs.dropLast ds.dropLast := by
  rw [List.dropLast_eq_take, List.dropLast_eq_take, r.length]
  exact r.take _
theorem RepL.ints {G : Hp} : ∀ (ns : List Int), RepL K G (ns.map V.int) (ns.map D.int)
  | [] => .nil
  | n :: ns => .cons (.int n) (RepL.ints ns)

/-! ### growth -/
/-- nothing stands there, or a table, or a tuple -/
def Nw (H : Hp) (p : Addr) : Prop := ∀ o, H p = some o → nt o → ∃ xs, o = .tup xs
theorem Fr.nw {H : Hp} {p : Addr} (h : Fr H p) : Nw H p := fun o e n => absurd n (h o e)
theorem Ext.nw {H H' : Hp} (e : Ext H H') {p : Addr} (h : Nw H' p) : Nw H p := fun o q n => h o (e p o q n) n
/-- from (G, H) to (G', H'): H has grown, so has what is known for ever, by new objects alone -/
structure Grow (G H G' H' : Hp) : Prop where
  hh : Ext H H'
  gg : Same G G'
  gh : Sub G' H'
  new : ∀ a, G a = none → G' a ≠ none → Nw H a
  mks : ∀ i p, G' p = some (mark i) → G p = some (mark i)
theorem Grow.refl {G H : Hp} (s : Sub G H) : Grow G H G H := ⟨.refl _, .refl _, s, fun a h1 h2 => absurd h1 h2, fun _ _ h => h⟩
theorem Grow.trans {G H G1 H1 G2 H2 : Hp} (a : Grow G H G1 H1) (b : Grow G1 H1 G2 H2) : Grow G H G2 H2 :=
  ⟨a.hh.trans b.hh, a.gg.trans b.gg, b.gh, fun x h1 h2 => by
    cases q : G1 x with
    | none => exact a.hh.nw (b.new x q h2)
    | some o => exact a.new x h1 (by rw [q]; exact fun z => nomatch z), fun i p h => a.mks i p (b.mks i p h)⟩
theorem same_new {H : Hp} {p : Addr} {o : HO} (h : H p = none) : Same H (upd H p o) := fun b x e => by
  rw [upd_ne (ne_of_none e h)]
  exact e
theorem ext_mut {H H' : Hp} {p : Addr} {o : HO} (s : Ext H H') (h : Fr H p) : Ext H (upd H' p o) := fun b x e n => by
  by_cases hb : b = p
  · subst hb
    exact absurd n (h x e)
  · rw [upd_ne hb]
    exact s b x e n
/-- an own thing is changed: what is known for ever stays -/
def isOwn : HO → Prop
  | .lst _ => True
  | .dK _ => True
  | .dT _ => True
  | _ => False
theorem isOwn.nt {o : HO} (h : isOwn o) : nt o := fun ps e => by subst e; exact h
theorem isOwn.obO {o : HO} (h : isOwn o) : isObO o := by cases o <;> first | trivial | exact h.elim
/-- a thing of one's own, or a part of an object, is changed -/
theorem sub_mutO {G H : Hp} {p : Addr} {o o' : HO} (s : Sub G H) (hG : ∀ x, G p = some x → (∃ ps, x = .tbl ps ∧ isMk ps) ∧ isObO o') (e : H p = some o) (n : isObO o) : Sub G (upd H p o') := by
  refine ⟨fun b x q => ?_, s.one, s.uni⟩
  have z := s.at_ b x q
  cases x with
  | tbl ps =>
    rcases z with ⟨T, h1, h2, h3⟩ | ⟨hm, o1, ho, io⟩
    · refine .inl ⟨T, h1, fun y hy => ?_, h3⟩
      obtain ⟨us, u1, u2, u3⟩ := h2 y hy
      have np : y.1 ≠ p := fun z => by
        rw [z, e] at u1
        cases u1
        exact n
      refine ⟨us, by rw [upd_ne np]; exact u1, u2, fun pos cv hc => ?_⟩
      obtain ⟨c, c1, c2⟩ := u3 pos cv hc
      refine ⟨c, c1, ?_⟩
      by_cases hcp : c = p
      · subst hcp
        rw [e] at c2
        cases c2
        exact n.elim
      · rw [upd_ne hcp]; exact c2
    · refine .inr ⟨hm, ?_⟩
      by_cases hb : b = p
      · subst hb
        exact ⟨o', upd_same, (hG _ q).2⟩
      · exact ⟨o1, by rw [upd_ne hb]; exact ho, io⟩
  | _ =>
    have ne : b ≠ p := fun z => by
      subst z
      obtain ⟨⟨ps, e', _⟩, _⟩ := hG _ q
      cases e'
    exact (upd_ne ne).trans z
theorem sub_mut {G H : Hp} {p : Addr} {o o' : HO} (s : Sub G H) (h : G p = none) (e : H p = some o) (n : isOwn o) : Sub G (upd H p o') :=
  sub_mutO s (fun x q => by rw [h] at q; cases q) e n.obO
/-- one thing more is known -/
theorem Sub.upd {G H : Hp} {p : Addr} {o : HO} (s : Sub G H) (atp : SubAt H p o) (h1 : ∀ ps, o = .tbl ps → isMk ps) (h2 : ∀ i, o = mark i → ∀ c, G c ≠ some (mark i)) : Sub (upd G p o) H := by
  refine ⟨fun b x q => ?_, fun b c ps qs e1 e2 m1 m2 => ?_, fun b c i e1 e2 => ?_⟩
  · by_cases hb : b = p
    · subst hb
      rw [upd_same] at q
      cases q
      exact atp
    · rw [upd_ne hb] at q
      exact s.at_ b x q
  · by_cases hb : b = p
    · subst hb
      rw [upd_same] at e1
      exact absurd (h1 ps (Option.some.inj e1)) m1
    · by_cases hc : c = p
      · subst hc
        rw [upd_same] at e2
        exact absurd (h1 qs (Option.some.inj e2)) m2
      · rw [upd_ne hb] at e1
        rw [upd_ne hc] at e2
        exact s.one b c ps qs e1 e2 m1 m2
  · by_cases hb : b = p
    · by_cases hc : c = p
      · rw [hb, hc]
      · subst hb
        rw [upd_same] at e1
        rw [upd_ne hc] at e2
        exact absurd e2 (h2 i (Option.some.inj e1) c)
    · rw [upd_ne hb] at e1
      by_cases hc : c = p
      · subst hc
        rw [upd_same] at e2
        exact absurd e1 (h2 i (Option.some.inj e2) b)
      · rw [upd_ne hc] at e2
        exact s.uni b c i e1 e2
/-- a new object -/
theorem Sub.more {G H : Hp} {p : Addr} {o : HO} (s : Sub G H) (h : H p = none) : Sub G (L2.upd H p o) := s.same (same_new h)
theorem Sub.laid {G H : Hp} {p : Addr} {o : HO} (s : Sub G H) (h : H p = none) (n : nt o) : Sub (L2.upd G p o) (L2.upd H p o) :=
  (s.more h).upd ((subAt_nt n).mpr upd_same) (fun ps e => absurd e (n ps)) fun i e => absurd e (n _)
theorem mark_upd {G : Hp} {p : Addr} {o : HO} (n : nt o) : ∀ i q, upd G p o q = some (mark i) → G q = some (mark i) := fun i q h => by
  by_cases e : q = p
  · subst e
    rw [upd_same] at h
    exact absurd (Option.some.inj h) (n _)
  · rwa [upd_ne e] at h
/-- a new object, known for ever -/
theorem Grow.laid {G H : Hp} {p : Addr} {o : HO} (s : Sub G H) (h : H p = none) (n : nt o := by intro _ z; cases z) : Grow G H (upd G p o) (upd H p o) :=
  ⟨(same_new h).ext, same_new (s.free h), s.laid h n, fun a h1 h2 => by
    by_cases e : a = p
    · rw [e]; exact (Fr.of h).nw
    · rw [upd_ne e] at h2
      exact absurd h1 h2, mark_upd n⟩
/-- a new object, not known for ever -/
theorem Grow.more {G H : Hp} {p : Addr} {o : HO} (s : Sub G H) (h : H p = none) : Grow G H G (upd H p o) :=
  ⟨(same_new h).ext, .refl _, s.more h, fun a h1 h2 => absurd h1 h2, fun _ _ h => h⟩
/-- what stands in H is from now on known for ever -/
theorem Sub.frozen {G H : Hp} {p : Addr} {o : HO} (s : Sub G H) (e : H p = some o) (n : nt o) : Sub (L2.upd G p o) H :=
  s.upd ((subAt_nt n).mpr e) (fun ps e => absurd e (n ps)) fun i e => absurd e (n _)
theorem Grow.frozen {G H G' H' : Hp} {p : Addr} {o : HO} (g : Grow G H G' H') (h : Fr H p) (e : H' p = some o) (n : nt o) (gp : G' p = none) : Grow G H (upd G' p o) H' :=
  ⟨g.hh, g.gg.trans (same_new gp), g.gh.frozen e n, fun a h1 h2 => by
    by_cases hb : a = p
    · rw [hb]; exact h.nw
    · rw [upd_ne hb] at h2
      exact g.new a h1 h2, fun i q z => g.mks i q (mark_upd n i q z)⟩

/-! ### an object of one's own -/
def OwnAt (K : PySem.W.Frag) (G H : Hp) (p : Addr) : D → Prop
  | .lst ds => ∃ vs, H p = some (.lst vs) ∧ RepL K G vs ds
  | .dct false kvs => ∃ ks, H p = some (.dK ks) ∧ RepK K G ks kvs
  | .dct true kvs => ∃ ks, H p = some (.dT ks) ∧ RepT K G ks kvs
  | _ => False
theorem OwnAt.there {G H : Hp} {p : Addr} {d : D} (h : OwnAt K G H p d) : ∃ o, H p = some o ∧ isOwn o := by
  cases d with
  | lst ds => obtain ⟨vs, e, _⟩ := h; exact ⟨_, e, trivial⟩
  | dct t kvs => cases t <;> (obtain ⟨ks, e, _⟩ := h; exact ⟨_, e, trivial⟩)
  | _ => exact h.elim
theorem OwnAt.mono {G H G' H' : Hp} {p : Addr} {d : D} (g : Same G G') (s : Ext H H') (h : OwnAt K G H p d) : OwnAt K G' H' p d := by
  cases d with
  | lst ds => obtain ⟨vs, e, r⟩ := h; exact ⟨vs, s _ _ e (fun _ z => nomatch z), r.mono g⟩
  | dct t kvs => cases t <;> (obtain ⟨ks, e, r⟩ := h; exact ⟨ks, s _ _ e (fun _ z => nomatch z), r.mono g⟩)
  | _ => exact h.elim
theorem OwnAt.at {G H H' : Hp} {p : Addr} {d : D} (s : H' p = H p) (h : OwnAt K G H p d) : OwnAt K G H' p d := by
  cases d with
  | lst ds => obtain ⟨vs, e, r⟩ := h; exact ⟨vs, s.trans e, r⟩
  | dct t kvs => cases t <;> (obtain ⟨ks, e, r⟩ := h; exact ⟨ks, s.trans e, r⟩)
  | _ => exact h.elim
/-- known for ever from now on -/
theorem OwnAt.rep {G H : Hp} {p : Addr} {d : D} {o : HO} (h : OwnAt K G H p d) (n : G p = none) (e : H p = some o) : Rep K (upd G p o) (.ref p) d := by
  have s : Same G (upd G p o) := same_new n
  cases d with
  | lst ds =>
    obtain ⟨vs, e', r⟩ := h
    rw [e] at e'
    cases e'
    exact .lst upd_same (r.mono s)
  | dct t kvs =>
    cases t <;> (obtain ⟨ks, e', r⟩ := h; rw [e] at e'; cases e')
    · exact .dK upd_same (r.mono s)
    · exact .dT upd_same (r.mono s)
  | _ => exact h.elim

/-! ### objects of own classes: class, and fields (own ones, and those known for ever) -/
structure Ob where
  cls : Str
  fs : List (Str × Bool × D)
inductive FsOk (K : PySem.W.Frag) (G H : Hp) (i : Nat) : List (Str × V) → List (Str × Bool × D) → Prop
  | nil : FsOk K G H i [] []
  | val {f : Str} {v : V} {d : D} {fs : List (Str × V)} {ds : List (Str × Bool × D)} : ds.lookup f = none → Rep K G v d → FsOk K G H i fs ds → FsOk K G H i ((f, v) :: fs) ((f, false, d) :: ds)
  | own {f : Str} {q : Addr} {d : D} {fs : List (Str × V)} {ds : List (Str × Bool × D)} : ds.lookup f = none → G q = some (pmark i f) → OwnAt K G H q d → FsOk K G H i fs ds → FsOk K G H i ((f, .ref q) :: fs) ((f, true, d) :: ds)
/-- the i-th object -/
def ObOk (K : PySem.W.Frag) (G H : Hp) (i : Nat) (ob : Ob) : Prop := ∃ p C dx fs, G p = some (mark i) ∧ H p = some (.ins C dx fs) ∧ G dx = some (pmark i "") ∧ H dx = some (.own p) ∧ PySem.W.nsIn K mainGlobals ob.cls = some (some (.ref C)) ∧ FsOk K G H i fs ob.fs ∧ fs.length ≤ 20
/-- all objects -/
structure ObsOk (K : PySem.W.Frag) (G H : Hp) (Ω : List Ob) : Prop where
  each : ∀ i ob, Ω[i]? = some ob → ObOk K G H i ob
  few : ∀ i p, G p = some (mark i) → i < Ω.length
theorem FsOk.mono {G H G' H' : Hp} {i : Nat} (s : Same G G') (hH : ∀ b o, G b ≠ none → H b = some o → nt o → H' b = some o) : ∀ {fs : List (Str × V)} {ds : List (Str × Bool × D)}, FsOk K G H i fs ds → FsOk K G' H' i fs ds
  | _, _, .nil => .nil
  | _, _, .val nf r t => .val nf (r.mono s) (FsOk.mono s hH t)
  | _, _, .own (q := q) (d := d) nf e w t => .own nf (s _ _ e) (by
    have g : G q ≠ none := by rw [e]; exact fun z => nomatch z
    cases d with
    | lst ds => obtain ⟨vs, e', r⟩ := w; exact ⟨vs, hH _ _ g e' (fun _ z => nomatch z), r.mono s⟩
    | dct t kvs => cases t <;> (obtain ⟨ks, e', r⟩ := w; exact ⟨ks, hH _ _ g e' (fun _ z => nomatch z), r.mono s⟩)
    | _ => exact w.elim) (FsOk.mono s hH t)
theorem ObOk.mono {G H G' H' : Hp} {i : Nat} {ob : Ob} (s : Same G G') (hH : ∀ b o, G b ≠ none → H b = some o → nt o → H' b = some o) (h : ObOk K G H i ob) : ObOk K G' H' i ob := by
  obtain ⟨p, C, dx, fs, h1, h2, h3, h4, h5, h6, h7⟩ := h
  exact ⟨p, C, dx, fs, s _ _ h1, hH _ _ (by rw [h1]; exact fun z => nomatch z) h2 (fun _ z => nomatch z), s _ _ h3, hH _ _ (by rw [h3]; exact fun z => nomatch z) h4 (fun _ z => nomatch z), h5, h6.mono s hH, h7⟩
/-- what is new in G' is no object -/
theorem ObsOk.mono {G H G' H' : Hp} {Ω : List Ob} (s : Same G G') (hH : ∀ b o, G b ≠ none → H b = some o → nt o → H' b = some o) (hn : ∀ i p, G' p = some (mark i) → G p = some (mark i)) (h : ObsOk K G H Ω) : ObsOk K G' H' Ω :=
  ⟨fun i ob e => (h.each i ob e).mono s hH, fun i p e => h.few i p (hn i p e)⟩

/-! ### slots -/
inductive SV where
  | no | val (d : D) | own (d : D) | st (rw : Bool) (Ω : List Ob)
abbrev Ev := List SV
def SlOk (K : PySem.W.Frag) (G H : Hp) (o : Option (Option V)) : SV → Prop
  | .no => True
  | .val d => ∃ v, o = some (some v) ∧ Rep K G v d
  | .own d => ∃ p, o = some (some (.ref p)) ∧ G p = none ∧ OwnAt K G H p d
  | .st _ Ω => ObsOk K G H Ω
structure Stt (K : PySem.W.Frag) (G : Hp) (ρ : Ev) (σ : St) (H : Hp) : Prop where
  sub : Sub G H
  len : ρ.length = σ.length
  sl : ∀ (i : Nat) (s : SV), ρ[i]? = some s → SlOk K G H σ[i]? s
  dj : ∀ (i j : Nat) (d e : D) (p : Addr), i ≠ j → ρ[i]? = some (.own d) → ρ[j]? = some (.own e) → σ[i]? = some (some (.ref p)) → σ[j]? ≠ some (some (.ref p))
  mkd : MarkOk K G
theorem SlOk.grow {G H G' H' : Hp} {o : Option (Option V)} {s : SV} (g : Grow G H G' H') (h : SlOk K G H o s) : SlOk K G' H' o s := by
  cases s with
  | no => trivial
  | val d => obtain ⟨v, e, r⟩ := h; exact ⟨v, e, r.mono g.gg⟩
  | own d =>
    obtain ⟨p, e, n, w⟩ := h
    refine ⟨p, e, ?_, w.mono g.gg g.hh⟩
    obtain ⟨u, hu, ho⟩ := w.there
    cases q : G' p with
    | none => rfl
    | some z =>
      obtain ⟨xs, ex⟩ := g.new p n (by rw [q]; exact fun z => nomatch z) u hu ho.nt
      subst ex
      exact ho.elim
  | st b0 Ω => exact ObsOk.mono g.gg (fun b o _ e n => g.hh b o e n) g.mks h
theorem Stt.grow {G H G' H' : Hp} {ρ : Ev} {σ : St} (S : Stt K G ρ σ H) (g : Grow G H G' H') : Stt K G' ρ σ H' :=
  ⟨g.gh, S.len, fun i s e => (S.sl i s e).grow g, S.dj, S.mkd.mono g.gg⟩

/-! ### kinds of values -/
/-- w: read only; v: known for ever; o: new, of nobody's -/
inductive Kn where
  | w | v | o
/-- may be read as d -/
def WRep (K : PySem.W.Frag) (G H : Hp) (v : V) (d : D) : Prop := Rep K G v d ∨ ∃ p, v = .ref p ∧ (G p = none ∨ ∃ i f, G p = some (pmark i f)) ∧ OwnAt K G H p d
theorem WRep.grow {G H G' H' : Hp} {v : V} {d : D} (g : Grow G H G' H') (h : WRep K G H v d) : WRep K G' H' v d := by
  rcases h with h | ⟨p, e, n, w⟩
  · exact .inl (h.mono g.gg)
  · rcases n with n | ⟨i, f, n⟩
    · obtain ⟨p', e', n', w'⟩ := (show SlOk K G H (some (some (.ref p))) (.own d) from ⟨p, rfl, n, w⟩).grow g
      cases e'
      exact .inr ⟨_, e, .inl n', w'⟩
    · exact .inr ⟨_, e, .inr ⟨i, f, g.gg _ _ n⟩, w.mono g.gg g.hh⟩
def KRep (K : PySem.W.Frag) (k : Kn) (G H G' H' : Hp) (v : V) (d : D) : Prop := match k with
  | .w => WRep K G' H' v d
  | .v => Rep K G' v d
  | .o => ∃ p, v = .ref p ∧ Fr H p ∧ G' p = none ∧ OwnAt K G' H' p d
def sv : Kn → D → SV
  | .o, d => .own d
  | _, d => .val d

abbrev WN := Str → St → Hp → Prop
abbrev W0 : WN := fun _ _ _ => False
/-- an expression's reading, by a pure reckoning of the slots -/
def exOf (K : PySem.W.Frag) (k : Kn) (W : WN) (f : Ev → R D) : TE := fun σ H Q => ∃ G ρ, Stt K G ρ σ H ∧ match f ρ with
  | .ok d => ∀ v G' H', Grow G H G' H' → KRep K k G H G' H' v d → Q v H'
  | .exc c => ∀ G' H', Grow G H G' H' → W c σ H'
  | .bad => False
/-- a test's -/
def ttOf (K : PySem.W.Frag) (W : WN) (f : Ev → R Bool) : TT := fun σ H Q => ∃ G ρ, Stt K G ρ σ H ∧ match f ρ with
  | .ok b => ∀ G' H', Grow G H G' H' → Q b H'
  | .exc c => ∀ G' H', Grow G H G' H' → W c σ H'
  | .bad => False
/-- arguments, all known for ever -/
def taOf (K : PySem.W.Frag) (W : WN) (f : Ev → R (List D)) : TA := fun σ H Q => ∃ G ρ, Stt K G ρ σ H ∧ match f ρ with
  | .ok ds => ∀ vs G' H', Grow G H G' H' → RepL K G' vs ds → Q vs H'
  | .exc c => ∀ G' H', Grow G H G' H' → W c σ H'
  | .bad => False

/-! ### the derivations' weakenings -/
section
variable {X : Cx}
theorem pe_imp {e : Expr} {t t' : TE} (h : PE X e t) (i : ∀ σ H Q, t' σ H Q → t σ H Q) : PE X e t' := ⟨fun pins s σ H Q I q => h.run pins s σ H Q I (i σ H Q q)⟩
theorem pt_imp {e : Expr} {t t' : TT} (h : PT X e t) (i : ∀ σ H Q, t' σ H Q → t σ H Q) : PT X e t' := ⟨fun pins s σ H Q I q => h.run pins s σ H Q I (i σ H Q q)⟩
theorem pa_imp {e : List Expr} {t t' : TA} (h : PA X e t) (i : ∀ σ H Q, t' σ H Q → t σ H Q) : PA X e t' := ⟨fun p pins s σ H Q I q => h.run p pins s σ H Q I (i σ H Q q)⟩
theorem ps_imp {e : Stmt} {t t' : TS} (h : PS X e t) (i : ∀ D σ H, t' D σ H → t D σ H) : PS X e t' := ⟨fun pins s σ H D I q => h.run pins s σ H D I (i D σ H q)⟩
theorem pss_imp {e : List Stmt} {t t' : TS} (h : PSs X e t) (i : ∀ D σ H, t' D σ H → t D σ H) : PSs X e t' := ⟨fun pins s σ H D I q => h.run pins s σ H D I (i D σ H q)⟩
end

/-! ### one kind from another -/
theorem ex_vw {W : WN} {f : Ev → R D} {σ : St} {H : Hp} {Q : VK} (h : exOf K .w W f σ H Q) : exOf K .v W f σ H Q := by
  obtain ⟨G, ρ, S, m⟩ := h
  refine ⟨G, ρ, S, ?_⟩
  cases e : f ρ with
  | ok d => rw [e] at m; exact fun v G' H' g r => m v G' H' g (.inl r)
  | exc c => rw [e] at m; exact m
  | bad => rw [e] at m; exact m
theorem ex_ow {W : WN} {f : Ev → R D} {σ : St} {H : Hp} {Q : VK} (h : exOf K .w W f σ H Q) : exOf K .o W f σ H Q := by
  obtain ⟨G, ρ, S, m⟩ := h
  refine ⟨G, ρ, S, ?_⟩
  cases e : f ρ with
  | ok d => rw [e] at m; exact fun v G' H' g ⟨p, ev, hn, gn, w⟩ => m v G' H' g (.inr ⟨p, ev, .inl gn, w⟩)
  | exc c => rw [e] at m; exact m
  | bad => rw [e] at m; exact m
theorem ex_ov {W : WN} {f : Ev → R D} {σ : St} {H : Hp} {Q : VK} (h : exOf K .v W f σ H Q) : exOf K .o W f σ H Q := by
  obtain ⟨G, ρ, S, m⟩ := h
  refine ⟨G, ρ, S, ?_⟩
  cases e : f ρ with
  | ok d =>
    rw [e] at m
    rintro v G' H' g ⟨p, ev, hn, gn, w⟩
    subst ev
    obtain ⟨o, ho, io⟩ := w.there
    exact m _ (upd G' p o) H' (g.frozen hn ho io.nt gn) (w.rep gn ho)
  | exc c => rw [e] at m; exact m
  | bad => rw [e] at m; exact m
section
variable {X : Cx} {W : WN} {f : Ev → R D} {e : Expr}
/-- a value known for ever may be read -/
theorem dvw (h : PE X e (exOf K .v W f)) : PE X e (exOf K .w W f) := pe_imp h fun _ _ _ => ex_vw
theorem dow (h : PE X e (exOf K .o W f)) : PE X e (exOf K .w W f) := pe_imp h fun _ _ _ => ex_ow
theorem dov (h : PE X e (exOf K .o W f)) : PE X e (exOf K .v W f) := pe_imp h fun _ _ _ => ex_ov
end

/-! ### the shapes of readings -/
def opt {α : Type} : Option α → R α
  | some a => .ok a
  | none => .bad
@[simp] theorem opt_some {α : Type} (a : α) : opt (some a) = R.ok a := rfl
@[simp] theorem opt_none {α : Type} : opt (none : Option α) = R.bad := rfl
/-- what comes of a result -/
def ResK (K : PySem.W.Frag) (k : Kn) (G H : Hp) (Q : VK) : Option D → Prop
  | some d => ∀ v G' H', Grow G H G' H' → KRep K k G H G' H' v d → Q v H'
  | none => False
def ResB (G H : Hp) (Q : Bool → Hp → Prop) : Option Bool → Prop
  | some b => ∀ G' H', Grow G H G' H' → Q b H'
  | none => False
theorem KRep.shift {k : Kn} {G H G1 H1 G' H' : Hp} {v : V} {d : D} (s : Ext H H1) (h : KRep K k G1 H1 G' H' v d) : KRep K k G H G' H' v d := by
  cases k with
  | w => exact h
  | v => exact h
  | o => obtain ⟨p, ev, hn, gn, w⟩ := h; exact ⟨p, ev, s.free hn, gn, w⟩
theorem KRep.wrep {k : Kn} {G H G' H' : Hp} {v : V} {d : D} (h : KRep K k G H G' H' v d) : WRep K G' H' v d := by
  cases k with
  | w => exact h
  | v => exact .inl h
  | o => obtain ⟨p, ev, hn, gn, w⟩ := h; exact .inr ⟨p, ev, .inl gn, w⟩
theorem KRep.grow {k : Kn} {G H G1 H1 G' H' : Hp} {v : V} {d : D} (g : Grow G1 H1 G' H') (h : KRep K k G H G1 H1 v d) : KRep K k G H G' H' v d := by
  cases k with
  | w => exact WRep.grow g h
  | v => exact Rep.mono g.gg h
  | o =>
    obtain ⟨p, ev, hn, gn, w⟩ := h
    obtain ⟨p', e', n', w'⟩ := SlOk.grow g (show SlOk K G1 H1 (some (some (.ref p))) (.own d) from ⟨p, rfl, gn, w⟩)
    cases e'
    exact ⟨_, ev, hn, n', w'⟩
/-- the same with more slots' facts behind -/
theorem ex_run {k : Kn} {W : WN} {f : Ev → R D} {σ : St} {H G : Hp} {ρ : Ev} {Q : VK} (S : Stt K G ρ σ H) (h : match f ρ with
  | .ok d => ∀ v G' H', Grow G H G' H' → KRep K k G H G' H' v d → Q v H'
  | .exc c => ∀ G' H', Grow G H G' H' → W c σ H'
  | .bad => False) : exOf K k W f σ H Q := ⟨G, ρ, S, h⟩

/-- a reading by one part: f then g -/
theorem ex1 {k : Kn} {W : WN} {f : Ev → R D} {g : D → Option D} {r : V → Hp → VK → Prop} (hr : ∀ G H x d Q, Sub G H → WRep K G H x d → ResK K k G H Q (g d) → r x H Q)
    {σ : St} {H : Hp} {Q : VK} (h : exOf K k W (fun ρ => (f ρ).bind fun d => opt (g d)) σ H Q) : exOf K .w W f σ H fun x H1 => r x H1 Q := by
  obtain ⟨G, ρ, S, m⟩ := h
  refine ⟨G, ρ, S, ?_⟩
  cases e : f ρ with
  | ok d =>
    simp only [e, R.bind_ok] at m
    refine fun v G1 H1 g1 r1 => hr G1 H1 v d Q g1.gh r1 ?_
    cases e2 : g d with
    | some b =>
      rw [e2] at m
      exact fun v' G' H' g' r' => m v' G' H' (g1.trans g') (r'.shift g1.hh)
    | none => rw [e2] at m; exact m.elim
  | exc c => simp only [e, R.bind_exc] at m; exact m
  | bad => simp only [e, R.bind_bad] at m
theorem ex2 {k : Kn} {W : WN} {fa fb : Ev → R D} {g : D → D → Option D} {r : V → V → Hp → VK → Prop} (hr : ∀ G H x y d e Q, Sub G H → WRep K G H x d → WRep K G H y e → ResK K k G H Q (g d e) → r x y H Q)
    {σ : St} {H : Hp} {Q : VK} (h : exOf K k W (fun ρ => (fa ρ).bind fun d => (fb ρ).bind fun e => opt (g d e)) σ H Q) : exOf K .w W fa σ H fun x H1 => exOf K .w W fb σ H1 fun y H2 => r x y H2 Q := by
  obtain ⟨G, ρ, S, m⟩ := h
  refine ⟨G, ρ, S, ?_⟩
  cases e : fa ρ with
  | ok d =>
    simp only [e, R.bind_ok] at m
    refine fun v G1 H1 g1 r1 => ⟨G1, ρ, S.grow g1, ?_⟩
    cases e2 : fb ρ with
    | ok d2 =>
      simp only [e2, R.bind_ok] at m
      refine fun v2 G2 H2 g2 r2 => hr G2 H2 v v2 d d2 Q g2.gh (r1.grow g2) r2 ?_
      cases e3 : g d d2 with
      | some b =>
        rw [e3] at m
        exact fun v' G' H' g' r' => m v' G' H' ((g1.trans g2).trans g') (r'.shift (g1.hh.trans g2.hh))
      | none => rw [e3] at m; exact m.elim
    | exc c => simp only [e2, R.bind_exc] at m; exact fun G' H' g' => m G' H' (g1.trans g')
    | bad => simp only [e2, R.bind_bad] at m
  | exc c => simp only [e, R.bind_exc] at m; exact m
  | bad => simp only [e, R.bind_bad] at m
/-- arguments -/
theorem exA {k : Kn} {W : WN} {f : Ev → R (List D)} {g : List D → Option D} {r : List V → Hp → VK → Prop} (hr : ∀ G H xs ds Q, Sub G H → RepL K G xs ds → ResK K k G H Q (g ds) → r xs H Q)
    {σ : St} {H : Hp} {Q : VK} (h : exOf K k W (fun ρ => (f ρ).bind fun d => opt (g d)) σ H Q) : taOf K W f σ H fun xs H1 => r xs H1 Q := by
  obtain ⟨G, ρ, S, m⟩ := h
  refine ⟨G, ρ, S, ?_⟩
  cases e : f ρ with
  | ok d =>
    simp only [e, R.bind_ok] at m
    refine fun v G1 H1 g1 r1 => hr G1 H1 v d Q g1.gh r1 ?_
    cases e2 : g d with
    | some b =>
      rw [e2] at m
      exact fun v' G' H' g' r' => m v' G' H' (g1.trans g') (r'.shift g1.hh)
    | none => rw [e2] at m; exact m.elim
  | exc c => simp only [e, R.bind_exc] at m; exact m
  | bad => simp only [e, R.bind_bad] at m

/-! ### argument lists -/
def aNil : Ev → R (List D) := fun _ => .ok []
def aCons (f : Ev → R D) (g : Ev → R (List D)) : Ev → R (List D) := fun ρ => (f ρ).bind fun d => (g ρ).bind fun ds => .ok (d :: ds)
section
variable {X : Cx} {W : WN}
theorem da_nil : PA X [] (taOf K W aNil) := pa_imp pa_nil fun σ H Q ⟨G, ρ, S, m⟩ => m [] G H (.refl S.sub) .nil
theorem da_cons {e : Expr} {es : List Expr} {f : Ev → R D} {g : Ev → R (List D)} (h : PE X e (exOf K .v W f)) (hr : PA X es (taOf K W g)) (hs : starEach (e :: es) X.env = (false, eval e X.env) :: starEach es X.env := by rfl) :
    PA X (e :: es) (taOf K W (aCons f g)) := pa_imp (pa_cons h hr hs) fun σ H Q ⟨G, ρ, S, m⟩ => by
  refine ⟨G, ρ, S, ?_⟩
  unfold aCons at m
  cases e : f ρ with
  | ok d =>
    simp only [e, R.bind_ok] at m
    refine fun v G1 H1 g1 r1 => ⟨G1, ρ, S.grow g1, ?_⟩
    cases e2 : g ρ with
    | ok ds =>
      simp only [e2, R.bind_ok] at m
      exact fun vs G2 H2 g2 r2 => m _ G2 H2 (g1.trans g2) (.cons (Rep.mono g2.gg r1) r2)
    | exc c => simp only [e2, R.bind_exc] at m; exact fun G' H' g' => m G' H' (g1.trans g')
    | bad => simp only [e2, R.bind_bad] at m
  | exc c => simp only [e, R.bind_exc] at m; exact m
  | bad => simp only [e, R.bind_bad] at m

/-! ### names and constants -/
def eVar (i : Nat) : Ev → R D := fun ρ => match ρ[i]? with
  | some (.val d) => .ok d
  | _ => .bad
def eVarW (i : Nat) : Ev → R D := fun ρ => match ρ[i]? with
  | some (.val d) => .ok d
  | some (.own d) => .ok d
  | _ => .bad
def eC (d : D) : Ev → R D := fun _ => .ok d
theorem dv (i : Nat) {x : Str} {pos : Pos} (hN : X.N[i]? = some x := by rfl) (hv : Vis X.env.scope x := by first | exact Or.inl rfl | exact Or.inr (Or.inl rfl) | exact Or.inr (Or.inr rfl)) (hd : (x == ("__debug__" : Str)) = false := by decide)
    (hcd : (x == ("__classdict__" : Str)) = false := by decide) : PE X (.Name x pos) (exOf K .v W (eVar i)) := pe_imp (pe_var hN hv hd hcd) fun σ H Q ⟨G, ρ, S, m⟩ => by
  unfold eVar at m
  cases e : ρ[i]? with
  | none => simp only [e] at m
  | some s =>
    cases s with
    | no => simp only [e] at m
    | val d =>
      simp only [e] at m
      obtain ⟨v, hv, r⟩ := S.sl i _ e
      exact ⟨v, hv, m v G H (.refl S.sub) r⟩
    | own d => simp only [e] at m
    | st b0 Ω => simp only [e] at m
theorem dvW (i : Nat) {x : Str} {pos : Pos} (hN : X.N[i]? = some x := by rfl) (hv : Vis X.env.scope x := by first | exact Or.inl rfl | exact Or.inr (Or.inl rfl) | exact Or.inr (Or.inr rfl)) (hd : (x == ("__debug__" : Str)) = false := by decide)
    (hcd : (x == ("__classdict__" : Str)) = false := by decide) : PE X (.Name x pos) (exOf K .w W (eVarW i)) := pe_imp (pe_var hN hv hd hcd) fun σ H Q ⟨G, ρ, S, m⟩ => by
  unfold eVarW at m
  cases e : ρ[i]? with
  | none => simp only [e] at m
  | some s =>
    cases s with
    | no => simp only [e] at m
    | val d =>
      simp only [e] at m
      obtain ⟨v, hv, r⟩ := S.sl i _ e
      exact ⟨v, hv, m v G H (.refl S.sub) (.inl r)⟩
    | own d =>
      simp only [e] at m
      obtain ⟨p, hv, n, w⟩ := S.sl i _ e
      exact ⟨_, hv, m _ G H (.refl S.sub) (.inr ⟨p, rfl, .inl n, w⟩)⟩
    | st b0 Ω => simp only [e] at m
theorem dc_of {e : Expr} {v : V} {d : D} (h : PE X e (tC v)) (r : ∀ G, Rep K G v d) : PE X e (exOf K .v W (eC d)) := pe_imp h fun σ H Q ⟨G, ρ, S, m⟩ => m v G H (.refl S.sub) (r G)
theorem dint {i j pos} : PE X (.Constant (.int i) j pos) (exOf K .v W (eC (.int i))) := dc_of pe_int fun _ => .int i
theorem dbl {b j pos} : PE X (.Constant (.bool b) j pos) (exOf K .v W (eC (.bl b))) := dc_of pe_bl fun _ => .bl b
theorem dnon {j pos} : PE X (.Constant .none j pos) (exOf K .v W (eC .non)) := dc_of pe_non fun _ => .non
theorem dstr {x j pos} : PE X (.Constant (.str x) j pos) (exOf K .v W (eC (.str x))) := dc_of pe_str fun _ => .str x
end
end Pd

/-! Pd2: statements as pure functions of the slots. -/
namespace Pd
open PySem PySem.Spec L2
variable {K : PySem.W.Frag}

/-- how a statement ends -/
inductive O where
  | nx (ρ : Ev) | ret (own : Bool) (d : D) | retS (d : D) (ρ : Ev) | brk (ρ : Ev) | ct (ρ : Ev) | exc (c : Str) (ρ : Ev) | bad
def R.out {α : Type} (r : R α) (ρ : Ev) (h : α → O) : O := match r with
  | .ok a => h a
  | .exc c => .exc c ρ
  | .bad => .bad
@[simp] theorem R.out_ok {α : Type} (a : α) (ρ : Ev) (h : α → O) : (R.ok a).out ρ h = h a := rfl
@[simp] theorem R.out_exc {α : Type} (c : Str) (ρ : Ev) (h : α → O) : (R.exc c : R α).out ρ h = .exc c ρ := rfl
@[simp] theorem R.out_bad {α : Type} (ρ : Ev) (h : α → O) : (R.bad : R α).out ρ h = .bad := rfl
def kb : Bool → Kn
  | true => .o
  | false => .v
def sb : Bool → D → SV
  | true, d => .own d
  | false, d => .val d

/-- where a def began; pu: it changes no object -/
structure Bs where
  G : Hp
  H : Hp
  pu : Bool
/-- growth; objects may be changed, if not pu -/
structure GrowB (pu : Bool) (G H G' H' : Hp) : Prop where
  hh : ∀ b o, H b = some o → nt o → (pu = true ∨ ∀ ps, G b = some (.tbl ps) → ¬ isMk ps) → H' b = some o
  gg : Same G G'
  gh : Sub G' H'
  new : ∀ a, G a = none → G' a ≠ none → Nw H a
  mks : pu = true → ∀ i p, G' p = some (mark i) → G p = some (mark i)
  al : ∀ b o, H b = some o → nt o → ∃ o', H' b = some o' ∧ nt o'
theorem GrowB.of {pu : Bool} {G H G' H' : Hp} (g : Grow G H G' H') : GrowB pu G H G' H' := ⟨fun b o e n _ => g.hh b o e n, g.gg, g.gh, g.new, fun _ => g.mks, fun b o e n => ⟨o, g.hh b o e n, n⟩⟩
theorem GrowB.pure {G H G' H' : Hp} (g : GrowB true G H G' H') : Grow G H G' H' := ⟨fun b o e n => g.hh b o e n (.inl rfl), g.gg, g.gh, g.new, g.mks rfl⟩
theorem GrowB.free {pu : Bool} {G H G' H' : Hp} (g : GrowB pu G H G' H') {p : Addr} (h : Fr H' p) : Fr H p := fun o e n => by
  obtain ⟨o', h1, h2⟩ := g.al p o e n
  exact h o' h1 h2
theorem GrowB.nw {pu : Bool} {G H G' H' : Hp} (g : GrowB pu G H G' H') {p : Addr} (gp : G p = none) (h : Nw H' p) : Nw H p := fun o e n => by
  have e' := g.hh p o e n (.inr fun ps q => by rw [gp] at q; cases q)
  exact h o e' n
theorem GrowB.trans {pu : Bool} {G H G1 H1 G2 H2 : Hp} (a : GrowB pu G H G1 H1) (b : Grow G1 H1 G2 H2) : GrowB pu G H G2 H2 :=
  ⟨fun x o e n h => b.hh x o (a.hh x o e n h) n, a.gg.trans b.gg, b.gh, fun x h1 h2 => by
    cases q : G1 x with
    | none => exact a.nw h1 (b.new x q h2)
    | some o => exact a.new x h1 (by rw [q]; exact fun z => nomatch z), fun hp i p h => a.mks hp i p (b.mks i p h), fun x o e n => by
    obtain ⟨o1, h1, n1⟩ := a.al x o e n
    exact ⟨o1, b.hh x o1 h1 n1, n1⟩⟩
theorem GrowB.mutF {pu : Bool} {G0 H0 G H : Hp} {p : Addr} {o' : HO} (g : GrowB pu G0 H0 G H) (h : Fr H0 p) (sG : Sub G (upd H p o')) : GrowB pu G0 H0 G (upd H p o') :=
  ⟨fun b o e n z => by rw [upd_ne (fun q => h o (by rw [← q]; exact e) n)]; exact g.hh b o e n z, g.gg, sG, g.new, g.mks, fun b o e n => by rw [upd_ne (fun q => h o (by rw [← q]; exact e) n)]; exact g.al b o e n⟩
theorem GrowB.fz {pu : Bool} {G0 H0 G H : Hp} {p : Addr} {o : HO} (g : GrowB pu G0 H0 G H) (h : Fr H0 p) (gp : G p = none) (sG : Sub (upd G p o) H) (n : nt o) : GrowB pu G0 H0 (upd G p o) H :=
  ⟨g.hh, g.gg.trans (same_new gp), sG, fun a h1 h2 => by
    by_cases e : a = p
    · rw [e]; exact h.nw
    · rw [upd_ne e] at h2
      exact g.new a h1 h2, fun hp i q z => g.mks hp i q (mark_upd n i q z), g.al⟩
structure Good (K : PySem.W.Frag) (B : Bs) (G : Hp) (ρ : Ev) (σ : St) (H : Hp) : Prop where
  st : Stt K G ρ σ H
  gr : GrowB B.pu B.G B.H G H
  fr : ∀ (i : Nat) (d : D) (p : Addr), ρ[i]? = some (.own d) → σ[i]? = some (some (.ref p)) → Fr B.H p
  ns : ∀ (i : Nat) (Ω : List Ob), ρ[i]? = some (.st true Ω) → B.pu = false
/-- what a way of ending asks of the ends wanted -/
def OutP (K : PySem.W.Frag) (B : Bs) (G : Hp) (W : WN) (E : Ends) : O → Prop
  | .nx ρ' => ∀ G' σ' H', Good K B G' ρ' σ' H' → Same G G' → E.nx σ' H'
  | .ret own d => ∀ v G' H', GrowB B.pu B.G B.H G' H' → KRep K (kb own) B.G B.H G' H' v d → E.rt v H'
  | .retS d ρ' => ∀ v G' σ' H', Good K B G' ρ' σ' H' → Same G G' → Rep K G' v d → E.rt v H'
  | .brk ρ' => ∀ G' σ' H', Good K B G' ρ' σ' H' → Same G G' → E.bk σ' H'
  | .ct ρ' => ∀ G' σ' H', Good K B G' ρ' σ' H' → Same G G' → E.ct σ' H'
  | .exc c ρ' => ∀ G' σ' H', Good K B G' ρ' σ' H' → Same G G' → W c σ' H'
  | .bad => False
def tsOf (K : PySem.W.Frag) (W : WN) (f : Ev → O) : TS := fun E σ H => ∃ B G ρ, Good K B G ρ σ H ∧ OutP K B G W E (f ρ)

theorem Good.grow {B : Bs} {G H G' H' : Hp} {ρ : Ev} {σ : St} (S : Good K B G ρ σ H) (g : Grow G H G' H') : Good K B G' ρ σ H' := ⟨S.st.grow g, S.gr.trans g, S.fr, S.ns⟩
theorem OutP.later {B : Bs} {G G1 : Hp} {W : WN} {E : Ends} (s : Same G G1) : ∀ {o : O}, OutP K B G W E o → OutP K B G1 W E o
  | .nx _, h => fun G' σ' H' g z => h G' σ' H' g (s.trans z)
  | .ret _ _, h => h
  | .retS _ _, h => fun v G' σ' H' g z => h v G' σ' H' g (s.trans z)
  | .brk _, h => fun G' σ' H' g z => h G' σ' H' g (s.trans z)
  | .ct _, h => fun G' σ' H' g z => h G' σ' H' g (s.trans z)
  | .exc _ _, h => fun G' σ' H' g z => h G' σ' H' g (s.trans z)
  | .bad, h => h

theorem set_get {α : Type} {l : List α} {i j : Nat} {a s : α} (h : (l.set i a)[j]? = some s) : (i = j ∧ s = a) ∨ (i ≠ j ∧ l[j]? = some s) := by
  by_cases e : i = j
  · subst e
    rw [List.getElem?_set] at h
    simp only [if_true] at h
    split at h
    · exact .inl ⟨rfl, (Option.some.inj h).symm⟩
    · cases h
  · rw [List.getElem?_set_ne e] at h
    exact .inr ⟨e, h⟩
theorem set_lt {α : Type} {l : List α} {i j : Nat} {a s : α} (h : (l.set i a)[j]? = some s) : j < l.length := by
  have := (List.getElem?_eq_some_iff.mp h).1
  rwa [List.length_set] at this
/-- a slot stored -/
theorem Stt.set {G H G' H' : Hp} {ρ : Ev} {σ : St} {i : Nat} {v : V} {d : D} {o : Bool} (S : Stt K G ρ σ H) (g : Grow G H G' H') (r : KRep K (kb o) G H G' H' v d) : Stt K G' (ρ.set i (sb o d)) (σ.set i (some v)) H' := by
  have S' := S.grow g
  refine ⟨g.gh, by rw [List.length_set, List.length_set]; exact S.len, fun j s e => ?_, fun j l d1 d2 p hne e1 e2 h1 h2 => ?_, S.mkd.mono g.gg⟩
  · rcases set_get e with ⟨rfl, rfl⟩ | ⟨hne, e⟩
    · have hl : i < σ.length := by rw [← S.len]; exact set_lt e
      rw [List.getElem?_set_self hl]
      cases o with
      | false => exact ⟨v, rfl, r⟩
      | true =>
        obtain ⟨p, ev, hn, gn, w⟩ := r
        subst ev
        exact ⟨p, rfl, gn, w⟩
    · rw [List.getElem?_set_ne hne]
      exact S'.sl j s e
  · have own : ∀ (m : Nat) (dm : D), ρ[m]? = some (.own dm) → σ[m]? = some (some (.ref p)) → ∃ u, H p = some u ∧ isOwn u := fun m dm em hm => by
      obtain ⟨q, e, _, w⟩ := S.sl m _ em
      rw [hm] at e
      cases e
      exact w.there
    have new : ∀ (dm : D), sb o d = .own dm → v = .ref p → Fr H p := fun dm e ev => by
      cases o with
      | false => cases e
      | true =>
        obtain ⟨q, ev', hn, _⟩ := r
        rw [ev] at ev'
        cases ev'
        exact hn
    rcases set_get e1 with ⟨q1, s1⟩ | ⟨q1, s1⟩ <;> rcases set_get e2 with ⟨q2, s2⟩ | ⟨q2, s2⟩
    · exact hne (q1.symm.trans q2)
    · subst q1
      have hl : i < σ.length := by rw [← S.len]; exact set_lt e1
      rw [List.getElem?_set_self hl] at h1
      rw [List.getElem?_set_ne q2] at h2
      obtain ⟨u, hu, io⟩ := own l d2 s2 h2
      have z := new d1 s1.symm (Option.some.inj (Option.some.inj h1))
      exact absurd io.nt (z u hu)
    · subst q2
      have hl : i < σ.length := by rw [← S.len]; exact set_lt e2
      rw [List.getElem?_set_self hl] at h2
      rw [List.getElem?_set_ne q1] at h1
      obtain ⟨u, hu, io⟩ := own j d1 s1 h1
      have z := new d2 s2.symm (Option.some.inj (Option.some.inj h2))
      exact absurd io.nt (z u hu)
    · rw [List.getElem?_set_ne q1] at h1
      rw [List.getElem?_set_ne q2] at h2
      exact S.dj j l d1 d2 p hne s1 s2 h1 h2
theorem Good.set {B : Bs} {G H G' H' : Hp} {ρ : Ev} {σ : St} {i : Nat} {v : V} {d : D} {o : Bool} (S : Good K B G ρ σ H) (g : Grow G H G' H') (r : KRep K (kb o) G H G' H' v d) : Good K B G' (ρ.set i (sb o d)) (σ.set i (some v)) H' := by
  refine ⟨S.st.set g r, S.gr.trans g, fun j e p h1 h2 => ?_, fun j Ω h1 => ?_⟩
  · rcases set_get h1 with ⟨rfl, q⟩ | ⟨hne, q⟩
    · have hl : i < σ.length := by rw [← S.st.len]; exact set_lt h1
      rw [List.getElem?_set_self hl] at h2
      cases o with
      | false => cases q
      | true =>
        obtain ⟨q', ev', hn, _⟩ := r
        subst ev'
        cases h2
        exact S.gr.free hn
    · rw [List.getElem?_set_ne hne] at h2
      exact S.fr j e p q h2
  · rcases set_get h1 with ⟨_, q⟩ | ⟨_, q⟩
    · cases o <;> cases q
    · exact S.ns j Ω q
/-- an object of a slot's own changed -/
theorem Good.mut {B : Bs} {G H : Hp} {ρ : Ev} {σ : St} {i : Nat} {p : Addr} {d d' : D} {o' : HO} (S : Good K B G ρ σ H) (e : ρ[i]? = some (.own d)) (hp : σ[i]? = some (some (.ref p))) (gn : G p = none) (w : OwnAt K G (upd H p o') p d') :
    Good K B G (ρ.set i (.own d')) σ (upd H p o') := by
  have hB := S.fr i d p e hp
  obtain ⟨p0, hp0, _, w0⟩ := S.st.sl i _ e
  rw [hp] at hp0
  cases hp0
  obtain ⟨o0, ho0, io0⟩ := w0.there
  have sG : Sub G (upd H p o') := sub_mut S.st.sub gn ho0 io0
  have hi : i < ρ.length := (List.getElem?_eq_some_iff.mp e).1
  refine ⟨⟨sG, by rw [List.length_set]; exact S.st.len, fun j s q => ?_, fun j l d1 d2 p' hne e1 e2 h1 h2 => ?_, S.st.mkd⟩, S.gr.mutF hB sG, fun j e' p' q h => ?_, fun j Ω h1 => ?_⟩
  · rcases set_get q with ⟨rfl, rfl⟩ | ⟨hne, q⟩
    · exact ⟨p, hp, gn, w⟩
    · have z := S.st.sl j s q
      cases s with
      | no => trivial
      | val x => exact z
      | own x =>
        obtain ⟨p', e', n', w'⟩ := z
        refine ⟨p', e', n', w'.at (upd_ne ?_)⟩
        rintro rfl
        exact S.st.dj j i x d p' (Ne.symm hne) q e e' hp
      | st b0 Ω => exact ObsOk.mono (.refl _) (fun b o gb eb _ => by rw [upd_ne (fun zz => gb (by rw [zz]; exact gn))]; exact eb) (fun _ _ h => h) z
  · have old : ∀ (m : Nat) (dm : D), (ρ.set i (.own d'))[m]? = some (.own dm) → ∃ d0, ρ[m]? = some (.own d0) := fun m dm z => by
      rcases set_get z with ⟨rfl, _⟩ | ⟨_, z⟩
      · exact ⟨_, e⟩
      · exact ⟨_, z⟩
    obtain ⟨a1, b1⟩ := old j d1 e1
    obtain ⟨a2, b2⟩ := old l d2 e2
    exact S.st.dj j l a1 a2 p' hne b1 b2 h1 h2
  · rcases set_get q with ⟨rfl, _⟩ | ⟨hne, q⟩
    · rw [hp] at h
      cases h
      exact hB
    · exact S.fr j e' p' q h
  · rcases set_get h1 with ⟨_, q⟩ | ⟨_, q⟩
    · cases q
    · exact S.ns j Ω q

/-! ### small statements -/
def sNext : Ev → O := fun ρ => .nx ρ
def sSeq (f g : Ev → O) : Ev → O := fun ρ => match f ρ with
  | .nx ρ' => g ρ'
  | o => o
def sSet (o : Bool) (i : Nat) (f : Ev → R D) : Ev → O := fun ρ => (f ρ).out ρ fun d => .nx (ρ.set i (sb o d))
def sRet (o : Bool) (f : Ev → R D) : Ev → O := fun ρ => (f ρ).out ρ fun d => .ret o d
def sIf (c : Ev → R Bool) (f g : Ev → O) : Ev → O := fun ρ => (c ρ).out ρ fun b => if b then f ρ else g ρ
def sDrop (f : Ev → R D) : Ev → O := fun ρ => (f ρ).out ρ fun _ => .nx ρ
def sBrk : Ev → O := fun ρ => .brk ρ
def sCt : Ev → O := fun ρ => .ct ρ
def frz (i : Nat) (ρ : Ev) : Ev := match ρ[i]? with
  | some (.own d) => ρ.set i (.val d)
  | _ => ρ
def sFrz (i : Nat) (f : Ev → O) : Ev → O := fun ρ => f (frz i ρ)
section
variable {X : Cx} {W : WN} {st : Stmt} {rest : List Stmt} {f g : Ev → O} {e : Expr} {fe : Ev → R D} {pos : Pos}
theorem ds_nil : PSs X [] (tsOf K W sNext) := pss_imp pss_nil fun E σ H ⟨B, G, ρ, S, m⟩ => m G σ H S (.refl _)
theorem ds_cons (h1 : PS X st (tsOf K W f)) (h2 : PSs X rest (tsOf K W g)) : PSs X (st :: rest) (tsOf K W (sSeq f g)) := pss_imp (pss_cons h1 h2) fun E σ H ⟨B, G, ρ, S, m⟩ => by
  refine ⟨B, G, ρ, S, ?_⟩
  unfold sSeq at m
  cases q : f ρ with
  | nx ρ' =>
    rw [q] at m
    exact fun G' σ' H' S' s' => ⟨B, G', ρ', S', OutP.later s' m⟩
  | ret o d => rw [q] at m; exact m
  | retS d ρ' => rw [q] at m; exact m
  | brk ρ' => rw [q] at m; exact m
  | ct ρ' => rw [q] at m; exact m
  | exc c ρ' => rw [q] at m; exact m
  | bad => rw [q] at m; exact m
theorem ds_one (h1 : PS X st (tsOf K W f)) : PSs X [st] (tsOf K W f) := pss_one h1
theorem ds_pass : PS X (.Pass pos) (tsOf K W sNext) := ps_imp ps_pass fun E σ H ⟨B, G, ρ, S, m⟩ => m G σ H S (.refl _)
theorem ds_break : PS X (.Break pos) (tsOf K W sBrk) := ps_imp ps_break fun E σ H ⟨B, G, ρ, S, m⟩ => m G σ H S (.refl _)
theorem ds_continue : PS X (.Continue pos) (tsOf K W sCt) := ps_imp ps_continue fun E σ H ⟨B, G, ρ, S, m⟩ => m G σ H S (.refl _)
/-- an expression ahead of a statement's end -/
theorem ex_then {k : Kn} {h : D → O} {E : Ends} {σ : St} {H : Hp} {Q : VK} {B : Bs} {G : Hp} {ρ : Ev} (S : Good K B G ρ σ H) (m : OutP K B G W E ((fe ρ).out ρ h))
    (hq : ∀ d v G' H', Good K B G' ρ σ H' → Grow G H G' H' → KRep K k G H G' H' v d → OutP K B G W E (h d) → Q v H') : exOf K k W fe σ H Q := by
  refine ⟨G, ρ, S.st, ?_⟩
  cases q : fe ρ with
  | ok d => rw [q] at m; exact fun v G' H' g r => hq d v G' H' (S.grow g) g r m
  | exc c => rw [q] at m; exact fun G' H' g => m G' σ H' (S.grow g) g.gg
  | bad => rw [q] at m; exact m
theorem tt_then {fc : Ev → R Bool} {h : Bool → O} {E : Ends} {σ : St} {H : Hp} {Q : Bool → Hp → Prop} {B : Bs} {G : Hp} {ρ : Ev} (S : Good K B G ρ σ H) (m : OutP K B G W E ((fc ρ).out ρ h))
    (hq : ∀ b G' H', Good K B G' ρ σ H' → Grow G H G' H' → OutP K B G W E (h b) → Q b H') : ttOf K W fc σ H Q := by
  refine ⟨G, ρ, S.st, ?_⟩
  cases q : fc ρ with
  | ok d => rw [q] at m; exact fun G' H' g => hq d G' H' (S.grow g) g m
  | exc c => rw [q] at m; exact fun G' H' g => m G' σ H' (S.grow g) g.gg
  | bad => rw [q] at m; exact m
theorem ds_set (o : Bool) {i : Nat} {x : Str} {pos' : Pos} (hN : X.N.Nodup) (hi : X.N[i]? = some x) (hx : Loc X.env.scope x) (he : PE X e (exOf K (kb o) W fe)) (hs : swapsWith e (some (.Name x pos')) pos.line X.env = pure false := by rfl) (hf : X.fn x = true ∨ X.env.scope.names.lookup x = some .local := by first | exact .inl rfl | exact .inr rfl | assumption) :
    PS X (.Assign [.Name x pos'] e pos) (tsOf K W (sSet o i fe)) := ps_imp (ps_set hN hi hx he hs hf) fun E σ H ⟨B, G, ρ, S, m⟩ =>
  ex_then S m fun d v G' H' _ g r m' => m' G' _ H' (S.set g r) g.gg
theorem ds_ret (o : Bool) (he : PE X e (exOf K (kb o) W fe)) : PS X (.Return (some e) pos) (tsOf K W (sRet o fe)) := ps_imp (ps_ret he) fun E σ H ⟨B, G, ρ, S, m⟩ =>
  ex_then S m fun d v G' H' S' g r m' => m' v G' H' S'.gr (by
    cases o with
    | false => exact r
    | true => obtain ⟨p, ev, hn, gn, w⟩ := r; exact ⟨p, ev, S.gr.free hn, gn, w⟩)
theorem ds_retN : PS X (.Return none pos) (tsOf K W (fun _ => .ret false .non)) := ps_imp ps_retN fun E σ H ⟨B, G, ρ, S, m⟩ => m .non G H S.gr .non
theorem ds_drop {k : Kn} (he : PE X e (exOf K k W fe)) (hs : swapsWith e none pos.line X.env = pure false := by rfl) : PS X (.Expr e pos) (tsOf K W (sDrop fe)) := ps_imp (ps_expr he hs) fun E σ H ⟨B, G, ρ, S, m⟩ =>
  ex_then S m fun d v G' H' S' g r m' => m' G' σ H' S' g.gg
theorem ds_if {c : Expr} {a b : List Stmt} {fc : Ev → R Bool} (hc : PT X c (ttOf K W fc)) (ha : PSs X a (tsOf K W f)) (hb : PSs X b (tsOf K W g)) : PS X (.If c a b pos) (tsOf K W (sIf fc f g)) := ps_imp (ps_if hc ha hb) fun E σ H ⟨B, G, ρ, S, m⟩ =>
  tt_then S m fun b G' H' S' g m' => by
    cases b with
    | true => exact ⟨B, G', ρ, S', OutP.later g.gg m'⟩
    | false => exact ⟨B, G', ρ, S', OutP.later g.gg m'⟩
/-- an own thing is given away for ever -/
theorem frz_good {B : Bs} {G H : Hp} {ρ : Ev} {σ : St} (i : Nat) (S : Good K B G ρ σ H) : ∃ G', Same G G' ∧ Good K B G' (frz i ρ) σ H := by
  unfold frz
  cases q : ρ[i]? with
  | none => exact ⟨G, .refl _, S⟩
  | some s =>
    cases s with
    | no => exact ⟨G, .refl _, S⟩
    | val d => exact ⟨G, .refl _, S⟩
    | st b0 Ω => exact ⟨G, .refl _, S⟩
    | own d =>
      obtain ⟨p, hp, gn, w⟩ := S.st.sl i _ q
      obtain ⟨o, ho, io⟩ := w.there
      have hB := S.fr i d p q hp
      have sg : Same G (upd G p o) := same_new gn
      have sub : Sub (upd G p o) H := S.st.sub.frozen ho io.nt
      refine ⟨upd G p o, sg, ⟨⟨sub, by simpa using S.st.len, fun j s z => ?_, fun j l d1 d2 p' hne e1 e2 h1 h2 => ?_, S.st.mkd.mono sg⟩, S.gr.fz hB gn sub io.nt, fun j e' p' z h => ?_, fun j Ω h1 => ?_⟩⟩
      · rcases set_get z with ⟨rfl, rfl⟩ | ⟨hne, z⟩
        · exact ⟨_, hp, w.rep gn ho⟩
        · have y := S.st.sl j s z
          cases s with
          | no => trivial
          | val x => obtain ⟨v, e, r⟩ := y; exact ⟨v, e, r.mono sg⟩
          | own x =>
            obtain ⟨p', e', n', w'⟩ := y
            refine ⟨p', e', ?_, w'.mono sg (.refl _)⟩
            rw [upd_ne]
            · exact n'
            · rintro rfl
              exact S.st.dj j i x d p' (Ne.symm hne) z q e' hp
          | st b0 Ω => exact ObsOk.mono sg (fun b o _ eb _ => eb) (mark_upd io.nt) y
      · rcases set_get e1 with ⟨_, z⟩ | ⟨_, z1⟩
        · cases z
        · rcases set_get e2 with ⟨_, z⟩ | ⟨_, z2⟩
          · cases z
          · exact S.st.dj j l d1 d2 p' hne z1 z2 h1 h2
      · rcases set_get z with ⟨_, y⟩ | ⟨_, z⟩
        · cases y
        · exact S.fr j e' p' z h
      · rcases set_get h1 with ⟨_, y⟩ | ⟨_, z⟩
        · cases y
        · exact S.ns j Ω z
theorem ds_frz (i : Nat) (h : PS X st (tsOf K W f)) : PS X st (tsOf K W (sFrz i f)) := ps_imp h fun E σ H ⟨B, G, ρ, S, m⟩ => by
  obtain ⟨G', s, S'⟩ := frz_good i S
  exact ⟨B, G', _, S', OutP.later s m⟩
end
end Pd

/-! Pd3: targets, what is walked, for, while, comprehensions. -/
namespace Pd
open PySem PySem.Spec L2
variable {K : PySem.W.Frag}

/-! ### targets -/
inductive Tg where
  | nm (i : Nat) | tp (ts : List Tg) | tl (ts : List Tg)
mutual
/-- the slots behind a store -/
def tgSet : Tg → D → Ev → Option Ev
  | .nm i, d, ρ => some (ρ.set i (.val d))
  | .tp ts, .tup ds, ρ => tgSets ts ds ρ
  | .tp ts, .lst ds, ρ => none
  | .tp _, _, _ => none
  | .tl ts, .lst ds, ρ => tgSets ts ds ρ
  | .tl _, _, _ => none
def tgSets : List Tg → List D → Ev → Option Ev
  | [], [], ρ => some ρ
  | t :: ts, d :: ds, ρ => (tgSet t d ρ).bind fun ρ' => tgSets ts ds ρ'
  | _, _, _ => none
end
def tgLen : List Tg → Nat := List.length
mutual
/-- its reading -/
def tgR (K : PySem.W.Frag) : Tg → TG
  | .nm i => gName i
  | .tp ts => gTup K ts.length (tgRs K ts)
  | .tl ts => gLst K ts.length (tgRs K ts)
def tgRs (K : PySem.W.Frag) : List Tg → TGs
  | [] => gNil
  | t :: ts => gCons (tgR K t) (tgRs K ts)
end
mutual
def tgIx : Tg → List Nat
  | .nm i => [i]
  | .tp ts => tgIxs ts
  | .tl ts => tgIxs ts
def tgIxs : List Tg → List Nat
  | [] => []
  | t :: ts => tgIx t ++ tgIxs ts
end
mutual
theorem tgSets_len : ∀ {ts : List Tg} {ds : List D} {ρ ρ' : Ev}, tgSets ts ds ρ = some ρ' → ts.length = ds.length
  | [], [], _, _, _ => rfl
  | t :: ts, d :: ds, ρ, ρ', h => by
    unfold tgSets at h
    cases e : tgSet t d ρ with
    | none => rw [e] at h; cases h
    | some r =>
      rw [e] at h
      rw [List.length_cons, List.length_cons, tgSets_len (show tgSets ts ds r = some ρ' from h)]
  | [], _ :: _, _, _, h => by unfold tgSets at h; cases h
  | _ :: _, [], _, _, h => by unfold tgSets at h; cases h
end
mutual
theorem tg_run {G H : Hp} (sub : Sub G H) {P : Ev → St → Prop} : ∀ (t : Tg) (hP : ∀ ρ σ i v d, i ∈ tgIx t → P ρ σ → Rep K G v d → P (ρ.set i (.val d)) (σ.set i (some v))) {d : D} {v : V} {ρ ρ' : Ev} {σ : St} {Q : St → Hp → Prop},
    P ρ σ → Rep K G v d → tgSet t d ρ = some ρ' → (∀ σ', P ρ' σ' → Q σ' H) → tgR K t v σ H Q
  | .nm i, hP, d, v, ρ, ρ', σ, Q, p, r, e, q => by
    unfold tgSet at e
    cases e
    unfold tgR
    exact q _ (hP _ _ i v d (by simp [tgIx]) p r)
  | .tp ts, hP, d, v, ρ, ρ', σ, Q, p, r, e, q => by
    unfold tgR
    cases r with
    | tup h rl =>
      unfold tgSet at e
      have l := tgSets_len e
      exact ⟨_, _, rfl, .inl (.inl (sub _ _ h)), by rw [rl.length, l], tgs_run sub ts (fun ρ σ i v d hi => hP ρ σ i v d (by simpa [tgIx] using hi)) p rl e q⟩
    | non => simp [tgSet] at e
    | bl b => simp [tgSet] at e
    | int i => simp [tgSet] at e
    | str x => simp [tgSet] at e
    | fn v => simp [tgSet] at e
    | scr h => simp [tgSet] at e
    | lst h rl => simp [tgSet] at e
    | dK h rl => simp [tgSet] at e
    | dT h rl => simp [tgSet] at e
    | pt h q rl => simp [tgSet] at e
    | lK h rl => simp [tgSet] at e
    | lT h rl => simp [tgSet] at e
    | ob h => simp [tgSet] at e
  | .tl ts, hP, d, v, ρ, ρ', σ, Q, p, r, e, q => by
    unfold tgR
    cases r with
    | lst h rl =>
      unfold tgSet at e
      have l := tgSets_len e
      exact ⟨_, _, rfl, .inl (.inl (sub _ _ h)), by rw [rl.length, l], tgs_run sub ts (fun ρ σ i v d hi => hP ρ σ i v d (by simpa [tgIx] using hi)) p rl e q⟩
    | non => simp [tgSet] at e
    | bl b => simp [tgSet] at e
    | int i => simp [tgSet] at e
    | str x => simp [tgSet] at e
    | fn v => simp [tgSet] at e
    | scr h => simp [tgSet] at e
    | tup h rl => simp [tgSet] at e
    | dK h rl => simp [tgSet] at e
    | dT h rl => simp [tgSet] at e
    | pt h q rl => simp [tgSet] at e
    | lK h rl => simp [tgSet] at e
    | lT h rl => simp [tgSet] at e
    | ob h => simp [tgSet] at e
theorem tgs_run {G H : Hp} (sub : Sub G H) {P : Ev → St → Prop} : ∀ (ts : List Tg) (hP : ∀ ρ σ i v d, i ∈ tgIxs ts → P ρ σ → Rep K G v d → P (ρ.set i (.val d)) (σ.set i (some v))) {ds : List D} {vs : List V} {ρ ρ' : Ev} {σ : St} {Q : St → Hp → Prop},
    P ρ σ → RepL K G vs ds → tgSets ts ds ρ = some ρ' → (∀ σ', P ρ' σ' → Q σ' H) → tgRs K ts vs σ H Q
  | [], hP, ds, vs, ρ, ρ', σ, Q, p, r, e, q => by
    unfold tgRs
    cases r with
    | nil =>
      unfold tgSets at e
      cases e
      exact ⟨rfl, q _ p⟩
    | cons _ _ => unfold tgSets at e; cases e
  | t :: ts, hP, ds, vs, ρ, ρ', σ, Q, p, r, e, q => by
    unfold tgRs
    cases r with
    | nil => unfold tgSets at e; cases e
    | cons h rl =>
      rename_i v vs' d ds'
      unfold tgSets at e
      cases e1 : tgSet t d ρ with
      | none => rw [e1] at e; cases e
      | some r1 =>
        rw [e1] at e
        exact ⟨_, _, rfl, tg_run sub t (fun ρ σ i v d hi => hP ρ σ i v d (by simp [tgIxs, hi])) p h e1 fun σ' p' => tgs_run sub ts (fun ρ σ i v d hi => hP ρ σ i v d (by simp [tgIxs, hi])) p' rl e q⟩
end
section
variable {X : Cx}
/-- a target's derivation -/
theorem dg_nm {i : Nat} {x : Str} {pos : Pos} (hN : X.N.Nodup) (hi : X.N[i]? = some x) (hx : Loc X.env.scope x) (hf : X.fn x = true ∨ X.env.scope.names.lookup x = some .local := by first | exact .inl rfl | exact .inr rfl | assumption) : PG X (.Name x pos) (tgR K (.nm i)) := by
  unfold tgR
  exact pg_name hN hi hx hf
theorem dgs_nil : PGs X [] (tgRs K []) := by
  unfold tgRs
  exact pgs_nil
theorem dgs_cons {e : Expr} {es : List Expr} {t : Tg} {ts : List Tg} (h1 : PG X e (tgR K t)) (h2 : PGs X es (tgRs K ts))
    (hs : (assignEach (e :: es) X.env).map (·.2) = assign e X.env :: (assignEach es X.env).map (·.2) := by rfl) : PGs X (e :: es) (tgRs K (t :: ts)) := by
  unfold tgRs
  exact pgs_cons h1 h2 hs
theorem dg_tp {es : List Expr} {k : Nat} {ts : List Tg} {pos : Pos} (hK : X.K = K) (hc : X.calm = true) (h : PGs X es (tgRs K ts))
    (hn : (assignEach es X.env).length = ts.length := by rfl) (hst : (assignEach es X.env).findIdx? (·.1) = none := by rfl) : PG X (.Tuple es k pos) (tgR K (.tp ts)) := by
  unfold tgR
  subst hK
  exact pg_tup hc h hn hst
theorem dg_tl {es : List Expr} {k : Nat} {ts : List Tg} {pos : Pos} (hK : X.K = K) (hc : X.calm = true) (h : PGs X es (tgRs K ts))
    (hn : (assignEach es X.env).length = ts.length := by rfl) (hst : (assignEach es X.env).findIdx? (·.1) = none := by rfl) : PG X (.Tuple es k pos) (tgR K (.tl ts)) := by
  unfold tgR
  subst hK
  exact pg_lst hc h hn hst
end
theorem stt_setv {G H : Hp} {ρ : Ev} {σ : St} {i : Nat} {v : V} {d : D} (S : Stt K G ρ σ H) (r : Rep K G v d) : Stt K G (ρ.set i (.val d)) (σ.set i (some v)) H :=
  Stt.set (o := false) S (.refl S.sub) r
theorem good_setv {B : Bs} {G H : Hp} {ρ : Ev} {σ : St} {i : Nat} {v : V} {d : D} (S : Good K B G ρ σ H) (r : Rep K G v d) : Good K B G (ρ.set i (.val d)) (σ.set i (some v)) H :=
  Good.set (o := false) S (.refl S.st.sub) r

/-- target = value -/
def sAsg (t : Tg) (f : Ev → R D) : Ev → O := fun ρ => (f ρ).out ρ fun d => match tgSet t d ρ with
  | some ρ' => .nx ρ'
  | none => .bad
theorem ds_asg {X : Cx} {W : WN} {tg e : Expr} {t : Tg} {fe : Ev → R D} {pos : Pos} (he : PE X e (exOf K .v W fe)) (hg : PG X tg (tgR K t)) (hs : swapsWithSole [tg] e pos.line X.env = pure false := by rfl) (hw : swappedStores [tg] e X.env = pure none := by rfl)
    (h1 : (assignEach [tg] X.env).map (·.2) = [assign tg X.env] := by rfl) : PS X (.Assign [tg] e pos) (tsOf K W (sAsg t fe)) := ps_imp (ps_asg he hg hs hw h1) fun E σ H ⟨B, G, ρ, S, m⟩ =>
  ex_then S m fun d v G' H' S' g r m' => by
    cases e : tgSet t d ρ with
    | none => simp only [e] at m'; exact m'.elim
    | some ρ' =>
      simp only [e] at m'
      exact tg_run (P := fun ρ σ => Good K B G' ρ σ H') g.gh t (fun _ _ _ _ _ _ p r => good_setv p r) S' r e fun σ' p' => m' G' σ' H' p' g.gg

/-! ### what is walked -/
def ItD (K : PySem.W.Frag) (J : It) (G : Hp) (ds : List D) : Prop := ∀ H', Sub G H' → (∀ (i : Nat) d, ds[i]? = some d → J.go i H' ∧ ∀ x H'', J.yld i H' x H'' → ∀ G', Same G G' → Sub G' H' → ∃ G'', Grow G' H' G'' H'' ∧ Rep K G'' x d) ∧ J.stop ds.length H'
def ItW (K : PySem.W.Frag) (J : It) (G H : Hp) (ds : List D) : Prop := ∀ G' H', Grow G H G' H' → (∀ (i : Nat) d, ds[i]? = some d → J.go i H' ∧ ∀ x H'', J.yld i H' x H'' → ∃ G'', Grow G' H' G'' H'' ∧ Rep K G'' x d) ∧ J.stop ds.length H'
theorem ItD.weak {J : It} {G H : Hp} {ds : List D} (h : ItD K J G ds) : ItW K J G H ds := fun G' H' g => by
  obtain ⟨a, b⟩ := h H' (g.gh.old g.gg)
  exact ⟨fun i d e => ⟨(a i d e).1, fun x H'' y => (a i d e).2 x H'' y G' g.gg g.gh⟩, b⟩
/-- iterables: known for ever (s = true), or as they stand (s = false: within a comprehension alone) -/
def ItOf (K : PySem.W.Frag) (s : Bool) (J : It) (G H : Hp) (ds : List D) : Prop := match s with
  | true => ItD K J G ds
  | false => ItW K J G H ds
def tiOf (K : PySem.W.Frag) (s : Bool) (W : WN) (f : Ev → R (List D)) : TI := fun σ H Q => ∃ G ρ, Stt K G ρ σ H ∧ match f ρ with
  | .ok ds => ∀ J G' H', Grow G H G' H' → ItOf K s J G' H' ds → Q J H'
  | .exc c => ∀ G' H', Grow G H G' H' → W c σ H'
  | .bad => False
section
variable {X : Cx} {W : WN} {tg e : Expr}
theorem pi_imp {t t' : TI} (h : PI X tg e t) (i : ∀ σ H Q, t' σ H Q → t σ H Q) : PI X tg e t' := ⟨fun pins s σ H Q I q => h.run pins s σ H Q I (i σ H Q q)⟩
theorem di_weak {f : Ev → R (List D)} (h : PI X tg e (tiOf K true W f)) : PI X tg e (tiOf K false W f) := pi_imp h fun σ H Q ⟨G, ρ, S, m⟩ => by
  refine ⟨G, ρ, S, ?_⟩
  cases q : f ρ with
  | ok ds => rw [q] at m; exact fun J G' H' g i => m J G' H' g (ItD.weak i)
  | exc c => rw [q] at m; exact m
  | bad => rw [q] at m; exact m
/-- a list, a tuple, a text, by what it is -/
def iAny (K : PySem.W.Frag) (tl : TE) : TI := fun σ H R => tl σ H fun x H1 => (∃ a xs, x = .ref a ∧ SqL K H1 a xs ∧ R (Itl K a) H1) ∨ (∃ a xs, x = .ref a ∧ SqT K H1 a xs ∧ R (Itt K a) H1) ∨ ∃ z, x = .str z ∧ R (Its z) H1
theorem pi_any {tl : TE} (hl : PE X e tl) : PI X tg e (iAny X.K tl) := by
  refine ⟨fun pins s σ H R I h => ?_⟩
  refine thn (hl.run pins s σ H _ I h) fun v s1 ⟨x, H1, I1, r1, q1⟩ => ?_
  have at1 : ∀ (b : Addr), b ∈ [s1.heap.objs.size] → FpOk X pins H1 b := fun b hb => by
    have e : b = s1.heap.objs.size := by simpa using hb
    subst e
    exact I1.fpOk (Nat.le_refl _) (I1.hok.fresh (Nat.le_refl _))
  rcases q1 with ⟨a, xs, e, hq, q⟩ | ⟨a, xs, e, hq, q⟩ | ⟨z, e, q⟩
  · subst e
    cases r1
    obtain ⟨its, rv, p, hz⟩ := I1.list hq
    exact wpAny_pyIter_list p.isList ⟨s1.heap.objs.size, [s1.heap.objs.size], _, _, H1, rfl, I1.kept (t' := s1.toks) fun b o e => Heap.get?_push_of_some _ e, turn_list a _, ⟨_, Heap.get?_push_size _ rfl, rfl, rfl⟩, at1, q⟩
  · subst e
    cases r1
    obtain ⟨its, rv, p, hz⟩ := I1.tuple hq
    exact wpAny_pyIter_tuple (show s1.heap.IsTuple a its.toArray from p) ⟨s1.heap.objs.size, [s1.heap.objs.size], _, _, H1, rfl, I1.kept (t' := s1.toks) fun b o e => Heap.get?_push_of_some _ e, turn_tuple a _, ⟨_, Heap.get?_push_size _ rfl, rfl, rfl⟩, at1, q⟩
  · subst e
    obtain ⟨t, rfl⟩ := r1
    cases ha : z.cps.all (· < 128)
    · exact wpAny_pyIter_wide ha (pi_one (tk := s1.toks) I1 _ (turn_str _ z t "str_iterator" (.inr rfl)) ⟨_, Heap.get?_push_size _ rfl, rfl, rfl⟩ q)
    · exact wpAny_pyIter_ascii ha (pi_one (tk := s1.toks) I1 _ (turn_str _ z t "str_ascii_iterator" (.inl rfl)) ⟨_, Heap.get?_push_size _ rfl, rfl, rfl⟩ q)
def signs (z : Str) : List D := z.cps.toList.map fun c => .str ⟨#[c]⟩
def itemsD : D → Option (List D)
  | .lst ds => some ds
  | .tup ds => some ds
  | .pt ds => some ds
  | .str z => some (signs z)
  | .scr ns => some (ns.map D.int)
  | _ => none
theorem its_d {z : Str} {G : Hp} : ItD K (Its z) G (signs z) := fun H' s => by
  refine ⟨fun i d e => ?_, ?_⟩
  · unfold signs at e
    rw [List.getElem?_map] at e
    cases q : z.cps.toList[i]? with
    | none => rw [q] at e; cases e
    | some c =>
      rw [q] at e
      cases e
      have hi : i < z.cps.size := by
        have := (List.getElem?_eq_some_iff.mp q).1
        simpa using this
      refine ⟨hi, fun x H'' y G' s1 s2 => ?_⟩
      obtain ⟨eH, c', hc, ev⟩ := y
      have e1 : c' = c := by
        have q' : z.cps[i]? = some c := by simpa using q
        rw [hc] at q'
        exact Option.some.inj q'
      subst e1 ev
      exact ⟨G', by rw [eH]; exact .refl s2, .str _⟩
  · show z.cps.size ≤ _
    simp [signs]
theorem itl_d {a : Addr} {G : Hp} {xs : List V} {ds : List D} (h : SqL K G a xs) (r : RepL K G xs ds) : ItD K (Itl K a) G ds := fun H' s => by
  refine ⟨fun i d e => ?_, xs, s.seq h, Nat.le_of_eq r.length⟩
  obtain ⟨v, hv, rv⟩ := r.get e
  exact ⟨⟨xs, v, s.seq h, hv⟩, fun x H'' ⟨q, y⟩ G' s1 s2 => ⟨G', by rw [q]; exact .refl s2, by
    have z := y xs (s.seq h)
    rw [hv] at z
    cases z
    exact rv.mono s1⟩⟩
theorem itt_d {a : Addr} {G : Hp} {xs : List V} {ds : List D} (h : Rd G a (.tup xs)) (r : RepL K G xs ds) : ItD K (Itt K a) G ds := fun H' s => by
  have hs : ∀ {H1}, Sub G H1 → SqT K H1 a xs := fun s => .inl (s.rd h)
  refine ⟨fun i d e => ?_, xs, hs s, Nat.le_of_eq r.length⟩
  obtain ⟨v, hv, rv⟩ := r.get e
  exact ⟨⟨xs, v, hs s, hv⟩, fun x H'' ⟨q, y⟩ G' s1 s2 => ⟨G', by rw [q]; exact .refl s2, by
    have z := y xs (hs s)
    rw [hv] at z
    cases z
    exact rv.mono s1⟩⟩
theorem itl_w {p : Addr} {G H : Hp} {ds : List D} (w : OwnAt K G H p (.lst ds)) : ItW K (Itl K p) G H ds := fun G' H' g => by
  obtain ⟨vs, e, r⟩ := w
  have hs : SqL K H' p vs := .inl (.inl (g.hh _ _ e (fun _ z => nomatch z)))
  refine ⟨fun i d q => ?_, vs, hs, Nat.le_of_eq r.length⟩
  obtain ⟨v, hv, rv⟩ := r.get q
  exact ⟨⟨vs, v, hs, hv⟩, fun x H'' ⟨q, y⟩ => ⟨G', by rw [q]; exact .refl g.gh, by
    have z := y vs hs
    rw [hv] at z
    cases z
    exact rv.mono g.gg⟩⟩
theorem di_any {f : Ev → R D} (h : PE X e (exOf K .v W f)) (hK : X.K = K := by rfl) : PI X tg e (tiOf K true W fun ρ => (f ρ).bind fun d => opt (itemsD d)) := pi_imp (pi_any h) fun σ H Q ⟨G, ρ, S, m⟩ => by
  subst hK
  refine ⟨G, ρ, S, ?_⟩
  cases q : f ρ with
  | ok d =>
    simp only [q, R.bind_ok] at m
    intro v G' H' g r
    cases r with
    | lst h r => exact .inl ⟨_, _, rfl, .inl (.inl (g.gh _ _ h)), m _ G' H' g (itl_d (.inl (.inl h)) r)⟩
    | scr h => exact .inl ⟨_, _, rfl, g.gh.seq h, m _ G' H' g (itl_d h (RepL.ints _))⟩
    | tup h r => exact .inr (.inl ⟨_, _, rfl, .inl (.inl (g.gh _ _ h)), m _ G' H' g (itt_d (.inl h) r)⟩)
    | str z => exact .inr (.inr ⟨z, rfl, m _ G' H' g its_d⟩)
    | pt h e r => exact .inr (.inl ⟨_, _, rfl, .inl (.inr ⟨_, g.gh _ _ h⟩), m _ G' H' g (itt_d (.inr ⟨_, h⟩) r)⟩)
    | non => exact m.elim
    | bl b => exact m.elim
    | int i => exact m.elim
    | fn v => exact m.elim
    | dK h r => exact m.elim
    | dT h r => exact m.elim
    | lK h r => exact m.elim
    | lT h r => exact m.elim
    | ob h => exact m.elim
  | exc c => simp only [q, R.bind_exc] at m; exact m
  | bad => simp only [q, R.bind_bad] at m
theorem di_anyw {f : Ev → R D} (h : PE X e (exOf K .w W f)) (hK : X.K = K := by rfl) : PI X tg e (tiOf K false W fun ρ => (f ρ).bind fun d => opt (itemsD d)) := pi_imp (pi_any h) fun σ H Q ⟨G, ρ, S, m⟩ => by
  subst hK
  refine ⟨G, ρ, S, ?_⟩
  cases q : f ρ with
  | ok d =>
    simp only [q, R.bind_ok] at m
    intro v G' H' g r
    rcases r with r | ⟨p, rfl, n, w⟩
    · cases r with
      | lst h r => exact .inl ⟨_, _, rfl, .inl (.inl (g.gh _ _ h)), m _ G' H' g (ItD.weak (itl_d (.inl (.inl h)) r))⟩
      | scr h => exact .inl ⟨_, _, rfl, g.gh.seq h, m _ G' H' g (ItD.weak (itl_d h (RepL.ints _)))⟩
      | tup h r => exact .inr (.inl ⟨_, _, rfl, .inl (.inl (g.gh _ _ h)), m _ G' H' g (ItD.weak (itt_d (.inl h) r))⟩)
      | str z => exact .inr (.inr ⟨z, rfl, m _ G' H' g (ItD.weak its_d)⟩)
      | pt h e r => exact .inr (.inl ⟨_, _, rfl, .inl (.inr ⟨_, g.gh _ _ h⟩), m _ G' H' g (ItD.weak (itt_d (.inr ⟨_, h⟩) r))⟩)
      | non => exact m.elim
      | bl b => exact m.elim
      | int i => exact m.elim
      | fn v => exact m.elim
      | dK h r => exact m.elim
      | dT h r => exact m.elim
      | lK h r => exact m.elim
      | lT h r => exact m.elim
      | ob h => exact m.elim
    · cases d with
      | lst ds =>
        obtain ⟨vs, e, r⟩ := id w
        exact .inl ⟨_, vs, rfl, .inl (.inl e), m _ G' H' g (itl_w w)⟩
      | dct t kvs => cases t <;> exact m.elim
      | _ => exact w.elim
  | exc c => simp only [q, R.bind_exc] at m; exact m
  | bad => simp only [q, R.bind_bad] at m
/-- range(n), range(a, b) -/
def bigOk (i : Int) : Bool := decide (i.natAbs ≤ 16777216)
theorem bigOk_of {i : Int} (h : bigOk i = true) : -(2 ^ 62) ≤ i ∧ i < 2 ^ 62 := by
  have h := of_decide_eq_true h
  omega
def range1D : List D → Option (List D)
  | [.int n] => if bigOk n then some ((List.range n.toNat).map fun i => .int (i : Nat)) else none
  | _ => none
def range2D : List D → Option (List D)
  | [.int a, .int b] => if bigOk a && bigOk b then some ((List.range (b - a).toNat).map fun i => .int (a + (i : Nat))) else none
  | _ => none
theorem range1D_some {ds its : List D} (h : range1D ds = some its) : ∃ n, ds = [.int n] ∧ -(2 ^ 62) ≤ n ∧ n < 2 ^ 62 ∧ its = (List.range n.toNat).map fun i => .int (i : Nat) := by
  unfold range1D at h
  split at h
  · split at h
    · rename_i n hb
      exact ⟨n, rfl, (bigOk_of hb).1, (bigOk_of hb).2, (Option.some.inj h).symm⟩
    · cases h
  · cases h
theorem range2D_some {ds its : List D} (h : range2D ds = some its) : ∃ a b, ds = [.int a, .int b] ∧ (-(2 ^ 62) ≤ a ∧ a < 2 ^ 62 ∧ -(2 ^ 62) ≤ b ∧ b < 2 ^ 62) ∧ its = (List.range (b - a).toNat).map fun i => .int (a + (i : Nat)) := by
  unfold range2D at h
  split at h
  · split at h
    · rename_i a b hb
      have hb := Bool.and_eq_true_iff.mp hb
      exact ⟨a, b, rfl, ⟨(bigOk_of hb.1).1, (bigOk_of hb.1).2, bigOk_of hb.2⟩, (Option.some.inj h).symm⟩
    · cases h
  · cases h
theorem itr_d {lo : Int} {n : Nat} {G : Hp} : ItD K (Itr lo n) G ((List.range n).map fun i => .int (lo + (i : Nat))) := fun H' s => by
  refine ⟨fun i d e => ?_, show n ≤ _ by simp⟩
  rw [List.getElem?_map] at e
  cases q : (List.range n)[i]? with
  | none => rw [q] at e; cases e
  | some j =>
    rw [q] at e
    cases e
    obtain ⟨hi, hj⟩ := List.getElem?_eq_some_iff.mp q
    simp only [List.length_range] at hi
    simp only [List.getElem_range] at hj
    subst hj
    exact ⟨hi, fun x H'' ⟨e1, e2⟩ G' s1 s2 => ⟨G', by rw [e1]; exact .refl s2, by rw [e2]; exact .int _⟩⟩
/-- an iterable by arguments -/
theorem ti_args {s : Bool} {f : Ev → R (List D)} {g : List D → Option (List D)} {r : List V → Hp → (It → Hp → Prop) → Prop}
    (hr : ∀ G H vs ds its (Q : It → Hp → Prop), Sub G H → RepL K G vs ds → g ds = some its → (∀ J G' H', Grow G H G' H' → ItOf K s J G' H' its → Q J H') → r vs H Q)
    {σ : St} {H : Hp} {Q : It → Hp → Prop} (h : tiOf K s W (fun ρ => (f ρ).bind fun d => opt (g d)) σ H Q) : taOf K W f σ H fun vs H1 => r vs H1 Q := by
  obtain ⟨G, ρ, S, m⟩ := h
  refine ⟨G, ρ, S, ?_⟩
  cases q : f ρ with
  | ok d =>
    simp only [q, R.bind_ok] at m
    intro vs G' H' g1 r1
    cases e : g d with
    | some its =>
      simp only [e, opt_some] at m
      exact hr G' H' vs d its Q g1.gh r1 e fun J G2 H2 g2 i => m J G2 H2 (g1.trans g2) i
    | none => simp only [e, opt_none] at m
  | exc c => simp only [q, R.bind_exc] at m; exact m
  | bad => simp only [q, R.bind_bad] at m
theorem di_range1 {a : Expr} {f : Ev → R (List D)} {p pos : Pos} (hm : X.mg "range" = none) (ha : PA X [a] (taOf K W f)) (hg : Gl X "range" := by rfl) (hs : starEach [a] X.env = [(false, eval a X.env)] := by rfl) :
    PI X tg (.Call (.Name "range" p) [a] [] pos) (tiOf K true W fun ρ => (f ρ).bind fun d => opt (range1D d)) := pi_imp (pi_range1 hg hm ha hs) fun σ H Q h =>
  ti_args (r := fun vs H1 Q => ∃ j : Int, vs = [.int j] ∧ -(2 ^ 62) ≤ j ∧ j < 2 ^ 62 ∧ Q (Itr 0 j.toNat) H1) (fun G H vs ds its Q sub r e m => by
    obtain ⟨n, rfl, h1, h2, rfl⟩ := range1D_some e
    cases r with
    | cons r1 r2 =>
      cases r2
      cases r1
      refine ⟨n, rfl, h1, h2, m _ G H (.refl sub) ?_⟩
      have z := itr_d (K := K) (lo := 0) (n := n.toNat) (G := G)
      simp only [Int.zero_add] at z
      exact z) h
theorem di_range2 {a b : Expr} {f : Ev → R (List D)} {p pos : Pos} (hm : X.mg "range" = none) (ha : PA X [a, b] (taOf K W f)) (hg : Gl X "range" := by rfl) (hs : starEach [a, b] X.env = [(false, eval a X.env), (false, eval b X.env)] := by rfl) (hs2 : starEach [b] X.env = [(false, eval b X.env)] := by rfl) :
    PI X tg (.Call (.Name "range" p) [a, b] [] pos) (tiOf K true W fun ρ => (f ρ).bind fun d => opt (range2D d)) := pi_imp (pi_range2 hg hm ha hs hs2) fun σ H Q h =>
  ti_args (r := fun vs H1 Q => ∃ i j : Int, vs = [.int i, .int j] ∧ (-(2 ^ 62) ≤ i ∧ i < 2 ^ 62 ∧ -(2 ^ 62) ≤ j ∧ j < 2 ^ 62) ∧ Q (Itr i (j - i).toNat) H1) (fun G H vs ds its Q sub r e m => by
    obtain ⟨n, k, rfl, h1, rfl⟩ := range2D_some e
    cases r with
    | cons r1 r2 =>
      cases r2 with
      | cons r3 r4 =>
        cases r4
        cases r1
        cases r3
        exact ⟨n, k, rfl, h1, m _ G H (.refl sub) itr_d⟩) h
end

/-! ### for -/
def loopF (t : Tg) (b : Ev → O) : List D → Ev → O
  | [], ρ => .nx ρ
  | d :: ds, ρ => match tgSet t d ρ with
    | none => .bad
    | some ρ1 => match b ρ1 with
      | .nx ρ' => loopF t b ds ρ'
      | .ct ρ' => loopF t b ds ρ'
      | .brk ρ' => .nx ρ'
      | o => o
def sFor (t : Tg) (it : Ev → R (List D)) (b : Ev → O) : Ev → O := fun ρ => (it ρ).out ρ fun ds => loopF t b ds ρ
def loopW (c : Ev → R Bool) (b : Ev → O) : Nat → Ev → O
  | 0, _ => .bad
  | n + 1, ρ => (c ρ).out ρ fun k => if k then (match b ρ with
      | .nx ρ' => loopW c b n ρ'
      | .ct ρ' => loopW c b n ρ'
      | .brk ρ' => .nx ρ'
      | o => o) else .nx ρ
def sWhile (n : Nat) (c : Ev → R Bool) (b : Ev → O) : Ev → O := loopW c b n
section
variable {X : Cx} {W : WN}
theorem ds_for {tg iter : Expr} {body : List Stmt} {t : Tg} {it : Ev → R (List D)} {b : Ev → O} {pos : Pos} (hp : PassesOwn (model X.prog X.w) X.A X.env X.xe) (hc : X.calm = true) (hi : PI X tg iter (tiOf K true W it)) (hg : PG X tg (tgR K t)) (hb : PSs X body (tsOf K W b))
    (hs : ∀ x, foldedSetIterable iter X.env x = pure x := by intro _; rfl) : PS X (.For tg iter body [] pos) (tsOf K W (sFor t it b)) := ps_imp (ps_for hp hc hi hg hb hs) fun E σ H ⟨B, G, ρ, S, m⟩ => by
  refine ⟨G, ρ, S.st, ?_⟩
  unfold sFor at m
  cases q : it ρ with
  | bad => rw [q] at m; exact m
  | exc c => rw [q] at m; exact fun G' H' g => m G' σ H' (S.grow g) g.gg
  | ok ds =>
    rw [q] at m
    intro J G1 H1 g1 I1
    refine ⟨fun i n σ' H' => n = ds.length - i ∧ i ≤ ds.length ∧ ∃ G' ρ', Good K B G' ρ' σ' H' ∧ Same G1 G' ∧ OutP K B G W E (loopF t b (ds.drop i) ρ'), ⟨ds.length, by simp, Nat.zero_le _, G1, ρ, S.grow g1, .refl _, m⟩, ?_⟩
    rintro i n σ' H' ⟨rfl, hi', G', ρ', S', s1, m'⟩
    obtain ⟨go, stop⟩ := I1 H' (S'.st.sub.old s1)
    by_cases hlt : i < ds.length
    · have e : ds[i]? = some ds[i] := List.getElem?_eq_getElem hlt
      have ed : ds.drop i = ds[i] :: ds.drop (i + 1) := List.drop_eq_getElem_cons hlt
      rw [ed] at m'
      obtain ⟨g2, y⟩ := go i _ e
      refine .inr ⟨g2, fun σ2 H2 => ds.length - (i + 1) = ds.length - (i + 1) ∧ i + 1 ≤ ds.length ∧ ∃ G' ρ', Good K B G' ρ' σ2 H2 ∧ Same G1 G' ∧ OutP K B G W E (loopF t b (ds.drop (i + 1)) ρ'), fun σ2 H2 z => ⟨_, by omega, z⟩, fun x H'' hy => ?_⟩
      obtain ⟨G2, gr, rx⟩ := y x H'' hy G' s1 S'.st.sub
      unfold loopF at m'
      cases e1 : tgSet t ds[i] ρ' with
      | none => simp only [e1] at m'; exact m'.elim
      | some ρ1 =>
        simp only [e1] at m'
        refine tg_run (P := fun ρ σ => Good K B G2 ρ σ H'') gr.gh t (fun _ _ _ _ _ _ p r => good_setv p r) (S'.grow gr) rx e1 fun σ2 S2 => ⟨B, G2, ρ1, S2, ?_⟩
        have s2 : Same G1 G2 := s1.trans gr.gg
        have s3 : Same G G2 := g1.gg.trans s2
        cases e2 : b ρ1 with
        | nx ρ2 => simp only [e2] at m'; exact fun G3 σ3 H3 S3 s4 => ⟨rfl, hlt, G3, ρ2, S3, s2.trans s4, m'⟩
        | ct ρ2 => simp only [e2] at m'; exact fun G3 σ3 H3 S3 s4 => ⟨rfl, hlt, G3, ρ2, S3, s2.trans s4, m'⟩
        | brk ρ2 => simp only [e2] at m'; exact fun G3 σ3 H3 S3 s4 => m' G3 σ3 H3 S3 (s3.trans s4)
        | ret o d => simp only [e2] at m'; exact m'
        | retS d ρ2 => simp only [e2] at m'; exact fun v G3 σ3 H3 S3 s4 => m' v G3 σ3 H3 S3 (s3.trans s4)
        | exc c ρ2 => simp only [e2] at m'; exact fun G3 σ3 H3 S3 s4 => m' G3 σ3 H3 S3 (s3.trans s4)
        | bad => simp only [e2] at m'; exact m'
    · have ei : i = ds.length := by omega
      subst ei
      rw [List.drop_length] at m'
      exact .inl ⟨stop, m' G' σ' H' S' (g1.gg.trans s1)⟩
theorem ds_while (n : Nat) {c : Expr} {body : List Stmt} {fc : Ev → R Bool} {b : Ev → O} {pos : Pos} (hp : PassesOwn (model X.prog X.w) X.A X.env X.xe) (hc : PT X c (ttOf K W fc)) (hb : PSs X body (tsOf K W b)) : PS X (.While c body [] pos) (tsOf K W (sWhile n fc b)) := ps_imp (ps_while hp hc hb) fun E σ H ⟨B, G, ρ, S, m⟩ => by
  refine ⟨fun n σ' H' => ∃ G' ρ', Good K B G' ρ' σ' H' ∧ OutP K B G' W E (loopW fc b n ρ'), ⟨n, G, ρ, S, m⟩, ?_⟩
  rintro k σ1 H1 ⟨G1, ρ1, S1, m1⟩
  cases k with
  | zero => exact m1.elim
  | succ k =>
    unfold loopW at m1
    refine tt_then S1 m1 fun v G2 H2 S2 g2 m2 => ?_
    cases v with
    | false =>
      rw [if_neg Bool.false_ne_true] at m2 ⊢
      exact m2 G2 σ1 H2 S2 g2.gg
    | true =>
      rw [if_pos rfl] at m2 ⊢
      refine ⟨fun σ' H' => ∃ G' ρ', Good K B G' ρ' σ' H' ∧ OutP K B G' W E (loopW fc b k ρ'), fun σ' H' z => ⟨k, Nat.lt_succ_self _, z⟩, ⟨B, G2, ρ1, S2, ?_⟩⟩
      cases e2 : b ρ1 with
      | nx ρ2 => simp only [e2] at m2; exact fun G3 σ3 H3 S3 s4 => ⟨G3, ρ2, S3, OutP.later (g2.gg.trans s4) m2⟩
      | ct ρ2 => simp only [e2] at m2; exact fun G3 σ3 H3 S3 s4 => ⟨G3, ρ2, S3, OutP.later (g2.gg.trans s4) m2⟩
      | brk ρ2 => simp only [e2] at m2; exact fun G3 σ3 H3 S3 s4 => m2 G3 σ3 H3 S3 (g2.gg.trans s4)
      | ret o d => simp only [e2] at m2; exact m2
      | retS d ρ2 => simp only [e2] at m2; exact fun v G3 σ3 H3 S3 s4 => m2 v G3 σ3 H3 S3 (g2.gg.trans s4)
      | exc c ρ2 => simp only [e2] at m2; exact fun G3 σ3 H3 S3 s4 => m2 G3 σ3 H3 S3 (g2.gg.trans s4)
      | bad => simp only [e2] at m2; exact m2
end
end Pd

/-! Pd4: comprehensions; calls; a def's promise. -/
namespace Pd
open PySem PySem.Spec L2
variable {K : PySem.W.Frag}

def szOk (n : Nat) : Bool := decide (n ≤ 16777216)
theorem szOk_of {n : Nat} (h : n ≤ 16777216) : szOk n = true := decide_eq_true h
theorem szOk_le {n : Nat} (h : szOk n = true) : n ≤ sizeLine := by
  rw [sizeLine_eq]
  exact of_decide_eq_true h
def wipeE (ρ : Ev) : List Nat → Ev
  | [] => ρ
  | v :: vs => (wipeE ρ vs).set v .no
theorem wipeE_len (ρ : Ev) : ∀ vs, (wipeE ρ vs).length = ρ.length
  | [] => rfl
  | v :: vs => by unfold wipeE; rw [List.length_set, wipeE_len ρ vs]
theorem wipe_get (σ : L2.St) (j : Nat) : ∀ vs, (wipe σ vs)[j]? = if j ∈ vs ∧ j < σ.length then some none else σ[j]?
  | [] => by simp [wipe]
  | v :: vs => by
    unfold wipe
    rw [List.getElem?_set, wipe_get σ j vs, wipe_length]
    by_cases h1 : v = j
    · subst h1
      by_cases h2 : v < σ.length
      · simp [h2]
      · simp [h2]
    · simp [h1, Ne.symm h1]
theorem wipe_wipe (σ : L2.St) (vs : List Nat) : wipe (wipe σ vs) vs = wipe σ vs := by
  apply List.ext_getElem?
  intro j
  rw [wipe_get, wipe_get, wipe_length]
  split <;> rfl
theorem wipe_set {σ : L2.St} {i : Nat} {x : Option V} {vs : List Nat} (h : i ∈ vs) : wipe (σ.set i x) vs = wipe σ vs := by
  apply List.ext_getElem?
  intro j
  rw [wipe_get, wipe_get, List.length_set]
  by_cases hj : j ∈ vs ∧ j < σ.length
  · rw [if_pos hj, if_pos hj]
  · rw [if_neg hj, if_neg hj, List.getElem?_set]
    split
    · rename_i e
      subst e
      have hl : ¬ i < σ.length := fun z => hj ⟨h, z⟩
      rw [if_neg hl]
      exact (List.getElem?_eq_none (by omega)).symm
    · rfl
theorem stt_wipe {G H : Hp} {ρ : Ev} {σ : L2.St} (S : Stt K G ρ σ H) : ∀ vs, Stt K G (wipeE ρ vs) (wipe σ vs) H
  | [] => S
  | v :: vs => by
    have S' := stt_wipe S vs
    unfold wipeE wipe
    refine ⟨S'.sub, by rw [List.length_set, List.length_set]; exact S'.len, fun j s e => ?_, fun j l d1 d2 p hne e1 e2 h1 h2 => ?_, S'.mkd⟩
    · rcases set_get e with ⟨rfl, rfl⟩ | ⟨hne, e⟩
      · trivial
      · rw [List.getElem?_set_ne hne]
        exact S'.sl j s e
    · rcases set_get e1 with ⟨_, z⟩ | ⟨n1, z1⟩
      · cases z
      · rcases set_get e2 with ⟨_, z⟩ | ⟨n2, z2⟩
        · cases z
        · rw [List.getElem?_set_ne n1] at h1
          rw [List.getElem?_set_ne n2] at h2
          exact S'.dj j l d1 d2 p hne z1 z2 h1 h2
theorem Grow.mutd {G H G' H' : Hp} {p : Addr} {o : HO} {o0 : HO} (g : Grow G H G' H') (h1 : Fr H p) (h2 : G' p = none) (h3 : H' p = some o0) (h4 : isOwn o0) : Grow G H G' (upd H' p o) :=
  ⟨ext_mut g.hh h1, g.gg, sub_mut g.gh h2 h3 h4, g.new, g.mks⟩
theorem Grow.free {G H G' H' : Hp} {p : Addr} {o : HO} (g : Grow G H G' H') (h1 : G p = none) (h2 : H p = some o) (io : isOwn o := by trivial) : G' p = none := by
  cases q : G' p with
  | none => rfl
  | some z =>
    obtain ⟨xs, ex⟩ := g.new p h1 (by rw [q]; exact fun z => nomatch z) o h2 io.nt
    subst ex
    exact io.elim

/-! ### comprehensions -/
def lcF (t : Tg) (c : Ev → R Bool) (f : Ev → R D) (ρ : Ev) : List D → R (List D)
  | [] => .ok []
  | d :: ds => match tgSet t d ρ with
    | none => .bad
    | some ρ1 => match c ρ1 with
      | .ok true => match f ρ1 with
        | .ok x => match lcF t c f ρ ds with
          | .ok r => .ok (x :: r)
          | _ => .bad
        | _ => .bad
      | .ok false => lcF t c f ρ ds
      | _ => .bad
def eLc (vs : List Nat) (t : Tg) (it : Ev → R (List D)) (c : Ev → R Bool) (f : Ev → R D) : Ev → R D := fun ρ => (it ρ).bind fun ds =>
  match lcF t c f (wipeE ρ vs) ds with
  | .ok out => if szOk out.length then .ok (.lst out) else .bad
  | _ => .bad
def cYes : Ev → R Bool := fun _ => .ok true
section
variable {X : Cx} {W : WN}
theorem dts_nil : PTs X [] (ttOf K W0 cYes) := ⟨fun pins s σ H Q I ⟨G, ρ, S, m⟩ => pts_nil.run pins s σ H Q I (m G H (.refl S.sub))⟩
theorem dts_one {c : Expr} {f : Ev → R Bool} (h : PT X c (ttOf K W0 f)) : PTs X [c] (ttOf K W0 f) := pts_one h
theorem lc_run {vs : List Nat} {t : Tg} {it : Ev → R (List D)} {c : Ev → R Bool} {f : Ev → R D} (hix : ∀ i ∈ tgIx t, i ∈ vs) {σ : L2.St} {H : Hp} {Q : VK}
    (h : exOf K .o W (eLc vs t it c f) σ H Q) : tLc (tiOf K false W it) (tgR K t) (ttOf K W0 c) (exOf K .v W0 f) vs σ H Q := by
  obtain ⟨G, ρ, S, m⟩ := h
  refine ⟨G, ρ, S, ?_⟩
  unfold eLc at m
  cases q : it ρ with
  | bad => simp only [q, R.bind_bad] at m
  | exc c => simp only [q, R.bind_exc] at m; exact m
  | ok ds =>
    simp only [q, R.bind_ok] at m
    intro J G1 H1 g1 I1 D hD
    cases e : lcF t c f (wipeE ρ vs) ds with
    | bad => simp only [e] at m
    | exc c => simp only [e] at m
    | ok out =>
      simp only [e] at m
      cases hz : szOk out.length with
      | false => rw [hz, if_neg Bool.false_ne_true] at m; exact m.elim
      | true =>
      rw [hz, if_pos rfl] at m
      have hsz := szOk_le hz
      refine ⟨fun i n H' => n = ds.length - i ∧ i ≤ ds.length ∧ ∃ G' acc o1 o2, Grow G1 H1 G' H' ∧ H' D = some (.lst acc) ∧ G' D = none ∧ RepL K G' acc o1 ∧ lcF t c f (wipeE ρ vs) (ds.drop i) = .ok o2 ∧ o1 ++ o2 = out, ⟨ds.length, by simp, Nat.zero_le _, G1, [], [], out, .more g1.gh hD, upd_same, g1.gh.free hD, .nil, e, rfl⟩, ?_⟩
      rintro i n H' ⟨rfl, hi, G', acc, o1, o2, gr, hacc, gD, ra, el, eo⟩
      obtain ⟨go, stop⟩ := I1 G' H' gr
      by_cases hlt : i < ds.length
      · have e1 : ds[i]? = some ds[i] := List.getElem?_eq_getElem hlt
        have ed : ds.drop i = ds[i] :: ds.drop (i + 1) := List.drop_eq_getElem_cons hlt
        rw [ed] at el
        unfold lcF at el
        obtain ⟨g2, y⟩ := go i _ e1
        refine .inr ⟨g2, fun H2 => i + 1 ≤ ds.length ∧ ∃ G' acc o1 o2, Grow G1 H1 G' H2 ∧ H2 D = some (.lst acc) ∧ G' D = none ∧ RepL K G' acc o1 ∧ lcF t c f (wipeE ρ vs) (ds.drop (i + 1)) = .ok o2 ∧ o1 ++ o2 = out, fun H2 z => ⟨ds.length - (i + 1), by omega, rfl, z⟩, fun x H'' hy => ?_⟩
        obtain ⟨G2, gr2, rx⟩ := y x H'' hy
        have gr3 := gr.trans gr2
        have hacc2 : H'' D = some (.lst acc) := gr2.hh _ _ hacc (fun _ z => nomatch z)
        have gD2 : G2 D = none := gr2.free gD hacc
        have S2 : Stt K G2 (wipeE ρ vs) (wipe σ vs) H'' := stt_wipe ((S.grow g1).grow gr3) vs
        cases e2 : tgSet t ds[i] (wipeE ρ vs) with
        | none => simp only [e2] at el; cases el
        | some ρ1 =>
          simp only [e2] at el
          refine tg_run (P := fun ρ' σ' => Stt K G2 ρ' σ' H'' ∧ wipe σ' vs = wipe σ vs) gr2.gh t (fun _ _ j _ _ hj p r => ⟨stt_setv p.1 r, by rw [wipe_set (hix j hj)]; exact p.2⟩) ⟨S2, wipe_wipe σ vs⟩ rx e2 fun σ3 ⟨S3, w3⟩ => ⟨w3, G2, ρ1, S3, ?_⟩
          cases e3 : c ρ1 with
          | bad => simp only [e3] at el; cases el
          | exc c => simp only [e3] at el; cases el
          | ok b =>
            intro G3 H3 g3
            cases b with
            | false =>
              simp only [e3] at el
              rw [if_neg Bool.false_ne_true]
              exact ⟨hlt, G3, acc, o1, o2, gr3.trans g3, g3.hh _ _ hacc2 (fun _ z => nomatch z), g3.free gD2 hacc2, ra.mono (gr2.gg.trans g3.gg), el, eo⟩
            | true =>
              simp only [e3] at el
              rw [if_pos rfl]
              refine ⟨G3, ρ1, S3.grow g3, ?_⟩
              cases e4 : f ρ1 with
              | bad => simp only [e4] at el; cases el
              | exc c => simp only [e4] at el; cases el
              | ok v =>
                simp only [e4] at el
                intro u G4 H4 g4 r4
                cases e5 : lcF t c f (wipeE ρ vs) (ds.drop (i + 1)) with
                | bad => simp only [e5] at el; cases el
                | exc c => simp only [e5] at el; cases el
                | ok rest =>
                  simp only [e5] at el
                  cases el
                  have g5 := g3.trans g4
                  have hacc4 : H4 D = some (.lst acc) := g5.hh _ _ hacc2 (fun _ z => nomatch z)
                  have gD4 := g5.free gD2 hacc2
                  refine ⟨acc, hacc4, ?_, hlt, G4, acc ++ [u], o1 ++ [v], rest, (gr3.trans g5).mutd (.of hD) gD4 hacc4 trivial, upd_same, gD4, (ra.mono (gr2.gg.trans g5.gg)).append (.cons r4 .nil), rfl, by rw [← eo]; simp⟩
                  rw [ra.length]
                  rw [← eo] at hsz
                  simp only [List.length_append, List.length_cons] at hsz
                  omega
      · have ei : i = ds.length := by omega
        subst ei
        rw [List.drop_length] at el
        unfold lcF at el
        cases el
        rw [List.append_nil] at eo
        subst eo
        exact .inl ⟨stop, m _ G' H' (g1.trans gr) ⟨D, rfl, g1.hh.free (.of hD), gD, acc, hacc, ra⟩⟩
theorem de_lc {elt tg iter : Expr} {ifs : List Expr} {scope : Scope} {own : List (Str × Nat)} {vs : List Nat} {pos : Pos} {t : Tg} {it : Ev → R (List D)} {c : Ev → R Bool} {f : Ev → R D} (hc : X.calm = true) (hN : X.N.Nodup) (hi : PI X tg iter (tiOf K false W it)) (ok : BlkOk X.N X.env.scope scope own)
    (hg : ∀ (s : Shared) (H : Hp) (C : Addr) (cl : List (Str × Addr)) (fp : List Addr), PG (X.blk s H scope (compEnvC scope cl C X.env) fp) tg (tgR K t)) (ht : ∀ (s : Shared) (H : Hp) (C : Addr) (cl : List (Str × Addr)) (fp : List Addr), PTs (X.blk s H scope (compEnvC scope cl C X.env) fp) ifs (ttOf K W0 c))
    (he : ∀ (s : Shared) (H : Hp) (C : Addr) (cl : List (Str × Addr)) (fp : List Addr), PE (X.blk s H scope (compEnvC scope cl C X.env) fp) elt (exOf K .v W0 f)) (hix : (tgIx t).all (fun i => vs.contains i) = true := by rfl) (hvs : own.map (·.2) = vs := by rfl) (hs : ∀ x, foldedSetIterable iter X.env x = pure x := by intro _; rfl) :
    PE X (.ListComp elt [⟨tg, iter, ifs, 0⟩] scope pos) (exOf K .o W (eLc vs t it c f)) := pe_imp (pe_lc hc hN hi ok hg ht he hs) fun σ H Q h => by
  rw [hvs]
  exact lc_run (fun i hi => by simpa using List.all_eq_true.mp hix i hi) h
/-- name = [..] on one line, the name a local -/
theorem ds_setLc {i : Nat} {y : Str} {py spos : Pos} (o : Bool) {elt tg iter : Expr} {ifs : List Expr} {scope : Scope} {own : List (Str × Nat)} {vs : List Nat} {pos : Pos} {t : Tg} {it : Ev → R (List D)} {c : Ev → R Bool} {f : Ev → R D} (hc : X.calm = true) (hN : X.N.Nodup) (hy : X.N[i]? = some y) (hyl : X.env.scope.names.lookup y = some .local)
    (hsw : swapsWith (.ListComp elt [⟨tg, iter, ifs, 0⟩] scope pos) (some (.Name y py)) spos.line X.env = pure true) (hi : PI X tg iter (tiOf K false W it)) (ok : BlkOk X.N X.env.scope scope own)
    (hg : ∀ (s : Shared) (H : Hp) (C : Addr) (cl : List (Str × Addr)) (fp : List Addr), PG (X.blk s H scope (compEnvC scope cl C X.env) fp) tg (tgR K t)) (ht : ∀ (s : Shared) (H : Hp) (C : Addr) (cl : List (Str × Addr)) (fp : List Addr), PTs (X.blk s H scope (compEnvC scope cl C X.env) fp) ifs (ttOf K W0 c))
    (he : ∀ (s : Shared) (H : Hp) (C : Addr) (cl : List (Str × Addr)) (fp : List Addr), PE (X.blk s H scope (compEnvC scope cl C X.env) fp) elt (exOf K .v W0 f)) (hix : (tgIx t).all (fun i => vs.contains i) = true := by rfl) (hvs : own.map (·.2) = vs := by rfl) (hs : ∀ x, foldedSetIterable iter X.env x = pure x := by intro _; rfl) :
    PS X (.Assign [.Name y py] (.ListComp elt [⟨tg, iter, ifs, 0⟩] scope pos) spos) (tsOf K W (sSet o i (eLc vs t it c f))) := ps_imp (ps_setLc hc hN hy hyl hsw hi ok hg ht he hs) fun E σ H ⟨B, G, ρ, S, m⟩ => by
  rw [hvs]
  refine lc_run (W := W) (fun i hi => by simpa using List.all_eq_true.mp hix i hi) ?_
  refine ex_then (k := .o) S m fun d v G' H' _ g r m' => ?_
  cases o with
  | true => exact m' G' _ H' (S.set g r) g.gg
  | false =>
    obtain ⟨p, ev, hn, gn, w⟩ := r
    subst ev
    obtain ⟨u, hu, io⟩ := w.there
    have g2 := g.frozen hn hu io.nt gn
    exact m' _ _ H' (S.set (o := false) g2 (w.rep gn hu)) g2.gg
end

/-! ### a def's promise -/
abbrev RetD : Type := Bool × D
/-- f(ds), by a pure function: what stood stands; the answer known for ever (false), or of nobody's (true) -/
def spOf (K : PySem.W.Frag) (mg : Str → Option Value) (n : Nat) (F : List D → R RetD) : Sp := fun vs H Q E => ∃ G ds, Sub G H ∧ MarkOk K G ∧ RepL K G vs ds ∧ ds.length = n ∧ match F ds with
  | .ok (o, d) => ∀ v G' H', Grow G H G' H' → KRep K (kb o) G H G' H' v d → Q v H'
  | .exc c => ∀ C G' H', mg c = some (.ref C) → Grow G H G' H' → E (.ref C) none H'
  | .bad => False
def WE' (mg : Str → Option Value) (E : XK) : WN := fun c _ H => ∀ C, mg c = some (.ref C) → E (.ref C) none H
/-- the exceptions' wish of a code -/
def Tk (X : Cx) (W : WN) : Prop := ∃ Wx : WX, Takes X Wx ∧ ∀ c C σ H, X.mg c = some (.ref C) → W c σ H → Wx (.ref C) none σ H
/-- a def by its body -/
def callF (n N : Nat) (f : Ev → O) : List D → R RetD := fun ds => if ds.length = n then match f (ds.map SV.val ++ List.replicate (N - n) .no) with
  | .nx _ => .ok (false, .non)
  | .ret o d => .ok (o, d)
  | .exc c _ => .exc c
  | _ => .bad else .bad
theorem stt_start {G H : Hp} {vs : List V} {ds : List D} (n : Nat) (s : Sub G H) (mk : MarkOk K G) (r : RepL K G vs ds) : Stt K G (ds.map SV.val ++ List.replicate n .no) (vs.map some ++ List.replicate n none) H := by
  refine ⟨s, by simp [r.length], fun i s e => ?_, fun i j d e p _ h1 _ _ => ?_, mk⟩
  · by_cases hi : i < ds.length
    · rw [List.getElem?_append_left (by simpa using hi), List.getElem?_map] at e
      cases q : ds[i]? with
      | none => rw [q] at e; cases e
      | some d =>
        rw [q] at e
        cases e
        obtain ⟨v, hv, rv⟩ := r.get q
        refine ⟨v, ?_, rv⟩
        rw [List.getElem?_append_left (by rw [List.length_map, r.length]; exact hi), List.getElem?_map, hv]
        rfl
    · rw [List.getElem?_append_right (by simpa using hi), List.getElem?_replicate] at e
      split at e
      · cases e
        trivial
      · cases e
  · exfalso
    by_cases hi : i < ds.length
    · rw [List.getElem?_append_left (by simpa using hi), List.getElem?_map] at h1
      cases q : ds[i]? with
      | none => rw [q] at h1; cases h1
      | some d => rw [q] at h1; cases h1
    · rw [List.getElem?_append_right (by simpa using hi), List.getElem?_replicate] at h1
      split at h1 <;> cases h1
theorem no_own {ds : List D} {n : Nat} {i : Nat} {d : D} (h1 : (ds.map SV.val ++ List.replicate n SV.no)[i]? = some (.own d)) : False := by
  by_cases hi : i < ds.length
  · rw [List.getElem?_append_left (by simpa using hi), List.getElem?_map] at h1
    cases q : ds[i]? with
    | none => rw [q] at h1; cases h1
    | some d => rw [q] at h1; cases h1
  · rw [List.getElem?_append_right (by simpa using hi), List.getElem?_replicate] at h1
    split at h1 <;> cases h1
theorem no_st {ds : List D} {n : Nat} {i : Nat} {Ω : List Ob} {rw : Bool} (h1 : (ds.map SV.val ++ List.replicate n SV.no)[i]? = some (.st rw Ω)) : False := by
  by_cases hi : i < ds.length
  · rw [List.getElem?_append_left (by simpa using hi), List.getElem?_map] at h1
    cases q : ds[i]? with
    | none => rw [q] at h1; cases h1
    | some d => rw [q] at h1; cases h1
  · rw [List.getElem?_append_right (by simpa using hi), List.getElem?_replicate] at h1
    split at h1 <;> cases h1
section
variable {P : Program} {w : World} {mg : Str → Option Value} {base : Heap}
/-- a def's promise, by its body's derivation -/
theorem fn_ok {x qual : Str} {st : Stmt} {f : Addr} {fd : FuncData} {N ps : List Str} {k : Nat} {b : Ev → O} (F : Fun K x qual st f fd) (S : FnScope N ps (defScope st)) (hl : ps.length ≤ N.length)
    (hbody : ∀ (cdv : Value) (A : Around) (outer : List Env) (s : Shared) (H : Hp) (E : XK), Room k (A.deeper (PyProof.Rows.envOfC qual (defScope st) s.heap.objs.size f cdv)) →
      PassesOwn (model P w) (A.deeper (PyProof.Rows.envOfC qual (defScope st) s.heap.objs.size f cdv)) (PyProof.Rows.envOfC qual (defScope st) s.heap.objs.size f cdv) (cxOf (L2.CX P w) P w K mg base N qual (defScope st) f cdv A outer s H E).xe →
      Tk (cxOf (L2.CX P w) P w K mg base N qual (defScope st) f cdv A outer s H E) (WE' mg E) → PSs (cxOf (L2.CX P w) P w K mg base N qual (defScope st) f cdv A outer s H E) (defBody st) (tsOf K (WE' mg E) b)) :
    FnOk P w K mg base (L2.CX P w) (k + 1) f fd ps (spOf K mg ps.length (callF ps.length N.length b)) := by
  refine F.okX S (fun vs H Q E h => ?_) (fun cdv A outer s H vs Q E hr h => ?_)
  · obtain ⟨G, ds, _, _, r, l, _⟩ := h
    rw [r.length, l]
  · obtain ⟨G, ds, sub, mk, r, l, m⟩ := h
    refine ⟨_, hbody cdv A outer s H E hr (PassesOwn.leaving) ⟨_, takes_of rfl rfl rfl rfl, fun c C σ H' h1 h2 => h2 C h1⟩, ?_⟩
    have hs : L2.start N vs = vs.map some ++ List.replicate (N.length - ps.length) none := by
      unfold L2.start
      rw [r.length, l]
    rw [hs]
    refine ⟨⟨G, H, true⟩, G, _, ⟨stt_start (N.length - ps.length) sub mk r, .of (.refl sub), fun i d p h1 _ => (no_own h1).elim, fun i Ω h1 => (no_st h1).elim⟩, ?_⟩
    unfold callF at m
    rw [if_pos l] at m
    cases e : b (ds.map SV.val ++ List.replicate (N.length - ps.length) .no) with
    | nx ρ => rw [e] at m; exact fun G' σ' H' S' _ => m .non G' H' S'.gr.pure .non
    | ret o d => rw [e] at m; exact fun v G' H' g r => m v G' H' g.pure r
    | retS d ρ => rw [e] at m; exact m.elim
    | exc c ρ => rw [e] at m; exact fun G' σ' H' S' _ C hC => m C G' H' hC S'.gr.pure
    | brk ρ => rw [e] at m; exact m.elim
    | ct ρ => rw [e] at m; exact m.elim
    | bad => rw [e] at m; exact m.elim
theorem tk0 {X : Cx} : Tk X W0 := ⟨fun _ _ _ _ => False, takes0, fun _ _ _ _ _ h => h⟩
theorem callF_len {n N : Nat} {b : Ev → O} : ∀ ds, ds.length ≠ n → callF n N b ds = .bad := fun ds h => by
  unfold callF
  rw [if_neg h]
end
end Pd

/-! Pd5: calls of defs; operators, comparisons, tests, subscripts, slices, displays. -/
namespace Pd
open PySem PySem.Spec L2
variable {K : PySem.W.Frag}

/-! ### what a bearing of a datum tells -/
section
variable {G H : Hp} {x : V}
theorem wrep_int {i : Int} (h : WRep K G H x (.int i)) : x = .int i := by
  rcases h with h | ⟨p, _, _, w⟩
  · cases h; rfl
  · exact w.elim
theorem wrep_str {i : Str} (h : WRep K G H x (.str i)) : x = .str i := by
  rcases h with h | ⟨p, _, _, w⟩
  · cases h; rfl
  · exact w.elim
theorem wrep_bl {i : Bool} (h : WRep K G H x (.bl i)) : x = .bl i := by
  rcases h with h | ⟨p, _, _, w⟩
  · cases h; rfl
  · exact w.elim
theorem wrep_non (h : WRep K G H x .non) : x = .non := by
  rcases h with h | ⟨p, _, _, w⟩
  · cases h; rfl
  · exact w.elim
theorem wrep_fn {v : V} (h : WRep K G H x (.fn v)) : x = v := by
  rcases h with h | ⟨p, _, _, w⟩
  · cases h; rfl
  · exact w.elim
theorem wrep_tup {ds : List D} (h : WRep K G H x (.tup ds)) : ∃ a vs, x = .ref a ∧ G a = some (.tup vs) ∧ RepL K G vs ds := by
  rcases h with h | ⟨p, _, _, w⟩
  · cases h with
    | tup h r => exact ⟨_, _, rfl, h, r⟩
  · exact w.elim
theorem wrep_pt {ds : List D} (h : WRep K G H x (.pt ds)) : ∃ a o vs, x = .ref a ∧ G a = some (.frz o (.tup vs)) ∧ o.dict = none ∧ RepL K G vs ds := by
  rcases h with h | ⟨p, _, _, w⟩
  · cases h with
    | pt h e r => exact ⟨_, _, _, rfl, h, e, r⟩
  · exact w.elim
theorem wrep_scr {ns : List Int} (h : WRep K G H x (.scr ns)) : ∃ a, x = .ref a ∧ SqL K G a (ns.map V.int) := by
  rcases h with h | ⟨p, _, _, w⟩
  · cases h with
    | scr h => exact ⟨_, rfl, h⟩
  · exact w.elim
theorem wrep_lst {ds : List D} (s : Sub G H) (h : WRep K G H x (.lst ds)) : ∃ a vs, x = .ref a ∧ H a = some (.lst vs) ∧ RepL K G vs ds := by
  rcases h with h | ⟨p, e, _, vs, w, r⟩
  · cases h with
    | lst h r => exact ⟨_, _, rfl, s _ _ h, r⟩
  · exact ⟨p, vs, e, w, r⟩
theorem wrep_dK {kvs : List (D × D)} (s : Sub G H) (h : WRep K G H x (.dct false kvs)) : ∃ a ks, x = .ref a ∧ H a = some (.dK ks) ∧ RepK K G ks kvs := by
  rcases h with h | ⟨p, e, _, ks, w, r⟩
  · cases h with
    | dK h r => exact ⟨_, _, rfl, s _ _ h, r⟩
  · exact ⟨p, ks, e, w, r⟩
theorem wrep_dT {kvs : List (D × D)} (s : Sub G H) (h : WRep K G H x (.dct true kvs)) : ∃ a ks, x = .ref a ∧ H a = some (.dT ks) ∧ RepT K G ks kvs := by
  rcases h with h | ⟨p, e, _, ks, w, r⟩
  · cases h with
    | dT h r => exact ⟨_, _, rfl, s _ _ h, r⟩
  · exact ⟨p, ks, e, w, r⟩
end
theorem res_v {G H : Hp} {Q : VK} {v : V} {d : D} (s : Sub G H) (q : ∀ v G' H', Grow G H G' H' → Rep K G' v d → Q v H') (r : Rep K G v d) : Q v H := q v G H (.refl s) r
/-- a new object at p, known for ever -/
theorem res_new {G H : Hp} {Q : VK} {p : Addr} {o : HO} {d : D} (s : Sub G H) (q : ∀ v G' H', Grow G H G' H' → Rep K G' v d → Q v H') (hp : H p = none) (r : ∀ G', Same G G' → G' p = some o → Rep K G' (.ref p) d) (n : nt o := by intro _ z; cases z) : Q (.ref p) (upd H p o) :=
  q _ _ _ (.laid s hp n) (r _ (same_new (s.free hp)) upd_same)

/-! ### rules by data -/
/-- a two-place operation on data -/
def rV (K : PySem.W.Frag) (g : D → D → Option D) : R2 := fun x y H Q => ∃ G d e, Sub G H ∧ WRep K G H x d ∧ WRep K G H y e ∧ ResK K .v G H Q (g d e)
/-- a comparison of data -/
def rB (K : PySem.W.Frag) (g : D → D → Option Bool) : R2 := fun x y H Q => ∃ G d e b, Sub G H ∧ WRep K G H x d ∧ WRep K G H y e ∧ g d e = some b ∧ Q (.bl b) H
section
variable {X : Cx}
theorem opr_of {f : Value → Value → Sem Value} {g : D → D → Option D} (h : ∀ G H x y d e r (Q : VK), Sub G H → WRep K G H x d → WRep K G H y e → g d e = some r → (∀ v G' H', Grow G H G' H' → Rep K G' v r → Q v H') → ∃ rr : R2, OpR X f rr ∧ rr x y H Q) : OpR X f (rV K g) := by
  intro pins s σ H x y v u Q I rx ry ⟨G, d, e, sub, wx, wy, m⟩
  cases q : g d e with
  | none => rw [q] at m; exact m.elim
  | some r =>
    rw [q] at m
    obtain ⟨rr, o, hr⟩ := h G H x y d e r Q sub wx wy q m
    exact o pins s σ H x y v u Q I rx ry hr
theorem opb_of {f : Value → Value → Sem Value} {g : D → D → Option Bool} (h : ∀ G H x y d e b (Q : VK), Sub G H → WRep K G H x d → WRep K G H y e → g d e = some b → Q (.bl b) H → ∃ rr : R2, OpR X f rr ∧ rr x y H Q) : OpR X f (rB K g) := by
  intro pins s σ H x y v u Q I rx ry ⟨G, d, e, b, sub, wx, wy, q, m⟩
  obtain ⟨rr, o, hr⟩ := h G H x y d e b Q sub wx wy q m
  exact o pins s σ H x y v u Q I rx ry hr
end

/-! ### expressions by them -/
def eOp (g : D → D → Option D) (fa fb : Ev → R D) : Ev → R D := fun ρ => (fa ρ).bind fun d => (fb ρ).bind fun e => opt (g d e)
def eCmp (g : D → D → Option Bool) (fa fb : Ev → R D) : Ev → R D := eOp (fun d e => (g d e).map D.bl) fa fb
def cCmp (g : D → D → Option Bool) (fa fb : Ev → R D) : Ev → R Bool := fun ρ => (fa ρ).bind fun d => (fb ρ).bind fun e => opt (g d e)
/-- two comparisons in a row -/
def eChain (g g' : D → D → Option Bool) (fa fb fc : Ev → R D) : Ev → R D := fun ρ => (fa ρ).bind fun d => (fb ρ).bind fun e => (opt (g d e)).bind fun k => if k then (fc ρ).bind fun x => opt ((g' e x).map D.bl) else .ok (.bl false)
def cChain (g g' : D → D → Option Bool) (fa fb fc : Ev → R D) : Ev → R Bool := fun ρ => (fa ρ).bind fun d => (fb ρ).bind fun e => (opt (g d e)).bind fun k => if k then (fc ρ).bind fun x => opt (g' e x) else .ok false
def cVal (f : Ev → R D) : Ev → R Bool := fun ρ => (f ρ).bind fun d => match d with
  | .bl b => .ok b
  | _ => .bad
def cNot (c : Ev → R Bool) : Ev → R Bool := fun ρ => (c ρ).bind fun b => .ok (!b)
def cAnd (c d : Ev → R Bool) : Ev → R Bool := fun ρ => (c ρ).bind fun b => if b then d ρ else .ok false
def cOr (c d : Ev → R Bool) : Ev → R Bool := fun ρ => (c ρ).bind fun b => if b then .ok true else d ρ
def eOfC (c : Ev → R Bool) : Ev → R D := fun ρ => (c ρ).bind fun b => .ok (.bl b)
def eIf (c : Ev → R Bool) (f g : Ev → R D) : Ev → R D := fun ρ => (c ρ).bind fun b => if b then f ρ else g ρ
section
variable {X : Cx} {W : WN} {a b c : Expr} {fa fb fc : Ev → R D} {pos : Pos}
theorem ex2v {g : D → D → Option D} {σ : L2.St} {H : Hp} {Q : VK} (h : exOf K .v W (eOp g fa fb) σ H Q) : tOp (rV K g) (exOf K .w W fa) (exOf K .w W fb) σ H Q :=
  ex2 (K := K) (k := .v) (fa := fa) (fb := fb) (g := g) (r := rV K g) (fun G H x y d e Q sub wx wy m => ⟨G, d, e, sub, wx, wy, m⟩) h
theorem de_bin {op : Operator} {g : D → D → Option D} (ho : OpR X (binaryOp op) (rV K g)) (ha : PE X a (exOf K .w W fa)) (hb : PE X b (exOf K .w W fb)) : PE X (.BinOp a op b pos) (exOf K .v W (eOp g fa fb)) :=
  pe_imp (pe_op ho ha hb) fun σ H Q h => ex2v h
theorem ex2b {g : D → D → Option Bool} {σ : L2.St} {H : Hp} {Q : VK} (h : exOf K .v W (eCmp g fa fb) σ H Q) : tOp (rB K g) (exOf K .w W fa) (exOf K .w W fb) σ H Q :=
  ex2 (K := K) (k := .v) (fa := fa) (fb := fb) (g := fun d e => (g d e).map D.bl) (r := rB K g) (fun G H x y d e Q sub wx wy m => by
    cases q : g d e with
    | none => rw [q] at m; exact m.elim
    | some k => rw [q] at m; exact ⟨G, d, e, k, sub, wx, wy, q, m _ G H (.refl sub) (.bl k)⟩) h
theorem de_cmp {op : CmpOp} {g : D → D → Option Bool} (ho : OpR X (compareOp op) (rB K g)) (ha : PE X a (exOf K .w W fa)) (hb : PE X b (exOf K .w W fb)) (hm : behindInMarks op b = false := by first | exact nomark _ | rfl) : PE X (.Compare a [op] [b] pos) (exOf K .v W (eCmp g fa fb)) :=
  pe_imp (pe_cmpR ho ha hb hm) fun σ H Q h => ex2b h
theorem tt2b {g : D → D → Option Bool} {σ : L2.St} {H : Hp} {Q : Bool → Hp → Prop} (h : ttOf K W (cCmp g fa fb) σ H Q) : tTest (tOp (rB K g) (exOf K .w W fa) (exOf K .w W fb)) σ H Q := by
  refine ex2b (K := K) (fa := fa) (fb := fb) (g := g) ?_
  obtain ⟨G, ρ, S, m⟩ := h
  refine ⟨G, ρ, S, ?_⟩
  unfold cCmp at m
  unfold eCmp eOp
  cases e1 : fa ρ with
  | ok d =>
    simp only [e1, R.bind_ok] at m ⊢
    cases e2 : fb ρ with
    | ok e =>
      simp only [e2, R.bind_ok] at m ⊢
      cases e3 : g d e with
      | some k =>
        simp only [e3, opt_some] at m
        rintro v G' H' gr r
        cases r
        exact ⟨k, rfl, m G' H' gr⟩
      | none => simp only [e3, opt_none] at m
    | exc c => simp only [e2, R.bind_exc] at m ⊢; exact m
    | bad => simp only [e2, R.bind_bad] at m
  | exc c => simp only [e1, R.bind_exc] at m ⊢; exact m
  | bad => simp only [e1, R.bind_bad] at m
theorem dt_cmp {op : CmpOp} {g : D → D → Option Bool} (ho : OpR X (compareOp op) (rB K g)) (ha : PE X a (exOf K .w W fa)) (hb : PE X b (exOf K .w W fb)) (hm : behindInMarks op b = false := by first | exact nomark _ | rfl) : PT X (.Compare a [op] [b] pos) (ttOf K W (cCmp g fa fb)) :=
  pt_imp (pt_cmpR ho ha hb hm) fun σ H Q h => tt2b h
theorem dt_val (h : PE X a (exOf K .w W fa)) (he : ∀ whole, isTrue a X.env whole = (do let v ← whole; standAt a.pos; holding [v] (truthy v)) := by intro _; rfl) : PT X a (ttOf K W (cVal fa)) := pt_imp (pt_val h he) fun σ H Q ⟨G, ρ, S, m⟩ => by
  refine ⟨G, ρ, S, ?_⟩
  unfold cVal at m
  cases e : fa ρ with
  | ok d =>
    simp only [e, R.bind_ok] at m
    cases d with
    | bl b => exact fun v G' H' g r => ⟨b, wrep_bl r, m G' H' g⟩
    | _ => exact m.elim
  | exc c => simp only [e, R.bind_exc] at m; exact m
  | bad => simp only [e, R.bind_bad] at m
variable {ca cb : Ev → R Bool} {rest : List Expr}
theorem dt_not (h : PT X a (ttOf K W ca)) : PT X (.UnaryOp .Not a pos) (ttOf K W (cNot ca)) := pt_imp (pt_not h) fun σ H Q ⟨G, ρ, S, m⟩ => by
  refine ⟨G, ρ, S, ?_⟩
  unfold cNot at m
  cases e : ca ρ with
  | ok b => simp only [e, R.bind_ok] at m; exact m
  | exc c => simp only [e, R.bind_exc] at m; exact m
  | bad => simp only [e, R.bind_bad] at m
theorem pw_imp {e : Expr} {t t' : TT} (h : PW X e t) (i : ∀ σ H Q, t' σ H Q → t σ H Q) : PW X e t' := ⟨fun w pins s σ H Q I q => h.run w pins s σ H Q I (i σ H Q q)⟩
theorem dw_and1 (ha : PT X a (ttOf K W ca)) : PW X (.BoolOp .And [a] pos) (ttOf K W ca) := pw_and1 ha
theorem dw_or1 (ha : PT X a (ttOf K W ca)) : PW X (.BoolOp .Or [a] pos) (ttOf K W ca) := pw_or1 ha
theorem dw_and (ha : PT X a (ttOf K W ca)) (hb : PW X (.BoolOp .And (b :: rest) pos) (ttOf K W cb)) : PW X (.BoolOp .And (a :: b :: rest) pos) (ttOf K W (cAnd ca cb)) := pw_imp (pw_and ha hb) fun σ H Q ⟨G, ρ, S, m⟩ => by
  refine ⟨G, ρ, S, ?_⟩
  unfold cAnd at m
  cases e : ca ρ with
  | ok k =>
    simp only [e, R.bind_ok] at m
    intro G' H' g
    cases k with
    | true =>
      rw [if_pos rfl] at m ⊢
      refine ⟨G', ρ, S.grow g, ?_⟩
      cases e2 : cb ρ with
      | ok k2 => rw [e2] at m; exact fun G2 H2 g2 => m G2 H2 (g.trans g2)
      | exc c => rw [e2] at m; exact fun G2 H2 g2 => m G2 H2 (g.trans g2)
      | bad => rw [e2] at m; exact m
    | false =>
      rw [if_neg Bool.false_ne_true] at m ⊢
      exact m G' H' g
  | exc c => simp only [e, R.bind_exc] at m; exact m
  | bad => simp only [e, R.bind_bad] at m
theorem dw_or (ha : PT X a (ttOf K W ca)) (hb : PW X (.BoolOp .Or (b :: rest) pos) (ttOf K W cb)) : PW X (.BoolOp .Or (a :: b :: rest) pos) (ttOf K W (cOr ca cb)) := pw_imp (pw_or ha hb) fun σ H Q ⟨G, ρ, S, m⟩ => by
  refine ⟨G, ρ, S, ?_⟩
  unfold cOr at m
  cases e : ca ρ with
  | ok k =>
    simp only [e, R.bind_ok] at m
    intro G' H' g
    cases k with
    | false =>
      rw [if_neg Bool.false_ne_true] at m ⊢
      refine ⟨G', ρ, S.grow g, ?_⟩
      cases e2 : cb ρ with
      | ok k2 => rw [e2] at m; exact fun G2 H2 g2 => m G2 H2 (g.trans g2)
      | exc c => rw [e2] at m; exact fun G2 H2 g2 => m G2 H2 (g.trans g2)
      | bad => rw [e2] at m; exact m
    | true =>
      rw [if_pos rfl] at m ⊢
      exact m G' H' g
  | exc c => simp only [e, R.bind_exc] at m; exact m
  | bad => simp only [e, R.bind_bad] at m
/-- and, or, not as values (of truths) -/
def vAnd (f g : Ev → R D) : Ev → R D := fun ρ => (cVal f ρ).bind fun b => if b then g ρ else .ok (.bl false)
def vOr (f g : Ev → R D) : Ev → R D := fun ρ => (cVal f ρ).bind fun b => if b then .ok (.bl true) else g ρ
theorem de_one {op} (ha : PE X a (exOf K .v W fa)) : PE X (.BoolOp op [a] pos) (exOf K .v W fa) := pe_one ha
theorem de_and (ha : PE X a (exOf K .v W fa)) (hb : PE X (.BoolOp .And (b :: rest) pos) (exOf K .v W fb)) : PE X (.BoolOp .And (a :: b :: rest) pos) (exOf K .v W (vAnd fa fb)) := pe_imp (pe_and ha hb) fun σ H Q ⟨G, ρ, S, m⟩ => by
  refine ⟨G, ρ, S, ?_⟩
  unfold vAnd cVal at m
  cases e : fa ρ with
  | ok d =>
    simp only [e, R.bind_ok] at m
    cases d with
    | bl k =>
      simp only [R.bind_ok] at m
      rintro v G' H' g r
      cases r
      refine ⟨k, rfl, ?_⟩
      cases k with
      | true =>
        rw [if_pos rfl] at m ⊢
        refine ⟨G', ρ, S.grow g, ?_⟩
        cases e2 : fb ρ with
        | ok k2 => rw [e2] at m; exact fun v G2 H2 g2 r2 => m v G2 H2 (g.trans g2) r2
        | exc c => rw [e2] at m; exact fun G2 H2 g2 => m G2 H2 (g.trans g2)
        | bad => rw [e2] at m; exact m
      | false =>
        rw [if_neg Bool.false_ne_true] at m ⊢
        exact m _ G' H' g (.bl false)
    | _ => exact m.elim
  | exc c => simp only [e, R.bind_exc] at m; exact m
  | bad => simp only [e, R.bind_bad] at m
theorem de_or (ha : PE X a (exOf K .v W fa)) (hb : PE X (.BoolOp .Or (b :: rest) pos) (exOf K .v W fb)) : PE X (.BoolOp .Or (a :: b :: rest) pos) (exOf K .v W (vOr fa fb)) := pe_imp (pe_or ha hb) fun σ H Q ⟨G, ρ, S, m⟩ => by
  refine ⟨G, ρ, S, ?_⟩
  unfold vOr cVal at m
  cases e : fa ρ with
  | ok d =>
    simp only [e, R.bind_ok] at m
    cases d with
    | bl k =>
      simp only [R.bind_ok] at m
      rintro v G' H' g r
      cases r
      refine ⟨k, rfl, ?_⟩
      cases k with
      | false =>
        rw [if_neg Bool.false_ne_true] at m ⊢
        refine ⟨G', ρ, S.grow g, ?_⟩
        cases e2 : fb ρ with
        | ok k2 => rw [e2] at m; exact fun v G2 H2 g2 r2 => m v G2 H2 (g.trans g2) r2
        | exc c => rw [e2] at m; exact fun G2 H2 g2 => m G2 H2 (g.trans g2)
        | bad => rw [e2] at m; exact m
      | true =>
        rw [if_pos rfl] at m ⊢
        exact m _ G' H' g (.bl true)
    | _ => exact m.elim
  | exc c => simp only [e, R.bind_exc] at m; exact m
  | bad => simp only [e, R.bind_bad] at m
def vNot (f : Ev → R D) : Ev → R D := fun ρ => (f ρ).bind fun d => opt (match d with
  | .bl b => some (.bl (!b))
  | _ => none)
theorem de_not (ha : PE X a (exOf K .w W fa)) : PE X (.UnaryOp .Not a pos) (exOf K .v W (vNot fa)) := pe_imp (pe_not ha) fun σ H Q h =>
  ex1 (K := K) (k := .v) (f := fa) (r := fun x H1 Q => ∃ c, x = .bl c ∧ Q (.bl (!c)) H1) (fun G H x d Q sub w m => by
    cases d with
    | bl b => exact ⟨b, wrep_bl w, m _ G H (.refl sub) (.bl _)⟩
    | _ => exact m.elim) h
theorem de_if {t : Expr} {k : Kn} (hc : PT X t (ttOf K W ca)) (ha : PE X a (exOf K k W fa)) (hb : PE X b (exOf K k W fb)) : PE X (.IfExp t a b pos) (exOf K k W (eIf ca fa fb)) := pe_imp (pe_ifExp hc ha hb) fun σ H Q ⟨G, ρ, S, m⟩ => by
  refine ⟨G, ρ, S, ?_⟩
  unfold eIf at m
  cases e : ca ρ with
  | ok c =>
    simp only [e, R.bind_ok] at m
    intro G' H' g
    have fin : ∀ f : Ev → R D, (match f ρ with
      | .ok d => ∀ v G' H', Grow G H G' H' → KRep K k G H G' H' v d → Q v H'
      | .exc c => ∀ G' H', Grow G H G' H' → W c σ H'
      | .bad => False) → exOf K k W f σ H' Q := fun f m => by
      refine ⟨G', ρ, S.grow g, ?_⟩
      cases e2 : f ρ with
      | ok k2 => rw [e2] at m; exact fun v G2 H2 g2 r2 => m v G2 H2 (g.trans g2) (r2.shift g.hh)
      | exc c => rw [e2] at m; exact fun G2 H2 g2 => m G2 H2 (g.trans g2)
      | bad => rw [e2] at m; exact m
    cases c with
    | true => rw [if_pos rfl] at m ⊢; exact fin fa m
    | false => rw [if_neg Bool.false_ne_true] at m ⊢; exact fin fb m
  | exc c => simp only [e, R.bind_exc] at m; exact m
  | bad => simp only [e, R.bind_bad] at m
/-- a < b < c -/
theorem chain_run {g g' : D → D → Option Bool} {σ : L2.St} {H : Hp} {Q : VK} {h : Bool → R D} (hf : ∀ k, h k = .ok (.bl k)) (hh : exOf K .v W (fun ρ => (fa ρ).bind fun d => (fb ρ).bind fun e => (opt (g d e)).bind fun k => if k then (fc ρ).bind fun x => (opt (g' e x)).bind h else h false) σ H Q) :
    tChain (rB K g) (rB K g') (exOf K .w W fa) (exOf K .w W fb) (exOf K .w W fc) σ H Q := by
  obtain ⟨G, ρ, S, m⟩ := hh
  refine ⟨G, ρ, S, ?_⟩
  cases e1 : fa ρ with
  | ok d =>
    simp only [e1, R.bind_ok] at m
    intro v G1 H1 g1 r1
    refine ⟨G1, ρ, S.grow g1, ?_⟩
    cases e2 : fb ρ with
    | ok e =>
      simp only [e2, R.bind_ok] at m
      intro u G2 H2 g2 r2
      cases e3 : g d e with
      | none => simp only [e3, opt_none, R.bind_bad] at m
      | some k =>
        simp only [e3, opt_some, R.bind_ok] at m
        refine ⟨G2, d, e, k, g2.gh, WRep.grow g2 r1, r2, e3, k, rfl, ?_⟩
        cases k with
        | false =>
          rw [if_neg Bool.false_ne_true, hf] at m
          rw [if_neg Bool.false_ne_true]
          exact m _ G2 H2 (g1.trans g2) (.bl false)
        | true =>
          rw [if_pos rfl] at m ⊢
          refine ⟨G2, ρ, (S.grow g1).grow g2, ?_⟩
          cases e4 : fc ρ with
          | ok x =>
            simp only [e4, R.bind_ok] at m
            intro w G3 H3 g3 r3
            cases e5 : g' e x with
            | none => simp only [e5, opt_none, R.bind_bad] at m
            | some k2 =>
              simp only [e5, opt_some, R.bind_ok, hf] at m
              exact ⟨G3, e, x, k2, g3.gh, WRep.grow g3 r2, r3, e5, m _ G3 H3 ((g1.trans g2).trans g3) (.bl k2)⟩
          | exc c => simp only [e4, R.bind_exc] at m; exact fun G3 H3 g3 => m G3 H3 ((g1.trans g2).trans g3)
          | bad => simp only [e4, R.bind_bad] at m
    | exc c => simp only [e2, R.bind_exc] at m; exact fun G3 H3 g3 => m G3 H3 (g1.trans g3)
    | bad => simp only [e2, R.bind_bad] at m
  | exc c => simp only [e1, R.bind_exc] at m; exact m
  | bad => simp only [e1, R.bind_bad] at m
theorem de_chain {op op' : CmpOp} {g g' : D → D → Option Bool} (ho : OpR X (compareOp op) (rB K g)) (ho' : OpR X (compareOp op') (rB K g')) (ha : PE X a (exOf K .w W fa)) (hb : PE X b (exOf K .w W fb)) (hc : PE X c (exOf K .w W fc))
    (hm : lastMarks [op, op'] [b, c] = false := by with_unfolding_all rfl) : PE X (.Compare a [op, op'] [b, c] pos) (exOf K .v W (eChain g g' fa fb fc)) := pe_imp (pe_chain ho ho' ha hb hc hm) fun σ H Q h => by
  refine chain_run (h := fun k => .ok (.bl k)) (fun _ => rfl) ?_
  have e : (fun ρ => (fa ρ).bind fun d => (fb ρ).bind fun e => (opt (g d e)).bind fun k => if k then (fc ρ).bind fun x => (opt (g' e x)).bind fun k => R.ok (D.bl k) else R.ok (D.bl false)) = eChain g g' fa fb fc := by
    funext ρ
    unfold eChain
    congr 1; funext d; congr 1; funext e; congr 1; funext k
    congr 1; congr 1; funext x
    cases g' e x <;> rfl
  rw [e]
  exact h
theorem dt_chain {op op' : CmpOp} {g g' : D → D → Option Bool} (ho : OpR X (compareOp op) (rB K g)) (ho' : OpR X (compareOp op') (rB K g')) (ha : PE X a (exOf K .w W fa)) (hb : PE X b (exOf K .w W fb)) (hc : PE X c (exOf K .w W fc))
    (hm : lastMarks [op, op'] [b, c] = false := by with_unfolding_all rfl) : PT X (.Compare a [op, op'] [b, c] pos) (ttOf K W (cChain g g' fa fb fc)) := pt_imp (pt_chain ho ho' ha hb hc hm) fun σ H Q h => by
  refine chain_run (h := fun k => .ok (.bl k)) (fun _ => rfl) ?_
  obtain ⟨G, ρ, S, m⟩ := h
  refine ⟨G, ρ, S, ?_⟩
  unfold cChain at m
  cases e1 : fa ρ with
  | ok d =>
    simp only [e1, R.bind_ok] at m ⊢
    cases e2 : fb ρ with
    | ok e =>
      simp only [e2, R.bind_ok] at m ⊢
      cases e3 : g d e with
      | none => simp only [e3, opt_none, R.bind_bad] at m
      | some k =>
        simp only [e3, opt_some, R.bind_ok] at m ⊢
        cases k with
        | false =>
          rw [if_neg Bool.false_ne_true] at m ⊢
          rintro v G' H' gr r
          cases r
          exact ⟨_, rfl, m G' H' gr⟩
        | true =>
          rw [if_pos rfl] at m ⊢
          cases e4 : fc ρ with
          | ok x =>
            simp only [e4, R.bind_ok] at m ⊢
            cases e5 : g' e x with
            | none => simp only [e5, opt_none] at m
            | some k2 =>
              simp only [e5, opt_some, R.bind_ok] at m ⊢
              rintro v G' H' gr r
              cases r
              exact ⟨_, rfl, m G' H' gr⟩
          | exc c => simp only [e4, R.bind_exc] at m ⊢; exact m
          | bad => simp only [e4, R.bind_bad] at m
    | exc c => simp only [e2, R.bind_exc] at m ⊢; exact m
    | bad => simp only [e2, R.bind_bad] at m
  | exc c => simp only [e1, R.bind_exc] at m ⊢; exact m
  | bad => simp only [e1, R.bind_bad] at m

/-! ### displays -/
def eTup (f : Ev → R (List D)) : Ev → R D := fun ρ => (f ρ).bind fun ds => if szOk ds.length then .ok (.tup ds) else .bad
def eLst (f : Ev → R (List D)) : Ev → R D := fun ρ => (f ρ).bind fun ds => if szOk ds.length then .ok (.lst ds) else .bad
variable {es : List Expr} {f : Ev → R (List D)}
theorem de_tup {x1} (h : PA X es (taOf K W f)) : PE X (.Tuple es x1 pos) (exOf K .v W (eTup f)) := pe_imp (pe_tup h) fun σ H Q ⟨G, ρ, S, m⟩ => by
  refine ⟨G, ρ, S, ?_⟩
  unfold eTup at m
  cases e : f ρ with
  | ok ds =>
    simp only [e, R.bind_ok] at m
    intro vs G' H' g r
    cases hz : szOk ds.length with
    | false => rw [hz, if_neg Bool.false_ne_true] at m; exact m.elim
    | true =>
      rw [hz, if_pos rfl] at m
      refine ⟨by rw [r.length]; exact szOk_le hz, fun p hp => m _ _ _ (g.trans (.laid g.gh hp)) (.tup upd_same (r.mono (same_new (g.gh.free hp))))⟩
  | exc c => simp only [e, R.bind_exc] at m; exact m
  | bad => simp only [e, R.bind_bad] at m
theorem de_lst (h : PA X es (taOf K W f)) : PE X (.List es pos) (exOf K .o W (eLst f)) := pe_imp (pe_lst h) fun σ H Q ⟨G, ρ, S, m⟩ => by
  refine ⟨G, ρ, S, ?_⟩
  unfold eLst at m
  cases e : f ρ with
  | ok ds =>
    simp only [e, R.bind_ok] at m
    intro vs G' H' g r
    cases hz : szOk ds.length with
    | false => rw [hz, if_neg Bool.false_ne_true] at m; exact m.elim
    | true =>
      rw [hz, if_pos rfl] at m
      refine ⟨by rw [r.length]; exact szOk_le hz, fun p hp => m _ _ _ (g.trans (.more g.gh hp)) ⟨p, rfl, g.hh.free (.of hp), g.gh.free hp, vs, upd_same, r⟩⟩
  | exc c => simp only [e, R.bind_exc] at m; exact m
  | bad => simp only [e, R.bind_bad] at m
end

/-! ### calls of defs -/
/-- what is known of a def named x -/
structure DefOk (P : Program) (w : World) (K : PySem.W.Frag) (mg : Str → Option Value) (base : Heap) (k : Nat) (x : Str) (n : Nat) (F : List D → R RetD) : Prop where
  ex : ∃ f fd ps, FnOk P w K mg base (L2.CX P w) k f fd ps (spOf K mg n F) ∧ mg x = some (.ref f) ∧ PySem.W.keepIn K (.ref f) = true ∧ Binds K fd ps []
  len : ∀ ds, ds.length ≠ n → F ds = .bad
def eCall (F : List D → R RetD) (f : Ev → R (List D)) : Ev → R D := fun ρ => (f ρ).bind fun ds => (F ds).bind fun r => .ok r.2
def eCallO (F : List D → R RetD) (f : Ev → R (List D)) : Ev → R D := fun ρ => (f ρ).bind fun ds => (F ds).bind fun r => if r.1 then .ok r.2 else .bad
section
variable {X : Cx} {W : WN} {e : Expr} {es : List Expr} {f : Ev → R (List D)} {x : Str} {p pos : Pos} {k n : Nat} {F : List D → R RetD}
theorem sp_run {vs : List V} {ds : List D} {σ : L2.St} {G H : Hp} {Q : VK} {Wx : WX} (tk : ∀ c C σ H, X.mg c = some (.ref C) → W c σ H → Wx (.ref C) none σ H) (hl : ds.length = n) (sub : Sub G H) (mk : MarkOk K G) (r : RepL K G vs ds)
    (m : match F ds with
      | .ok (o, d) => ∀ v G' H', Grow G H G' H' → KRep K (kb o) G H G' H' v d → Q v H'
      | .exc c => ∀ G' H', Grow G H G' H' → W c σ H'
      | .bad => False) : spOf K X.mg n F vs H Q (WE Wx σ) := by
  refine ⟨G, ds, sub, mk, r, hl, ?_⟩
  cases e : F ds with
  | ok q => rw [e] at m; exact m
  | exc c => rw [e] at m; exact fun C G' H' hC g => tk c C σ H' hC (m G' H' g)
  | bad => rw [e] at m; exact m
theorem de_callK (o : Bool) (D0 : DefOk X.prog X.w X.K X.mg X.base k x n F) (hK : X.K = K) (hr : Room k X.A) (tk : Tk X W) (ha : PA X (e :: es) (taOf K W f))
    (hg : Gl X x := by rfl) (hdb : (x == ("__debug__" : Str)) = false := by decide) (he : starEach (e :: es) X.env = (false, eval e X.env) :: starEach es X.env := by rfl) (hpl : (backTo pos (starEach es X.env)).any (·.1) = false := by rfl) :
    PE X (.Call (.Name x p) (e :: es) [] pos) (exOf K (kb o) W (if o then eCallO F f else eCall F f)) := by
  subst hK
  obtain ⟨fa, fd, ps, G0, hm, kp, hb⟩ := D0.ex
  obtain ⟨Wx, tk, im⟩ := tk
  refine pe_imp (pe_callS (E := WE Wx) G0 hr hg hm kp hb (passAt tk) ha hdb he hpl) fun σ H Q ⟨G, ρ, S, m⟩ => ?_
  refine ⟨G, ρ, S, ?_⟩
  cases e1 : f ρ with
  | bad => cases o <;> simp [eCall, eCallO, e1] at m
  | exc c => cases o <;> (simp [eCall, eCallO, e1] at m; exact m)
  | ok ds =>
    intro vs G1 H1 g1 r1
    by_cases hl : ds.length = n
    · refine sp_run im hl g1.gh (S.mkd.mono g1.gg) r1 ?_
      cases e2 : F ds with
      | bad => cases o <;> simp [eCall, eCallO, e1, e2] at m
      | exc c => cases o <;> (simp [eCall, eCallO, e1, e2] at m; exact fun G' H' g => m G' H' (g1.trans g))
      | ok q =>
        obtain ⟨o', d⟩ := q
        intro v G2 H2 g2 r2
        cases o with
        | true =>
          cases o' with
          | false => simp [eCallO, e1, e2] at m
          | true =>
            simp [eCallO, e1, e2] at m
            exact m v G2 H2 (g1.trans g2) (KRep.shift (k := .o) g1.hh r2)
        | false =>
          simp [eCall, e1, e2] at m
          cases o' with
          | false => exact m v G2 H2 (g1.trans g2) r2
          | true =>
            obtain ⟨p, ev, hn, gn, w⟩ := r2
            subst ev
            obtain ⟨u, hu, io⟩ := w.there
            exact m _ _ H2 (g1.trans (g2.frozen hn hu io.nt gn)) (w.rep gn hu)
    · cases o <;> simp [eCall, eCallO, e1, D0.len ds hl] at m
end
end Pd

/-! Pd6: operators on data. -/
namespace Pd
open PySem PySem.Spec L2
variable {K : PySem.W.Frag}

/-! ### equality -/
mutual
def toPy : D → PyData
  | .non => .none
  | .bl b => .bool b
  | .int i => .int i
  | .str x => .str x
  | .tup ds => .tuple (toPys ds)
  | .lst ds => .list (toPys ds)
  | _ => .dict []
def toPys : List D → List PyData
  | [] => []
  | d :: ds => toPy d :: toPys ds
end
/-- plain data, so deep at most -/
def okD : Nat → D → Bool
  | _, .non => true
  | _, .bl _ => true
  | _, .int _ => true
  | _, .str x => PyData.strOk x
  | n + 1, .tup ds => ds.all (okD n)
  | n + 1, .lst ds => ds.all (okD n)
  | _, _ => false
mutual
def eqv : D → D → Bool
  | .non, .non => true
  | .bl a, .bl b => a == b
  | .bl a, .int j => (if a then 1 else 0) == j
  | .int i, .bl b => i == (if b then 1 else 0)
  | .int i, .int j => i == j
  | .str x, .str y => x == y
  | .lst xs, .lst ys => eqvs xs ys
  | .tup xs, .tup ys => eqvs xs ys
  | _, _ => false
def eqvs : List D → List D → Bool
  | [], [] => true
  | x :: xs, y :: ys => eqv x y && eqvs xs ys
  | _, _ => false
end
theorem okD_all : ∀ (n : Nat) (d : D), okD n d = true → (toPy d).canLay0 = true ∧ (toPy d).depth ≤ n
  | n, .non, _ => ⟨by simp [toPy, PyData.canLay0], by simp [toPy, PyData.depth]⟩
  | n, .bl b, _ => ⟨by simp [toPy, PyData.canLay0], by simp [toPy, PyData.depth]⟩
  | n, .int b, _ => ⟨by simp [toPy, PyData.canLay0], by simp [toPy, PyData.depth]⟩
  | n, .str b, h => ⟨by simpa [toPy, PyData.canLay0, okD] using h, by simp [toPy, PyData.depth]⟩
  | n + 1, .tup ds, h => by
    have h' : ds.all (okD n) = true := by simpa [okD] using h
    have z : ∀ es : List D, es.all (okD n) = true → PyData.canLayAll0 (toPys es) = true ∧ PyData.depthAll (toPys es) ≤ n := by
      intro es
      induction es with
      | nil => intro _; exact ⟨by simp [toPys, PyData.canLayAll0], by simp [toPys, PyData.depthAll]⟩
      | cons e es ih =>
        intro q
        simp only [List.all_cons, Bool.and_eq_true] at q
        obtain ⟨a1, a2⟩ := okD_all n e q.1
        obtain ⟨b1, b2⟩ := ih q.2
        exact ⟨by simp [toPys, PyData.canLayAll0, a1, b1], by simp only [toPys, PyData.depthAll]; omega⟩
    obtain ⟨a, b⟩ := z ds h'
    exact ⟨by simpa [toPy, PyData.canLay0] using a, by simp only [toPy, PyData.depth]; omega⟩
  | n + 1, .lst ds, h => by
    have h' : ds.all (okD n) = true := by simpa [okD] using h
    have z : ∀ es : List D, es.all (okD n) = true → PyData.canLayAll0 (toPys es) = true ∧ PyData.depthAll (toPys es) ≤ n := by
      intro es
      induction es with
      | nil => intro _; exact ⟨by simp [toPys, PyData.canLayAll0], by simp [toPys, PyData.depthAll]⟩
      | cons e es ih =>
        intro q
        simp only [List.all_cons, Bool.and_eq_true] at q
        obtain ⟨a1, a2⟩ := okD_all n e q.1
        obtain ⟨b1, b2⟩ := ih q.2
        exact ⟨by simp [toPys, PyData.canLayAll0, a1, b1], by simp only [toPys, PyData.depthAll]; omega⟩
    obtain ⟨a, b⟩ := z ds h'
    exact ⟨by simpa [toPy, PyData.canLay0] using a, by simp only [toPy, PyData.depth]; omega⟩
  | 0, .tup _, h => by simp [okD] at h
  | 0, .lst _, h => by simp [okD] at h
  | 0, .fn _, h => by simp [okD] at h
  | 0, .scr _, h => by simp [okD] at h
  | 0, .dct _ _, h => by simp [okD] at h
  | n + 1, .fn _, h => by simp [okD] at h
  | n + 1, .scr _, h => by simp [okD] at h
  | n + 1, .dct _ _, h => by simp [okD] at h
  | n + 1, .ldc _ _, h => by simp [okD] at h
  | n + 1, .ob _, h => by simp [okD] at h
  | 0, .pt _, h => by simp [okD] at h
  | 0, .ldc _ _, h => by simp [okD] at h
  | 0, .ob _, h => by simp [okD] at h
  | n + 1, .pt _, h => by simp [okD] at h
theorem okD_shaped {n : Nat} {d : D} (h : okD n d = true) (hn : n ≤ 64) : SeqAt.shaped (toPy d) = true := by
  obtain ⟨a, b⟩ := okD_all n d h
  unfold SeqAt.shaped
  rw [a, Bool.true_and]
  exact decide_eq_true (Nat.le_trans b hn)
mutual
theorem eqv_py : ∀ (d e : D) (n m : Nat), okD n d = true → okD m e = true → PyData.eqv (toPy d) (toPy e) = eqv d e
  | .non, e, n, m, _, h2 => by cases e <;> first | (simp [toPy, PyData.eqv, eqv]; done) | (cases m <;> simp [okD] at h2)
  | .bl a, e, n, m, _, h2 => by cases e <;> first | (simp [toPy, PyData.eqv, eqv]; done) | (cases m <;> simp [okD] at h2)
  | .int a, e, n, m, _, h2 => by cases e <;> first | (simp [toPy, PyData.eqv, eqv]; done) | (cases m <;> simp [okD] at h2)
  | .str a, e, n, m, _, h2 => by cases e <;> first | (simp [toPy, PyData.eqv, eqv]; done) | (cases m <;> simp [okD] at h2)
  | .tup xs, e, n, m, h1, h2 => by
    cases n with
    | zero => simp [okD] at h1
    | succ n =>
      cases e with
      | tup ys =>
        cases m with
        | zero => simp [okD] at h2
        | succ m =>
          simp only [toPy, PyData.eqv, eqv]
          exact eqvs_py xs ys n m (by simpa [okD] using h1) (by simpa [okD] using h2)
      | non => simp [toPy, PyData.eqv, eqv]
      | bl b => simp [toPy, PyData.eqv, eqv]
      | int b => simp [toPy, PyData.eqv, eqv]
      | str b => simp [toPy, PyData.eqv, eqv]
      | lst b => simp [toPy, PyData.eqv, eqv]
      | fn _ => cases m <;> simp [okD] at h2
      | scr _ => cases m <;> simp [okD] at h2
      | dct _ _ => cases m <;> simp [okD] at h2
      | ldc _ _ => cases m <;> simp [okD] at h2
      | ob _ => cases m <;> simp [okD] at h2
      | pt _ => cases m <;> simp [okD] at h2
  | .lst xs, e, n, m, h1, h2 => by
    cases n with
    | zero => simp [okD] at h1
    | succ n =>
      cases e with
      | lst ys =>
        cases m with
        | zero => simp [okD] at h2
        | succ m =>
          simp only [toPy, PyData.eqv, eqv]
          exact eqvs_py xs ys n m (by simpa [okD] using h1) (by simpa [okD] using h2)
      | non => simp [toPy, PyData.eqv, eqv]
      | bl b => simp [toPy, PyData.eqv, eqv]
      | int b => simp [toPy, PyData.eqv, eqv]
      | str b => simp [toPy, PyData.eqv, eqv]
      | tup b => simp [toPy, PyData.eqv, eqv]
      | fn _ => cases m <;> simp [okD] at h2
      | scr _ => cases m <;> simp [okD] at h2
      | dct _ _ => cases m <;> simp [okD] at h2
      | ldc _ _ => cases m <;> simp [okD] at h2
      | ob _ => cases m <;> simp [okD] at h2
      | pt _ => cases m <;> simp [okD] at h2
  | .fn _, _, n, _, h1, _ => by cases n <;> simp [okD] at h1
  | .scr _, _, n, _, h1, _ => by cases n <;> simp [okD] at h1
  | .dct _ _, _, n, _, h1, _ => by cases n <;> simp [okD] at h1
  | .ldc _ _, _, n, _, h1, _ => by cases n <;> simp [okD] at h1
  | .ob _, _, n, _, h1, _ => by cases n <;> simp [okD] at h1
  | .pt _, _, n, _, h1, _ => by cases n <;> simp [okD] at h1
theorem eqvs_py : ∀ (xs ys : List D) (n m : Nat), xs.all (okD n) = true → ys.all (okD m) = true → PyData.eqvAll (toPys xs) (toPys ys) = eqvs xs ys
  | [], [], _, _, _, _ => by simp [toPys, PyData.eqvAll, eqvs]
  | [], _ :: _, _, _, _, _ => by simp [toPys, PyData.eqvAll, eqvs]
  | _ :: _, [], _, _, _, _ => by simp [toPys, PyData.eqvAll, eqvs]
  | x :: xs, y :: ys, n, m, h1, h2 => by
    simp only [List.all_cons, Bool.and_eq_true] at h1 h2
    simp only [toPys, PyData.eqvAll, eqvs]
    rw [eqv_py x y n m h1.1 h2.1, eqvs_py xs ys n m h1.2 h2.2]
end
mutual
theorem rep_dp {G H : Hp} (sub : Sub G H) : ∀ (d : D) (n : Nat) (v : V), okD n d = true → Rep K G v d → Dp K H v (toPy d)
  | .non, _, _, _, h => by cases h; exact .non
  | .bl b, _, _, _, h => by cases h; exact .bl b
  | .int b, _, _, _, h => by cases h; exact .int b
  | .str b, _, _, _, h => by cases h; exact .str b
  | .tup ds, n, v, o, h => by
    cases h with
    | tup e r =>
      cases n with
      | zero => simp [okD] at o
      | succ n => exact .tup (.inl (.inl (sub _ _ e))) (repl_dp sub ds n _ (by simpa [okD] using o) r)
  | .lst ds, n, v, o, h => by
    cases h with
    | lst e r =>
      cases n with
      | zero => simp [okD] at o
      | succ n => exact .lst (.inl (.inl (sub _ _ e))) (repl_dp sub ds n _ (by simpa [okD] using o) r)
  | .fn _, n, _, h1, _ => by cases n <;> simp [okD] at h1
  | .scr _, n, _, h1, _ => by cases n <;> simp [okD] at h1
  | .dct _ _, n, _, h1, _ => by cases n <;> simp [okD] at h1
  | .ldc _ _, n, _, h1, _ => by cases n <;> simp [okD] at h1
  | .ob _, n, _, h1, _ => by cases n <;> simp [okD] at h1
  | .pt _, n, _, h1, _ => by cases n <;> simp [okD] at h1
theorem repl_dp {G H : Hp} (sub : Sub G H) : ∀ (ds : List D) (n : Nat) (vs : List V), ds.all (okD n) = true → RepL K G vs ds → DpAll K H vs (toPys ds)
  | [], _, _, _, h => by cases h; exact .nil
  | d :: ds, n, _, o, h => by
    cases h with
    | cons a b =>
      simp only [List.all_cons, Bool.and_eq_true] at o
      exact .cons (rep_dp sub d n _ o.1 a) (repl_dp sub ds n _ o.2 b)
end
theorem wrep_dp {G H : Hp} (sub : Sub G H) {d : D} {n : Nat} {v : V} (o : okD n d = true) (h : WRep K G H v d) : Dp K H v (toPy d) := by
  rcases h with h | ⟨p, rfl, gn, w⟩
  · exact rep_dp sub d n v o h
  · cases d with
    | lst ds =>
      obtain ⟨vs, e, r⟩ := w
      cases n with
      | zero => simp [okD] at o
      | succ n => exact .lst (.inl (.inl e)) (repl_dp sub ds n _ (by simpa [okD] using o) r)
    | dct t kvs => cases n <;> simp [okD] at o
    | _ => exact w.elim
/-- == ; the script and [] too -/
def eqD : D → D → Option Bool
  | .scr ns, .lst [] => some ns.isEmpty
  | d, e => if okD 16 d && okD 16 e then some (eqv d e) else none
def neD (d e : D) : Option Bool := (eqD d e).map (!·)
theorem dp_ints {H : Hp} : ∀ ns : List Int, DpAll K H (ns.map V.int) (ns.map PyData.int)
  | [] => .nil
  | n :: ns => .cons (.int n) (dp_ints ns)
theorem canLay_ints : ∀ ns : List Int, PyData.canLayAll0 (ns.map PyData.int) = true ∧ PyData.depthAll (ns.map PyData.int) = 0
  | [] => ⟨by simp [PyData.canLayAll0], by simp [PyData.depthAll]⟩
  | n :: ns => by
    obtain ⟨a, b⟩ := canLay_ints ns
    exact ⟨by simp [PyData.canLayAll0, PyData.canLay0, a], by simp [PyData.depthAll, PyData.depth, b]⟩
theorem eqD_dp {G H : Hp} {x y : V} {d e : D} {b : Bool} (sub : Sub G H) (wx : WRep K G H x d) (wy : WRep K G H y e) (q : eqD d e = some b) : ∃ p p', Dp K H x p ∧ Dp K H y p' ∧ SeqAt.shaped p = true ∧ SeqAt.shaped p' = true ∧ PyData.eqv p p' = b := by
  unfold eqD at q
  split at q
  · rename_i ns
    obtain ⟨a, rfl, hs⟩ := wrep_scr wx
    have h2 := wrep_dp (n := 1) sub (by simp [okD]) wy
    refine ⟨.list (ns.map PyData.int), _, .lst (sub.seq hs) (dp_ints ns), h2, ?_, okD_shaped (n := 1) (by simp [okD]) (by decide), ?_⟩
    · obtain ⟨a1, a2⟩ := canLay_ints ns
      unfold SeqAt.shaped
      simp [PyData.canLay0, a1, PyData.depth, a2]
    · cases ns with
      | nil => simpa [toPy, toPys, PyData.eqv, PyData.eqvAll] using q
      | cons n ns => simpa [toPy, toPys, PyData.eqv, PyData.eqvAll] using q
  · split at q
    · rename_i h
      rw [Bool.and_eq_true] at h
      refine ⟨_, _, wrep_dp sub h.1 wx, wrep_dp sub h.2 wy, okD_shaped h.1 (by decide), okD_shaped h.2 (by decide), ?_⟩
      rw [eqv_py d e 16 16 h.1 h.2]
      exact Option.some.inj q
    · cases q
section
variable {X : Cx}
theorem do_eq {k : Nat} (hr : Room k X.A) (hK : X.K = K := by rfl) : OpR X (compareOp .Eq) (rB K eqD) := opb_of fun G H x y d e b Q sub wx wy q m => by
  subst hK
  obtain ⟨p, p', h1, h2, s1, s2, ev⟩ := eqD_dp sub wx wy q
  exact ⟨_, op_eqD hr.units, p, p', h1, h2, s1, s2, by rw [ev]; exact m⟩
theorem do_ne {k : Nat} (hr : Room k X.A) (hK : X.K = K := by rfl) : OpR X (compareOp .NotEq) (rB K neD) := opb_of fun G H x y d e b Q sub wx wy q m => by
  subst hK
  unfold neD at q
  cases q' : eqD d e with
  | none => rw [q'] at q; cases q
  | some b' =>
    rw [q'] at q
    cases q
    obtain ⟨p, p', h1, h2, s1, s2, ev⟩ := eqD_dp sub wx wy q'
    exact ⟨_, op_neD hr.units, p, p', h1, h2, s1, s2, by rw [ev]; exact m⟩

/-! ### order -/
def ltD : D → D → Option Bool
  | .int i, .int j => some (decide (i < j))
  | .str i, .str j => some (decide (i.cps.toList < j.cps.toList))
  | _, _ => none
def leD : D → D → Option Bool
  | .int i, .int j => some (decide (i ≤ j))
  | .str i, .str j => some (!decide (j.cps.toList < i.cps.toList))
  | _, _ => none
def gtD : D → D → Option Bool
  | .int i, .int j => some (decide (j < i))
  | _, _ => none
def geD : D → D → Option Bool
  | .int i, .int j => some (decide (j ≤ i))
  | _, _ => none
theorem do_lt : OpR X (compareOp .Lt) (rB K ltD) := opb_of fun G H x y d e b Q sub wx wy q m => by
  unfold ltD at q
  split at q
  · cases q
    exact ⟨_, op_lt, _, _, wrep_int wx, wrep_int wy, m⟩
  · cases q
    exact ⟨_, op_lt_str, _, _, wrep_str wx, wrep_str wy, m⟩
  · cases q
theorem do_le : OpR X (compareOp .LtE) (rB K leD) := opb_of fun G H x y d e b Q sub wx wy q m => by
  unfold leD at q
  split at q
  · cases q
    exact ⟨_, op_le, _, _, wrep_int wx, wrep_int wy, m⟩
  · cases q
    refine ⟨_, op_le_str, _, _, wrep_str wx, wrep_str wy, ?_⟩
    exact m
  · cases q
theorem do_gt : OpR X (compareOp .Gt) (rB K gtD) := opb_of fun G H x y d e b Q sub wx wy q m => by
  unfold gtD at q
  split at q
  · cases q
    exact ⟨_, op_gt, _, _, wrep_int wx, wrep_int wy, m⟩
  · cases q
theorem do_ge : OpR X (compareOp .GtE) (rB K geD) := opb_of fun G H x y d e b Q sub wx wy q m => by
  unfold geD at q
  split at q
  · cases q
    exact ⟨_, op_ge, _, _, wrep_int wx, wrep_int wy, m⟩
  · cases q

/-! ### arithmetic, concatenation -/
def addD : D → D → Option D
  | .int i, .int j => some (.int (i + j))
  | .str i, .str j => if szOk (i.length + j.length) then some (.str (i ++ j)) else none
  | .tup xs, .tup ys => if szOk (xs.length + ys.length) then some (.tup (xs ++ ys)) else none
  | .lst xs, .lst ys => if szOk (xs.length + ys.length) then some (.lst (xs ++ ys)) else none
  | _, _ => none
def subD : D → D → Option D
  | .int i, .int j => some (.int (i - j))
  | _, _ => none
def small64 (i : Int) : Bool := decide (i.natAbs < 18446744073709551616)
theorem small64_of {i : Int} (h : small64 i = true) : -(2 ^ 64) < i ∧ i < 2 ^ 64 := by
  have h := of_decide_eq_true h
  omega
def mulD : D → D → Option D
  | .int i, .int j => if small64 i || small64 j then some (.int (i * j)) else none
  | .lst xs, .int k => if decide (0 ≤ k ∧ k ≤ 1000) && decide (xs.length ≤ 1000) then some (.lst (List.replicate k.toNat xs).flatten) else none
  | .tup xs, .int k => if decide (1 ≤ k ∧ k ≤ 1000) && decide (xs.length ≤ 1000) && !xs.isEmpty then some (.tup (List.replicate k.toNat xs).flatten) else none
  | _, _ => none
def fdivD : D → D → Option D
  | .int i, .int j => if decide (0 < j ∧ j < 1073741824) then some (.int (i / j)) else none
  | _, _ => none
def modD : D → D → Option D
  | .int i, .int j => if decide (0 < j) then some (.int (i % j)) else none
  | _, _ => none
theorem RepL.rep {G : Hp} {vs : List V} {ds : List D} (r : RepL K G vs ds) : ∀ k : Nat, RepL K G (List.replicate k vs).flatten (List.replicate k ds).flatten
  | 0 => .nil
  | k + 1 => by
    rw [List.replicate_succ, List.replicate_succ, List.flatten_cons, List.flatten_cons]
    exact r.append (RepL.rep r k)
theorem do_add (hK : X.K = K := by rfl) : OpR X (binaryOp .Add) (rV K addD) := opr_of fun G H x y d e r Q sub wx wy q m => by
  subst hK
  unfold addD at q
  split at q
  · cases q
    exact ⟨_, op_add, _, _, wrep_int wx, wrep_int wy, m _ G H (.refl sub) (.int _)⟩
  · split at q
    · rename_i i j hz
      cases q
      exact ⟨_, op_add_str, _, _, wrep_str wx, wrep_str wy, szOk_le hz, m _ G H (.refl sub) (.str _)⟩
    · cases q
  · split at q
    · rename_i xs ys hz
      cases q
      obtain ⟨a, vs, rfl, ha, ra⟩ := wrep_tup wx
      obtain ⟨b, ws, rfl, hb, rb⟩ := wrep_tup wy
      refine ⟨_, op_catA, a, b, vs, ws, rfl, rfl, .of (sub _ _ ha), .of (sub _ _ hb), by rw [ra.length, rb.length]; exact szOk_le hz, fun e => ?_, fun _ e => ?_, fun _ _ p hp => ?_⟩
      · subst e
        cases ra
        exact m _ G H (.refl sub) (.tup hb rb)
      · subst e
        cases rb
        exact m _ G H (.refl sub) (.tup ha (by rw [List.append_nil]; exact ra))
      · exact res_new sub m hp fun G' s e => .tup e ((ra.append rb).mono s)
    · cases q
  · split at q
    · rename_i xs ys hz
      cases q
      obtain ⟨a, vs, rfl, ha, ra⟩ := wrep_lst sub wx
      obtain ⟨b, ws, rfl, hb, rb⟩ := wrep_lst sub wy
      exact ⟨_, op_cat, a, b, vs, ws, rfl, rfl, ha, hb, by rw [ra.length, rb.length]; exact szOk_le hz, fun p hp => res_new sub m hp fun G' s e => .lst e ((ra.append rb).mono s)⟩
    · cases q
  · cases q
theorem do_sub : OpR X (binaryOp .Sub) (rV K subD) := opr_of fun G H x y d e r Q sub wx wy q m => by
  unfold subD at q
  split at q
  · cases q
    exact ⟨_, op_sub, _, _, wrep_int wx, wrep_int wy, m _ G H (.refl sub) (.int _)⟩
  · cases q
/-- a tuple, once: itself -/
theorem tuple_mul1 (l : Addr) (items : Array Value) (n : Nat) (dd : Option Addr) (sl : Array (Option Value)) (u : Tok) :
    Meets (Builtin.«tuple.__mul__» ⟨[.ref l, .int 1 u], []⟩) (fun _ R s => s.heap.get? l = some { cls := .type "tuple", dict := dd, data := .seq items n, slots := sl } ∧ R (.ok (.ret (Value.ref l))) s) :=
  .of_wp fun prog w A R s h => by
    obtain ⟨hp, g, d, tk, os⟩ := s
    obtain ⟨hl, h⟩ := h
    have f1 := AutoSeq1.idx_int
    wp_walk using wpAny_loadPart' hl
    exact ⟨_, rfl, h⟩
def rRep1 (K : PySem.W.Frag) : R2 := fun x y H Q => ∃ l xs, x = .ref l ∧ y = .int 1 ∧ SqT K H l xs ∧ Q (.ref l) H
theorem op_rep1 : OpR X (binaryOp .Mult) (rRep1 X.K) := by
  intro pins s σ H x y v u Q I rx ry h
  obtain ⟨l, xs, rfl, rfl, hT, q⟩ := h
  cases rx
  obtain ⟨t, rfl⟩ := ry
  obtain ⟨its, r, ⟨⟨cls, dd, data, sl⟩, ho, hc, n, hd⟩, hs⟩ := I.tuple hT
  simp only at hc hd
  subst hc hd
  exact wpAny_binaryOp_repeat_ref (T := "tuple") (U := "int") (by decide) ⟨_, ho, rfl⟩ (fun s' => typeIs_int s' 1 t) noFill_tuple_mul F.fills_int_mul F.slot_int_rmul repeat_tuple F.slot_int_index.lookup
    (call_meets F.slot_int_rmul (typeIs_int s 1 t) F.entry_int_rmul (F.args_int_rmul_2 _ _) (int_rmul_tuple 1 t l its.toArray n dd sl)
      ⟨ho, rfl, ⟨_, ho, rfl⟩, call_meets F.slot_tuple_mul ⟨_, ho, rfl⟩ F.entry_tuple_mul (F.args_tuple_mul_2 _ _) (tuple_mul1 l its.toArray n dd sl t) ⟨ho, ⟨.ref l, H, I, rfl, q⟩⟩⟩)
theorem do_mul (hK : X.K = K := by rfl) : OpR X (binaryOp .Mult) (rV K mulD) := opr_of fun G H x y d e r Q sub wx wy q m => by
  subst hK
  unfold mulD at q
  split at q
  · split at q
    · rename_i i j hz
      cases q
      refine ⟨_, op_mul, _, _, wrep_int wx, wrep_int wy, ?_, m _ G H (.refl sub) (.int _)⟩
      rw [Bool.or_eq_true] at hz
      rcases hz with z | z
      · exact .inl (small64_of z)
      · exact .inr (small64_of z)
    · cases q
  · split at q
    · rename_i xs k hz
      cases q
      rw [Bool.and_eq_true, decide_eq_true_eq, decide_eq_true_eq] at hz
      obtain ⟨a, vs, rfl, ha, ra⟩ := wrep_lst sub wx
      refine ⟨_, op_rep, a, k, vs, rfl, wrep_int wy, ha, by omega, by omega, ?_, fun p hp => res_new sub m hp fun G' s e => .lst e ((ra.rep _).mono s)⟩
      rw [ra.length, sizeLine_eq]
      have h1 : k.toNat ≤ 1000 := by omega
      have := Nat.mul_le_mul hz.2 h1
      omega
    · cases q
  · split at q
    · rename_i xs k hz
      cases q
      simp only [Bool.and_eq_true, decide_eq_true_eq, Bool.not_eq_true'] at hz
      obtain ⟨a, vs, rfl, ha, ra⟩ := wrep_tup wx
      by_cases k1 : k = 1
      · subst k1
        refine ⟨_, op_rep1, a, vs, rfl, wrep_int wy, .of (sub _ _ ha), m _ G H (.refl sub) ?_⟩
        have e1 : (List.replicate (Int.toNat 1) xs).flatten = xs := by simp
        rw [e1]
        exact .tup ha ra
      refine ⟨_, op_repT, a, k, vs, rfl, wrep_int wy, .of (sub _ _ ha), ?_, by omega, hz.1.1.2, by rw [ra.length]; exact hz.1.2, fun p hp => res_new sub m hp fun G' s e => .tup e ((ra.rep _).mono s)⟩
      rintro rfl
      cases ra
      simp at hz
    · cases q
  · cases q
theorem do_fdiv : OpR X (binaryOp .FloorDiv) (rV K fdivD) := opr_of fun G H x y d e r Q sub wx wy q m => by
  unfold fdivD at q
  split at q
  · split at q
    · rename_i i j hz
      cases q
      exact ⟨_, op_fdiv, _, _, wrep_int wx, wrep_int wy, (show CDiv i j from (of_decide_eq_true hz : (0 : Int) < j ∧ j < 1073741824)), m _ G H (.refl sub) (.int _)⟩
    · cases q
  · cases q
theorem do_mod : OpR X (binaryOp .Mod) (rV K modD) := opr_of fun G H x y d e r Q sub wx wy q m => by
  unfold modD at q
  split at q
  · split at q
    · rename_i i j hz
      cases q
      exact ⟨_, op_mod, _, _, wrep_int wx, wrep_int wy, of_decide_eq_true hz, m _ G H (.refl sub) (.int _)⟩
    · cases q
  · cases q
end
end Pd

/-! Pd7: is, in; dicts read; subscripts, slices. -/
namespace Pd
open PySem PySem.Spec L2
variable {K : PySem.W.Frag}

/-! ### is -/
def isD : D → D → Option Bool
  | .non, .non => some true
  | .bl _, .non => some false
  | .int _, .non => some false
  | .str _, .non => some false
  | .tup _, .non => some false
  | .lst _, .non => some false
  | .dct _ _, .non => some false
  | .scr _, .non => some false
  | .pt _, .non => some false
  | .ldc _ _, .non => some false
  | .ob _, .non => some false
  | .bl a, .bl b => some (decide (a = b))
  | _, _ => none
theorem wrep_ref_ne {G H : Hp} {x : V} {d : D} (h : WRep K G H x d) : (match d with | .tup _ => True | .lst _ => True | .dct _ _ => True | .scr _ => True | .pt _ => True | .ldc _ _ => True | .ob _ => True | _ => False) → ∃ a, x = .ref a := by
  intro z
  rcases h with h | ⟨p, e, _, w⟩
  · cases h with
    | tup _ _ => exact ⟨_, rfl⟩
    | lst _ _ => exact ⟨_, rfl⟩
    | dK _ _ => exact ⟨_, rfl⟩
    | dT _ _ => exact ⟨_, rfl⟩
    | scr _ => exact ⟨_, rfl⟩
    | non => exact z.elim
    | bl _ => exact z.elim
    | int _ => exact z.elim
    | str _ => exact z.elim
    | fn _ => exact z.elim
    | pt _ _ _ => exact ⟨_, rfl⟩
    | lK _ _ => exact ⟨_, rfl⟩
    | lT _ _ => exact ⟨_, rfl⟩
    | ob _ => exact ⟨_, rfl⟩
  · exact ⟨p, e⟩
theorem isD_non {G H : Hp} {x : V} {d : D} {b : Bool} (h : WRep K G H x d) (q : isD d .non = some b) : decide (x = .non) = b := by
  cases d with
  | non => rw [wrep_non h]; cases q; rfl
  | bl i => rw [wrep_bl h]; cases q; rfl
  | int i => rw [wrep_int h]; cases q; rfl
  | str i => rw [wrep_str h]; cases q; rfl
  | fn v => cases q
  | pt v => obtain ⟨a, rfl⟩ := wrep_ref_ne h trivial; cases q; rfl
  | ldc _ _ => obtain ⟨a, rfl⟩ := wrep_ref_ne h trivial; cases q; rfl
  | ob _ => obtain ⟨a, rfl⟩ := wrep_ref_ne h trivial; cases q; rfl
  | tup _ => obtain ⟨a, rfl⟩ := wrep_ref_ne h trivial; cases q; rfl
  | lst _ => obtain ⟨a, rfl⟩ := wrep_ref_ne h trivial; cases q; rfl
  | dct _ _ => obtain ⟨a, rfl⟩ := wrep_ref_ne h trivial; cases q; rfl
  | scr _ => obtain ⟨a, rfl⟩ := wrep_ref_ne h trivial; cases q; rfl
def isntD (d e : D) : Option Bool := (isD d e).map (!·)
section
variable {X : Cx}
theorem do_is : OpR X (compareOp .Is) (rB K isD) := opb_of fun G H x y d e b Q sub wx wy q m => by
  cases e with
  | non => exact ⟨_, op_isN, wrep_non wy, by rw [isD_non wx q]; exact m⟩
  | bl j =>
    cases d with
    | bl i => cases q; exact ⟨_, op_isBl, i, j, wrep_bl wx, wrep_bl wy, m⟩
    | _ => cases q
  | _ => cases d <;> cases q
theorem do_isnt : OpR X (compareOp .IsNot) (rB K isntD) := opb_of fun G H x y d e b Q sub wx wy q m => by
  unfold isntD at q
  cases q' : isD d e with
  | none => rw [q'] at q; cases q
  | some b' =>
    rw [q'] at q
    cases q
    cases e with
    | non => exact ⟨_, op_notN, wrep_non wy, by rw [isD_non wx q']; exact m⟩
    | bl j =>
      cases d with
      | bl i => cases q'; exact ⟨_, op_notBl, i, j, wrep_bl wx, wrep_bl wy, m⟩
      | _ => cases q'
    | _ => cases d <;> cases q'
end

/-! ### dicts: what they hold -/
def keyD : D → Option Key
  | .int i => some (.inl i)
  | .str x => some (.inr x)
  | _ => none
def keysD : List D → Option (List Key)
  | [] => some []
  | d :: ds => (keyD d).bind fun k => (keysD ds).bind fun ks => some (k :: ks)
def keyTD : D → Option (List Key)
  | .tup ds => keysD ds
  | _ => none
theorem keyD_some {d : D} {k : Key} (h : keyD d = some k) : d = kD k := by
  cases d <;> first | (cases h; rfl) | cases h
theorem keysD_some : ∀ {ds : List D} {ks : List Key}, keysD ds = some ks → ds = ks.map kD
  | [], ks, h => by cases h; rfl
  | d :: ds, ks, h => by
    unfold keysD at h
    cases e1 : keyD d with
    | none => rw [e1] at h; cases h
    | some k =>
      rw [e1] at h
      cases e2 : keysD ds with
      | none => rw [e2] at h; cases h
      | some r =>
        rw [e2] at h
        cases h
        rw [List.map_cons, keyD_some e1, keysD_some e2]
theorem keyTD_some {d : D} {ks : List Key} (h : keyTD d = some ks) : d = .tup (ks.map kD) := by
  cases d with
  | tup ds => rw [keysD_some (show keysD ds = some ks from h)]
  | _ => cases h
theorem eqv_k (a b : Key) : eqv (kD a) (kD b) = decide (a = b) := by
  cases a <;> cases b <;> simp [kD, eqv, Bool.beq_eq_decide_eq]
theorem eqvs_k : ∀ (a b : List Key), eqvs (a.map kD) (b.map kD) = decide (a = b)
  | [], [] => rfl
  | [], _ :: _ => by simp [eqvs]
  | _ :: _, [] => by simp [eqvs]
  | a :: as, b :: bs => by
    simp only [List.map_cons, eqvs, eqv_k, eqvs_k as bs]
    by_cases h1 : a = b <;> by_cases h2 : as = bs <;> simp [h1, h2]
/-- may be a key -/
def okKey (t : Bool) (k : D) : Bool := if t then (keyTD k).isSome else (keyD k).isSome
def valD (kvs : List (D × D)) (k : D) : Option D := (kvs.find? fun kv => eqv kv.1 k).map (·.2)
def putD (kvs : List (D × D)) (k v : D) : List (D × D) := if kvs.any fun kv => eqv kv.1 k then kvs.map fun kv => if eqv kv.1 k then (kv.1, v) else kv else kvs ++ [(k, v)]
theorem valD_k {G : Hp} {k : Key} : ∀ {ks : List (Key × V)} {kvs : List (D × D)}, RepK K G ks kvs → (valV ks k = none ∧ valD kvs (kD k) = none) ∨ ∃ v d, valV ks k = some v ∧ valD kvs (kD k) = some d ∧ Rep K G v d
  | _, _, .nil => .inl ⟨rfl, rfl⟩
  | _, _, .cons (k := k') (v := v) (d := d) (kvs := kvs') h r => by
    by_cases e : k' = k
    · subst e
      exact .inr ⟨v, d, valV_pos rfl, by simp [valD, List.find?_cons, eqv_k], h⟩
    · rw [valV_neg (p := (k', v)) e]
      have z : valD ((kD k', d) :: kvs') (kD k) = valD kvs' (kD k) := by simp only [valD, List.find?_cons, eqv_k, decide_eq_false e]
      rw [z]
      exact valD_k r
theorem valD_t {G : Hp} {k : List Key} : ∀ {ks : List (List Key × V)} {kvs : List (D × D)}, RepT K G ks kvs → (valV ks k = none ∧ valD kvs (.tup (k.map kD)) = none) ∨ ∃ v d, valV ks k = some v ∧ valD kvs (.tup (k.map kD)) = some d ∧ Rep K G v d
  | _, _, .nil => .inl ⟨rfl, rfl⟩
  | _, _, .cons (k := k') (v := v) (d := d) (kvs := kvs') h r => by
    by_cases e : k' = k
    · subst e
      exact .inr ⟨v, d, valV_pos rfl, by simp [valD, List.find?_cons, eqv, eqvs_k], h⟩
    · rw [valV_neg (p := (k', v)) e]
      have z : valD ((D.tup (k'.map kD), d) :: kvs') (.tup (k.map kD)) = valD kvs' (.tup (k.map kD)) := by simp only [valD, List.find?_cons, eqv, eqvs_k, decide_eq_false e]
      rw [z]
      exact valD_t r
theorem repl_keys {G : Hp} : ∀ {ks : List Key} {vs : List V}, RepL K G vs (ks.map kD) → vs = ks.map kV
  | [], _, .nil => rfl
  | k :: ks, _, .cons h r => by
    rw [List.map_cons, repl_keys r]
    cases k with
    | inl i => cases h; rfl
    | inr x => cases h; rfl
theorem dget_of {G H : Hp} {x y : V} {t : Bool} {kvs : List (D × D)} {k : D} (sub : Sub G H) (wx : WRep K G H x (.dct t kvs)) (wy : WRep K G H y k) (ok : okKey t k = true) :
    ∃ a, x = .ref a ∧ ((DGet H a y none ∧ valD kvs k = none) ∨ ∃ v d, DGet H a y (some v) ∧ valD kvs k = some d ∧ Rep K G v d) := by
  cases t with
  | false =>
    obtain ⟨a, ks, rfl, ha, r⟩ := wrep_dK sub wx
    unfold okKey at ok
    rw [if_neg Bool.false_ne_true] at ok
    obtain ⟨k', hk⟩ := Option.isSome_iff_exists.mp ok
    obtain rfl := keyD_some hk
    have ey : y = kV k' := by
      cases k' with
      | inl i => exact wrep_int wy
      | inr z => exact wrep_str wy
    subst ey
    refine ⟨a, rfl, ?_⟩
    rcases valD_k (k := k') r with ⟨h1, h2⟩ | ⟨v, d, h1, h2, h3⟩
    · exact .inl ⟨by rw [← h1]; exact DGet.k ha, h2⟩
    · exact .inr ⟨v, d, by rw [← h1]; exact DGet.k ha, h2, h3⟩
  | true =>
    obtain ⟨a, ks, rfl, ha, r⟩ := wrep_dT sub wx
    unfold okKey at ok
    rw [if_pos rfl] at ok
    obtain ⟨k', hk⟩ := Option.isSome_iff_exists.mp ok
    obtain rfl := keyTD_some hk
    obtain ⟨b, vs, rfl, hb, rb⟩ := wrep_tup wy
    have ev := repl_keys rb
    subst ev
    refine ⟨a, rfl, ?_⟩
    rcases valD_t (k := k') r with ⟨h1, h2⟩ | ⟨v, d, h1, h2, h3⟩
    · exact .inl ⟨by rw [← h1]; exact DGet.t ha (sub _ _ hb), h2⟩
    · exact .inr ⟨v, d, by rw [← h1]; exact DGet.t ha (sub _ _ hb), h2, h3⟩

theorem dget_ofL {G H : Hp} {x y : V} {t : Bool} {kvs : List (D × D)} {k : D} (sub : Sub G H) (wx : WRep K G H x (.ldc t kvs)) (wy : WRep K G H y k) (ok : okKey t k = true) :
    ∃ a, x = .ref a ∧ ((DGet H a y none ∧ valD kvs k = none) ∨ ∃ v d, DGet H a y (some v) ∧ valD kvs k = some d ∧ Rep K G v d) := by
  have r0 : Rep K G x (.ldc t kvs) := by
    rcases wx with h | ⟨p, _, _, w⟩
    · exact h
    · exact w.elim
  cases r0 with
  | lK h r =>
    unfold okKey at ok
    rw [if_neg Bool.false_ne_true] at ok
    obtain ⟨k', hk⟩ := Option.isSome_iff_exists.mp ok
    obtain rfl := keyD_some hk
    have ey : y = kV k' := by
      cases k' with
      | inl i => exact wrep_int wy
      | inr z => exact wrep_str wy
    subst ey
    refine ⟨_, rfl, ?_⟩
    rcases valD_k (k := k') r with ⟨h1, h2⟩ | ⟨v, d, h1, h2, h3⟩
    · exact .inl ⟨.inl ⟨_, k', .inr ⟨_, sub _ _ h⟩, rfl, h1.symm⟩, h2⟩
    · exact .inr ⟨v, d, .inl ⟨_, k', .inr ⟨_, sub _ _ h⟩, rfl, h1.symm⟩, h2, h3⟩
  | lT h r =>
    unfold okKey at ok
    rw [if_pos rfl] at ok
    obtain ⟨k', hk⟩ := Option.isSome_iff_exists.mp ok
    obtain rfl := keyTD_some hk
    obtain ⟨b, vs, rfl, hb, rb⟩ := wrep_tup wy
    have ev := repl_keys rb
    subst ev
    refine ⟨_, rfl, ?_⟩
    rcases valD_t (k := k') r with ⟨h1, h2⟩ | ⟨v, d, h1, h2, h3⟩
    · exact .inl ⟨.inr ⟨_, k', b, .inr ⟨_, sub _ _ h⟩, rfl, sub _ _ hb, h1.symm⟩, h2⟩
    · exact .inr ⟨v, d, .inr ⟨_, k', b, .inr ⟨_, sub _ _ h⟩, rfl, sub _ _ hb, h1.symm⟩, h2, h3⟩

/-! ### in -/
def flatD : D → Bool
  | .non => true
  | .bl _ => true
  | .int _ => true
  | .str _ => true
  | _ => false
def oneSign (i : Str) : Option Nat := match i.cps.toList with
  | [c] => some c
  | _ => none
def inStr (i z : Str) : Bool := match oneSign i with
  | some c => decide (c ∈ z.cps.toList)
  | none => !(Builtin.Str.occurrences z i 0 z.length 1).isEmpty
def inD (x : D) : D → Option Bool
  | .lst ds => if okD 15 x && okD 16 (.lst ds) then some (ds.any fun d => eqv d x) else none
  | .tup ds => if flatD x && ds.all flatD then some (ds.any fun d => eqv d x) else if okD 15 x && okD 16 (.tup ds) then some (ds.any fun d => eqv d x) else none
  | .dct t kvs => if okKey t x then some (valD kvs x).isSome else none
  | .ldc t kvs => if okKey t x then some (valD kvs x).isSome else none
  | .str z => match x with
    | .str i => some (inStr i z)
    | _ => none
  | _ => none
def ninD (x y : D) : Option Bool := (inD x y).map (!·)
theorem rep_flat {G H : Hp} {v : V} {d : D} (f : flatD d = true) (h : WRep K G H v d) : flatV v = true := by
  cases d with
  | non => rw [wrep_non h]; rfl
  | bl i => rw [wrep_bl h]; rfl
  | int i => rw [wrep_int h]; rfl
  | str i => rw [wrep_str h]; rfl
  | _ => cases f
theorem eqV_D {G H : Hp} {v w : V} {d e : D} (f1 : flatD d = true) (f2 : flatD e = true) (h1 : WRep K G H v d) (h2 : WRep K G H w e) : eqV v w = eqv d e := by
  cases d <;> first
    | (cases f1; done)
    | (cases e <;> first
      | (cases f2; done)
      | (first | rw [wrep_non h1] | rw [wrep_bl h1] | rw [wrep_int h1] | rw [wrep_str h1]
         first | rw [wrep_non h2] | rw [wrep_bl h2] | rw [wrep_int h2] | rw [wrep_str h2]
         first | rfl | simp [eqV, eqv]))
theorem any_eqV {G H : Hp} {x : V} {d : D} (fx : flatD d = true) (hx : WRep K G H x d) : ∀ {vs : List V} {ds : List D}, RepL K G vs ds → ds.all flatD = true → vs.all flatV = true ∧ (vs.any fun y => eqV y x) = ds.any fun e => eqv e d
  | _, _, .nil, _ => ⟨rfl, rfl⟩
  | _, _, .cons h r, f => by
    simp only [List.all_cons, Bool.and_eq_true] at f
    obtain ⟨a, b⟩ := any_eqV fx hx r f.2
    exact ⟨by simp only [List.all_cons, a, rep_flat (H := H) f.1 (.inl h), Bool.and_self], by simp only [List.any_cons, b, eqV_D f.1 fx (.inl h) hx]⟩
theorem any_py {d : D} {n m : Nat} (hd : okD n d = true) : ∀ {ds : List D}, ds.all (okD m) = true → ((toPys ds).any fun z => PyData.eqv z (toPy d)) = ds.any fun e => eqv e d
  | [], _ => rfl
  | e :: ds, h => by
    simp only [List.all_cons, Bool.and_eq_true] at h
    simp only [toPys, List.any_cons, any_py hd h.2, eqv_py e d m n h.1 hd]
section
variable {X : Cx}
/-! x in a tuple, data of any depth -/
def rInT (K : PySem.W.Frag) : R2 := fun x y H Q => ∃ d ds, Dp K H x d ∧ Dp K H y (.tuple ds) ∧ SeqAt.shaped d = true ∧ SeqAt.shaped (.tuple ds) = true ∧ Q (.bl (ds.any fun z => PyData.eqv z d)) H
def rNotInT (K : PySem.W.Frag) : R2 := fun x y H Q => ∃ d ds, Dp K H x d ∧ Dp K H y (.tuple ds) ∧ SeqAt.shaped d = true ∧ SeqAt.shaped (.tuple ds) = true ∧ Q (.bl (!ds.any fun z => PyData.eqv z d)) H
theorem op_inT (hu : X.A.units + 65 < cLine) : OpR X (compareOp .In) (rInT X.K) := by
  intro pins s σ H x y v u Q I rx ry h
  obtain ⟨d, ds, hd, he, sd, se, q⟩ := h
  obtain ⟨as, r1⟩ := Dp.reads I d x v hd rx
  obtain ⟨bs, r2⟩ := Dp.reads I (.tuple ds) y u he ry
  exact SeqAt.in_tuple_reads r2 r1 (SeqAt.canLay_of_shaped se) (SeqAt.canLay_of_shaped sd) (PyProof.Rows.room_in_shaped sd hu) ⟨.bl _, H, I, rfl, q⟩
theorem op_notInT (hu : X.A.units + 65 < cLine) : OpR X (compareOp .NotIn) (rNotInT X.K) := by
  intro pins s σ H x y v u Q I rx ry h
  obtain ⟨d, ds, hd, he, sd, se, q⟩ := h
  obtain ⟨as, r1⟩ := Dp.reads I d x v hd rx
  obtain ⟨bs, r2⟩ := Dp.reads I (.tuple ds) y u he ry
  exact SeqAt.notIn_tuple_reads r2 r1 (SeqAt.canLay_of_shaped se) (SeqAt.canLay_of_shaped sd) (PyProof.Rows.room_in_shaped sd hu) ⟨.bl _, H, I, rfl, q⟩
theorem in_cases {G H : Hp} {x y : V} {d e : D} {b : Bool} {k : Nat} (hr : Room k X.A) (sub : Sub G H) (wx : WRep X.K G H x d) (wy : WRep X.K G H y e) (q : inD d e = some b) (Q : VK) :
    (Q (.bl b) H → ∃ rr : R2, OpR X (compareOp .In) rr ∧ rr x y H Q) ∧ (Q (.bl !b) H → ∃ rr : R2, OpR X (compareOp .NotIn) rr ∧ rr x y H Q) := by
  have hu : X.A.units + 1 < cLine := by have := hr.units; omega
  have hu2 : X.A.units + 65 < cLine := by have := hr.un; omega
  cases e with
  | lst ds =>
    simp only [inD] at q
    by_cases h : (okD 15 d && okD 16 (.lst ds)) = true
    · rw [if_pos h] at q
      obtain rfl := Option.some.inj q
      rw [Bool.and_eq_true] at h
      have p1 := wrep_dp sub h.1 wx
      have p2 := wrep_dp sub h.2 wy
      have s1 := okD_shaped h.1 (by decide)
      have s2 := okD_shaped h.2 (by decide)
      have ev := any_py (n := 15) (m := 15) h.1 (ds := ds) (by simpa [okD] using h.2)
      refine ⟨fun m => ⟨_, op_inD hu2, _, toPys ds, p1, p2, s1, s2, ?_⟩, fun m => ⟨_, op_notInD hu2, _, toPys ds, p1, p2, s1, s2, ?_⟩⟩
      · rw [ev]; exact m
      · rw [ev]; exact m
    · rw [if_neg h] at q; cases q
  | tup ds =>
    simp only [inD] at q
    by_cases h : (flatD d && ds.all flatD) = true
    · rw [if_pos h] at q
      obtain rfl := Option.some.inj q
      rw [Bool.and_eq_true] at h
      obtain ⟨a, vs, rfl, ha, r⟩ := wrep_tup wy
      obtain ⟨f, ev⟩ := any_eqV h.1 wx r h.2
      refine ⟨fun m => ⟨_, op_in_seq, a, vs, rfl, .inr (.of (sub _ _ ha)), rep_flat h.1 wx, f, ?_⟩, fun m => ⟨_, op_notIn_seq, a, vs, rfl, .inr (.of (sub _ _ ha)), rep_flat h.1 wx, f, ?_⟩⟩
      · rw [if_neg Bool.false_ne_true]
        unfold inV
        rw [ev]; exact m
      · rw [if_pos rfl]
        unfold inV
        rw [ev]; exact m
    · rw [if_neg h] at q
      by_cases h : (okD 15 d && okD 16 (.tup ds)) = true
      · rw [if_pos h] at q
        obtain rfl := Option.some.inj q
        rw [Bool.and_eq_true] at h
        have p1 := wrep_dp sub h.1 wx
        have p2 := wrep_dp sub h.2 wy
        have s1 := okD_shaped h.1 (by decide)
        have s2 := okD_shaped h.2 (by decide)
        have ev := any_py (n := 15) (m := 15) h.1 (ds := ds) (by simpa [okD] using h.2)
        refine ⟨fun m => ⟨_, op_inT hu2, _, toPys ds, p1, p2, s1, s2, ?_⟩, fun m => ⟨_, op_notInT hu2, _, toPys ds, p1, p2, s1, s2, ?_⟩⟩
        · rw [ev]; exact m
        · rw [ev]; exact m
      · rw [if_neg h] at q; cases q
  | dct t kvs =>
    simp only [inD] at q
    by_cases h : okKey t d = true
    · rw [if_pos h] at q
      obtain rfl := Option.some.inj q
      obtain ⟨a, rfl, z⟩ := dget_of sub wy wx h
      have fin : ∃ o, DGet H a x o ∧ o.isSome = (valD kvs d).isSome := by
        rcases z with ⟨z1, z2⟩ | ⟨v, w, z1, z2, _⟩
        · exact ⟨_, z1, by rw [z2]; rfl⟩
        · exact ⟨_, z1, by rw [z2]; rfl⟩
      obtain ⟨o, g, ho⟩ := fin
      refine ⟨fun m => ⟨fun x' y' H' Q' => ∃ a o, y' = .ref a ∧ DGet H' a x' o ∧ Q' (.bl o.isSome) H', ?_, a, o, rfl, g, by rw [ho]; exact m⟩, fun m => ⟨fun x' y' H' Q' => ∃ a o, y' = .ref a ∧ DGet H' a x' o ∧ Q' (.bl !o.isSome) H', ?_, a, o, rfl, g, by rw [ho]; exact m⟩⟩
      · rintro pins s σ H1 x1 y1 v u Q1 I rx ry ⟨a1, o1, rfl, g1, q1⟩
        obtain rfl : u = Value.ref a1 := ry
        exact d_in hu I g1 rx fun s3 I3 => ⟨.bl o1.isSome, H1, I3, rfl, q1⟩
      · rintro pins s σ H1 x1 y1 v u Q1 I rx ry ⟨a1, o1, rfl, g1, q1⟩
        obtain rfl : u = Value.ref a1 := ry
        exact d_notIn hu I g1 rx fun s3 I3 => ⟨.bl (!o1.isSome), H1, I3, rfl, q1⟩
    · rw [if_neg h] at q; cases q
  | ldc t kvs =>
    simp only [inD] at q
    by_cases h : okKey t d = true
    · rw [if_pos h] at q
      obtain rfl := Option.some.inj q
      obtain ⟨a, rfl, z⟩ := dget_ofL sub wy wx h
      have fin : ∃ o, DGet H a x o ∧ o.isSome = (valD kvs d).isSome := by
        rcases z with ⟨z1, z2⟩ | ⟨v, w, z1, z2, _⟩
        · exact ⟨_, z1, by rw [z2]; rfl⟩
        · exact ⟨_, z1, by rw [z2]; rfl⟩
      obtain ⟨o, g, ho⟩ := fin
      refine ⟨fun m => ⟨fun x' y' H' Q' => ∃ a o, y' = .ref a ∧ DGet H' a x' o ∧ Q' (.bl o.isSome) H', ?_, a, o, rfl, g, by rw [ho]; exact m⟩, fun m => ⟨fun x' y' H' Q' => ∃ a o, y' = .ref a ∧ DGet H' a x' o ∧ Q' (.bl !o.isSome) H', ?_, a, o, rfl, g, by rw [ho]; exact m⟩⟩
      · rintro pins s σ H1 x1 y1 v u Q1 I rx ry ⟨a1, o1, rfl, g1, q1⟩
        obtain rfl : u = Value.ref a1 := ry
        exact d_in hu I g1 rx fun s3 I3 => ⟨.bl o1.isSome, H1, I3, rfl, q1⟩
      · rintro pins s σ H1 x1 y1 v u Q1 I rx ry ⟨a1, o1, rfl, g1, q1⟩
        obtain rfl : u = Value.ref a1 := ry
        exact d_notIn hu I g1 rx fun s3 I3 => ⟨.bl (!o1.isSome), H1, I3, rfl, q1⟩
    · rw [if_neg h] at q; cases q
  | str z =>
    cases d with
    | str i =>
      cases q
      have e1 := wrep_str wx
      have e2 := wrep_str wy
      unfold inStr
      cases ho : oneSign i with
      | some c =>
        have ei : i = ⟨#[c]⟩ := by
          unfold oneSign at ho
          split at ho
          · rename_i c' hc
            cases ho
            obtain ⟨cps⟩ := i
            have : cps = #[c] := by
              apply Array.ext'
              simpa using hc
            rw [this]
          · cases ho
        subst ei
        exact ⟨fun m => ⟨_, op_in_sign, c, z, e1, e2, m⟩, fun m => ⟨_, op_notIn_sign, c, z, e1, e2, m⟩⟩
      | none => exact ⟨fun m => ⟨_, op_in_str, i, z, e1, e2, m⟩, fun m => ⟨_, op_notIn_str, i, z, e1, e2, m⟩⟩
    | _ => cases q
  | _ => cases q
theorem do_in {k : Nat} (hr : Room k X.A) (hK : X.K = K := by rfl) : OpR X (compareOp .In) (rB K inD) := opb_of fun G H x y d e b Q sub wx wy q m => by
  subst hK
  exact (in_cases hr sub wx wy q Q).1 m
theorem do_nin {k : Nat} (hr : Room k X.A) (hK : X.K = K := by rfl) : OpR X (compareOp .NotIn) (rB K ninD) := opb_of fun G H x y d e b Q sub wx wy q m => by
  subst hK
  unfold ninD at q
  cases q' : inD d e with
  | none => rw [q'] at q; cases q
  | some b' =>
    rw [q'] at q
    cases q
    exact (in_cases hr sub wx wy q' Q).2 m

/-! ### subscripts -/
def strAt (z : Str) (i : Int) : Option D := (atI z.cps.toList i).map fun c => .str ⟨#[c]⟩
def ixD : D → D → Option D
  | .lst ds, .int i => atI ds i
  | .tup ds, .int i => atI ds i
  | .scr ns, .int i => (atI ns i).map D.int
  | .str z, .int i => if szOk z.length then strAt z i else none
  | .dct t kvs, k => if okKey t k then valD kvs k else none
  | .ldc t kvs, k => if okKey t k then valD kvs k else none
  | _, _ => none
theorem at_rep {G : Hp} {vs : List V} {ds : List D} {i : Int} {d : D} (r : RepL K G vs ds) (h : atI ds i = some d) : ∃ v, atI vs i = some v ∧ Rep K G v d := by
  unfold atI at h ⊢
  rw [r.length]
  cases e : ixN ds.length i with
  | none => rw [e] at h; cases h
  | some j =>
    rw [e] at h
    exact r.get h
theorem at_ints {ns : List Int} {i n : Int} (h : atI ns i = some n) : atI (ns.map V.int) i = some (.int n) := by
  unfold atI at h ⊢
  rw [List.length_map]
  cases e : ixN ns.length i with
  | none => rw [e] at h; cases h
  | some j =>
    rw [e] at h
    have h' : ns[j]? = some n := h
    show (ns.map V.int)[j]? = some (.int n)
    rw [List.getElem?_map, h']
    rfl
def IxV (X : Cx) (K : PySem.W.Frag) : Prop := IxR X (rV K ixD)
theorem ix_ok (hu : X.A.units + 1 < cLine) (hK : X.K = K := by rfl) : IxR X (rV K ixD) := by
  subst hK
  intro value slice pins s σ H x y v u Q I rx ry ⟨G, d, e, sub, wx, wy, m⟩ hs
  cases q : ixD d e with
  | none => rw [q] at m; exact m.elim
  | some r =>
    rw [q] at m
    unfold ixD at q
    split at q
    · obtain ⟨a, vs, rfl, ha, rl⟩ := wrep_lst sub wx
      obtain ⟨z, hz, rz⟩ := at_rep rl q
      exact ix_list value slice pins s σ H _ y v u Q I rx ry ⟨a, vs, _, z, rfl, wrep_int wy, .of ha, hz, m _ G H (.refl sub) rz⟩ hs
    · obtain ⟨a, vs, rfl, ha, rl⟩ := wrep_tup wx
      obtain ⟨z, hz, rz⟩ := at_rep rl q
      exact ix_tup value slice pins s σ H _ y v u Q I rx ry ⟨a, vs, _, z, rfl, wrep_int wy, .of (sub _ _ ha), hz, m _ G H (.refl sub) rz⟩ hs
    · rename_i ns i
      obtain ⟨a, rfl, ha⟩ := wrep_scr wx
      cases q' : atI ns i with
      | none => rw [q'] at q; cases q
      | some n =>
        rw [q'] at q
        cases q
        exact ix_list value slice pins s σ H _ y v u Q I rx ry ⟨a, _, _, _, rfl, wrep_int wy, sub.seq ha, at_ints q', m _ G H (.refl sub) (.int _)⟩ hs
    · rename_i z i
      split at q
      · rename_i hz
        unfold strAt at q
        cases q' : atI z.cps.toList i with
        | none => rw [q'] at q; cases q
        | some c =>
          rw [q'] at q
          cases q
          exact ix_str value slice pins s σ H _ y v u Q I rx ry ⟨z, _, c, wrep_str wx, wrep_int wy, szOk_le hz, q', m _ G H (.refl sub) (.str _)⟩ hs
      · cases q
    · split at q
      · rename_i ok
        obtain ⟨a, rfl, z⟩ := dget_of sub wx wy ok
        rcases z with ⟨_, z2⟩ | ⟨v', d', z1, z2, z3⟩
        · rw [z2] at q; cases q
        · rw [z2] at q
          cases q
          obtain rfl : v = Value.ref a := rx
          exact PyProof.Rows.tail_any (dict_typeIs I z1) PySem.F.slot_dict_getitem.lookup (d_getItem hu I z1 ry fun w' s3 I3 rw' => ⟨v', H, I3, rw', m _ G H (.refl sub) z3⟩) hs
      · cases q
    · split at q
      · rename_i ok
        obtain ⟨a, rfl, z⟩ := dget_ofL sub wx wy ok
        rcases z with ⟨_, z2⟩ | ⟨v', d', z1, z2, z3⟩
        · rw [z2] at q; cases q
        · rw [z2] at q
          cases q
          obtain rfl : v = Value.ref a := rx
          exact PyProof.Rows.tail_any (dict_typeIs I z1) PySem.F.slot_dict_getitem.lookup (d_getItem hu I z1 ry fun w' s3 I3 rw' => ⟨v', H, I3, rw', m _ G H (.refl sub) z3⟩) hs
      · cases q
    · cases q
theorem de_ix {W : WN} {a b : Expr} {fa fb : Ev → R D} {pos : Pos} {k : Nat} (hr : Room k X.A) (ha : PE X a (exOf K .w W fa)) (hb : PE X b (exOf K .w W fb)) (hK : X.K = K := by rfl) (hs : PlainIx b := by intro _ _; rfl) : PE X (.Subscript a b pos) (exOf K .v W (eOp ixD fa fb)) :=
  pe_imp (pe_ix (ix_ok (by have := hr.units; omega) hK) ha hb hs) fun σ H Q h => ex2v h
theorem de_ixU {W : WN} {a b : Expr} {fa fb : Ev → R D} {pos : Pos} (hu : X.A.units + 64 < cLine) (ha : PE X a (exOf K .w W fa)) (hb : PE X b (exOf K .w W fb)) (hK : X.K = K := by rfl) (hs : PlainIx b := by intro _ _; rfl) : PE X (.Subscript a b pos) (exOf K .v W (eOp ixD fa fb)) :=
  pe_imp (pe_ix (ix_ok (by omega) hK) ha hb hs) fun σ H Q h => ex2v h
end
end Pd

/-! Pd8: slices; calls of built-ins; statements that change an own thing; raise. -/
namespace Pd
open PySem PySem.Spec L2
variable {K : PySem.W.Frag}

/-! ### slices -/
abbrev EO := Ev → R (Option Int)
def oNone : EO := fun _ => .ok none
def oSome (f : Ev → R D) : EO := fun ρ => (f ρ).bind fun d => match d with
  | .int i => .ok (some i)
  | _ => .bad
def toOf (K : PySem.W.Frag) (W : WN) (f : EO) : TO := fun σ H Q => ∃ G ρ, Stt K G ρ σ H ∧ match f ρ with
  | .ok o => ∀ G' H', Grow G H G' H' → Q o H'
  | .exc c => ∀ G' H', Grow G H G' H' → W c σ H'
  | .bad => False
def cutD {α : Type} (xs : List α) (lo hi : Option Int) : List α := (xs.drop (HT.sIx xs.length 0 lo)).take (HT.sIx xs.length xs.length hi - HT.sIx xs.length 0 lo)
def slD (lo hi : Option Int) : D → Option D
  | .lst ds => some (.lst (cutD ds lo hi))
  | .tup ds => some (.tup (cutD ds lo hi))
  | .pt ds => if decide (HT.sIx ds.length 0 lo = 0 ∧ HT.sIx ds.length ds.length hi = ds.length) then some (.pt ds) else some (.tup (cutD ds lo hi))
  | .str z => if szOk z.length then some (.str (cutS z lo hi)) else none
  | _ => none
def eSl (f : Ev → R D) (lo hi : EO) : Ev → R D := fun ρ => (f ρ).bind fun d => (lo ρ).bind fun l => (hi ρ).bind fun h => opt (slD l h d)
theorem RepL.cut {G : Hp} {vs : List V} {ds : List D} (r : RepL K G vs ds) (lo hi : Option Int) : RepL K G (cutV vs lo hi) (cutD ds lo hi) := by
  unfold cutV cutD
  rw [r.length]
  exact (r.drop _).take _
section
variable {X : Cx} {W : WN} {e : Expr} {f : Ev → R D} {lo hi : Option Expr} {fl fh : EO} {pos p2 : Pos}
theorem dpo_none : PO X none (toOf K W oNone) := ⟨fun pins s σ H Q I ⟨G, ρ, S, m⟩ => po_none.run pins s σ H Q I (m G H (.refl S.sub))⟩
theorem dpo_some (h : PE X e (exOf K .w W f)) : PO X (some e) (toOf K W (oSome f)) := ⟨fun pins s σ H Q I ⟨G, ρ, S, m⟩ => (po_some h).run pins s σ H Q I (by
  refine ⟨G, ρ, S, ?_⟩
  unfold oSome at m
  cases q : f ρ with
  | ok d =>
    simp only [q, R.bind_ok] at m
    intro v G' H' g r
    cases d with
    | int i => exact ⟨i, wrep_int r, m G' H' g⟩
    | _ => exact m.elim
  | exc c => simp only [q, R.bind_exc] at m; exact m
  | bad => simp only [q, R.bind_bad] at m)⟩
theorem sl_ok (hK : X.K = K) : SlR X (fun x lo hi H Q => ∃ G d, Sub G H ∧ WRep K G H x d ∧ ResK K .v G H Q (slD lo hi d)) := by
  subst hK
  rintro pins s σ H x v vl vu lo hi sl Q I rx hs pl pu ⟨G, d, sub, w, m⟩
  cases d with
  | lst ds =>
    obtain ⟨a, vs, rfl, ha, r⟩ := wrep_lst sub w
    exact sl_list pins s σ H _ v vl vu lo hi sl Q I rx hs pl pu ⟨a, vs, rfl, .of ha, fun p hp => res_new sub m hp fun G' s e => .lst e ((r.cut lo hi).mono s)⟩
  | tup ds =>
    obtain ⟨a, vs, rfl, ha, r⟩ := wrep_tup w
    refine sl_tupA pins s σ H _ v vl vu lo hi sl Q I rx hs pl pu ⟨a, vs, rfl, .of (sub _ _ ha), fun z => ?_, fun z p hp => res_new sub m hp fun G' s e => .tup e ((r.cut lo hi).mono s)⟩
    refine m _ G H (.refl sub) ?_
    have e : cutD ds lo hi = ds := by
      unfold cutD
      rw [r.length] at z
      rw [z.1, z.2, List.drop_zero, Nat.sub_zero, List.take_length]
    show Rep X.K G (.ref a) (.tup (cutD ds lo hi))
    rw [e]
    exact .tup ha r
  | pt ds =>
    obtain ⟨a, o, vs, rfl, ha, ho, r⟩ := wrep_pt w
    unfold slD at m
    refine sl_tupA pins s σ H _ v vl vu lo hi sl Q I rx hs pl pu ⟨a, vs, rfl, .inl (.inr ⟨o, sub _ _ ha⟩), fun z => ?_, fun z p hp => ?_⟩
    · rw [r.length] at z
      simp only [decide_eq_true z, if_true] at m
      exact m _ G H (.refl sub) (.pt ha ho r)
    · rw [r.length] at z
      simp only [decide_eq_false z, Bool.false_eq_true, if_false] at m
      exact res_new sub m hp fun G' s e => .tup e ((r.cut lo hi).mono s)
  | str z =>
    unfold slD at m
    cases hz : szOk z.length with
    | false => simp only [hz] at m; exact m.elim
    | true =>
      simp only [hz, if_true] at m
      exact sl_str pins s σ H _ v vl vu lo hi sl Q I rx hs pl pu ⟨z, wrep_str w, szOk_le hz, m _ G H (.refl sub) (.str _)⟩
  | _ => exact m.elim
theorem de_sl (h : PE X e (exOf K .w W f)) (hl : PO X lo (toOf K W fl)) (hh : PO X hi (toOf K W fh)) (hK : X.K = K := by rfl) : PE X (.Subscript e (.Slice lo hi none p2) pos) (exOf K .v W (eSl f fl fh)) := pe_imp (pe_slice (sl_ok hK) h hl hh) fun σ H Q ⟨G, ρ, S, m⟩ => by
  refine ⟨G, ρ, S, ?_⟩
  unfold eSl at m
  cases q : f ρ with
  | ok d =>
    simp only [q, R.bind_ok] at m
    intro v G1 H1 g1 r1
    refine ⟨G1, ρ, S.grow g1, ?_⟩
    cases q2 : fl ρ with
    | ok l =>
      simp only [q2, R.bind_ok] at m
      intro G2 H2 g2
      refine ⟨G2, ρ, (S.grow g1).grow g2, ?_⟩
      cases q3 : fh ρ with
      | ok u =>
        simp only [q3, R.bind_ok] at m
        intro G3 H3 g3
        refine ⟨G3, d, g3.gh, WRep.grow g3 (WRep.grow g2 r1), ?_⟩
        cases q4 : slD l u d with
        | none => simp only [q4, opt_none] at m
        | some r => simp only [q4, opt_some] at m; exact fun v G' H' g r => m v G' H' (((g1.trans g2).trans g3).trans g) r
      | exc c => simp only [q3, R.bind_exc] at m; exact fun G' H' g => m G' H' ((g1.trans g2).trans g)
      | bad => simp only [q3, R.bind_bad] at m
    | exc c => simp only [q2, R.bind_exc] at m; exact fun G' H' g => m G' H' (g1.trans g)
    | bad => simp only [q2, R.bind_bad] at m
  | exc c => simp only [q, R.bind_exc] at m; exact m
  | bad => simp only [q, R.bind_bad] at m
end

/-! ### calls of built-ins -/
/-- by one argument, read only -/
def rC1 (K : PySem.W.Frag) (k : Kn) (g : D → Option D) : List V → Hp → VK → Prop := fun xs H Q => ∃ G x d, xs = [x] ∧ Sub G H ∧ WRep K G H x d ∧ ResK K k G H Q (g d)
/-- by arguments known for ever -/
def rCn (K : PySem.W.Frag) (k : Kn) (g : List D → Option D) : List V → Hp → VK → Prop := fun xs H Q => ∃ G ds, Sub G H ∧ RepL K G xs ds ∧ ResK K k G H Q (g ds)
def e1 (g : D → Option D) (f : Ev → R D) : Ev → R D := fun ρ => (f ρ).bind fun d => opt (g d)
def en (g : List D → Option D) (f : Ev → R (List D)) : Ev → R D := fun ρ => (f ρ).bind fun d => opt (g d)
section
variable {X : Cx} {W : WN} {a e : Expr} {es : List Expr} {f : Ev → R D} {fa : Ev → R (List D)} {k : Kn} {g : D → Option D} {gn : List D → Option D} {x : Str} {p pos : Pos} {id T : String}
theorem c1_run {σ : L2.St} {H : Hp} {Q : VK} (h : exOf K k W (e1 g f) σ H Q) : tCB (rC1 K k g) (tCons (exOf K .w W f) tNil) σ H Q :=
  ex1 (K := K) (k := k) (f := f) (g := g) (r := fun x H Q => rC1 K k g [x] H Q) (fun G H x d Q sub w m => ⟨G, x, d, rfl, sub, w, m⟩) h
theorem de_cb1 (hc : CallR X (.builtin id) (rC1 K k g)) (hm : X.mg x = none) (hv : bootBuiltins x = some (.builtin id)) (ha : PE X a (exOf K .w W f)) (hg : Gl X x := by rfl) (hn : x ≠ "__name__" := by decide) (hdb : (x == ("__debug__" : Str)) = false := by decide)
    (hs : starEach (a :: []) X.env = (false, eval a X.env) :: starEach [] X.env := by rfl) (hpl : (backTo pos (starEach [] X.env)).any (·.1) = false := by rfl) : PE X (.Call (.Name x p) [a] [] pos) (exOf K k W (e1 g f)) :=
  pe_imp (pe_callB hc hg hm hv (pa_cons ha pa_nil hs) hn hdb hs hpl) fun σ H Q h => c1_run h
theorem de_ct1 (hc : CallR X (.type T) (rC1 K k g)) (hm : X.mg x = none) (hv : bootBuiltins x = some (.type T)) (ha : PE X a (exOf K .w W f)) (hg : Gl X x := by rfl) (hn : x ≠ "__name__" := by decide) (hdb : (x == ("__debug__" : Str)) = false := by decide)
    (hs : starEach (a :: []) X.env = (false, eval a X.env) :: starEach [] X.env := by rfl) (hpl : (backTo pos (starEach [] X.env)).any (·.1) = false := by rfl) : PE X (.Call (.Name x p) [a] [] pos) (exOf K k W (e1 g f)) :=
  pe_imp (pe_callTy hc hg hm hv (pa_cons ha pa_nil hs) hn hdb hs hpl) fun σ H Q h => c1_run h
theorem de_cbn (hc : CallR X (.builtin id) (rCn K k gn)) (hm : X.mg x = none) (hv : bootBuiltins x = some (.builtin id)) (ha : PA X (e :: es) (taOf K W fa)) (hg : Gl X x := by rfl) (hn : x ≠ "__name__" := by decide) (hdb : (x == ("__debug__" : Str)) = false := by decide)
    (he : starEach (e :: es) X.env = (false, eval e X.env) :: starEach es X.env := by rfl) (hpl : (backTo pos (starEach es X.env)).any (·.1) = false := by rfl) :
    PE X (.Call (.Name x p) (e :: es) [] pos) (exOf K k W (en gn fa)) :=
  pe_imp (pe_callB hc hg hm hv ha hn hdb he hpl) fun σ H Q h => exA (K := K) (g := gn) (r := rCn K k gn) (fun G H xs ds Q sub r m => ⟨G, ds, sub, r, m⟩) h
theorem de_ctn (hc : CallR X (.type T) (rCn K k gn)) (hm : X.mg x = none) (hv : bootBuiltins x = some (.type T)) (ha : PA X (e :: es) (taOf K W fa)) (hg : Gl X x := by rfl) (hn : x ≠ "__name__" := by decide) (hdb : (x == ("__debug__" : Str)) = false := by decide)
    (he : starEach (e :: es) X.env = (false, eval e X.env) :: starEach es X.env := by rfl) (hpl : (backTo pos (starEach es X.env)).any (·.1) = false := by rfl) :
    PE X (.Call (.Name x p) (e :: es) [] pos) (exOf K k W (en gn fa)) :=
  pe_imp (pe_callTy hc hg hm hv ha hn hdb he hpl) fun σ H Q h => exA (K := K) (g := gn) (r := rCn K k gn) (fun G H xs ds Q sub r m => ⟨G, ds, sub, r, m⟩) h
theorem cr1_of {fv : Value} (h : ∀ G H x d r (Q : VK), Sub G H → WRep K G H x d → g d = some r → (∀ v G' H', Grow G H G' H' → KRep K k G H G' H' v r → Q v H') → ∃ rr : List V → Hp → VK → Prop, CallR X fv rr ∧ rr [x] H Q) : CallR X fv (rC1 K k g) := by
  rintro pins s σ H xs us Q I r ⟨G, x, d, rfl, sub, w, m⟩
  cases q : g d with
  | none => rw [q] at m; exact m.elim
  | some b =>
    rw [q] at m
    obtain ⟨rr, c, hr⟩ := h G H x d b Q sub w q m
    exact c pins s σ H [x] us Q I r hr
theorem crn_of {fv : Value} (h : ∀ G H xs ds r (Q : VK), Sub G H → RepL K G xs ds → gn ds = some r → (∀ v G' H', Grow G H G' H' → KRep K k G H G' H' v r → Q v H') → ∃ rr : List V → Hp → VK → Prop, CallR X fv rr ∧ rr xs H Q) : CallR X fv (rCn K k gn) := by
  rintro pins s σ H xs us Q I r ⟨G, ds, sub, w, m⟩
  cases q : gn ds with
  | none => rw [q] at m; exact m.elim
  | some b =>
    rw [q] at m
    obtain ⟨rr, c, hr⟩ := h G H xs ds b Q sub w q m
    exact c pins s σ H xs us Q I r hr
/-- len -/
def lenD : D → Option D
  | .lst ds => some (.int ds.length)
  | .tup ds => some (.int ds.length)
  | .scr ns => some (.int ns.length)
  | .pt ds => some (.int ds.length)
  | .str z => if szOk z.length then some (.int z.length) else none
  | .dct false kvs => some (.int kvs.length)
  | _ => none
theorem RepK.length {G : Hp} : ∀ {ks : List (Key × V)} {kvs : List (D × D)}, RepK K G ks kvs → ks.length = kvs.length
  | _, _, .nil => rfl
  | _, _, .cons _ r => by rw [List.length_cons, List.length_cons, RepK.length r]
theorem do_len (hK : X.K = K := by rfl) : CallR X (.builtin "len") (rC1 K .v lenD) := cr1_of fun G H x d r Q sub w q m => by
  subst hK
  cases d with
  | lst ds =>
    cases q
    obtain ⟨a, vs, rfl, ha, rl⟩ := wrep_lst sub w
    exact ⟨_, call_len_seq, a, vs, rfl, .inl (.of ha), m _ G H (.refl sub) (by rw [rl.length]; exact .int _)⟩
  | tup ds =>
    cases q
    obtain ⟨a, vs, rfl, ha, rl⟩ := wrep_tup w
    exact ⟨_, call_len_seq, a, vs, rfl, .inr (.of (sub _ _ ha)), m _ G H (.refl sub) (by rw [rl.length]; exact .int _)⟩
  | pt ds =>
    cases q
    obtain ⟨a, o, vs, rfl, ha, _, rl⟩ := wrep_pt w
    exact ⟨_, call_len_seq, a, vs, rfl, .inr (.inl (.inr ⟨o, sub _ _ ha⟩)), m _ G H (.refl sub) (by rw [rl.length]; exact .int _)⟩
  | scr ns =>
    cases q
    obtain ⟨a, rfl, ha⟩ := wrep_scr w
    exact ⟨_, call_len_seq, a, _, rfl, .inl (sub.seq ha), m _ G H (.refl sub) (by rw [List.length_map]; exact .int _)⟩
  | str z =>
    simp only [lenD] at q
    cases hz : szOk z.length with
    | false => rw [hz, if_neg Bool.false_ne_true] at q; cases q
    | true =>
      rw [hz, if_pos rfl] at q
      cases q
      exact ⟨_, call_len_str, z, by rw [wrep_str w], szOk_le hz, m _ G H (.refl sub) (.int _)⟩
  | dct t kvs =>
    cases t with
    | true => cases q
    | false =>
      cases q
      obtain ⟨a, ks, rfl, ha, rl⟩ := wrep_dK sub w
      exact ⟨_, call_lenD, a, ks, rfl, ha, m _ G H (.refl sub) (by rw [RepK.length rl]; exact .int _)⟩
  | _ => cases q
/-- list(x): new; tuple(x) -/
def listD : D → Option D
  | .lst ds => some (.lst ds)
  | .tup ds => some (.lst ds)
  | .dct false kvs => some (.lst (kvs.map (·.1)))
  | _ => none
def tupD : D → Option D
  | .lst ds => some (.tup ds)
  | .tup ds => some (.tup ds)
  | _ => none
theorem RepK.keys {G : Hp} : ∀ {ks : List (Key × V)} {kvs : List (D × D)}, RepK K G ks kvs → RepL K G (ks.map fun kv => kV kv.1) (kvs.map (·.1))
  | _, _, .nil => .nil
  | _, _, .cons (k := k) _ r => .cons (by cases k with
    | inl i => exact .int i
    | inr x => exact .str x) (RepK.keys r)
theorem res_own {G H : Hp} {Q : VK} {p : Addr} {xs : List V} {ds : List D} (s : Sub G H) (q : ∀ v G' H', Grow G H G' H' → KRep K .o G H G' H' v (.lst ds) → Q v H') (hp : H p = none) (r : RepL K G xs ds) : Q (.ref p) (upd H p (.lst xs)) :=
  q _ _ _ (.more s hp) ⟨p, rfl, .of hp, s.free hp, xs, upd_same, r⟩
theorem do_list (hc : X.calm = true := by rfl) (hK : X.K = K := by rfl) : CallR X (.type "list") (rC1 K .o listD) := cr1_of fun G H x d r Q sub w q m => by
  subst hK
  cases d with
  | lst ds =>
    cases q
    obtain ⟨a, vs, rfl, ha, rl⟩ := wrep_lst sub w
    exact ⟨_, call_list_of, a, vs, rfl, .inl (.of ha), fun l hl => res_own sub m hl rl⟩
  | tup ds =>
    cases q
    obtain ⟨a, vs, rfl, ha, rl⟩ := wrep_tup w
    exact ⟨_, call_list_of, a, vs, rfl, .inr (.of (sub _ _ ha)), fun l hl => res_own sub m hl rl⟩
  | dct t kvs =>
    cases t with
    | true => cases q
    | false =>
      cases q
      obtain ⟨a, ks, rfl, ha, rl⟩ := wrep_dK sub w
      exact ⟨_, call_list_dK hc, a, ks, rfl, ha, fun l hl => res_own sub m hl (RepK.keys rl)⟩
  | _ => cases q
theorem do_tuple (hK : X.K = K := by rfl) : CallR X (.type "tuple") (rC1 K .v tupD) := cr1_of fun G H x d r Q sub w q m => by
  subst hK
  cases d with
  | lst ds =>
    cases q
    obtain ⟨a, vs, rfl, ha, rl⟩ := wrep_lst sub w
    exact ⟨_, call_tuple_of, a, vs, rfl, .inl ⟨.of ha, fun l hl => res_new sub m hl fun G' s e => .tup e (rl.mono s)⟩⟩
  | tup ds =>
    cases q
    obtain ⟨a, vs, rfl, ha, rl⟩ := wrep_tup w
    exact ⟨_, call_tuple_of, a, vs, rfl, .inr ⟨.of (sub _ _ ha), m _ G H (.refl sub) (.tup ha rl)⟩⟩
  | _ => cases q
/-- list(range(..)) -/
def rgD (a b : Int) : List D := (List.range (b - a).toNat).map fun i => .int (a + (i : Nat))
/-- all, any of truths -/
def blsD : List D → Option (List Bool)
  | [] => some []
  | .bl b :: ds => (blsD ds).map (b :: ·)
  | _ :: _ => none
def allD : D → Option D
  | .lst ds => (blsD ds).map fun bs => .bl (bs.all _root_.id)
  | _ => none
def anyD : D → Option D
  | .lst ds => (blsD ds).map fun bs => .bl (bs.any _root_.id)
  | _ => none
theorem bls_rep {G : Hp} : ∀ {vs : List V} {ds : List D} {bs : List Bool}, RepL K G vs ds → blsD ds = some bs → vs = bs.map V.bl
  | _, _, _, .nil, h => by cases h; rfl
  | _, _, _, .cons (d := d) (ds := ds) h r, q => by
    cases d with
    | bl b =>
      cases h
      cases e : blsD ds with
      | none => simp [blsD, e] at q
      | some bs =>
        simp [blsD, e] at q
        subst q
        rw [List.map_cons, ← bls_rep r e]
    | _ => simp [blsD] at q
theorem do_all (hc : X.calm = true := by rfl) (hK : X.K = K := by rfl) : CallR X (.builtin "all") (rC1 K .v allD) := cr1_of fun G H x d r Q sub w q m => by
  subst hK
  cases d with
  | lst ds =>
    obtain ⟨a, vs, rfl, ha, rl⟩ := wrep_lst sub w
    simp only [allD] at q
    cases e : blsD ds with
    | none => rw [e] at q; cases q
    | some bs =>
      rw [e] at q
      cases q
      have ev := bls_rep rl e
      subst ev
      exact ⟨_, cr_all hc, a, bs, rfl, .of ha, m _ G H (.refl sub) (.bl _)⟩
  | _ => cases q
theorem do_any (hc : X.calm = true := by rfl) (hK : X.K = K := by rfl) : CallR X (.builtin "any") (rC1 K .v anyD) := cr1_of fun G H x d r Q sub w q m => by
  subst hK
  cases d with
  | lst ds =>
    obtain ⟨a, vs, rfl, ha, rl⟩ := wrep_lst sub w
    simp only [anyD] at q
    cases e : blsD ds with
    | none => rw [e] at q; cases q
    | some bs =>
      rw [e] at q
      cases q
      have ev := bls_rep rl e
      subst ev
      exact ⟨_, cr_any hc, a, bs, rfl, .of ha, m _ G H (.refl sub) (.bl _)⟩
  | _ => cases q
/-- ints -/
def intsD : List D → Option (List Int)
  | [] => some []
  | .int b :: ds => (intsD ds).map (b :: ·)
  | _ :: _ => none
theorem ints_rep {G : Hp} : ∀ {vs : List V} {ds : List D} {bs : List Int}, RepL K G vs ds → intsD ds = some bs → vs = bs.map V.int
  | _, _, _, .nil, h => by cases h; rfl
  | _, _, _, .cons (d := d) (ds := ds) h r, q => by
    cases d with
    | int b =>
      cases h
      cases e : intsD ds with
      | none => simp [intsD, e] at q
      | some bs =>
        simp [intsD, e] at q
        subst q
        rw [List.map_cons, ← ints_rep r e]
    | _ => simp [intsD] at q
def sortI (ns : List Int) : List Int := ns.mergeSort fun a b => decide (a ≤ b)
theorem sortI_perm (ns : List Int) : (sortI ns).Perm ns := List.mergeSort_perm _ _
theorem sortI_le (ns : List Int) : (sortI ns).Pairwise (· ≤ ·) := by
  have h := List.pairwise_mergeSort (le := fun a b : Int => decide (a ≤ b)) (fun a b c h1 h2 => by simp at *; omega) (fun a b => by simp; omega) ns
  exact h.imp fun h => by simpa using h
theorem sorted_uniq {a b : List Int} (p : a.Perm b) (h1 : a.Pairwise (· ≤ ·)) (h2 : b.Pairwise (· ≤ ·)) : a = b :=
  List.Perm.eq_of_pairwise (fun x y _ _ h1 h2 => Int.le_antisymm h1 h2) h1 h2 p
def sortedD : D → Option D
  | .lst ds => (intsD ds).bind fun ns => if decide (ns.length < 64) then some (.lst ((sortI ns).map D.int)) else none
  | _ => none
theorem do_sorted (hK : X.K = K := by rfl) : CallR X (.builtin "sorted") (rC1 K .o sortedD) := cr1_of fun G H x d r Q sub w q m => by
  subst hK
  cases d with
  | lst ds =>
    obtain ⟨a, vs, rfl, ha, rl⟩ := wrep_lst sub w
    simp only [sortedD] at q
    cases e : intsD ds with
    | none => rw [e] at q; cases q
    | some ns =>
      rw [e] at q
      simp only [Option.bind_some] at q
      split at q
      · rename_i hz
        cases q
        have ev := ints_rep rl e
        subst ev
        refine ⟨_, cr_sorted, a, ns, rfl, .of ha, of_decide_eq_true hz, fun ns' p h1 h2 hp => ?_⟩
        have en : ns' = sortI ns := sorted_uniq (h1.trans (sortI_perm ns).symm) h2 (sortI_le ns)
        rw [en]
        exact res_own sub m hp (RepL.ints _)
      · cases q
  | _ => cases q
def sumD : D → Option D
  | .lst ds => (intsD ds).map fun ns => .int ns.sum
  | _ => none
theorem do_sum (hc : X.calm = true := by rfl) (hK : X.K = K := by rfl) : CallR X (.builtin "sum") (rC1 K .v sumD) := cr1_of fun G H x d r Q sub w q m => by
  subst hK
  cases d with
  | lst ds =>
    obtain ⟨a, vs, rfl, ha, rl⟩ := wrep_lst sub w
    simp only [sumD] at q
    cases e : intsD ds with
    | none => rw [e] at q; cases q
    | some bs =>
      rw [e] at q
      cases q
      have ev := ints_rep rl e
      subst ev
      exact ⟨_, cr_sum hc, a, bs, rfl, .of ha, m _ G H (.refl sub) (.int _)⟩
  | _ => cases q
def maxI : List Int → Option Int
  | [] => none
  | n :: ns => some (ns.foldl max n)
theorem foldl_max (ns : List Int) : ∀ n, (ns.foldl max n ∈ n :: ns) ∧ ∀ y ∈ n :: ns, y ≤ ns.foldl max n := by
  induction ns with
  | nil => intro n; simp
  | cons a ns ih =>
    intro n
    obtain ⟨h1, h2⟩ := ih (max n a)
    rw [List.foldl_cons]
    refine ⟨?_, fun y hy => ?_⟩
    · rcases List.mem_cons.mp h1 with h | h
      · rw [h]
        by_cases z : n ≤ a
        · rw [Int.max_eq_right z]; simp
        · rw [Int.max_eq_left (by omega)]; simp
      · simp [h]
    · have h3 := h2 (max n a) List.mem_cons_self
      rcases List.mem_cons.mp hy with rfl | hy
      · exact Int.le_trans (Int.le_max_left _ _) h3
      · rcases List.mem_cons.mp hy with rfl | hy
        · exact Int.le_trans (Int.le_max_right _ _) h3
        · exact h2 y (List.mem_cons_of_mem _ hy)
def maxD : D → Option D
  | .lst ds => (intsD ds).bind fun ns => (maxI ns).map D.int
  | _ => none
theorem do_max (hc : X.calm = true := by rfl) (hK : X.K = K := by rfl) : CallR X (.builtin "max") (rC1 K .v maxD) := cr1_of fun G H x d r Q sub w q m => by
  subst hK
  cases d with
  | lst ds =>
    obtain ⟨a, vs, rfl, ha, rl⟩ := wrep_lst sub w
    simp only [maxD] at q
    cases e : intsD ds with
    | none => rw [e] at q; cases q
    | some bs =>
      rw [e] at q
      simp only [Option.bind_some] at q
      cases bs with
      | nil => cases q
      | cons n ns =>
        cases q
        have ev := ints_rep rl e
        subst ev
        refine ⟨_, cr_max hc, a, n :: ns, rfl, .of ha, by simp, fun mx h1 h2 => ?_⟩
        obtain ⟨h3, h4⟩ := foldl_max ns n
        have : mx = ns.foldl max n := Int.le_antisymm (h4 mx h1) (h2 _ h3)
        rw [this]
        exact m _ G H (.refl sub) (.int _)
  | _ => cases q
def max2D : List D → Option D
  | [.int i, .int j] => some (.int (if j > i then j else i))
  | _ => none
def min2D : List D → Option D
  | [.int i, .int j] => some (.int (if j < i then j else i))
  | _ => none
theorem repl_two {G : Hp} {xs : List V} {a b : D} (r : RepL K G xs [a, b]) : ∃ x y, xs = [x, y] ∧ Rep K G x a ∧ Rep K G y b := by
  cases r with
  | cons h1 r =>
    cases r with
    | cons h2 r =>
      cases r
      exact ⟨_, _, rfl, h1, h2⟩
theorem do_max2 (hc : X.calm = true := by rfl) : CallR X (.builtin "max") (rCn K .v max2D) := crn_of fun G H xs ds r Q sub w q m => by
  unfold max2D at q
  split at q
  · cases q
    obtain ⟨x, y, rfl, h1, h2⟩ := repl_two w
    cases h1
    cases h2
    exact ⟨_, call_max2 hc, _, _, rfl, m _ G H (.refl sub) (.int _)⟩
  · cases q
theorem do_min2 (hc : X.calm = true := by rfl) : CallR X (.builtin "min") (rCn K .v min2D) := crn_of fun G H xs ds r Q sub w q m => by
  unfold min2D at q
  split at q
  · cases q
    obtain ⟨x, y, rfl, h1, h2⟩ := repl_two w
    cases h1
    cases h2
    exact ⟨_, call_min2 hc, _, _, rfl, m _ G H (.refl sub) (.int _)⟩
  · cases q
def absD : D → Option D
  | .int i => some (.int (if i < 0 then -i else i))
  | _ => none
theorem do_abs : CallR X (.builtin "abs") (rC1 K .v absD) := cr1_of fun G H x d r Q sub w q m => by
  cases d with
  | int i => cases q; exact ⟨_, call_abs, i, by rw [wrep_int w], m _ G H (.refl sub) (.int _)⟩
  | _ => cases q
def intD : D → Option D
  | .int i => some (.int i)
  | .bl b => some (.int (if b then 1 else 0))
  | _ => none
theorem do_int : CallR X (.type "int") (rC1 K .v intD) := cr1_of fun G H x d r Q sub w q m => by
  cases d with
  | int i => cases q; exact ⟨_, call_int1, .inl ⟨i, by rw [wrep_int w], m _ G H (.refl sub) (.int _)⟩⟩
  | bl i => cases q; exact ⟨_, call_int1, .inr ⟨i, by rw [wrep_bl w], m _ G H (.refl sub) (.int _)⟩⟩
  | _ => cases q
def strD : D → Option D
  | .int i => if decide (i.natAbs.log2 < 1920) then some (.str (toString i)) else none
  | _ => none
theorem do_str : CallR X (.type "str") (rC1 K .v strD) := cr1_of fun G H x d r Q sub w q m => by
  cases d with
  | int i =>
    simp only [strD] at q
    split at q
    · rename_i hz
      cases q
      exact ⟨_, call_str_int, i, by rw [wrep_int w], of_decide_eq_true hz, m _ G H (.refl sub) (.str _)⟩
    · cases q
  | _ => cases q
/-- -n -/
def negD : D → Option D
  | .int i => some (.int (-i))
  | _ => none
theorem de_neg (ha : PE X a (exOf K .w W f)) : PE X (.UnaryOp .USub a pos) (exOf K .v W (e1 negD f)) := pe_imp (pe_un un_neg ha) fun σ H Q h =>
  ex1 (K := K) (f := f) (g := negD) (fun G H x d Q sub w m => by
    cases d with
    | int i => exact ⟨i, wrep_int w, m _ G H (.refl sub) (.int _)⟩
    | _ => exact m.elim) h
end
end Pd

/-! Pd9: statements that change a thing of the slot's own; raise; isinstance. -/
namespace Pd
open PySem PySem.Spec L2
variable {K : PySem.W.Frag}

/-! ### x.append(e), x.extend(e), y = x.pop(i) -/
def ownL (ρ : Ev) (i : Nat) : Option (List D) := match ρ[i]? with
  | some (.own (.lst ds)) => some ds
  | _ => none
theorem ownL_some {ρ : Ev} {i : Nat} {ds : List D} (h : ownL ρ i = some ds) : ρ[i]? = some (.own (.lst ds)) := by
  unfold ownL at h
  split at h
  · rename_i ds' e
    cases h
    exact e
  · cases h
def sApp (i : Nat) (f : Ev → R D) : Ev → O := fun ρ => match ownL ρ i with
  | some ds => (f ρ).out ρ fun d => if szOk (ds.length + 1) then .nx (ρ.set i (.own (.lst (ds ++ [d])))) else .bad
  | none => .bad
def sExt (i : Nat) (f : Ev → R D) : Ev → O := fun ρ => match ownL ρ i with
  | some ds => (f ρ).out ρ fun d => match d with
    | .lst es => if szOk (ds.length + es.length) then .nx (ρ.set i (.own (.lst (ds ++ es)))) else .bad
    | _ => .bad
  | none => .bad
section
variable {X : Cx} {W : WN} {e : Expr} {f : Ev → R D} {pos apos cpos xpos : Pos} {x : Str}
theorem szOk_lt {n : Nat} (h : szOk (n + 1) = true) : n < sizeLine := szOk_le h
theorem ds_app (i : Nat) (he : PE X e (exOf K .v W f)) (hK : X.K = K := by rfl) (hN : X.N[i]? = some x := by rfl) (hv : Vis X.env.scope x := by first | exact Or.inl rfl | exact Or.inr (Or.inl rfl) | exact Or.inr (Or.inr rfl)) (hd : (x == ("__debug__" : Str)) = false := by decide)
    (hcd : (x == ("__classdict__" : Str)) = false := by decide)
    (hbase : attributeBase (.Name x xpos) "append" X.env (eval (.Name x xpos) X.env) = eval (.Name x xpos) X.env := by rfl)
    (hfew : ((backTo cpos (starEach (e :: []) X.env)).all (fun x => !x.1) && (backToKw cpos (keywordEach [] X.env)).all (fun x => x.1.isSome)
      && decide ((e :: ([] : List Expr)).length + ([] : List Keyword).length + (if ([] : List Keyword).isEmpty then 0 else 1) < 30)) = true := by rfl)
    (hline : (apos.endLine == cpos.line) = true := by rfl) (hs1 : starEach (e :: []) X.env = (false, eval e X.env) :: starEach [] X.env := by rfl) (hplain : (backTo cpos (starEach [] X.env)).any (·.1) = false := by rfl)
    (hs : swapsWith (.Call (.Attribute (.Name x xpos) "append" apos) [e] [] cpos) none pos.line X.env = pure false := by rfl) :
    PS X (.Expr (.Call (.Attribute (.Name x xpos) "append" apos) [e] [] cpos) pos) (tsOf K W (sApp i f)) := ps_imp (ps_expr (pe_bm PySem.F.plainAttrs_list PySem.F.slot_list_append PySem.F.type_list_append mt_append (pe_var hN hv hd hcd) (pa_cons he pa_nil hs1) hbase hfew hline hs1 hplain) hs) fun E σ H ⟨B, G, ρ, S, m⟩ => by
  subst hK
  unfold sApp at m
  cases q : ownL ρ i with
  | none => simp only [q] at m; exact m.elim
  | some ds =>
    simp only [q] at m
    have ho := ownL_some q
    obtain ⟨p, hp, gn, vs, hvs, r⟩ := S.st.sl i _ ho
    refine ⟨_, hp, .inl ⟨rfl, vs, .of hvs⟩, ?_⟩
    refine ex_then (k := .v) S m fun d v G' H' S' g rv m' => ?_
    obtain ⟨p', hp', gn', vs', hvs', r'⟩ := S'.st.sl i _ ho
    rw [hp] at hp'
    cases hp'
    split at m'
    · rename_i hz
      refine ⟨p, vs', v, rfl, rfl, hvs', by rw [r'.length]; exact szOk_lt hz, ?_⟩
      exact m' G' σ _ (S'.mut ho hp gn' ⟨_, upd_same, r'.append (.cons rv .nil)⟩) g.gg
    · exact m'.elim
theorem ds_ext (i : Nat) (he : PE X e (exOf K .w W f)) (hK : X.K = K := by rfl) (hN : X.N[i]? = some x := by rfl) (hv : Vis X.env.scope x := by first | exact Or.inl rfl | exact Or.inr (Or.inl rfl) | exact Or.inr (Or.inr rfl)) (hd : (x == ("__debug__" : Str)) = false := by decide)
    (hcd : (x == ("__classdict__" : Str)) = false := by decide)
    (hbase : attributeBase (.Name x xpos) "extend" X.env (eval (.Name x xpos) X.env) = eval (.Name x xpos) X.env := by rfl)
    (hfew : ((backTo cpos (starEach (e :: []) X.env)).all (fun x => !x.1) && (backToKw cpos (keywordEach [] X.env)).all (fun x => x.1.isSome)
      && decide ((e :: ([] : List Expr)).length + ([] : List Keyword).length + (if ([] : List Keyword).isEmpty then 0 else 1) < 30)) = true := by rfl)
    (hline : (apos.endLine == cpos.line) = true := by rfl) (hs1 : starEach (e :: []) X.env = (false, eval e X.env) :: starEach [] X.env := by rfl) (hplain : (backTo cpos (starEach [] X.env)).any (·.1) = false := by rfl)
    (hs : swapsWith (.Call (.Attribute (.Name x xpos) "extend" apos) [e] [] cpos) none pos.line X.env = pure false := by rfl) :
    PS X (.Expr (.Call (.Attribute (.Name x xpos) "extend" apos) [e] [] cpos) pos) (tsOf K W (sExt i f)) := ps_imp (ps_expr (pe_bm PySem.F.plainAttrs_list PySem.F.slot_list_extend PySem.F.type_list_extend mt_extend (pe_var hN hv hd hcd) (pa_cons he pa_nil hs1) hbase hfew hline hs1 hplain) hs) fun E σ H ⟨B, G, ρ, S, m⟩ => by
  subst hK
  unfold sExt at m
  cases q : ownL ρ i with
  | none => simp only [q] at m; exact m.elim
  | some ds =>
    simp only [q] at m
    have ho := ownL_some q
    obtain ⟨p, hp, gn, vs, hvs, r⟩ := S.st.sl i _ ho
    refine ⟨_, hp, .inl ⟨rfl, vs, .of hvs⟩, ?_⟩
    refine ex_then (k := .w) S m fun d v G' H' S' g rv m' => ?_
    obtain ⟨p', hp', gn', vs', hvs', r'⟩ := S'.st.sl i _ ho
    rw [hp] at hp'
    cases hp'
    cases d with
    | lst es =>
      simp only at m'
      split at m'
      · rename_i hz
        obtain ⟨b, ws, rfl, hb, rb⟩ := wrep_lst S'.st.sub rv
        refine ⟨p, b, vs', ws, rfl, rfl, hvs', hb, by rw [r'.length, rb.length]; exact szOk_le hz, ?_⟩
        exact m' G' σ _ (S'.mut ho hp gn' ⟨_, upd_same, r'.append rb⟩) g.gg
      · exact m'.elim
    | _ => exact m'.elim
/-- y = x.pop(k), k written -/
def sPopAt (o : Nat) (i : Nat) (k : Int) : Ev → O := fun ρ => match ownL ρ i with
  | some ds => match ixN ds.length k, atI ds k with
    | some j, some d => .nx ((ρ.set i (.own (.lst (ds.eraseIdx j)))).set o (.val d))
    | _, _ => .bad
  | none => .bad
theorem ds_popAt (o i : Nat) {y : Str} {k : Int} {kk : Nat} {kpos ypos : Pos} (hNd : X.N.Nodup) (hy : X.N[o]? = some y) (hyl : Loc X.env.scope y) (hk : -(2 ^ 63) ≤ k ∧ k < 2 ^ 63 := by decide) (hK : X.K = K := by rfl) (hN : X.N[i]? = some x := by rfl) (hv : Vis X.env.scope x := by first | exact Or.inl rfl | exact Or.inr (Or.inl rfl) | exact Or.inr (Or.inr rfl)) (hd : (x == ("__debug__" : Str)) = false := by decide)
    (hcd : (x == ("__classdict__" : Str)) = false := by decide)
    (hbase : attributeBase (.Name x xpos) "pop" X.env (eval (.Name x xpos) X.env) = eval (.Name x xpos) X.env := by rfl)
    (hfew : ((backTo cpos (starEach ((.Constant (.int k) kk kpos) :: []) X.env)).all (fun x => !x.1) && (backToKw cpos (keywordEach [] X.env)).all (fun x => x.1.isSome)
      && decide (((.Constant (.int k) kk kpos : Expr) :: ([] : List Expr)).length + ([] : List Keyword).length + (if ([] : List Keyword).isEmpty then 0 else 1) < 30)) = true := by rfl)
    (hline : (apos.endLine == cpos.line) = true := by rfl) (hs1 : starEach ((.Constant (.int k) kk kpos) :: []) X.env = (false, eval (.Constant (.int k) kk kpos) X.env) :: starEach [] X.env := by rfl) (hplain : (backTo cpos (starEach [] X.env)).any (·.1) = false := by rfl)
    (hs : swapsWith (.Call (.Attribute (.Name x xpos) "pop" apos) [.Constant (.int k) kk kpos] [] cpos) (some (.Name y ypos)) pos.line X.env = pure false := by rfl) (hf : X.fn y = true ∨ X.env.scope.names.lookup y = some .local := by first | exact .inl rfl | exact .inr rfl | assumption) :
    PS X (.Assign [.Name y ypos] (.Call (.Attribute (.Name x xpos) "pop" apos) [.Constant (.int k) kk kpos] [] cpos) pos) (tsOf K W (sPopAt o i k)) := ps_imp (ps_set hNd hy hyl (pe_bm PySem.F.plainAttrs_list PySem.F.slot_list_pop PySem.F.type_list_pop mt_popAt (pe_var hN hv hd hcd) (pa_cons pe_int pa_nil hs1) hbase hfew hline hs1 hplain) hs hf) fun E σ H ⟨B, G, ρ, S, m⟩ => by
  subst hK
  unfold sPopAt at m
  cases q : ownL ρ i with
  | none => simp only [q] at m; exact m.elim
  | some ds =>
    simp only [q] at m
    have ho := ownL_some q
    obtain ⟨p, hp, gn, vs, hvs, r⟩ := S.st.sl i _ ho
    cases q1 : ixN ds.length k with
    | none => simp only [q1] at m; exact m.elim
    | some j =>
      cases q2 : atI ds k with
      | none => simp only [q1, q2] at m; exact m.elim
      | some d =>
        simp only [q1, q2] at m
        obtain ⟨v, hv', rv⟩ := at_rep r q2
        obtain ⟨j', s1, s2, _, _⟩ := atI_get hv'
        have ej : j' = j := by
          have := (ixN_seq (n := vs.length) (i := k) (j := j) (by rw [r.length]; exact q1)).1
          rw [this] at s1
          exact (Option.some.inj s1).symm
        subst ej
        refine ⟨_, hp, .inl ⟨rfl, vs, .of hvs⟩, p, vs, k, j', v, rfl, rfl, hvs, hk.1, hk.2, s1, s2, ?_⟩
        exact m G _ _ (good_setv (S.mut ho hp gn ⟨_, upd_same, r.eraseIdx j'⟩) rv) (.refl _)

/-! ### x[i] = e of a list, of a dict -/
def ownD (ρ : Ev) (i : Nat) : Option D := match ρ[i]? with
  | some (.own d) => some d
  | _ => none
theorem ownD_some {ρ : Ev} {i : Nat} {d : D} (h : ownD ρ i = some d) : ρ[i]? = some (.own d) := by
  unfold ownD at h
  split at h
  · rename_i ds' e
    cases h
    exact e
  · cases h
def sPutL (i : Nat) (fi f : Ev → R D) : Ev → O := fun ρ => match ownL ρ i with
  | some ds => (f ρ).out ρ fun d => (fi ρ).out ρ fun k => match k with
    | .int n => match ixN ds.length n with
      | some j => .nx (ρ.set i (.own (.lst (ds.set j d))))
      | none => .bad
    | _ => .bad
  | none => .bad
theorem ds_putL (i : Nat) {ie : Expr} {fi : Ev → R D} {tpos : Pos} (he : PE X e (exOf K .v W f)) (hi : PE X ie (exOf K .w W fi)) (hN : X.N[i]? = some x := by rfl) (hv : Vis X.env.scope x := by first | exact Or.inl rfl | exact Or.inr (Or.inl rfl) | exact Or.inr (Or.inr rfl)) (hd : (x == ("__debug__" : Str)) = false := by decide)
    (hcd : (x == ("__classdict__" : Str)) = false := by decide)
    (ha : ∀ v, assign (.Subscript (.Name x xpos) ie tpos) X.env v = (do
      let ov ← holding [v] (eval (.Name x xpos) X.env)
      let iv ← holding [v, ov] (eval ie X.env)
      standAt tpos
      holding [v, ov, iv] (setItem ov iv v)
      release [v, ov, iv] []) := by intro _; rfl)
    (hs : swapsWithSole [.Subscript (.Name x xpos) ie tpos] e pos.line X.env = pure false := by rfl) (hw : swappedStores [.Subscript (.Name x xpos) ie tpos] e X.env = pure none := by rfl)
    (h1 : (assignEach [.Subscript (.Name x xpos) ie tpos] X.env).map (·.2) = [assign (.Subscript (.Name x xpos) ie tpos) X.env] := by rfl) :
    PS X (.Assign [.Subscript (.Name x xpos) ie tpos] e pos) (tsOf K W (sPutL i fi f)) := ps_imp (ps_asg he (pg_sub (pe_var hN hv hd hcd) hi set_list ha) hs hw h1) fun E σ H ⟨B, G, ρ, S, m⟩ => by
  unfold sPutL at m
  cases q : ownL ρ i with
  | none => simp only [q] at m; exact m.elim
  | some ds =>
    simp only [q] at m
    refine ex_then (k := .v) S m fun d v G1 H1 S1 g1 rv m1 => ?_
    have ho := ownL_some q
    obtain ⟨p, hp, gn, vs, hvs, r⟩ := S1.st.sl i _ ho
    refine ⟨_, hp, ?_⟩
    refine ex_then (k := .w) S1 (OutP.later g1.gg m1) fun k u G2 H2 S2 g2 ru m2 => ?_
    obtain ⟨p', hp', gn', vs', hvs', r'⟩ := S2.st.sl i _ ho
    rw [hp] at hp'
    cases hp'
    cases k with
    | int n =>
      simp only at m2
      cases q3 : ixN ds.length n with
      | none => simp only [q3] at m2; exact m2.elim
      | some j =>
        simp only [q3] at m2
        exact ⟨p, vs', n, j, rfl, wrep_int ru, hvs', by rw [r'.length]; exact q3, m2 G2 σ _ (S2.mut ho hp gn' ⟨_, upd_same, r'.set (Rep.mono g2.gg rv) j⟩) g2.gg⟩
    | _ => exact m2.elim
def ownM (ρ : Ev) (i : Nat) : Option (Bool × List (D × D)) := match ρ[i]? with
  | some (.own (.dct t kvs)) => some (t, kvs)
  | _ => none
theorem ownM_some {ρ : Ev} {i : Nat} {t : Bool} {kvs : List (D × D)} (h : ownM ρ i = some (t, kvs)) : ρ[i]? = some (.own (.dct t kvs)) := by
  unfold ownM at h
  split at h
  · rename_i e
    cases h
    exact e
  · cases h
def sPutD (i : Nat) (fi f : Ev → R D) : Ev → O := fun ρ => match ownM ρ i with
  | some (t, kvs) => (f ρ).out ρ fun d => (fi ρ).out ρ fun k => if okKey t k && szOk (kvs.length + 1) then .nx (ρ.set i (.own (.dct t (putD kvs k d)))) else .bad
  | none => .bad
theorem any_k {G : Hp} {k : Key} : ∀ {ks : List (Key × V)} {kvs : List (D × D)}, RepK K G ks kvs → (ks.any fun kv => decide (kv.1 = k)) = kvs.any fun kv => eqv kv.1 (kD k)
  | _, _, .nil => rfl
  | _, _, .cons h r => by simp only [List.any_cons, any_k r, eqv_k]
theorem any_t {G : Hp} {k : List Key} : ∀ {ks : List (List Key × V)} {kvs : List (D × D)}, RepT K G ks kvs → (ks.any fun kv => decide (kv.1 = k)) = kvs.any fun kv => eqv kv.1 (.tup (k.map kD))
  | _, _, .nil => rfl
  | _, _, .cons h r => by simp only [List.any_cons, any_t r, eqv, eqvs_k]
theorem RepK.repl {G : Hp} {k : Key} {v : V} {d : D} (h : Rep K G v d) : ∀ {ks : List (Key × V)} {kvs : List (D × D)}, RepK K G ks kvs → RepK K G (ks.map fun kv => if kv.1 = k then (kv.1, v) else kv) (kvs.map fun kv => if eqv kv.1 (kD k) then (kv.1, d) else kv)
  | _, _, .nil => .nil
  | _, _, .cons (k := k') g r => by
    rw [List.map_cons, List.map_cons]
    by_cases e : k' = k
    · subst e
      simp only [eqv_k, decide_true, if_true]
      exact .cons h (RepK.repl h r)
    · simp only [eqv_k, decide_eq_false e, if_neg e, if_neg Bool.false_ne_true]
      exact .cons g (RepK.repl h r)
theorem RepT.repl {G : Hp} {k : List Key} {v : V} {d : D} (h : Rep K G v d) : ∀ {ks : List (List Key × V)} {kvs : List (D × D)}, RepT K G ks kvs → RepT K G (ks.map fun kv => if kv.1 = k then (kv.1, v) else kv) (kvs.map fun kv => if eqv kv.1 (.tup (k.map kD)) then (kv.1, d) else kv)
  | _, _, .nil => .nil
  | _, _, .cons (k := k') g r => by
    rw [List.map_cons, List.map_cons]
    by_cases e : k' = k
    · subst e
      simp only [eqv, eqvs_k, decide_true, if_true]
      exact .cons h (RepT.repl h r)
    · simp only [eqv, eqvs_k, decide_eq_false e, if_neg e, if_neg Bool.false_ne_true]
      exact .cons g (RepT.repl h r)
theorem RepK.snoc {G : Hp} {k : Key} {v : V} {d : D} (h : Rep K G v d) : ∀ {ks : List (Key × V)} {kvs : List (D × D)}, RepK K G ks kvs → RepK K G (ks ++ [(k, v)]) (kvs ++ [(kD k, d)])
  | _, _, .nil => .cons h .nil
  | _, _, .cons g r => .cons g (RepK.snoc h r)
theorem RepT.snoc {G : Hp} {k : List Key} {v : V} {d : D} (h : Rep K G v d) : ∀ {ks : List (List Key × V)} {kvs : List (D × D)}, RepT K G ks kvs → RepT K G (ks ++ [(k, v)]) (kvs ++ [(.tup (k.map kD), d)])
  | _, _, .nil => .cons h .nil
  | _, _, .cons g r => .cons g (RepT.snoc h r)
theorem RepK.put {G : Hp} {k : Key} {v : V} {d : D} (h : Rep K G v d) {ks : List (Key × V)} {kvs : List (D × D)} (r : RepK K G ks kvs) : RepK K G (putK ks k v) (putD kvs (kD k) d) := by
  unfold putK putD
  rw [any_k r]
  split
  · exact RepK.repl h r
  · exact RepK.snoc h r
theorem RepT.put {G : Hp} {k : List Key} {v : V} {d : D} (h : Rep K G v d) {ks : List (List Key × V)} {kvs : List (D × D)} (r : RepT K G ks kvs) : RepT K G (putK ks k v) (putD kvs (.tup (k.map kD)) d) := by
  unfold putK putD
  rw [any_t r]
  split
  · exact RepT.repl h r
  · exact RepT.snoc h r
theorem RepT.length {G : Hp} : ∀ {ks : List (List Key × V)} {kvs : List (D × D)}, RepT K G ks kvs → ks.length = kvs.length
  | _, _, .nil => rfl
  | _, _, .cons _ r => by rw [List.length_cons, List.length_cons, RepT.length r]
theorem dput_of {G H : Hp} {p : Addr} {y v : V} {t : Bool} {kvs : List (D × D)} {k d : D} (sub : Sub G H) (w : OwnAt K G H p (.dct t kvs)) (wy : WRep K G H y k) (ok : okKey t k = true) (hz : szOk (kvs.length + 1) = true) (rv : Rep K G v d) :
    ∃ o', DPut H p y v (upd H p o') ∧ OwnAt K G (upd H p o') p (.dct t (putD kvs k d)) := by
  cases t with
  | false =>
    obtain ⟨ks, hk, r⟩ := w
    unfold okKey at ok
    rw [if_neg Bool.false_ne_true] at ok
    obtain ⟨k', hk'⟩ := Option.isSome_iff_exists.mp ok
    obtain rfl := keyD_some hk'
    have ey : y = kV k' := by
      cases k' with
      | inl i => exact wrep_int wy
      | inr z => exact wrep_str wy
    subst ey
    exact ⟨_, DPut.k hk (by rw [RepK.length r]; exact szOk_lt hz), _, upd_same, RepK.put rv r⟩
  | true =>
    obtain ⟨ks, hk, r⟩ := w
    unfold okKey at ok
    rw [if_pos rfl] at ok
    obtain ⟨k', hk'⟩ := Option.isSome_iff_exists.mp ok
    obtain rfl := keyTD_some hk'
    obtain ⟨b, vs, rfl, hb, rb⟩ := wrep_tup wy
    have ev := repl_keys rb
    subst ev
    exact ⟨_, DPut.t hk (sub _ _ hb) (by rw [RepT.length r]; exact szOk_lt hz), _, upd_same, RepT.put rv r⟩
theorem ds_putD (i : Nat) {ie : Expr} {fi : Ev → R D} {tpos : Pos} {k : Nat} (hr : Room k X.A) (he : PE X e (exOf K .v W f)) (hi : PE X ie (exOf K .w W fi)) (hN : X.N[i]? = some x := by rfl) (hv : Vis X.env.scope x := by first | exact Or.inl rfl | exact Or.inr (Or.inl rfl) | exact Or.inr (Or.inr rfl)) (hd : (x == ("__debug__" : Str)) = false := by decide)
    (hcd : (x == ("__classdict__" : Str)) = false := by decide) (hs : swapsWith e (some (.Subscript (.Name x xpos) ie tpos)) pos.line X.env = pure false := by rfl) :
    PS X (.Assign [.Subscript (.Name x xpos) ie tpos] e pos) (tsOf K W (sPutD i fi f)) := ps_imp (ps_dput (hu_of hr) (pe_var hN hv hd hcd) hi he hs) fun E σ H ⟨B, G, ρ, S, m⟩ => by
  unfold sPutD at m
  cases q : ownM ρ i with
  | none => simp only [q] at m; exact m.elim
  | some tk =>
    obtain ⟨t, kvs⟩ := tk
    simp only [q] at m
    refine ex_then (k := .v) S m fun d v G1 H1 S1 g1 rv m1 => ?_
    have ho := ownM_some q
    obtain ⟨p, hp, gn, w⟩ := S1.st.sl i _ ho
    refine ⟨_, hp, ?_⟩
    refine ex_then (k := .w) S1 (OutP.later g1.gg m1) fun k u G2 H2 S2 g2 ru m2 => ?_
    obtain ⟨p', hp', gn', w'⟩ := S2.st.sl i _ ho
    rw [hp] at hp'
    cases hp'
    split at m2
    · rename_i hz
      rw [Bool.and_eq_true] at hz
      obtain ⟨o', g, w2⟩ := dput_of S2.st.sub w' ru hz.1 hz.2 (Rep.mono g2.gg rv)
      exact ⟨p, _, rfl, g, m2 G2 σ _ (S2.mut ho hp gn' w2) g2.gg⟩
    · exact m2.elim
/-- {} -/
theorem de_dnewK : PE X (.Dict [] [] pos) (exOf K .o W (eC (.dct false []))) := pe_imp pe_dnewK fun σ H Q ⟨G, ρ, S, m⟩ p hp => m _ _ _ (.more S.sub hp) ⟨p, rfl, .of hp, S.sub.free hp, [], upd_same, .nil⟩
theorem de_dnewT : PE X (.Dict [] [] pos) (exOf K .o W (eC (.dct true []))) := pe_imp pe_dnewT fun σ H Q ⟨G, ρ, S, m⟩ p hp => m _ _ _ (.more S.sub hp) ⟨p, rfl, .of hp, S.sub.free hp, [], upd_same, .nil⟩

/-! ### raise -/
/-- a class of refusals of the program's own -/
structure ExcK (K : PySem.W.Frag) (mg : Str → Option Value) (c : Str) : Prop where
  ex : ∃ C, mg c = some (.ref C) ∧ PySem.W.excIn K C [.type "ValueError", .type "Exception", .type "BaseException", .type "object"] "ValueError.__new__" = true ∧ PySem.W.keepIn K (.ref C) = true ∧
    PySem.W.subIn K (.ref C) (.type "BaseException") = some true ∧ PySem.W.typeIn K (.ref C) = some (.type "type")
def sRaise (c : Str) : Ev → O := fun ρ => .exc c ρ
theorem ds_raise {c m : Str} {j : Nat} {p p2 cp : Pos} (T : ExcK X.K X.mg c) (tk : Tk X W) (hc : X.calm = true := by rfl) (hg : Gl X c := by rfl) (hdb : (c == ("__debug__" : Str)) = false := by decide) :
    PS X (.Raise (some (.Call (.Name c p) [.Constant (.str m) j p2] [] cp)) none pos) (tsOf K W (sRaise c)) := by
  obtain ⟨C, gC, hx, kC, hb, ht⟩ := T.ex
  obtain ⟨Wx, tk, im⟩ := tk
  exact ps_imp (ps_raise hc tk (pmk_own PySem.F.excBase_ValueError hx gC kC (raises_own hb ht) hg hdb)) fun E σ H ⟨B, G, ρ, S, m⟩ => im c C σ H gC (m G σ H S (.refl _))

/-! ### isinstance -/
inductive Ty where
  | int | bool | str | tuple | list | dict
def Ty.nm : Ty → String
  | .int => "int"
  | .bool => "bool"
  | .str => "str"
  | .tuple => "tuple"
  | .list => "list"
  | .dict => "dict"
def tyD : D → Option String
  | .non => some "NoneType"
  | .bl _ => some "bool"
  | .int _ => some "int"
  | .str _ => some "str"
  | .tup _ => some "tuple"
  | .lst _ => some "list"
  | .dct _ _ => some "dict"
  | .pt _ => some "tuple"
  | _ => none
def isD1 : D → Ty → Bool
  | .bl _, .int => true
  | .bl _, .bool => true
  | .int _, .int => true
  | .str _, .str => true
  | .tup _, .tuple => true
  | .pt _, .tuple => true
  | .lst _, .list => true
  | .dct _ _, .dict => true
  | _, _ => false
theorem kit_bool : ∀ t : Ty, kitB "bool" t.nm = some (match t with | .int => true | .bool => true | _ => false) := by
  intro t; cases t <;> decide +kernel
theorem kit_int : ∀ t : Ty, kitB "int" t.nm = some (match t with | .int => true | _ => false) := by
  intro t; cases t <;> decide +kernel
theorem kit_str : ∀ t : Ty, kitB "str" t.nm = some (match t with | .str => true | _ => false) := by
  intro t; cases t <;> decide +kernel
theorem kit_tuple : ∀ t : Ty, kitB "tuple" t.nm = some (match t with | .tuple => true | _ => false) := by
  intro t; cases t <;> decide +kernel
theorem kit_list : ∀ t : Ty, kitB "list" t.nm = some (match t with | .list => true | _ => false) := by
  intro t; cases t <;> decide +kernel
theorem kit_dict : ∀ t : Ty, kitB "dict" t.nm = some (match t with | .dict => true | _ => false) := by
  intro t; cases t <;> decide +kernel
theorem kit_non : ∀ t : Ty, kitB "NoneType" t.nm = some false := by
  intro t; cases t <;> decide +kernel
theorem kit_D {d : D} {s : String} (h : tyD d = some s) (t : Ty) : kitB s t.nm = some (isD1 d t) := by
  cases d <;> first
    | (cases h; done)
    | (cases h; first
      | (rw [kit_bool]; cases t <;> rfl)
      | (rw [kit_int]; cases t <;> rfl)
      | (rw [kit_str]; cases t <;> rfl)
      | (rw [kit_tuple]; cases t <;> rfl)
      | (rw [kit_list]; cases t <;> rfl)
      | (rw [kit_dict]; cases t <;> rfl)
      | (rw [kit_non]; cases t <;> rfl))
theorem tyx_D {G H : Hp} {x : V} {d : D} {s : String} (sub : Sub G H) (w : WRep K G H x d) (h : tyD d = some s) : TyX K H x (.type s) := by
  cases d with
  | non => cases h; rw [wrep_non w]; exact .base .non
  | bl b => cases h; rw [wrep_bl w]; exact .base (.bl b)
  | int b => cases h; rw [wrep_int w]; exact .base (.int b)
  | str b => cases h; rw [wrep_str w]; exact .base (.str b)
  | tup ds => cases h; obtain ⟨a, vs, rfl, ha, _⟩ := wrep_tup w; exact .base (.tup (sub _ _ ha))
  | lst ds => cases h; obtain ⟨a, vs, rfl, ha, _⟩ := wrep_lst sub w; exact .base (.lst ha)
  | pt ds => cases h; obtain ⟨a, o, vs, rfl, ha, _⟩ := wrep_pt w; exact .fTuple (sub _ _ ha)
  | dct t kvs =>
    cases t with
    | false => cases h; obtain ⟨a, ks, rfl, ha, _⟩ := wrep_dK sub w; exact .base (.dK ha)
    | true => cases h; obtain ⟨a, ks, rfl, ha, _⟩ := wrep_dT sub w; exact .base (.dT ha)
  | _ => cases h
def eIsi (ts : List Ty) (f : Ev → R D) : Ev → R D := fun ρ => (f ρ).bind fun d => if (tyD d).isSome then .ok (.bl (ts.any (isD1 d))) else .bad
theorem de_isi (t : Ty) {a b : Expr} {p : Pos} (ha : PE X a (exOf K .w W f)) (hb : PE X b (tC (.ty t.nm))) (hm : X.mg "isinstance" = none) (hK : X.K = K := by rfl) (hg : Gl X "isinstance" := by rfl)
    (h1 : starEach (a :: b :: []) X.env = (false, eval a X.env) :: starEach (b :: []) X.env := by rfl) (h2 : starEach (b :: []) X.env = (false, eval b X.env) :: starEach [] X.env := by rfl) (hpl : (backTo pos (starEach (b :: []) X.env)).any (·.1) = false := by rfl) :
    PE X (.Call (.Name "isinstance" p) [a, b] [] pos) (exOf K .v W (eIsi [t] f)) := by
  subst hK
  refine pe_imp (pe_callB call_isi hg hm PyProof.Rows.boot_isinstance (pa_cons ha (pa_cons hb pa_nil h2) h1) (by decide) (by decide) h1 hpl) fun σ H Q ⟨G, ρ, S, m⟩ => ⟨G, ρ, S, ?_⟩
  unfold eIsi at m
  cases q : f ρ with
  | ok d =>
    simp only [q, R.bind_ok] at m
    intro v G' H' g w
    cases e : tyD d with
    | none => simp [e] at m
    | some s =>
      simp only [e, Option.isSome_some, if_true] at m
      exact ⟨v, .ty t.nm, .type s, .type t.nm, isD1 d t, rfl, .ty _, tyx_D g.gh w e, kit_ty (kit_D e t), m _ G' H' g (by simp only [List.any_cons, List.any_nil, Bool.or_false]; exact .bl _)⟩
  | exc c => simp only [q, R.bind_exc] at m; exact m
  | bad => simp only [q, R.bind_bad] at m
theorem de_isi2 (t t' : Ty) {a b c : Expr} {p tp : Pos} {x1} (ha : PE X a (exOf K .w W f)) (hb : PE X b (tC (.ty t.nm))) (hc : PE X c (tC (.ty t'.nm))) (hm : X.mg "isinstance" = none) (hK : X.K = K := by rfl) (hg : Gl X "isinstance" := by rfl)
    (h1 : starEach (a :: (.Tuple [b, c] x1 tp) :: []) X.env = (false, eval a X.env) :: starEach ((.Tuple [b, c] x1 tp) :: []) X.env := by rfl) (h2 : starEach ((.Tuple [b, c] x1 tp) :: []) X.env = (false, eval (.Tuple [b, c] x1 tp) X.env) :: starEach [] X.env := by rfl) (hpl : (backTo pos (starEach ((.Tuple [b, c] x1 tp) :: []) X.env)).any (·.1) = false := by rfl)
    (h3 : starEach (b :: c :: []) X.env = (false, eval b X.env) :: starEach (c :: []) X.env := by rfl) (h4 : starEach (c :: []) X.env = (false, eval c X.env) :: starEach [] X.env := by rfl) :
    PE X (.Call (.Name "isinstance" p) [a, .Tuple [b, c] x1 tp] [] pos) (exOf K .v W (eIsi [t, t'] f)) := by
  subst hK
  refine pe_imp (pe_callB call_isiT hg hm PyProof.Rows.boot_isinstance (pa_cons ha (pa_cons (pe_tup (pa_cons hb (pa_cons hc pa_nil h4) h3)) pa_nil h2) h1) (by decide) (by decide) h1 hpl) fun σ H Q ⟨G, ρ, S, m⟩ => ⟨G, ρ, S, ?_⟩
  unfold eIsi at m
  cases q : f ρ with
  | ok d =>
    simp only [q, R.bind_ok] at m
    intro v G' H' g w
    refine ⟨by show 2 ≤ sizeLine; rw [sizeLine_eq]; decide, fun u hu => ?_⟩
    have g2 : Grow G' H' G' (upd H' u (.tup [.ty t.nm, .ty t'.nm])) := .more g.gh hu
    cases e : tyD d with
    | none => simp [e] at m
    | some s =>
      simp only [e, Option.isSome_some, if_true] at m
      refine ⟨v, u, [.ty t.nm, .ty t'.nm], .type s, [.type t.nm, .type t'.nm], isD1 d t || isD1 d t', rfl, upd_same, .cons (.ty _) (.cons (.ty _) .nil), tyx_D g2.gh (WRep.grow g2 w) e, ?_, m _ G' _ (g.trans g2) (by simp only [List.any_cons, List.any_nil, Bool.or_false]; exact .bl _)⟩
      refine kitAny_cons (kit_ty (kit_D e t)) (fun hb => ?_) (fun hb => by rw [hb]; rfl)
      rw [hb, Bool.false_or]
      refine kitAny_cons (kit_ty (kit_D e t')) (fun hb2 => ?_) (fun hb2 => hb2)
      rw [hb2]
      exact kitAny_nil
  | exc c => simp only [q, R.bind_exc] at m; exact m
  | bad => simp only [q, R.bind_bad] at m
end
end Pd

/-! Pd10: return of an own thing; a, b = e, f; list(range(..)); globals; glue for printed derivations. -/
namespace Pd
open PySem PySem.Spec L2
variable {K : PySem.W.Frag}
section
variable {X : Cx} {W : WN}
/-- return x, x a slot's own, or known for ever -/
def sRetO (i : Nat) : Ev → O := fun ρ => match ρ[i]? with
  | some (.own d) => .ret true d
  | some (.val d) => .ret false d
  | _ => .bad
theorem ds_retO (i : Nat) {x : Str} {pos xpos : Pos} (hN : X.N[i]? = some x := by rfl) (hv : Vis X.env.scope x := by first | exact Or.inl rfl | exact Or.inr (Or.inl rfl) | exact Or.inr (Or.inr rfl)) (hd : (x == ("__debug__" : Str)) = false := by decide)
    (hcd : (x == ("__classdict__" : Str)) = false := by decide) : PS X (.Return (some (.Name x xpos)) pos) (tsOf K W (sRetO i)) := ps_imp (ps_ret (pe_var hN hv hd hcd)) fun E σ H ⟨B, G, ρ, S, m⟩ => by
  unfold sRetO at m
  split at m
  · rename_i d e
    obtain ⟨p, hp, gn, w⟩ := S.st.sl i _ e
    exact ⟨_, hp, m _ G H S.gr ⟨p, rfl, S.fr i d p e hp, gn, w⟩⟩
  · rename_i d e
    obtain ⟨v, hv', r⟩ := S.st.sl i _ e
    exact ⟨_, hv', m _ G H S.gr r⟩
  · exact m.elim
/-- a, b = e, f, plain local names -/
def sPar (o1 o2 : Bool) (i j : Nat) (f g : Ev → R D) : Ev → O := fun ρ => (f ρ).out ρ fun d => (g ρ).out ρ fun e => .nx ((ρ.set i (sb o1 d)).set j (sb o2 e))
theorem ds_par (o1 o2 : Bool) {i j : Nat} {x y : Str} {a b : Expr} {fa fb : Ev → R D} {px py pt pos : Pos} {kt k2 pt2} (hc : X.calm = true) (hN : X.N.Nodup) (hi : X.N[i]? = some x) (hj : X.N[j]? = some y) (hij : i ≠ j)
    (hx : X.env.scope.names.lookup x = some .local) (hy : X.env.scope.names.lookup y = some .local) (ha : PE X a (exOf K (kb o1) W fa)) (hb : PE X b (exOf K (kb o2) W fb))
    (hw : swappedStores [.Tuple [.Name x px, .Name y py] kt pt] (.Tuple [a, b] k2 pt2) X.env = pure (some [x, y]) := by rfl)
    (hs : swapsWithSole [.Tuple [.Name x px, .Name y py] kt pt] (.Tuple [a, b] k2 pt2) pos.line X.env = pure false := by rfl)
    (h1 : starEach (a :: b :: []) X.env = (false, eval a X.env) :: starEach (b :: []) X.env := by rfl) (h2 : starEach (b :: []) X.env = (false, eval b X.env) :: starEach [] X.env := by rfl) :
    PS X (.Assign [.Tuple [.Name x px, .Name y py] kt pt] (.Tuple [a, b] k2 pt2) pos) (tsOf K W (sPar o1 o2 i j fa fb)) := ps_imp (ps_par hc hN hi hj hij hx hy (pa_cons ha (pa_cons hb pa_nil h2) h1) hw hs) fun E σ H ⟨B, G, ρ, S, m⟩ => by
  unfold sPar at m
  refine ex_then S m fun d v G1 H1 S1 g1 r1 m1 => ?_
  refine ex_then S1 (OutP.later g1.gg m1) fun e u G2 H2 S2 g2 r2 m2 => ?_
  refine ⟨v, u, rfl, m2 G2 _ H2 ?_ g2.gg⟩
  have a1 : Good K B G1 (ρ.set i (sb o1 d)) (σ.set i (some v)) H1 := S.set g1 r1
  exact a1.set g2 r2
/-- list(range(..)), tuple(range(..)) -/
def eLRg1 (f : Ev → R D) : Ev → R D := fun ρ => (f ρ).bind fun d => opt (match d with
  | .int n => if decide (0 ≤ n) && bigOk n then some (.lst ((List.range n.toNat).map fun i => .int (i : Nat))) else none
  | _ => none)
def eTRg1 (f : Ev → R D) : Ev → R D := fun ρ => (f ρ).bind fun d => opt (match d with
  | .int n => if decide (0 ≤ n) && bigOk n then some (.tup ((List.range n.toNat).map fun i => .int (i : Nat))) else none
  | _ => none)
theorem rgV_rep {G : Hp} (n : Int) : RepL K G (rgV 0 n) ((List.range n.toNat).map fun i => D.int (i : Nat)) := by
  unfold rgV
  have z : ∀ l : List Nat, RepL K G (l.map fun i => V.int (0 + (i : Nat))) (l.map fun i => D.int (i : Nat)) := by
    intro l
    induction l with
    | nil => exact .nil
    | cons a l ih =>
      refine .cons ?_ ih
      show Rep K G (V.int (0 + (a : Nat))) (D.int (a : Nat))
      rw [Int.zero_add]
      exact .int _
  rw [Int.sub_zero]
  exact z _
theorem de_lrg1 {a : Expr} {f : Ev → R D} {p p2 pos pos2 : Pos} (hl : X.mg "list" = none) (hm : X.mg "range" = none) (ha : PE X a (exOf K .w W f)) (hc : X.calm = true := by rfl) (hg : Gl X "list" := by rfl) (hg2 : Gl X "range" := by rfl)
    (na : starEach [a] X.env = (false, eval a X.env) :: starEach [] X.env := by rfl) (nb : starEach [.Call (.Name "range" p2) [a] [] pos2] X.env = (false, eval (.Call (.Name "range" p2) [a] [] pos2) X.env) :: starEach [] X.env := by rfl) :
    PE X (.Call (.Name "list" p) [.Call (.Name "range" p2) [a] [] pos2] [] pos) (exOf K .o W (eLRg1 f)) := pe_imp (pe_listRg hc hg hl (prg_1 hg2 hm ha na) nb) fun σ H Q h =>
  ex1 (K := K) (k := .o) (f := f) (r := fun x H Q => ∃ n, x = .int n ∧ (RgOk 0 n ∧ ∀ q, H q = none → Q (.ref q) (upd H q (.lst (rgV 0 n))))) (fun G H x d Q sub w m => by
    cases d with
    | int n =>
      simp only at m
      split at m
      · rename_i hz
        have hz := Bool.and_eq_true_iff.mp hz
        have hz' : 0 ≤ n ∧ n ≤ 16777216 := by
          have a := of_decide_eq_true hz.1
          have b := of_decide_eq_true hz.2
          omega
        exact ⟨n, wrep_int w, .of_le (by omega) hz'.2 (by omega) hz'.1, fun q hq => res_own sub m hq (rgV_rep n)⟩
      · exact m.elim
    | _ => exact m.elim) h
theorem de_trg1 {a : Expr} {f : Ev → R D} {p p2 pos pos2 : Pos} (hl : X.mg "tuple" = none) (hm : X.mg "range" = none) (ha : PE X a (exOf K .w W f)) (hc : X.calm = true := by rfl) (hg : Gl X "tuple" := by rfl) (hg2 : Gl X "range" := by rfl)
    (na : starEach [a] X.env = (false, eval a X.env) :: starEach [] X.env := by rfl) (nb : starEach [.Call (.Name "range" p2) [a] [] pos2] X.env = (false, eval (.Call (.Name "range" p2) [a] [] pos2) X.env) :: starEach [] X.env := by rfl) :
    PE X (.Call (.Name "tuple" p) [.Call (.Name "range" p2) [a] [] pos2] [] pos) (exOf K .v W (eTRg1 f)) := pe_imp (pe_tupRg hc hg hl (prg_1 hg2 hm ha na) nb) fun σ H Q h =>
  ex1 (K := K) (k := .v) (f := f) (r := fun x H Q => ∃ n, x = .int n ∧ (RgOk 0 n ∧ ∀ q, H q = none → Q (.ref q) (upd H q (.tup (rgV 0 n))))) (fun G H x d Q sub w m => by
    cases d with
    | int n =>
      simp only at m
      split at m
      · rename_i hz
        have hz := Bool.and_eq_true_iff.mp hz
        have hz' : 0 ≤ n ∧ n ≤ 16777216 := by
          have a := of_decide_eq_true hz.1
          have b := of_decide_eq_true hz.2
          omega
        exact ⟨n, wrep_int w, .of_le (by omega) hz'.2 (by omega) hz'.1, fun q hq => res_new sub m hq fun G' s e => .tup e (rgV_rep n)⟩
      · exact m.elim
    | _ => exact m.elim) h
/-- a constant of the module -/
theorem dgi {x : Str} {i : Int} {pos : Pos} (h : ∃ t, X.mg x = some (.int i t)) (hg : Gl X x := by rfl) (hd : (x == ("__debug__" : Str)) = false := by decide) : PE X (.Name x pos) (exOf K .v W (eC (.int i))) := by
  obtain ⟨t, h⟩ := h
  exact dc_of (pe_glob (v := .int i) hg h ⟨t, rfl⟩ hd) fun _ => .int i
theorem dgs {x s : Str} {pos : Pos} (h : ∃ t, X.mg x = some (.str s t)) (hg : Gl X x := by rfl) (hd : (x == ("__debug__" : Str)) = false := by decide) : PE X (.Name x pos) (exOf K .v W (eC (.str s))) := by
  obtain ⟨t, h⟩ := h
  exact dc_of (pe_glob (v := .str s) hg h ⟨t, rfl⟩ hd) fun _ => .str s
/-- a built-in class's name -/
theorem dty {x : Str} {n : String} {pos : Pos} (hm : X.mg x = none) (hv : bootBuiltins x = some (.type n)) (hg : Gl X x := by rfl) (hn : x ≠ "__name__" := by decide) (hd : (x == ("__debug__" : Str)) = false := by decide) : PE X (.Name x pos) (tC (.ty n)) := pe_bltn hg hm hv rfl hn hd
end
end Pd

/-! Pd11: set(a list of ints), its len and its sorted list. -/
namespace Pd
open PySem PySem.Spec L2
variable {K : PySem.W.Frag}

/-! ### the ordered list of what a list of ints holds -/
def putI (k : Int) : List Int → List Int
  | [] => [k]
  | a :: l => if k < a then k :: a :: l else if k = a then a :: l else a :: putI k l
def setI : List Int → List Int
  | [] => []
  | a :: l => putI a (setI l)
theorem putI_mem {k j : Int} : ∀ {l : List Int}, j ∈ putI k l ↔ j = k ∨ j ∈ l
  | [] => by simp [putI]
  | a :: l => by
    have ih := putI_mem (k := k) (j := j) (l := l)
    unfold putI
    split
    · simp
    · split
      · rename_i e
        subst e
        simp
      · simp only [List.mem_cons, ih]
        constructor
        · rintro (h | h | h) <;> simp [h]
        · rintro (h | h | h) <;> simp [h]
theorem putI_lt {k : Int} : ∀ {l : List Int}, l.Pairwise (· < ·) → (putI k l).Pairwise (· < ·)
  | [], _ => by simp [putI]
  | a :: l, h => by
    obtain ⟨h1, h2⟩ := List.pairwise_cons.mp h
    unfold putI
    split
    · rename_i q
      refine List.pairwise_cons.mpr ⟨fun b hb => ?_, h⟩
      rcases List.mem_cons.mp hb with e | e
      · omega
      · have := h1 b e; omega
    · split
      · exact h
      · refine List.pairwise_cons.mpr ⟨fun b hb => ?_, putI_lt h2⟩
        rcases putI_mem.mp hb with e | e
        · omega
        · exact h1 b e
theorem setI_mem {j : Int} : ∀ {l : List Int}, j ∈ setI l ↔ j ∈ l
  | [] => by simp [setI]
  | a :: l => by rw [setI, putI_mem, setI_mem, List.mem_cons]
theorem setI_lt : ∀ (l : List Int), (setI l).Pairwise (· < ·)
  | [] => List.Pairwise.nil
  | a :: l => putI_lt (setI_lt l)
theorem lt_uniq : ∀ {a b : List Int}, a.Pairwise (· < ·) → b.Pairwise (· < ·) → (∀ k, k ∈ a ↔ k ∈ b) → a = b
  | [], [], _, _, _ => rfl
  | [], b :: l, _, _, h => absurd ((h b).mpr (by simp)) (by simp)
  | a :: l, [], _, _, h => absurd ((h a).mp (by simp)) (by simp)
  | a :: l, b :: m, h1, h2, h => by
    obtain ⟨p1, p2⟩ := List.pairwise_cons.mp h1
    obtain ⟨q1, q2⟩ := List.pairwise_cons.mp h2
    have e : a = b := by
      rcases List.mem_cons.mp ((h a).mp (by simp)) with e | e
      · exact e
      · rcases List.mem_cons.mp ((h b).mpr (by simp)) with e2 | e2
        · exact e2.symm
        · have := q1 a e; have := p1 b e2; omega
    subst e
    refine congrArg _ (lt_uniq p2 q2 fun k => ⟨fun hk => ?_, fun hk => ?_⟩)
    · rcases List.mem_cons.mp ((h k).mp (List.mem_cons_of_mem _ hk)) with e | e
      · have := p1 k hk; omega
      · exact e
    · rcases List.mem_cons.mp ((h k).mpr (List.mem_cons_of_mem _ hk)) with e | e
      · have := q1 k hk; omega
      · exact e

/-! ### the machine's set of a list of ints -/
abbrev set0 (w : World) : Obj := { cls := .type "set", dict := none, data := .set #[] 0 (.fresh 0 0 (!w.params.followText "set-order")) }
section
variable {P : Program} {w : World} {A : Around} {E : Value → Shared → Prop} {s : Shared}
set_option maxHeartbeats 6000000 in
theorem init_set_list {S l : Addr} {items : Array Value} {ns : List Int} (hh : A.handled = none) (hS : s.heap.get? S = some (set0 w)) (hl : s.heap.IsList l items)
    (hit : PyProof.Rows.IntsAre items.toList ns) (hz : items.size = ns.length) (hb : ns.length + 1 < scanBound) {Q : Value → Shared → Prop}
    (h : ∀ (h' : Heap) (tk c : Nat), SetR w h' S (fun j => decide (j ∈ ns)) c → c ≤ ns.length → (∀ b o, b ≠ S → s.heap.get? b = some o → h'.get? b = some o) → Q .none { s with heap := h', toks := tk }) :
    codeAny (model P w) A (.call (.builtin "set.__init__") ⟨[.ref S, .ref l], []⟩) (wants Q E) s := by
  have hT : Shared.TypeIs s (.ref S) "set" := ⟨_, hS, rfl⟩
  refine codeAny_call_builtin F.called_set.init.plain F.entry_set_init (check_set_init_1 hT ?_)
  have hSlt : S < s.heap.objs.size := Heap.lt_size hS
  have hne : l ≠ S := by
    rintro rfl
    obtain ⟨o, ho, hc, _⟩ := hl
    rw [hS] at ho
    cases ho
    have hc' : Value.type "set" = Value.type "list" := hc
    exact absurd hc' (by decide)
  obtain ⟨ol, hol, hcl, nl, hdl⟩ := id hl
  obtain ⟨ocls, odict, odata, oslots⟩ := ol
  simp only at hcl hdl
  subst hcl
  subst hdl
  have t1 := F.sub_list_set
  have t2 := F.sub_list_frozenset
  have t3 : (Value.type "list" == Value.type "dict") = false := by decide
  have hlt : l < s.heap.objs.size := Heap.lt_size hol
  have fr1 : l ≠ s.heap.objs.size := Nat.ne_of_lt hlt
  have fr2 : S ≠ s.heap.objs.size := Nat.ne_of_lt hSlt
  have hval : ∀ (i : Nat) (v : Value), items[i]? = some v → ∃ k t, ns[i]? = some k ∧ v = .int k t := fun i v hv => by
    obtain ⟨t, e⟩ := PyProof.Rows.IntsAre.int_at hit i v (by rw [Array.getElem?_toList]; exact hv)
    have hi : i < ns.length := by rw [← hz]; exact (Array.getElem?_eq_some_iff.mp hv).1
    refine ⟨ns[i], t, List.getElem?_eq_getElem hi, ?_⟩
    rw [e, List.getD_eq_getElem?_getD, List.getElem?_eq_getElem hi] <;> rfl
  unfold Builtin.«set.__init__» noKeywords Builtin.Frozenset.updateFrom
  generalize hPI : pyIter = PI
  wp_walk
  subst hPI
  refine wpAny_pyIter_list hl ?_
  refine wpAny_bind (wpAny_runValue ?_)
  have hA : A.in1.in1.handled = none := by simp [hh]
  have hS2 : (s.heap.push { cls := .type "list_iterator", data := .fields #[.ref l, .int 0 0] }).get? S = some (set0 w) := Heap.get?_push_of_some _ hS
  refine set_update_ints ((Walks.list hA s.heap.objs.size l fr1 items).toS) S (by simp [fr2, hne.symm]) ns hz hb hval (items.size - 0) 0 _ (by omega) (Nat.zero_le _)
    ?sts ⟨0, Nat.le_refl 0, ?first⟩ fun s' c hm hc hS' => ?_
  case sts => exact ⟨⟨_, Heap.get?_push_size _ rfl, rfl, rfl⟩, hl.push _⟩
  case first => exact setR_new_at (ns := ns) hS2
  have e1 : s'.gens = s.gens := hm.gens
  have e2 : s'.drawn = s.drawn := hm.drawn
  have e3 : s'.os = s.os := hm.os
  have e : s' = { s with heap := s'.heap, toks := s'.toks } := by
    cases s'
    cases s
    simp only at e1 e2 e3
    subst e1 e2 e3
    rfl
  show wpAny _ _ _ _ _ _
  refine wpAny_pure ?_
  show wpAny _ _ (ret Value.none) _ _ _
  refine wpAny_pure ?_
  rw [e]
  refine h _ _ c hS' (hz ▸ hc) fun b o hbS hbo => ?_
  have fr3 : b ≠ s.heap.objs.size := Nat.ne_of_lt (Heap.lt_size hbo)
  exact hm.heap b o (by simp [hbS, fr3]) (Heap.get?_push_of_some _ hbo)
set_option maxHeartbeats 6000000 in
theorem call_set_ints {l : Addr} {items : Array Value} {ns : List Int} (hh : A.handled = none) (hl : s.heap.IsList l items) (hit : PyProof.Rows.IntsAre items.toList ns) (hb : ns.length + 1 < scanBound) {Q : Value → Shared → Prop}
    (h : ∀ (h' : Heap) (tk c : Nat), SetR w h' s.heap.objs.size (fun j => decide (j ∈ ns)) c → c ≤ ns.length → (∀ b o, s.heap.get? b = some o → h'.get? b = some o) → Q (.ref s.heap.objs.size) { s with heap := h', toks := tk }) :
    wpAny (model P w) A (call (.type "set") [.ref l]) Q E s := by
  have hz : items.size = ns.length := by
    have := PyProof.Rows.IntsAre.length hit
    rwa [Array.length_toList] at this
  obtain ⟨c, tl, hmro⟩ := F.called_set.mro
  have f1 := F.called_set.made
  have f2 := F.called_set.sub
  have f3 := F.called_set.notType
  have f4 := F.called_set.canCreate
  have f5 := F.typeCall_set_1 (.ref l)
  refine wpAny_call (codeAny_of_tree ?_)
  show wpAny _ _ (callAny (.type "set") _) _ _ _
  refine wpAny_pure ⟨Code.quiet_builtin _ (by decide +kernel), codeAny_builtin F.entry_type_call ?_⟩
  rw [Around.under_plain (weight_type_call_type "set" [.ref l] []) rfl]
  repeat (any_goals (first | assumption | wp_step))
  refine codeAny_mono (code_set_led1 (.ref l) (E := E) (Q₁ := fun obj s₁ => obj = .ref s.heap.objs.size ∧ s₁ = { s with heap := s.heap.push (set0 w) }) ⟨rfl, rfl⟩) fun r s₁ hr => ?_
  match r, hr with
  | .error e, hr => exact hr
  | .ok (.ret obj), hr =>
    obtain ⟨rfl, rfl⟩ := hr
    have hS : (s.heap.push (set0 w)).get? s.heap.objs.size = some (set0 w) := Heap.get?_push_size _ rfl
    have hT : Shared.TypeIs { s with heap := s.heap.push (set0 w) } (.ref s.heap.objs.size) "set" := ⟨_, hS, rfl⟩
    have g1 := F.called_set.init.lookup
    have g2 := F.called_set.init.bind (.ref s.heap.objs.size)
    repeat (any_goals (first | assumption | wp_step))
    refine codeAny_mono (init_set_list (s := { s with heap := s.heap.push (set0 w) }) (E := E) (Q := fun r s₂ => r = .none ∧ ∃ h' tk c, s₂ = { s with heap := h', toks := tk } ∧ SetR w h' s.heap.objs.size (fun j => decide (j ∈ ns)) c ∧ c ≤ ns.length ∧
          (∀ b o, s.heap.get? b = some o → h'.get? b = some o)) (by simpa using hh) hS (hl.push _) hit hz hb fun h' tk c h1 h2 h3 => ⟨rfl, h', tk, c, rfl, h1, h2, fun b o e => h3 b o (Nat.ne_of_lt (Heap.lt_size e)) (Heap.get?_push_of_some _ e)⟩) fun r₂ s₂ hr₂ => ?_
    match r₂, hr₂ with
    | .error e, hr₂ => exact hr₂
    | .ok (.ret r), hr₂ =>
      obtain ⟨rfl, h', tk, c', rfl, q1, q2, q3⟩ := hr₂
      repeat (any_goals (first | assumption | wp_step))
      exact h _ _ _ q1 q2 q3
/-- set(l): l a list of ints -/
def rSetI (K : PySem.W.Frag) (w : World) : List V → Hp → VK → Prop := fun xs H Q => ∃ (l : Addr) (ns : List Int), xs = [.ref l] ∧ SqL K H l (ns.map V.int) ∧ ns.length ≤ 4000 ∧ ∀ p c, H p = none → c ≤ ns.length → Q (.ref p) (upd H p (SetO w p (fun j => decide (j ∈ ns)) c))
theorem cr_setI {X : Cx} (hc : X.calm = true) : CallR X (.type "set") (rSetI X.K X.w) := by
  intro pins s σ H xs us Q I r h
  obtain ⟨l, ns, rfl, hq, hn, q⟩ := h
  rw [Vals.ref1 r]
  obtain ⟨its, rv, pl, hz⟩ := I.list hq
  refine call_set_ints (I.ok.hd hc) pl.isList (by simpa using ints_of_vals rv) (by unfold scanBound; omega) fun h' tk c h1 h2 h3 => ?_
  exact ⟨.ref _, upd H s.heap.objs.size (SetO X.w s.heap.objs.size (fun j => decide (j ∈ ns)) c), I.laid (t' := tk) h3 (Nat.le_refl _) (setO_new h1), rfl, q _ _ (I.hok.fresh (Nat.le_refl _)) h2⟩
/-- len(found): found a set of ints -/
def rLenSet (w : World) : List V → Hp → VK → Prop := fun xs H Q => ∃ (a : Addr) (S : Int → Bool) (n : Nat), xs = [.ref a] ∧ H a = some (SetO w a S n) ∧ n ≤ 4000 ∧ Q (.int n) H
theorem cr_lenSetO {X : Cx} : CallR X (.builtin "len") (rLenSet X.w) := by
  intro pins s σ H xs us Q I r h
  obtain ⟨a, S, n, rfl, ha, hn, q⟩ := h
  rw [Vals.ref1 r]
  obtain ⟨o, es, ep, t, ho, hex, hd, _, _, _, _, hf, hz, _⟩ := setO_get I ha
  exact call_len_set ho hex hd hf (by rw [hz]; omega) ⟨.int n, H, I.tok _, ⟨_, by rw [hz]⟩, q⟩
end
/-! ### as readings -/
def sortedSetD : D → Option D
  | .lst ds => (intsD ds).bind fun ns => if decide (ns.length < 64) then some (.lst ((setI ns).map D.int)) else none
  | _ => none
/-- len(set(l)), l of ints -/
def lenSetD : D → Option D
  | .lst ds => (intsD ds).bind fun ns => if decide (ns.length ≤ 4000) then some (.int ((setI ns).length : Nat)) else none
  | _ => none
theorem rsort_ok {w : World} {G H : Hp} {x : V} {d : D} {Q : VK} (sub : Sub G H) (wr : WRep K G H x d) (m : ResK K .o G H Q (sortedSetD d)) : rSetI K w [x] H fun v H1 => rSortedSet w [v] H1 Q := by
  cases d with
  | lst ds =>
    obtain ⟨a, vs, rfl, ha, rl⟩ := wrep_lst sub wr
    simp only [sortedSetD] at m
    cases e : intsD ds with
    | none => rw [e] at m; exact m.elim
    | some ns =>
      rw [e] at m
      simp only [Option.bind_some] at m
      split at m
      · rename_i hz
        have hz := of_decide_eq_true hz
        have ev := ints_rep rl e
        subst ev
        refine ⟨a, ns, rfl, .of ha, by omega, fun p c hp hc => ?_⟩
        refine ⟨p, _, c, rfl, upd_same, by omega, fun ns' p2 h1 h2 h3 hp2 => ?_⟩
        have en : ns' = setI ns := lt_uniq h1 (setI_lt ns) fun k => by rw [h2 k, setI_mem]; simp
        rw [en]
        have g1 : Grow G H G (upd H p (SetO w p (fun j => decide (j ∈ ns)) c)) := .more sub hp
        have hp2' : Fr H p2 := g1.hh.free (.of hp2)
        refine m _ _ _ (g1.trans (.more g1.gh hp2)) ⟨p2, rfl, hp2', g1.gh.free hp2, _, upd_same, RepL.ints _⟩
      · exact m.elim
  | _ => exact m.elim
section
variable {X : Cx} {W : WN} {a : Expr} {f : Ev → R D} {p p2 q pos : Pos}
theorem de_sortedSet (hm : X.mg "sorted" = none) (hm2 : X.mg "set" = none) (ha : PE X a (exOf K .w W f)) (hc : X.calm = true := by rfl) (hK : X.K = K := by rfl) (hg : Gl X "sorted" := by rfl) (hg2 : Gl X "set" := by rfl)
    (na : starEach (a :: []) X.env = (false, eval a X.env) :: starEach [] X.env := by rfl) (nb : starEach (.Call (.Name "set" p2) [a] [] q :: []) X.env = (false, eval (.Call (.Name "set" p2) [a] [] q) X.env) :: starEach [] X.env := by rfl)
    (hpl : (backTo q (starEach [] X.env)).any (·.1) = false := by rfl) (hpl2 : (backTo pos (starEach [] X.env)).any (·.1) = false := by rfl) :
    PE X (.Call (.Name "sorted" p) [.Call (.Name "set" p2) [a] [] q] [] pos) (exOf K .o W (e1 sortedSetD f)) := by
  subst hK
  exact pe_imp (pe_callB (cr_sortedSet hc) hg hm (by decide +kernel) (pa_cons (pe_callTy (cr_setI hc) hg2 hm2 (by decide +kernel) (pa_cons ha pa_nil na) (by decide) (by decide) na hpl) pa_nil nb) (by decide) (by decide) nb hpl2) fun σ H Q h =>
    ex1 (K := X.K) (k := .o) (f := f) (g := sortedSetD) (r := fun x H Q => rSetI X.K X.w [x] H fun v H1 => rSortedSet X.w [v] H1 Q) (fun G H x d Q sub w m => rsort_ok sub w m) h
end
end Pd

/-! Pd12: from a law's function to the law's promise. -/
namespace Pd
open PySem PySem.Spec L2
variable {P : Program} {w : World} {K : PySem.W.Frag} {mg : Str → Option Value} {base : Heap}
/-- what the end asks of a law -/
def spEnd (K : PySem.W.Frag) : Sp := fun vs H Q _ => ∃ (a : Addr) (ns : List Int), vs = [.ref a] ∧ ns.length ≤ 63 ∧ SqL K H a (ns.map V.int) ∧ ∀ H', Q (.bl true) H'
/-- all but the tables -/
def strip (H : Hp) : Hp := fun b => match H b with
  | some (.tbl _) => none
  | x => x
theorem strip_nt {H : Hp} {b : Addr} {o : HO} (h : strip H b = some o) : H b = some o ∧ nt o := by
  unfold strip at h
  split at h
  · cases h
  · rename_i n
    exact ⟨h, fun ps e => n ps (by rw [h, e])⟩
theorem strip_of {H : Hp} {b : Addr} {o : HO} (h : H b = some o) (n : nt o) : strip H b = some o := by
  unfold strip
  rw [h]
  cases o <;> first | rfl | exact absurd rfl (n _)
theorem strip_sub (H : Hp) : Sub (strip H) H := ⟨fun b o h => (subAt_nt (strip_nt h).2).mpr (strip_nt h).1, fun b c ps qs h _ => absurd rfl ((strip_nt h).2 ps), fun b c i h _ => absurd rfl ((strip_nt h).2 _)⟩
theorem strip_seq {H : Hp} {a : Addr} {xs : List V} (h : SqL K H a xs) : SqL K (strip H) a xs := by
  rcases h with (h | ⟨u, h⟩) | h
  · exact .inl (.inl (strip_of h fun _ z => nomatch z))
  · exact .inl (.inr ⟨u, strip_of h fun _ z => nomatch z⟩)
  · exact .inr h
theorem tabs_nil (nl : lams = []) {G : Hp} : MarkOk K G := fun n => absurd (by
  unfold tabs
  rw [List.filterMap_eq_nil_iff]
  intro c _
  unfold tabsAt
  split
  · unfold tabsOf
    split
    · rw [nl]
      simp
    · rfl
  · rfl) n
theorem law_imp {k : Nat} {f : Addr} {fd : FuncData} {ps : List Str} {F : List D → R RetD} (h : FnOk P w K mg base (L2.CX P w) k f fd ps (spOf K mg 1 F)) (t : ∀ ns : List Int, ns.length ≤ 63 → F [.scr ns] = .ok (false, .bl true)) (nl : lams = [] := by rfl) :
    FnOk P w K mg base (L2.CX P w) k f fd ps (spEnd K) := h.imp fun vs H Q E ⟨a, ns, e, hl, hs, q⟩ => by
  subst e
  refine ⟨strip H, [.scr ns], strip_sub H, tabs_nil nl, .cons (.scr (strip_seq hs)) .nil, rfl, ?_⟩
  rw [t ns hl]
  intro v G' H' g r
  cases r with
  | bl => exact q H'
theorem cx_end {H : Hp} {s : Shared} {e : Value} {s' : Shared} (h : L2.CX P w [] H s (fun _ _ _ => False) e s') : False := by
  obtain ⟨_, _, _, _, _, _, _, _, _, _, _, _, z⟩ := h
  exact z
/-- a def of the text, over a base -/
theorem def_ok {x qual : Str} {st : Stmt} {f : Addr} {fd : FuncData} {ps : List Str} {k n N : Nat} {b : Ev → O} (F : Fun K x qual st f fd) (g : mg x = some (.ref f)) (h : FnOk P w K mg base (L2.CX P w) k f fd ps (spOf K mg n (callF n N b)))
    (hb : ∀ (kV doc pm : Value) (an : Option Addr) (cdv ct : Value) (us : List Value), us.length = ps.length → bindArgs (PySem.W.fnOf x qual (defArgs st) (defBody st) (defScope st) .none kV doc pm an cdv ct) ⟨us, []⟩ = pure (ps.zip us)) :
    DefOk P w K mg base k x n (callF n N b) := ⟨⟨f, fd, ps, h, g, F.kp, F.binds hb⟩, callF_len⟩
end Pd

/-! Pd13: plain lemmas for the readings: places in lists, loops, comprehensions. -/
namespace Pd
open PySem PySem.Spec L2
theorem atI_nat' {α : Type} (xs : List α) (n : Nat) : atI xs (n : Int) = xs[n]? := by
  unfold atI ixN
  by_cases h : (n : Int) < xs.length
  · rw [if_pos (by omega), if_pos h]
    simp
  · rw [if_pos (by omega), if_neg h]
    simp only [Option.bind_none]
    rw [List.getElem?_eq_none (by omega)]
theorem atI_lit {α : Type} (xs : List α) (n : Nat) : atI xs (OfNat.ofNat n : Int) = xs[n]? := atI_nat' xs n
theorem atI_zero {α : Type} (xs : List α) : atI xs 0 = xs[0]? := atI_nat' xs 0
theorem atI_one {α : Type} (xs : List α) : atI xs 1 = xs[1]? := atI_nat' xs 1
theorem atI_m1 {α : Type} (xs : List α) : atI xs (-1) = xs.getLast? := by
  cases xs with
  | nil => rfl
  | cons a l =>
    unfold atI ixN
    rw [if_neg (by omega), if_pos (by simp only [List.length_cons]; omega)]
    rw [List.getLast?_eq_getElem?]
    simp only [Option.bind_some]
    congr 1
    simp only [List.length_cons]
    omega
theorem atI_two {α : Type} (xs : List α) : atI xs 2 = xs[2]? := atI_nat' xs 2
theorem atI_three {α : Type} (xs : List α) : atI xs 3 = xs[3]? := atI_nat' xs 3
theorem range1D_of {i : Int} {n : Nat} (h : i = n) (hn : n ≤ 16777216) : range1D [.int i] = some ((List.range n).map fun i => .int (i : Nat)) := by
  subst h
  unfold range1D
  simp only
  rw [if_pos (show bigOk _ = true from decide_eq_true (by omega))]
  simp
theorem range1D_nat {n : Nat} (hn : n ≤ 16777216) : range1D [.int (n : Int)] = some ((List.range n).map fun i => .int (i : Nat)) := range1D_of rfl hn
theorem range2D_of {i j : Int} {a n : Nat} (h : i = a) (h2 : j = a + n) (hn : a + n ≤ 16777216) : range2D [.int i, .int j] = some ((List.range n).map fun i => .int ((a + i : Nat) : Int)) := by
  subst h h2
  unfold range2D
  simp only
  rw [if_pos (by simp only [Bool.and_eq_true]; exact ⟨decide_eq_true (by omega), decide_eq_true (by omega)⟩), show ((a : Int) + n - a).toNat = n by omega]
  simp
theorem small64_lit (n : Nat) (h : decide (n < 18446744073709551616) = true := by rfl) : small64 (OfNat.ofNat n : Int) = true := h
theorem atI_of {α : Type} {xs : List α} {i : Int} {n : Nat} (h : i = n) : atI xs i = xs[n]? := by rw [h, atI_nat']
/-- a comprehension's list -/
theorem lcF_map {α : Type} {t : Tg} {c : Ev → R Bool} {f : Ev → R D} {ρ : Ev} {d : α → D} {g : α → D} {p : α → Bool} : ∀ {xs : List α}, (∀ x ∈ xs, ∃ ρ1, tgSet t (d x) ρ = some ρ1 ∧ c ρ1 = .ok (p x) ∧ (p x = true → f ρ1 = .ok (g x))) →
    lcF t c f ρ (xs.map d) = .ok ((xs.filter p).map g)
  | [], _ => rfl
  | x :: xs, h => by
    obtain ⟨ρ1, h1, h2, h3⟩ := h x (by simp)
    have ih := lcF_map (xs := xs) fun y hy => h y (List.mem_cons_of_mem _ hy)
    rw [List.map_cons, lcF, h1]
    simp only [h2]
    cases q : p x with
    | true => simp [h3 q, ih, List.filter_cons, q]
    | false => simp [ih, List.filter_cons, q]
theorem lcF_all {α : Type} {t : Tg} {f : Ev → R D} {ρ : Ev} {d : α → D} {g : α → D} {xs : List α} (h : ∀ x ∈ xs, ∃ ρ1, tgSet t (d x) ρ = some ρ1 ∧ f ρ1 = .ok (g x)) :
    lcF t cYes f ρ (xs.map d) = .ok (xs.map g) := by
  have := lcF_map (t := t) (c := cYes) (f := f) (ρ := ρ) (d := d) (g := g) (p := fun _ => true) (xs := xs) fun x hx => by
    obtain ⟨ρ1, a, b⟩ := h x hx
    exact ⟨ρ1, a, rfl, fun _ => b⟩
  rw [this, List.filter_eq_self.mpr (fun _ _ => rfl)]
/-- a loop that goes through -/
theorem loopF_fold {α β : Type} {t : Tg} {b : Ev → O} {d : α → D} (st : β → Ev) (up : β → α → β) : ∀ {xs : List α} {s : β}, (∀ s, ∀ x ∈ xs, ∃ ρ1, tgSet t (d x) (st s) = some ρ1 ∧ (b ρ1 = .nx (st (up s x)) ∨ b ρ1 = .ct (st (up s x)))) →
    loopF t b (xs.map d) (st s) = .nx (st (xs.foldl up s))
  | [], _, _ => rfl
  | x :: xs, s, h => by
    obtain ⟨ρ1, h1, h2⟩ := h s x (by simp)
    have ih := loopF_fold (s := up s x) st up fun s y hy => h s y (List.mem_cons_of_mem _ hy)
    rw [List.map_cons, loopF, h1]
    rcases h2 with e | e <;> simp only [e] <;> exact ih
/-- a loop by a thing that holds all along -/
theorem loopF_inv' {α : Type} {t : Tg} {b : Ev → O} {d : α → D} (I : List α → Ev → Prop) (all : List α) (hs : ∀ pre x post ρ, all = pre ++ x :: post → I pre ρ → ∃ ρ1 ρ2, tgSet t (d x) ρ = some ρ1 ∧ (b ρ1 = .nx ρ2 ∨ b ρ1 = .ct ρ2) ∧ I (pre ++ [x]) ρ2) :
    ∀ {xs pre : List α} {ρ : Ev}, all = pre ++ xs → I pre ρ → ∃ ρ', loopF t b (xs.map d) ρ = .nx ρ' ∧ I all ρ'
  | [], pre, ρ, e, h => ⟨ρ, rfl, by rw [e, List.append_nil]; exact h⟩
  | x :: xs, pre, ρ, e, h => by
    obtain ⟨ρ1, ρ2, h1, h2, h3⟩ := hs pre x xs ρ e h
    obtain ⟨ρ', e2, h4⟩ := loopF_inv' I all hs (xs := xs) (pre := pre ++ [x]) (by rw [e]; simp) h3
    refine ⟨ρ', ?_, h4⟩
    rw [List.map_cons, loopF, h1]
    rcases h2 with q | q <;> simp only [q] <;> exact e2
theorem loopF_inv {α : Type} {t : Tg} {b : Ev → O} {d : α → D} (I : List α → Ev → Prop) (xs : List α) {ρ : Ev} (h0 : I [] ρ) (hs : ∀ pre x post ρ, xs = pre ++ x :: post → I pre ρ → ∃ ρ1 ρ2, tgSet t (d x) ρ = some ρ1 ∧ (b ρ1 = .nx ρ2 ∨ b ρ1 = .ct ρ2) ∧ I (pre ++ [x]) ρ2) :
    ∃ ρ', loopF t b (xs.map d) ρ = .nx ρ' ∧ I xs ρ' := loopF_inv' I xs hs (pre := []) rfl h0
theorem range_split {n x : Nat} {pre post : List Nat} (h : List.range n = pre ++ x :: post) : x = pre.length ∧ x < n := by
  have h1 : (List.range n)[pre.length]? = some x := by rw [h]; simp
  rw [List.getElem?_eq_some_iff] at h1
  obtain ⟨h2, h3⟩ := h1
  simp at h2 h3
  omega
theorem loopF_cons {t : Tg} {b : Ev → O} {d : D} {ds : List D} {ρ ρ1 ρ2 : Ev} (h1 : tgSet t d ρ = some ρ1) (h2 : b ρ1 = .nx ρ2) : loopF t b (d :: ds) ρ = loopF t b ds ρ2 := by
  rw [loopF, h1]
  simp only [h2]
theorem all_true {α : Type} (xs : List α) : allD (.lst (xs.map fun _ => D.bl true)) = some (.bl true) := by
  have : ∀ ys : List α, blsD (ys.map fun _ => D.bl true) = some (ys.map fun _ => true) := by
    intro ys
    induction ys with
    | nil => rfl
    | cons a l ih => rw [List.map_cons, blsD, ih]; rfl
  simp [allD, this]
theorem blsD_map {α : Type} {f : α → Bool} : ∀ (xs : List α), blsD (xs.map fun x => D.bl (f x)) = some (xs.map f)
  | [] => rfl
  | x :: xs => by rw [List.map_cons, blsD, blsD_map xs]; rfl
theorem intsD_map : ∀ (xs : List Int), intsD (xs.map D.int) = some xs
  | [] => rfl
  | x :: xs => by rw [List.map_cons, intsD, intsD_map xs]; rfl
/-! ### equations by the kind of data -/
def isiD (ts : List Ty) (d : D) : R D := if (tyD d).isSome then .ok (.bl (ts.any (isD1 d))) else .bad
theorem eIsi_of (ts : List Ty) (f : Ev → R D) (ρ : Ev) : eIsi ts f ρ = (f ρ).bind (isiD ts) := rfl
theorem isi_non (ts : List Ty) : isiD ts .non = .ok (.bl (ts.any (isD1 .non))) := rfl
theorem isi_bl (ts : List Ty) (b : Bool) : isiD ts (.bl b) = .ok (.bl (ts.any (isD1 (.bl b)))) := rfl
theorem isi_int (ts : List Ty) (i : Int) : isiD ts (.int i) = .ok (.bl (ts.any (isD1 (.int i)))) := rfl
theorem isi_str (ts : List Ty) (i : Str) : isiD ts (.str i) = .ok (.bl (ts.any (isD1 (.str i)))) := rfl
theorem isi_tup (ts : List Ty) (i : List D) : isiD ts (.tup i) = .ok (.bl (ts.any (isD1 (.tup i)))) := rfl
theorem isi_lst (ts : List Ty) (i : List D) : isiD ts (.lst i) = .ok (.bl (ts.any (isD1 (.lst i)))) := rfl
theorem lenD_lst (x : List D) : lenD (.lst x) = some (.int x.length) := rfl
theorem lenD_tup (x : List D) : lenD (.tup x) = some (.int x.length) := rfl
theorem lenD_scr (x : List Int) : lenD (.scr x) = some (.int x.length) := rfl
theorem ixD_lst (x : List D) (i : Int) : ixD (.lst x) (.int i) = atI x i := rfl
theorem ixD_tup (x : List D) (i : Int) : ixD (.tup x) (.int i) = atI x i := rfl
theorem ixD_scr (x : List Int) (i : Int) : ixD (.scr x) (.int i) = (atI x i).map D.int := rfl
theorem addD_ii (i j : Int) : addD (.int i) (.int j) = some (.int (i + j)) := rfl
theorem addD_ll (i j : List D) : addD (.lst i) (.lst j) = if szOk (i.length + j.length) then some (.lst (i ++ j)) else none := rfl
theorem addD_tt (i j : List D) : addD (.tup i) (.tup j) = if szOk (i.length + j.length) then some (.tup (i ++ j)) else none := rfl
theorem subD_ii (i j : Int) : subD (.int i) (.int j) = some (.int (i - j)) := rfl
theorem ltD_ii (i j : Int) : ltD (.int i) (.int j) = some (decide (i < j)) := rfl
theorem leD_ii (i j : Int) : leD (.int i) (.int j) = some (decide (i ≤ j)) := rfl
theorem gtD_ii (i j : Int) : gtD (.int i) (.int j) = some (decide (j < i)) := rfl
theorem geD_ii (i j : Int) : geD (.int i) (.int j) = some (decide (j ≤ i)) := rfl
theorem mulD_ii (i j : Int) : mulD (.int i) (.int j) = if small64 i || small64 j then some (.int (i * j)) else none := rfl
theorem listD_l (x : List D) : listD (.lst x) = some (.lst x) := rfl
theorem listD_t (x : List D) : listD (.tup x) = some (.lst x) := rfl
theorem tupD_l (x : List D) : tupD (.lst x) = some (.tup x) := rfl
theorem tupD_t (x : List D) : tupD (.tup x) = some (.tup x) := rfl
theorem negD_i (i : Int) : negD (.int i) = some (.int (-i)) := rfl
theorem itemsD_l (x : List D) : itemsD (.lst x) = some x := rfl
theorem itemsD_t (x : List D) : itemsD (.tup x) = some x := rfl
theorem itemsD_s (x : List Int) : itemsD (.scr x) = some (x.map D.int) := rfl
theorem eqv_ints : ∀ (a b : List Int), eqvs (a.map D.int) (b.map D.int) = decide (a = b)
  | [], [] => rfl
  | [], b :: bs => rfl
  | a :: l, [] => rfl
  | a :: l, b :: m => by
    rw [List.map_cons, List.map_cons, eqvs, eqv_ints l m]
    by_cases h : a = b
    · subst h
      simp [eqv]
    · simp [eqv, h]
theorem okD_ints (n : Nat) (a : List Int) : (a.map D.int).all (okD n) = true := by
  rw [List.all_eq_true]
  intro x hx
  obtain ⟨i, _, rfl⟩ := List.mem_map.mp hx
  cases n <;> rfl
theorem okD_strs (n : Nat) {a : List Str} (h : ∀ x ∈ a, PyData.strOk x = true) : (a.map D.str).all (okD n) = true := by
  rw [List.all_eq_true]
  intro x hx
  obtain ⟨i, hi, rfl⟩ := List.mem_map.mp hx
  cases n <;> exact h i hi
theorem okD_l (n : Nat) (ds : List D) : okD (n + 1) (.lst ds) = ds.all (okD n) := by rw [okD]
theorem okD_t (n : Nat) (ds : List D) : okD (n + 1) (.tup ds) = ds.all (okD n) := by rw [okD]
theorem eqD_of {d e : D} (h1 : okD 16 d = true) (h2 : okD 16 e = true) : eqD d e = some (eqv d e) := by
  unfold eqD
  split
  · cases h1
  · rw [h1, h2]; rfl
theorem eqD_ints (a b : List Int) : eqD (.lst (a.map D.int)) (.lst (b.map D.int)) = some (decide (a = b)) := by
  rw [eqD_of ((okD_l 15 _).trans (okD_ints 15 a)) ((okD_l 15 _).trans (okD_ints 15 b)), eqv, eqv_ints]
theorem eqD_strs {a b : List Str} (ha : ∀ x ∈ a, PyData.strOk x = true) (hb : ∀ x ∈ b, PyData.strOk x = true) : eqD (.lst (a.map D.str)) (.lst (b.map D.str)) = some (eqvs (a.map D.str) (b.map D.str)) := by
  rw [eqD_of ((okD_l 15 _).trans (okD_strs 15 ha)) ((okD_l 15 _).trans (okD_strs 15 hb)), eqv]
theorem eqD_nil {a : List Str} (ha : ∀ x ∈ a, PyData.strOk x = true) : eqD (.lst (a.map D.str)) (.lst []) = some (decide (a = [])) := by
  rw [eqD_of ((okD_l 15 _).trans (okD_strs 15 ha)) rfl]
  cases a <;> rfl
theorem neD_of {d e : D} {b : Bool} (h : eqD d e = some b) : neD d e = some (!b) := by
  unfold neD
  rw [h]
  rfl
theorem eqv_strs : ∀ (a b : List Str), eqvs (a.map D.str) (b.map D.str) = decide (a = b)
  | [], [] => rfl
  | [], b :: bs => rfl
  | a :: l, [] => rfl
  | a :: l, b :: m => by
    rw [List.map_cons, List.map_cons, eqvs, eqv_strs l m]
    by_cases h : a = b
    · subst h
      simp [eqv]
    · simp [eqv, h]
/-- a part of a list -/
theorem cutD_map {α β : Type} (f : α → β) (xs : List α) (lo hi : Option Int) : cutD (xs.map f) lo hi = (cutD xs lo hi).map f := by
  simp [cutD, List.map_take, List.map_drop]
theorem cutD_mem {α : Type} {xs : List α} {lo hi : Option Int} {x : α} (h : x ∈ cutD xs lo hi) : x ∈ xs := List.mem_of_mem_drop (List.mem_of_mem_take h)
theorem cutD_init {α : Type} (xs : List α) : cutD xs none (some (-1)) = xs.dropLast := by
  have e : HT.sIx xs.length xs.length (some (-1)) = xs.length - 1 := by
    show (if (-1 : Int) < 0 then ((-1 : Int) + (xs.length : Int)).toNat else min (-1 : Int).toNat xs.length) = _
    rw [if_pos (by omega)]
    omega
  unfold cutD
  rw [e, List.dropLast_eq_take]
  simp [HT.sIx]
theorem cutD_tail {α : Type} (xs : List α) : cutD xs (some 1) none = xs.tail := by
  have e : HT.sIx xs.length 0 (some 1) = min 1 xs.length := HT.sIx_nat xs.length 0 1
  unfold cutD
  rw [e]
  cases xs with
  | nil => rfl
  | cons a l =>
    have h : min 1 (a :: l).length = 1 := by simp only [List.length_cons]; omega
    rw [h]
    simp [HT.sIx]
end Pd

/-! Pd14: tuples known to be plain (no names of their own): made, and read as a dict's pairs. zip of two, enumerate of a list. -/
namespace Pd
open PySem PySem.Spec L2 RZ
variable {K : PySem.W.Frag}
section
variable {X : Cx} {W : WN} {a e : Expr} {f : Ev → R D}
/-! ### made -/
theorem call_ptup : CallR X (.type "tuple") (fun xs H Q => ∃ (p : Addr) (ys : List V), xs = [.ref p] ∧ SqL X.K H p ys ∧ ∀ (l : Addr) (o : Obj), H l = none → o.dict = none → Q (.ref l) (upd H l (.frz o (.tup ys)))) := by
  intro pins s σ H xs us Q I r h
  obtain ⟨p, ys, rfl, hq, q⟩ := h
  rw [Vals.ref1 r]
  obtain ⟨its, rv, pl, hz⟩ := I.list hq
  have hlen := rv.length
  refine call_tuple_list pl.isList (fun h' kp => ?_) (by simp only [List.size_toArray]; omega)
  have I1 : Inv X pins σ H { s with heap := h' } := I.kept (t' := s.toks) kp
  have fresh := I1.hok.fresh (Nat.le_refl h'.objs.size)
  refine ⟨.ref h'.objs.size, upd H h'.objs.size (.frz { cls := .type "tuple", data := .seq its.toArray } (.tup ys)), I1.laid (t' := s.toks) (fun b o e => Heap.get?_push_of_some _ e) (Nat.le_refl _) ?_, rfl, q _ _ fresh rfl⟩
  exact ⟨Heap.get?_push_size _ rfl, hz, its, rv, ⟨_, Heap.get?_push_size _ rfl, rfl, _, rfl⟩⟩
def ptupD : D → Option D
  | .lst ds => some (.pt ds)
  | _ => none
theorem do_ptup (hK : X.K = K := by rfl) : CallR X (.type "tuple") (rC1 K .v ptupD) := cr1_of fun G H x d r Q sub w q m => by
  subst hK
  cases d with
  | lst ds =>
    cases q
    obtain ⟨a, vs, rfl, ha, rl⟩ := wrep_lst sub w
    refine ⟨_, call_ptup, a, vs, rfl, .of ha, fun l o hl ho => ?_⟩
    have g := Grow.laid (o := HO.frz o (.tup vs)) sub hl
    exact m _ _ _ g (.pt upd_same ho (rl.mono g.gg))
  | _ => cases q
theorem de_pnil {x1} {pos : Pos} : PE X (.Tuple [] x1 pos) (exOf K .v W (eC (.pt []))) := by
  refine ⟨fun pins s σ H Q I ⟨G, ρ, S, m⟩ => ?_⟩
  have h0 : PA X ([] : List Expr) tNil := pa_nil
  refine wpAny_Tuple_spliced (thn (h0.run pos pins s σ H (fun vs H1 => vs = [] ∧ H1 = H) I ⟨rfl, rfl⟩) fun us s1 ⟨xs, H1, I1, r, e1, e2⟩ => ?_)
  subst e1 e2
  cases r
  refine ⟨Nat.zero_le _, ?_⟩
  have hf : H1 s1.heap.objs.size = none := I1.hok.fresh (Nat.le_refl _)
  have g := Grow.laid (o := HO.frz { cls := .type "tuple", data := .seq #[] } (.tup [])) S.sub hf
  refine ⟨.ref s1.heap.objs.size, _, I1.laid (t' := s1.toks) (fun b u e => Heap.get?_push_of_some _ e) (Nat.le_refl _) ?_, rfl, m _ _ _ g (.pt upd_same rfl .nil)⟩
  exact ⟨Heap.get?_push_size _ rfl, Nat.zero_le _, [], .nil, ⟨_, Heap.get?_push_size _ rfl, rfl, _, rfl⟩⟩
/-! ### read as pairs -/
/-- dict(t): t a plain tuple of pairs -/
theorem call_dictPT (hcalm : X.calm = true) : CallR X (.type "dict") (fun xs H Q => ∃ (a : Addr) (o : Obj) (ps : List Addr) (kvs : List (Key × V)), xs = [.ref a] ∧ H a = some (.frz o (.tup (ps.map V.ref))) ∧ o.dict = none ∧ Paired (fun p kv => SqT X.K H p [kV kv.1, kv.2]) ps kvs ∧
    ∀ p, H p = none → Q (.ref p) (upd H p (.dK (mergeK [] kvs)))) := by
  intro pins s σ H xs us Q I r q
  obtain ⟨a, o, ps, kvs, rfl, hq, ho, hp, q⟩ := q
  rw [Vals.ref1 r]
  obtain ⟨hget, hlen, its, rv, ⟨o', ho', hcls, n, hdat⟩⟩ := I.hok a _ hq
  rw [hget] at ho'
  cases ho'
  have ei := refs_at rv
  subst ei
  rw [List.length_map] at hlen
  obtain ⟨prs, rel, hl, hpr⟩ := pairs_of I hp
  have hU : ∀ j : Nat, ∃ u : Value, ∀ q : Key × Value, prs[j]? = some q → ∃ b : Addr, ps[j]? = some b ∧ PyProof.Rows.IsTup s.heap b #[u, q.2] ∧ keyIs q.1 u = true := fun j => by
    cases e : prs[j]? with
    | none => exact ⟨.none, fun q z => nomatch z⟩
    | some q =>
      obtain ⟨b, u, h1, h2, h3⟩ := hpr j q e
      exact ⟨u, fun q' z => by cases z; exact ⟨b, h1, h2, h3⟩⟩
  let U : Nat → Value := fun j => Classical.choose (hU j)
  have hU' : ∀ j, ∀ q : Key × Value, prs[j]? = some q → ∃ b : Addr, ps[j]? = some b ∧ PyProof.Rows.IsTup s.heap b #[U j, q.2] ∧ keyIs q.1 (U j) = true := fun j => Classical.choose_spec (hU j)
  let qs : List (Value × Value) := (List.range prs.length).map fun j => (U j, ((prs[j]?).map (·.2)).getD .none)
  have hqs : ∀ (j : Nat) (k v : Value), qs[j]? = some (k, v) → ∃ q, prs[j]? = some q ∧ k = U j ∧ v = q.2 := fun j k v e => by
    simp only [qs, List.getElem?_map] at e
    cases z : (List.range prs.length)[j]? with
    | none => rw [z] at e; cases e
    | some i =>
      rw [z] at e
      obtain ⟨hi, hj⟩ := List.getElem?_eq_some_iff.mp z
      simp only [List.length_range] at hi
      simp only [List.getElem_range] at hj
      subst hj
      simp only [Option.map_some, List.getElem?_eq_getElem hi, Option.getD_some] at e
      cases e
      exact ⟨_, List.getElem?_eq_getElem hi, rfl, rfl⟩
  have lq : qs.length = prs.length := by simp [qs]
  have ok : PlainSeq "tuple" s.heap a (ps.map Value.ref).toArray ∧ PairItems s.heap (ps.map Value.ref).toArray (fun j => (ps[j]?).getD 0) qs := by
    refine ⟨⟨o, n, hget, hcls, ho, hdat⟩, ?_, fun j k v e => ?_⟩
    · simp only [List.size_toArray, List.length_map]
      omega
    · obtain ⟨q', e1, rfl, rfl⟩ := hqs j k v e
      obtain ⟨b, b1, b2, _⟩ := hU' j q' e1
      refine ⟨by simp [b1], .inl ?_⟩
      show s.heap.IsTuple ((ps[j]?).getD 0) _
      rw [b1]
      exact b2
  have hc : PairsHave (mixKind X.prog X.w) qs.length (PairRel qs) prs := ⟨lq.symm, fun i key v e => by
    obtain ⟨q', e1, rfl, rfl⟩ := hqs i key v e
    obtain ⟨b, b1, b2, b3⟩ := hU' i q' e1
    exact ⟨q'.1, e1, b3⟩⟩
  refine PySem.call_dict_pairs (PairArg.tuple a (ps.map Value.ref).toArray (fun j => (ps[j]?).getD 0) qs) (I.ok.hd hcalm) ok hc (by omega) fun h' tk hd' k => ?_
  have hm : (s.heap.objs.size == sysModules) = false := beq_eq_false_iff_ne.mpr (Nat.ne_of_gt I.big)
  have hsz : (mergeK [] kvs).length ≤ sizeLine := by
    refine Nat.le_trans (length_mergeK kvs []) ?_
    rw [List.length_nil, Nat.zero_add, rel.length, hl]
    exact hlen
  exact ⟨.ref s.heap.objs.size, upd H s.heap.objs.size (.dK (mergeK [] kvs)), I.laid (t' := tk) (fun b o e => k b o (by simp) e) (Nat.le_refl _) (show ObjOk X.prog X.w _ _ _ (.dK (mergeK [] kvs)) from ⟨hsz, hm, merged [] prs, KV.merge rel .nil, hd'⟩), rfl, q _ (I.hok.fresh (Nat.le_refl _))⟩
/-- the pairs of a list -/
def pairsD : List D → Option (List (Key × D))
  | [] => some []
  | .tup [k, d] :: ds => (keyD k).bind fun k' => (pairsD ds).bind fun r => some ((k', d) :: r)
  | _ :: _ => none
def dictD : D → Option D
  | .pt ds => (pairsD ds).bind fun ks => if decide (ks.map (·.1)).Nodup then some (.dct false (ks.map fun kd => (kD kd.1, kd.2))) else none
  | _ => none
theorem mergeK_snoc : ∀ (more acc : List (Key × V)), (acc.map (·.1) ++ more.map (·.1)).Nodup → mergeK acc more = acc ++ more
  | [], acc, _ => by unfold mergeK; simp
  | p :: r, acc, h => by
    have hn : p.1 ∉ acc.map (·.1) := fun z => by
      have := (List.nodup_append.mp h).2.2 p.1 z p.1 (by simp)
      exact this rfl
    have e : putK acc p.1 p.2 = acc ++ [p] := by
      unfold putK
      rw [if_neg]
      intro z
      obtain ⟨x, hx, hk⟩ := List.any_eq_true.mp z
      exact hn (List.mem_map.mpr ⟨x, hx, of_decide_eq_true hk⟩)
    have ih := mergeK_snoc r (acc ++ [p]) (by simpa using h)
    show mergeK (putK acc p.1 p.2) r = _
    rw [e, ih]
    simp
theorem pairs_rep {G : Hp} : ∀ {vs : List V} {ds : List D} {ks : List (Key × D)}, RepL K G vs ds → pairsD ds = some ks → ∃ (ps : List Addr) (kvs : List (Key × V)), vs = ps.map V.ref ∧ kvs.map (·.1) = ks.map (·.1) ∧ Paired (fun p kv => G p = some (.tup [kV kv.1, kv.2])) ps kvs ∧ RepK K G kvs (ks.map fun kd => (kD kd.1, kd.2))
  | _, _, _, .nil, q => by cases q; exact ⟨[], [], rfl, rfl, .nil, .nil⟩
  | _, _, _, .cons (v := v) (d := d) (ds := ds0) h r, q => by
    unfold pairsD at q
    split at q
    · rename_i he
      cases he
    · rename_i k d' ds' he
      cases he
      cases e1 : keyD k with
      | none => rw [e1] at q; cases q
      | some k' =>
        cases e2 : pairsD ds0 with
        | none => rw [e1, e2] at q; cases q
        | some rr =>
          rw [e1, e2] at q
          cases q
          obtain ⟨ps, kvs, rfl, e3, e4, e5⟩ := pairs_rep r e2
          cases h with
          | @tup a xs _ hg rl =>
            obtain rfl := keyD_some e1
            cases rl with
            | @cons vk _ _ _ hk t =>
              cases t with
              | cons hd t2 =>
                cases t2
                have ek : vk = kV k' := (by
                  cases k' with
                  | inl i => cases hk; rfl
                  | inr x => cases hk; rfl)
                subst ek
                exact ⟨a :: ps, (k', _) :: kvs, rfl, by simp [e3], .cons hg e4, .cons hd e5⟩
    · cases q
theorem do_dict (hc : X.calm = true := by rfl) (hK : X.K = K := by rfl) : CallR X (.type "dict") (rC1 K .v dictD) := cr1_of fun G H x d r Q sub w q m => by
  subst hK
  cases d with
  | pt ds =>
    obtain ⟨a, o, vs, rfl, ha, ho, rl⟩ := wrep_pt w
    unfold dictD at q
    cases e : pairsD ds with
    | none => simp only [e] at q; cases q
    | some ks =>
      simp only [e, Option.bind_some] at q
      split at q
      · rename_i hz
        cases q
        obtain ⟨ps, kvs, rfl, e1, e2, e3⟩ := pairs_rep rl e
        have hn : (([] : List (Key × V)).map (·.1) ++ kvs.map (·.1)).Nodup := by
          rw [e1]
          simpa using of_decide_eq_true hz
        refine ⟨_, call_dictPT hc, a, o, ps, kvs, rfl, sub _ _ ha, ho, L2.Paired.mapP e2 fun p kv h => .inl (.inl (sub _ _ h)), fun p hp => ?_⟩
        rw [mergeK_snoc kvs [] hn, List.nil_append]
        have g := Grow.laid (o := HO.dK kvs) sub hp
        exact m _ _ _ g (.dK upd_same (e3.mono g.gg))
      · cases q
  | _ => cases q
/-! ### zip of two, enumerate of a list -/
def seqD : D → Option (List D)
  | .tup ds => some ds
  | .pt ds => some ds
  | _ => none
def zipL : List D → List D → List D
  | a :: l, b :: m => .tup [a, b] :: zipL l m
  | _, _ => []
def zip2D : List D → Option (List D)
  | [.lst xs, .lst ys] => some (zipL xs ys)
  | [x, y] => (seqD x).bind fun xs => (seqD y).bind fun ys => some (zipL xs ys)
  | _ => none
theorem seqD_rep {G H : Hp} {v : V} {d : D} {ds : List D} (sub : Sub G H) (h : Rep K G v d) (q : seqD d = some ds) : ∃ a vs, v = .ref a ∧ Rd G a (.tup vs) ∧ RepL K G vs ds := by
  cases h with
  | tup h r => cases q; exact ⟨_, _, rfl, .inl h, r⟩
  | pt h _ r => cases q; exact ⟨_, _, rfl, .inr ⟨_, h⟩, r⟩
  | _ => cases q
theorem zipL_len : ∀ (xs ys : List D), xs.length ≤ (zipL xs ys).length ∨ ys.length ≤ (zipL xs ys).length
  | [], _ => .inl (Nat.zero_le _)
  | _ :: _, [] => .inr (Nat.zero_le _)
  | a :: l, b :: m => by
    rcases zipL_len l m with h | h
    · exact .inl (by simp only [zipL, List.length_cons]; omega)
    · exact .inr (by simp only [zipL, List.length_cons]; omega)
theorem zipL_get : ∀ {xs ys : List D} {i : Nat} {d : D}, (zipL xs ys)[i]? = some d → ∃ a b, d = .tup [a, b] ∧ xs[i]? = some a ∧ ys[i]? = some b
  | [], _, _, _, h => by simp [zipL] at h
  | _ :: _, [], _, _, h => by simp [zipL] at h
  | a :: l, b :: m, 0, d, h => by
    simp [zipL] at h
    exact ⟨a, b, h.symm, rfl, rfl⟩
  | a :: l, b :: m, i + 1, d, h => by
    obtain ⟨x, y, e, h1, h2⟩ := zipL_get (xs := l) (ys := m) (i := i) (by simpa [zipL] using h)
    exact ⟨x, y, e, by simpa using h1, by simpa using h2⟩
theorem pair_new {G' H' : Hp} {T : Addr} {x y : V} {a b : D} (s : Sub G' H') (n : H' T = none) (hx : Rep K G' x a) (hy : Rep K G' y b) : ∃ G'', Grow G' H' G'' (upd H' T (.tup [x, y])) ∧ Rep K G'' (.ref T) (.tup [a, b]) := by
  have g := Grow.laid (o := HO.tup [x, y]) s n
  exact ⟨_, g, .tup upd_same (.cons (hx.mono g.gg) (.cons (hy.mono g.gg) .nil))⟩
theorem itz_d {a b : Addr} {G : Hp} {xs ys : List V} {ds es : List D} (h : SqL K G a xs) (r : RepL K G xs ds) (h2 : SqL K G b ys) (r2 : RepL K G ys es) : ItD K (Itz K a b) G (zipL ds es) := fun H' s => by
  refine ⟨fun i d e => ?_, xs, ys, s.seq h, s.seq h2, ?_⟩
  · obtain ⟨x, y, rfl, e1, e2⟩ := zipL_get e
    obtain ⟨v, hv, rv⟩ := r.get e1
    obtain ⟨u, hu, ru⟩ := r2.get e2
    refine ⟨⟨xs, ys, v, u, s.seq h, s.seq h2, hv, hu⟩, fun w H'' ⟨T, x', y', ew, nT, eH, fx, fy⟩ G' s1 s2 => ?_⟩
    have q1 := fx xs (s.seq h)
    have q2 := fy ys (s.seq h2)
    rw [hv] at q1
    rw [hu] at q2
    cases q1
    cases q2
    subst ew eH
    exact pair_new s2 nT (rv.mono s1) (ru.mono s1)
  · have := zipL_len ds es
    rw [r.length, r2.length]
    exact this
theorem itzT_d {a b : Addr} {G : Hp} {xs ys : List V} {ds es : List D} (h : Rd G a (.tup xs)) (r : RepL K G xs ds) (h2 : Rd G b (.tup ys)) (r2 : RepL K G ys es) : ItD K (ItzT K a b) G (zipL ds es) := fun H' s => by
  have hs : ∀ {H1}, Sub G H1 → SqT K H1 a xs := fun s => .inl (s.rd h)
  have hs2 : ∀ {H1}, Sub G H1 → SqT K H1 b ys := fun s => .inl (s.rd h2)
  refine ⟨fun i d e => ?_, xs, ys, hs s, hs2 s, ?_⟩
  · obtain ⟨x, y, rfl, e1, e2⟩ := zipL_get e
    obtain ⟨v, hv, rv⟩ := r.get e1
    obtain ⟨u, hu, ru⟩ := r2.get e2
    refine ⟨⟨xs, ys, v, u, hs s, hs2 s, hv, hu⟩, fun w H'' ⟨T, x', y', ew, nT, eH, fx, fy⟩ G' s1 s2 => ?_⟩
    have q1 := fx xs (hs s)
    have q2 := fy ys (hs2 s)
    rw [hv] at q1
    rw [hu] at q2
    cases q1
    cases q2
    subst ew eH
    exact pair_new s2 nT (rv.mono s1) (ru.mono s1)
  · have := zipL_len ds es
    rw [r.length, r2.length]
    exact this
theorem di_zip2 {a b : Expr} {f : Ev → R (List D)} {p pos tpos : Pos} {elts : List Expr} {kk : Nat} (hm : X.mg "zip" = none) (ha : PA X [a, b] (taOf K W f)) (hK : X.K = K := by rfl) (hg : Gl X "zip" := by rfl)
    (hs : starEach [a, b] X.env = (false, eval a X.env) :: starEach [b] X.env := by rfl) (hpl : (backTo pos (starEach [b] X.env)).any (·.1) = false := by rfl) :
    PI X (.Tuple elts kk tpos) (.Call (.Name "zip" p) [a, b] [] pos) (tiOf K true W fun ρ => (f ρ).bind fun d => opt (zip2D d)) := pi_imp (pi_zipA hg hm ha hs hpl) fun σ H Q h => by
  subst hK
  refine ti_args (r := fun vs H1 Q => ∃ a b xs ys, vs = [.ref a, .ref b] ∧ ((SqL X.K H1 a xs ∧ SqL X.K H1 b ys ∧ Q (Itz X.K a b) H1) ∨ (SqT X.K H1 a xs ∧ SqT X.K H1 b ys ∧ Q (ItzT X.K a b) H1))) (fun G H vs ds its Q sub r e m => ?_) h
  cases r with
  | nil => cases e
  | @cons _ _ d1 _ r1 r2 =>
    cases r2 with
    | nil => cases r1 <;> cases e
    | @cons _ _ d2 _ r3 r4 =>
      cases r4 with
      | cons _ _ => cases r1 <;> cases r3 <;> cases e
      | nil =>
        unfold zip2D at e
        split at e
        · rename_i xs ys he
          cases he
          cases e
          cases r1 with
          | lst h1 q1 =>
            cases r3 with
            | lst h3 q3 => exact ⟨_, _, _, _, rfl, .inl ⟨.of (sub _ _ h1), .of (sub _ _ h3), m _ G H (.refl sub) (itz_d (.of h1) q1 (.of h3) q3)⟩⟩
        · rename_i x y _ he
          cases he
          cases e1 : seqD d1 with
          | none => rw [e1] at e; cases e
          | some xs =>
            cases e2 : seqD d2 with
            | none => rw [e1, e2] at e; cases e
            | some ys =>
              rw [e1, e2] at e
              cases e
              obtain ⟨a', us, rfl, h1, q1⟩ := seqD_rep sub r1 e1
              obtain ⟨b', ws, rfl, h3, q3⟩ := seqD_rep sub r3 e2
              exact ⟨_, _, _, _, rfl, .inr ⟨.inl (sub.rd h1), .inl (sub.rd h3), m _ G H (.refl sub) (itzT_d h1 q1 h3 q3)⟩⟩
        · cases e
def enumF : Nat → List D → List D
  | _, [] => []
  | i, d :: ds => .tup [.int (i : Nat), d] :: enumF (i + 1) ds
def enumD : List D → Option (List D)
  | [.lst ds] => some (enumF 0 ds)
  | _ => none
theorem enumF_len : ∀ (i : Nat) (ds : List D), (enumF i ds).length = ds.length
  | _, [] => rfl
  | i, d :: ds => by rw [enumF, List.length_cons, List.length_cons, enumF_len (i + 1) ds]
theorem enumF_get : ∀ {k : Nat} {ds : List D} {i : Nat} {d : D}, (enumF k ds)[i]? = some d → ∃ a, d = .tup [.int ((k + i : Nat) : Int), a] ∧ ds[i]? = some a
  | _, [], _, _, h => by simp [enumF] at h
  | k, a :: l, 0, d, h => by
    simp [enumF] at h
    exact ⟨a, h.symm, rfl⟩
  | k, a :: l, i + 1, d, h => by
    obtain ⟨x, e, h1⟩ := enumF_get (k := k + 1) (ds := l) (i := i) (by simpa [enumF] using h)
    exact ⟨x, by rw [e]; congr 4; omega, by simpa using h1⟩
theorem ite_d {a : Addr} {G : Hp} {xs : List V} {ds : List D} (h : SqL K G a xs) (r : RepL K G xs ds) : ItD K (Ite K a) G (enumF 0 ds) := fun H' s => by
  refine ⟨fun i d e => ?_, xs, s.seq h, by rw [enumF_len, r.length]; exact Nat.le_refl _⟩
  obtain ⟨x, rfl, e1⟩ := enumF_get e
  obtain ⟨v, hv, rv⟩ := r.get e1
  refine ⟨⟨xs, v, s.seq h, hv⟩, fun w H'' ⟨T, x', ew, nT, eH, fx⟩ G' s1 s2 => ?_⟩
  have q1 := fx xs (s.seq h)
  rw [hv] at q1
  cases q1
  subst ew eH
  rw [Nat.zero_add]
  exact pair_new s2 nT (.int _) (rv.mono s1)
theorem di_enum {a : Expr} {f : Ev → R (List D)} {p pos tpos : Pos} {elts : List Expr} {kk : Nat} (hm : X.mg "enumerate" = none) (ha : PA X [a] (taOf K W f)) (hK : X.K = K := by rfl) (hg : Gl X "enumerate" := by rfl)
    (hs : starEach [a] X.env = [(false, eval a X.env)] := by rfl) :
    PI X (.Tuple elts kk tpos) (.Call (.Name "enumerate" p) [a] [] pos) (tiOf K true W fun ρ => (f ρ).bind fun d => opt (enumD d)) := pi_imp (pi_enum hg hm ha hs) fun σ H Q h => by
  subst hK
  refine ti_args (r := fun vs H1 Q => ∃ a xs, vs = [.ref a] ∧ SqL X.K H1 a xs ∧ Q (Ite X.K a) H1) (fun G H vs ds its Q sub r e m => ?_) h
  cases r with
  | nil => cases e
  | cons r1 r2 =>
    cases r2 with
    | cons _ _ => cases r1 <;> cases e
    | nil =>
      cases r1 with
      | lst h1 q1 => cases e; exact ⟨_, _, rfl, .of (sub _ _ h1), m _ G H (.refl sub) (ite_d (.of h1) q1)⟩
      | _ => cases e
end
end Pd

/-! Pd15: three names at once. -/
namespace Pd
open PySem PySem.Spec L2
variable {K : PySem.W.Frag}
section
variable {X : Cx} {W : WN}
def sPar3 (o1 o2 o3 : Bool) (i j l : Nat) (f g h : Ev → R D) : Ev → O := fun ρ => (f ρ).out ρ fun d => (g ρ).out ρ fun e => (h ρ).out ρ fun c => .nx (((ρ.set i (sb o1 d)).set j (sb o2 e)).set l (sb o3 c))
theorem ds_par3 (o1 o2 o3 : Bool) {i j l : Nat} {x y z : Str} {a b c : Expr} {fa fb fc : Ev → R D} {px py pz pt pos : Pos} {kt k2 pt2} (hc : X.calm = true) (hN : X.N.Nodup) (hi : X.N[i]? = some x) (hj : X.N[j]? = some y) (hl : X.N[l]? = some z) (hij : i ≠ j) (hil : i ≠ l) (hjl : j ≠ l)
    (hx : X.env.scope.names.lookup x = some .local) (hy : X.env.scope.names.lookup y = some .local) (hz : X.env.scope.names.lookup z = some .local) (ha : PE X a (exOf K (kb o1) W fa)) (hb : PE X b (exOf K (kb o2) W fb)) (hcc : PE X c (exOf K (kb o3) W fc))
    (hw : swappedStores [.Tuple [.Name x px, .Name y py, .Name z pz] kt pt] (.Tuple [a, b, c] k2 pt2) X.env = pure (some [x, y, z]) := by rfl)
    (hs : swapsWithSole [.Tuple [.Name x px, .Name y py, .Name z pz] kt pt] (.Tuple [a, b, c] k2 pt2) pos.line X.env = pure false := by rfl)
    (h1 : starEach (a :: b :: c :: []) X.env = (false, eval a X.env) :: starEach (b :: c :: []) X.env := by rfl) (h2 : starEach (b :: c :: []) X.env = (false, eval b X.env) :: starEach (c :: []) X.env := by rfl) (h3 : starEach (c :: []) X.env = (false, eval c X.env) :: starEach [] X.env := by rfl) :
    PS X (.Assign [.Tuple [.Name x px, .Name y py, .Name z pz] kt pt] (.Tuple [a, b, c] k2 pt2) pos) (tsOf K W (sPar3 o1 o2 o3 i j l fa fb fc)) := ps_imp (ps_par3 hc hN hi hj hl hij hil hjl hx hy hz (pa_cons ha (pa_cons hb (pa_cons hcc pa_nil h3) h2) h1) hw hs) fun E σ H ⟨B, G, ρ, S, m⟩ => by
  unfold sPar3 at m
  refine ex_then S m fun d v G1 H1 S1 g1 r1 m1 => ?_
  refine ex_then S1 (OutP.later g1.gg m1) fun e u G2 H2 S2 g2 r2 m2 => ?_
  refine ex_then S2 (OutP.later g2.gg m2) fun c w G3 H3 S3 g3 r3 m3 => ?_
  have a1 : Good K B G1 (ρ.set i (sb o1 d)) (σ.set i (some v)) H1 := S.set g1 r1
  have a2 : Good K B G2 ((ρ.set i (sb o1 d)).set j (sb o2 e)) ((σ.set i (some v)).set j (some u)) H2 := a1.set g2 r2
  have a3 : Good K B G3 (((ρ.set i (sb o1 d)).set j (sb o2 e)).set l (sb o3 c)) (((σ.set i (some v)).set j (some u)).set l (some w)) H3 := a2.set g3 r3
  exact ⟨v, u, w, rfl, m3 G3 _ H3 a3 g3.gg⟩
/-! ### the first place of an item -/
def idxL (ds : List D) (e : D) : Option D := if okD 15 e && okD 16 (.lst ds) then (ds.findIdx? fun z => eqv z e).map fun j => .int (j : Nat) else none
def eIdx (fa fb : Ev → R D) : Ev → R D := fun ρ => (fa ρ).bind fun d => match d with
  | .lst ds => (fb ρ).bind fun e => opt (idxL ds e)
  | _ => .bad
theorem toPys_get : ∀ (ds : List D) (j : Nat), (toPys ds)[j]? = (ds[j]?).map toPy
  | [], j => by simp [toPys]
  | d :: ds, 0 => by simp [toPys]
  | d :: ds, j + 1 => by simp [toPys, toPys_get ds j]
theorem un65 {A : Around} {k : Nat} (h : Room k A) : A.units + 65 < cLine := by have := h.un; omega
theorem de_index {o e : Expr} {fa fb : Ev → R D} {apos cpos : Pos} (hu : X.A.units + 65 < cLine) (ho : PE X o (exOf K .w W fa)) (ha : PE X e (exOf K .w W fb)) (hK : X.K = K := by rfl)
    (hbase : attributeBase o "index" X.env (eval o X.env) = eval o X.env := by rfl)
    (hfew : ((backTo cpos (starEach (e :: []) X.env)).all (fun x => !x.1) && (backToKw cpos (keywordEach [] X.env)).all (fun x => x.1.isSome)
      && decide ((e :: ([] : List Expr)).length + ([] : List Keyword).length + (if ([] : List Keyword).isEmpty then 0 else 1) < 30)) = true := by rfl)
    (hline : (apos.endLine == cpos.line) = true := by rfl) (hs : starEach (e :: []) X.env = (false, eval e X.env) :: starEach [] X.env := by rfl) (hplain : (backTo cpos (starEach [] X.env)).any (·.1) = false := by rfl) :
    PE X (.Call (.Attribute o "index" apos) [e] [] cpos) (exOf K .v W (eIdx fa fb)) :=
  pe_imp (pe_bm PySem.F.plainAttrs_list PySem.F.slot_list_index PySem.F.type_list_index (mt_indexD hu) ho (pa_cons ha pa_nil hs) hbase hfew hline hs hplain) fun σ H Q ⟨G, ρ, S, m⟩ => by
  subst hK
  refine ⟨G, ρ, S, ?_⟩
  unfold eIdx at m
  cases q : fa ρ with
  | ok d =>
    simp only [q, R.bind_ok] at m
    intro v G1 H1 g1 r1
    cases d with
    | lst ds =>
      obtain ⟨a, vs, rfl, hv, rl⟩ := wrep_lst g1.gh r1
      refine ⟨.inl ⟨rfl, vs, .of hv⟩, G1, ρ, S.grow g1, ?_⟩
      cases q2 : fb ρ with
      | ok e2 =>
        simp only [q2, R.bind_ok] at m
        intro y G2 H2 g2 r2
        cases q3 : idxL ds e2 with
        | none => simp only [q3, opt_none] at m
        | some b =>
          simp only [q3, opt_some] at m
          unfold idxL at q3
          split at q3
          · rename_i hz
            rw [Bool.and_eq_true] at hz
            cases q4 : ds.findIdx? fun z => eqv z e2 with
            | none => rw [q4] at q3; cases q3
            | some jj =>
              rw [q4] at q3
              cases q3
              obtain ⟨hj, h1, h2⟩ := List.findIdx?_eq_some_iff_getElem.mp q4
              have w1 := WRep.grow g2 r1
              have p1 := wrep_dp g2.gh hz.2 w1
              have p2 := wrep_dp g2.gh hz.1 r2
              have s1 := okD_shaped hz.2 (by decide)
              have s2 := okD_shaped hz.1 (by decide)
              have all : ds.all (okD 15) = true := by simpa [okD] using hz.2
              have oks : ∀ (i : Nat) (hi : i < ds.length), okD 15 ds[i] = true := fun i hi => List.all_eq_true.mp all _ (List.getElem_mem hi)
              refine ⟨a, y, toPy e2, toPys ds, jj, toPy ds[jj], rfl, rfl, by simpa [toPy] using p1, p2, by simpa [toPy] using s1, s2, by rw [toPys_get, List.getElem?_eq_getElem hj]; rfl, by rw [eqv_py _ _ 15 15 (oks jj hj) hz.1]; exact h1, fun mm z' hm hz' => ?_, m _ G2 H2 (g1.trans g2) (.int _)⟩
              rw [toPys_get, List.getElem?_eq_getElem (Nat.lt_trans hm hj)] at hz'
              cases hz'
              rw [eqv_py _ _ 15 15 (oks mm (Nat.lt_trans hm hj)) hz.1]
              have := h2 mm hm
              simpa using this
          · cases q3
      | exc c => simp only [q2, R.bind_exc] at m; exact fun G' H' g' => m G' H' (g1.trans g')
      | bad => simp only [q2, R.bind_bad] at m
    | _ => exact m.elim
  | exc c => simp only [q, R.bind_exc] at m; exact m
  | bad => simp only [q, R.bind_bad] at m
end
end Pd

/-! Pd16: statements that are never reached. -/
namespace Pd
open PySem PySem.Spec L2
variable {K : PySem.W.Frag}
section
variable {X : Cx} {W : WN}
def sBad : Ev → O := fun _ => .bad
/-- a statement of which nothing is said: its reading is never met -/
theorem ds_bad {st : Stmt} : PS X st (tsOf K W sBad) := ⟨fun pins s σ H E I ⟨B, G, ρ, S, m⟩ => False.elim m⟩
def eBad : Ev → R D := fun _ => .bad
theorem de_bad {k : Kn} {e : Expr} : PE X e (exOf K k W eBad) := ⟨fun pins s σ H Q I ⟨G, ρ, S, m⟩ => False.elim m⟩
/-! ### how often an item stands in a list -/
def rCountD (K : PySem.W.Frag) : V → List V → Hp → VK → Prop := fun x xs H Q => ∃ (a : Addr) (y : V) (d : PyData) (ds : List PyData), x = .ref a ∧ xs = [y] ∧ Dp K H (.ref a) (.list ds) ∧ Dp K H y d ∧ SeqAt.shaped (.list ds) = true ∧ SeqAt.shaped d = true ∧
  Q (.int ((ds.countP fun z => PyData.eqv z d : Nat) : Int)) H
theorem mt_countD (hu : X.A.units + 65 < cLine) : MtR X "list.count" (rCountD X.K) := by
  intro pins s σ H x xs v us Q I rx rxs h
  obtain ⟨a, y, d, ds, rfl, rfl, hl, hy, sl, sd, q⟩ := h
  cases rx
  obtain ⟨uy, rfl, ry⟩ := rxs.one
  obtain ⟨bs, r1⟩ := Dp.reads I d y uy hy ry
  have c1 : PyData.canLayAll0 ds = true := SeqAt.canLay_of_shaped sl
  have room : X.A.units + 1 + min (PyData.depthAll ds) d.depth < cLine := PyProof.Rows.room_in_shaped sd hu
  cases hl with
  | lst hs ha =>
    obtain ⟨its, rv, ⟨⟨cls, dd, data, sls⟩, n, ho, hc, hdn, hdt⟩, hlen⟩ := I.list hs
    simp only at hc hdt
    subst hc hdt
    obtain ⟨as, rd⟩ := Dp.readsAll I ds _ its ha rv
    have hm : its.map (SeqAt.readOf s.heap) = ds := SeqAt.readsAll_map ds its as c1 rd
    refine call_meets PySem.F.slot_list_count ⟨_, ho, rfl⟩ PySem.F.entry_list_count (PySem.F.args_list_count_2 _ _)
      (SeqAt.list_countAt a its.toArray n dd sls uy (fun u => PyData.eqv (SeqAt.readOf s.heap u) d)) ⟨ho, SeqAt.items_eqAt (vs := its.toArray) (show ReadsAll s.heap its.toArray.toList ds as from rd) r1 c1 (SeqAt.canLay_of_shaped sd) room, ?_⟩
    refine ⟨.int ((ds.countP fun z => PyData.eqv z d : Nat) : Int), H, I.tok _, ⟨s.toks, ?_⟩, q⟩
    show Value.int _ s.toks = Value.int _ s.toks
    rw [← hm, List.countP_map]
    rfl
def cntL (ds : List D) (e : D) : Option D := if okD 15 e && okD 16 (.lst ds) then some (.int (ds.countP fun z => eqv z e : Nat)) else none
def eCnt (fa fb : Ev → R D) : Ev → R D := fun ρ => (fa ρ).bind fun d => match d with
  | .lst ds => (fb ρ).bind fun e => opt (cntL ds e)
  | _ => .bad
theorem count_py {e : D} (he : okD 15 e = true) : ∀ {ds : List D}, ds.all (okD 15) = true → ((toPys ds).countP fun z => PyData.eqv z (toPy e)) = ds.countP fun z => eqv z e
  | [], _ => rfl
  | d :: ds, h => by
    simp only [List.all_cons, Bool.and_eq_true] at h
    simp only [toPys, List.countP_cons, count_py he h.2, eqv_py d e 15 15 h.1 he]
theorem de_count {o e : Expr} {fa fb : Ev → R D} {apos cpos : Pos} (hu : X.A.units + 65 < cLine) (ho : PE X o (exOf K .w W fa)) (ha : PE X e (exOf K .w W fb)) (hK : X.K = K := by rfl)
    (hbase : attributeBase o "count" X.env (eval o X.env) = eval o X.env := by rfl)
    (hfew : ((backTo cpos (starEach (e :: []) X.env)).all (fun x => !x.1) && (backToKw cpos (keywordEach [] X.env)).all (fun x => x.1.isSome)
      && decide ((e :: ([] : List Expr)).length + ([] : List Keyword).length + (if ([] : List Keyword).isEmpty then 0 else 1) < 30)) = true := by rfl)
    (hline : (apos.endLine == cpos.line) = true := by rfl) (hs : starEach (e :: []) X.env = (false, eval e X.env) :: starEach [] X.env := by rfl) (hplain : (backTo cpos (starEach [] X.env)).any (·.1) = false := by rfl) :
    PE X (.Call (.Attribute o "count" apos) [e] [] cpos) (exOf K .v W (eCnt fa fb)) :=
  pe_imp (pe_bm PySem.F.plainAttrs_list PySem.F.slot_list_count PySem.F.type_list_count (mt_countD hu) ho (pa_cons ha pa_nil hs) hbase hfew hline hs hplain) fun σ H Q ⟨G, ρ, S, m⟩ => by
  subst hK
  refine ⟨G, ρ, S, ?_⟩
  unfold eCnt at m
  cases q : fa ρ with
  | ok d =>
    simp only [q, R.bind_ok] at m
    intro v G1 H1 g1 r1
    cases d with
    | lst ds =>
      obtain ⟨a, vs, rfl, hv, rl⟩ := wrep_lst g1.gh r1
      refine ⟨.inl ⟨rfl, vs, .of hv⟩, G1, ρ, S.grow g1, ?_⟩
      cases q2 : fb ρ with
      | ok e2 =>
        simp only [q2, R.bind_ok] at m
        intro y G2 H2 g2 r2
        by_cases hz : (okD 15 e2 && okD 16 (.lst ds)) = true
        · unfold cntL at m
          rw [if_pos hz] at m
          rw [Bool.and_eq_true] at hz
          have all : ds.all (okD 15) = true := by simpa [okD] using hz.2
          have p1 := wrep_dp g2.gh hz.2 (WRep.grow g2 r1)
          have s1 := okD_shaped hz.2 (by decide)
          refine ⟨a, y, toPy e2, toPys ds, rfl, rfl, by simpa [toPy] using p1, wrep_dp g2.gh hz.1 r2, by simpa [toPy] using s1, okD_shaped hz.1 (by decide), ?_⟩
          rw [count_py hz.1 all]
          exact m _ G2 H2 (g1.trans g2) (.int _)
        · unfold cntL at m
          rw [if_neg hz] at m
          exact False.elim m
      | exc c => simp only [q2, R.bind_exc] at m; exact fun G' H' g' => m G' H' (g1.trans g')
      | bad => simp only [q2, R.bind_bad] at m
    | _ => exact False.elim m
  | exc c => simp only [q, R.bind_exc] at m; exact m
  | bad => simp only [q, R.bind_bad] at m
end
end Pd

/-! Pd17: a def that is called with the exception which an except suite holds. -/
namespace Pd
open PySem PySem.Spec L2
variable {P : Program} {w : World} {K : PySem.W.Frag} {mg : Str → Option Value} {base : Heap}
abbrev noE : XK := fun _ _ _ => False
/-- such a def's promise, told of the exception's object p -/
structure FnX (P : Program) (w : World) (K : PySem.W.Frag) (mg : Str → Option Value) (base : Heap) (k : Nat) (f : Addr) (fd : FuncData) (ps : List Str) (sp : Addr × Obj → Sp) : Prop where
  run : ∀ (A : Around) (outer : List Env) (s : Shared) (H : Hp) (args : Args) (us : List Value) (vs : List V) (Q : VK) (p : Addr × Obj), L2H.RoomH k A → L2H.PinOk outer H s p → Env0 P w K mg base A outer s H →
    BindsTo s fd args (ps.zip us) → Vals vs us → vs.length = ps.length → sp p vs H Q noE → codeAny (model P w) A (.call (.ref f) args) (CR L2.CX0 outer P w H s Q noE) s
theorem fnX_of {k : Nat} {f : Addr} {name qual : Str} {params : Arguments} {body : List Stmt} {scope : Scope} {dV kV doc pm cdv ct oc : Value} {an od : Option Addr} {osl : Array (Option Value)} {N ps : List Str} {sp : Addr × Obj → Sp}
    (lk : K.lookup f = some ⟨oc, od, .func (PySem.W.fnOf name qual params body scope dV kV doc pm an cdv ct), osl⟩) (hcd : PySem.W.codeIn K cdv qual = true) (S : FnScope N ps scope)
    (hbody : ∀ (A : Around) (outer : List Env) (s : Shared) (H : Hp) (vs : List V) (Q : VK) (p : Addr × Obj), L2H.RoomH k (A.deeper (PyProof.Rows.envOfC qual scope s.heap.objs.size f cdv)) → sp p vs H Q noE →
      ∃ t, PSs (L2H.cxH L2.CX0 P w K mg base N qual scope f cdv A outer s H noE p) body t ∧ t { nx := fun _ H' => Q .non H', rt := Q } (L2.start N vs) H) :
    FnX P w K mg base (k + 1) f (PySem.W.fnOf name qual params body scope dV kV doc pm an cdv ct) ps sp := by
  refine ⟨fun A outer s H args us vs Q p hr hpin e0 hb r hl hsp => ?_⟩
  have inK : K.In s.heap := e0.mod.kin.keeps fun b o e => (e0.bs b o e).1
  have lim : s.heap.NoLimit := e0.mod.nolimit.keeps fun b o e => (e0.bs b o e).1
  refine codeAny_call_function hr.depth (inK _ _ lk) rfl S.co S.gen rfl (PySem.W.codeRec_of inK hcd) (hb _ _ _ _ ?_)
  refine wpAny_newFunctionEnv_cells S.kind (fun y hy => ?_) fun env he s1 x => ?_
  · rcases S.par y.1 (List.of_mem_zip (show (y.1, y.2) ∈ ps.zip us from hy)).1 with q | q
    · exact .inl q
    · exact .inr ⟨q, PySem.W.cellsFrom_some _ _ _ (.inl q)⟩
  · subst he
    refine ⟨lim.keeps x.toInCall.keep, codeAny_func ?_⟩
    obtain ⟨t, ht, hq⟩ := hbody A outer s H vs Q p (hr.deeper _) hsp
    have I := L2H.inv_startH (CX := L2.CX0) (P := P) (w := w) (K := K) (mg := mg) (base := base) (E := noE) (A := A) (outer := outer) (f := f) (cd := cdv) S hpin e0 hl r x
    refine wpAny_mono (ht.run [] s1 (L2.start N vs) H _ I hq) (fun fl s' hs => ?_) fun e s' hs => hs
    match fl, hs with
    | .ret u, ⟨v, σ', H', J, rv, q⟩ => exact ⟨v, H', J.os, J.bare, J.base, J.hok, rv, q⟩
    | .next, ⟨σ', H', J, q⟩ => exact ⟨.non, H', J.os, J.bare, J.base, J.hok, rfl, q⟩
    | .brk, ⟨_, _, _, q⟩ => exact False.elim q
    | .cont, ⟨_, _, _, q⟩ => exact False.elim q
section
variable {X : Cx} {k : Nat} {f : Addr} {fd : FuncData} {ps : List Str} {sp : Addr × Obj → Sp} {x : Str} {q pos : Pos} {e : Expr} {es : List Expr} {t : TA} {p : Addr × Obj}
/-- its call, where p is pinned -/
theorem pe_callX (F : FnX X.prog X.w X.K X.mg X.base k f fd ps sp) (hr : L2H.RoomH k X.A) (hp : p ∈ X.pn) (hg : Gl X x) (hm : X.mg x = some (.ref f)) (hk : PySem.W.keepIn X.K (.ref f) = true) (hb : Binds X.K fd ps []) (ha : PA X (e :: es) t)
    (hdb : (x == ("__debug__" : Str)) = false := by decide) (he : starEach (e :: es) X.env = (false, eval e X.env) :: starEach es X.env := by rfl) (hpl : (backTo pos (starEach es X.env)).any (·.1) = false := by rfl) :
    PE X (.Call (.Name x q) (e :: es) [] pos) (fun σ H Q => t σ H fun vs H1 => vs.length = ps.length ∧ sp p vs H1 Q noE) := by
  refine ⟨fun pins s σ H Q I h => ?_⟩
  refine wpAny_Call_Name_kw (ld_glob I hg hm ?_ hdb)
  refine PySem.W.callWith_K (h₀ := X.base) I.ok.mod.kin hk (thn (ha.run pos pins s σ H _ I h) fun us s1 ⟨vs, H1, I1, r, hl, hs⟩ => ⟨I1.kIn, ?_⟩) he hpl
  have hlu : us.length = ps.length := by rw [← r.length]; exact hl
  have b := hb s1 us I1.kIn (by rw [List.append_nil]; exact hlu)
  rw [List.append_nil] at b
  have P1 := I1.pin p (List.mem_append_left _ hp)
  have hpin : L2H.PinOk X.stack H1 s1 p := ⟨P1.1, P1.2.1, fun hm => (List.mem_cons.mp (I1.stkSub p.1 hm)).elim P1.2.2.1 P1.2.2.2.1, P1.2.2.2.2⟩
  refine wpAny_call (codeAny_mono (F.run X.A X.stack s1 H1 ⟨us, []⟩ us vs Q p hr hpin I1.env0 b r hl hs) fun r s' hq => ?_)
  match r, hq with
  | .error e, hq => exact (show False from hq).elim
  | .ok (.ret u), hq => exact I1.after hq
/-- isinstance(e, c), e the pinned exception -/
theorem call_isP {D : Addr} (C : ExcC X.K D) (hp : p ∈ X.pn) (hz : Zc (.ref D) none p.2) (hf : ∃ vs, p.2.data = .fields vs) : CallR X (.builtin "isinstance") (rIsE X.K D p.1) := by
  intro pins s σ H xs us Q I r h
  obtain ⟨c, cv, b, rfl, hcv, e, q⟩ := h
  obtain ⟨ux, uc, rfl, rx, rc⟩ := vals2 r
  cases rx
  obtain rfl := hcv _ rc
  have hget := (I.pin p (List.mem_append_left _ hp)).1
  obtain ⟨vs, hv⟩ := hf
  have J : PySem.W.InstAt s.heap p.1 p.2 D none := by
    obtain ⟨a, oc, od, oda, osl⟩ := p
    obtain ⟨h1, h2⟩ := hz
    dsimp only at h1 h2 hv hget
    subst h1 h2 hv
    exact ⟨hget, rfl, rfl, trivial⟩
  exact PySem.W.kia_one (PySem.W.handS_kitx_exc C.hg C.hk C.hs C.hd C.ha C.hn C.ht C.hm) I.kIn J e (fun z => nomatch z) fun tk => ⟨.bl b, H, I.kept (t' := tk) fun _ _ z => z, rfl, q⟩
end
end Pd

/-! Pd18: isinstance of the handled exception, as a reading. -/
namespace Pd
open PySem PySem.Spec L2
variable {K : PySem.W.Frag}
section
variable {X : Cx} {W : WN} {p : Addr × Obj} {x : Str} {i : Nat} {q q1 pos : Pos}
def eIsP (i : Nat) (a : Addr) (b : Bool) : Ev → R D := fun ρ => match ρ[i]? with
  | some (.val (.fn (.ref a'))) => if a' = a then .ok (.bl b) else .bad
  | _ => .bad
theorem de_isP {D : Addr} {e2 : Expr} {c : V} {cv : Value} {b : Bool} (hN : X.N[i]? = some x) (hv : Vis X.env.scope x) (C : ExcC X.K D) (hp : p ∈ X.pn) (hz : Zc (.ref D) none p.2) (hf : ∃ vs, p.2.data = .fields vs) (hm : X.mg "isinstance" = none)
    (hb : PE X e2 (tC c)) (hc : ∀ u, RelV c u → u = cv) (hk : PySem.W.kitOne X.K (.ref D) cv = some b) (hg : Gl X "isinstance" := by rfl) (hd : (x == ("__debug__" : Str)) = false := by decide) (hcd : (x == ("__classdict__" : Str)) = false := by decide)
    (h1 : starEach (.Name x q1 :: e2 :: []) X.env = (false, eval (.Name x q1) X.env) :: starEach (e2 :: []) X.env := by rfl) (h2 : starEach (e2 :: []) X.env = (false, eval e2 X.env) :: starEach [] X.env := by rfl) (hpl : (backTo pos (starEach (e2 :: []) X.env)).any (·.1) = false := by rfl) :
    PE X (.Call (.Name "isinstance" q) [.Name x q1, e2] [] pos) (exOf K .v W (eIsP i p.1 b)) :=
  pe_imp (pe_callB (call_isP C hp hz hf) hg hm PyProof.Rows.boot_isinstance (pa_cons (pe_var hN hv hd hcd) (pa_cons hb pa_nil h2) h1) (by decide) (by decide) h1 hpl) fun σ H Q ⟨G, ρ, S, m⟩ => by
  by_cases hh : ρ[i]? = some (.val (.fn (.ref p.1)))
  · have e : eIsP i p.1 b ρ = .ok (.bl b) := by
      unfold eIsP
      rw [hh]
      simp
    rw [e] at m
    obtain ⟨v, hv', r⟩ := S.sl i _ hh
    cases r
    exact ⟨_, hv', c, cv, b, rfl, hc, hk, m _ G H (.refl S.sub) (.bl b)⟩
  · have e : eIsP i p.1 b ρ = .bad := by
      unfold eIsP
      split
      · rename_i a' e
        split
        · rename_i ea
          subst ea
          exact absurd e hh
        · rfl
      · rfl
    rw [e] at m
    exact False.elim m
end
end Pd

/-! Pd19: the def that names the handled exception. -/
namespace Pd
open PySem PySem.Spec L2
variable {K : PySem.W.Frag}
theorem un65H {A : Around} {k : Nat} (h : L2H.RoomH k A) : A.units + 65 < cLine := by have := h.un; omega
theorem un64H {A : Around} {k : Nat} (h : L2H.RoomH k A) : A.units + 64 < cLine := by have := h.un; omega
section
variable {X : Cx} {W : WN}
theorem do_neU (hu : X.A.units + 64 < cLine) (hK : X.K = K := by rfl) : OpR X (compareOp .NotEq) (rB K neD) := opb_of fun G H x y d e b Q sub wx wy q m => by
  subst hK
  unfold neD at q
  cases q' : eqD d e with
  | none => rw [q'] at q; cases q
  | some b' =>
    rw [q'] at q
    cases q
    obtain ⟨p, p', h1, h2, s1, s2, ev⟩ := eqD_dp sub wx wy q'
    exact ⟨_, op_neD hu, p, p', h1, h2, s1, s2, by rw [ev]; exact m⟩
end
/-- what is known of a class of exceptions, c at D: how isinstance answers for its instances -/
structure XName (K : PySem.W.Frag) (mg : Str → Option Value) (names : List Str) (c : Str) (D : Addr) : Prop where
  C : ExcC K D
  own : ∀ n ∈ names, ∃ A, mg n = some (.ref A) ∧ PySem.W.kitOne K (.ref D) (.ref A) = some (decide (c = n))
  ve : PySem.W.kitOne K (.ref D) (.type "ValueError") = some true
section
variable {P : Program} {w : World} {mg : Str → Option Value} {base : Heap}
def spName (K : PySem.W.Frag) (D : Addr) (t : Str) : Addr × Obj → Sp := fun p vs H Q _ => vs = [.ref p.1] ∧ Zc (.ref D) none p.2 ∧ (∃ us, p.2.data = .fields us) ∧ ∃ G, Sub G H ∧ MarkOk K G ∧ ∀ G' H', Grow G H G' H' → Q (.str t) H'
theorem name_ok {x qual : Str} {st : Stmt} {f : Addr} {fd : FuncData} {N : List Str} {pn : Str} {k : Nat} {D : Addr} {t : Str} {b : Addr → Ev → O} (F : Fun K x qual st f fd) (S : FnScope N [pn] (defScope st)) (hl : 1 ≤ N.length)
    (hb : ∀ a : Addr, b a (SV.val (.fn (.ref a)) :: List.replicate (N.length - 1) .no) = .ret false (.str t))
    (hbody : ∀ (cdv : Value) (A : Around) (outer : List Env) (s : Shared) (H : Hp) (p : Addr × Obj), L2H.RoomH k (A.deeper (PyProof.Rows.envOfC qual (defScope st) s.heap.objs.size f cdv)) → Zc (.ref D) none p.2 → (∃ us, p.2.data = .fields us) →
      PSs (L2H.cxH L2.CX0 P w K mg base N qual (defScope st) f cdv A outer s H noE p) (defBody st) (tsOf K (fun _ _ _ => False) (b p.1))) :
    FnX P w K mg base (k + 1) f fd [pn] (spName K D t) := by
  obtain ⟨oc, od, kV, doc, pm, an, cdv, ct, osl, rfl, lk, hcd⟩ := F.ex
  refine fnX_of lk hcd S fun A outer s H vs Q p hr hs => ?_
  obtain ⟨rfl, hz, hf, G, sub, mk, q⟩ := hs
  refine ⟨_, hbody cdv A outer s H p hr hz hf, ⟨G, H, true⟩, G, SV.val (.fn (.ref p.1)) :: List.replicate (N.length - 1) .no, ⟨?_, .of (.refl sub), fun i d a h1 _ => ?_, fun i Ω h1 => (no_st (ds := [.fn (.ref p.1)]) (n := N.length - 1) (i := i) h1).elim⟩, ?_⟩
  · have e : L2.start N [V.ref p.1] = [V.ref p.1].map some ++ List.replicate (N.length - 1) none := rfl
    rw [e]
    have s0 := stt_start (K := K) (vs := [V.ref p.1]) (ds := [Pd.D.fn (.ref p.1)]) (N.length - 1) sub mk (.cons (.fn _) .nil)
    exact s0
  · exact (no_own (ds := [.fn (.ref p.1)]) (n := N.length - 1) (i := i) (d := d) h1).elim
  · rw [hb]
    intro v G' H' g r
    cases r
    exact q G' H' g.pure
end
end Pd

/-! Pd20: the def that calls what it got and names the exception. -/
namespace Pd
open PySem PySem.Spec L2 LamX
variable {K : PySem.W.Frag}
section
variable {X : Cx}
/-- what such a def makes of the lambda's reading -/
def TTn (K : PySem.W.Frag) (CS : Addr) (nameOk : Addr → Str → Prop) : (XK → Hp → VK → Prop) → Hp → VK → Prop := fun tl H Q =>
  tl (fun cls d H' => ∃ D t, cls = .ref D ∧ d = none ∧ PySem.W.exmOne K (.ref D) (.ref CS) = some true ∧ nameOk D t ∧ ∃ G, Sub G H' ∧ MarkOk K G ∧ ∀ G' H'', Grow G H' G' H'' → Q (.str t) H'') H Q
theorem told_names {Ng : List Str} {x a e n q nm : Str} {sg : Scope} {g CS fn : Addr} {fdn : FuncData} {psn : List Str} {k : Nat} {cdg : Value} {p1 p2 p3 p4 p6 p7 p8 q1 q2 q3 : Pos} (hge : sg.names.lookup e = some .globalImplicit) (hme : X.mg e = some (.ref CS)) (hde : (e == ("__debug__" : Str)) = false)
    (h0 : ∀ f : Addr, (L2.start Ng [V.ref f])[0]? = some (some (V.ref f))) (nd : Ng.Nodup) (h1 : Ng[1]? = some n) (hln : sg.names.lookup n = some .local) (hgn : sg.names.lookup nm = some .globalImplicit) (hmn : X.mg nm = some (.ref fn)) (hkn : PySem.W.keepIn X.K (.ref fn) = true) (hbn : L2.Binds X.K fdn psn []) (hl1 : psn.length = 1)
    (hdn : (nm == ("__debug__" : Str)) = false) (hd1 : (n == ("__debug__" : Str)) = false) (hd2 : (n == ("__classdict__" : Str)) = false) (hr : Room (k + 1) X.A) :
    GivesTo X Ng x sg g cdg [.Try [.Return (some (.Call (.Name a p1) [] [] p2)) p3] [.ExceptHandler (some (.Name e p4)) (some n) [.Return (some (.Call (.Name nm q1) [.Name n q2] [] q3)) p6] p7] [] [] p8] a q
      (TTn X.K CS fun D t => FnX X.prog X.w X.K X.mg X.base k fn fdn psn (spName X.K D t)) := by
  intro f c' s H Q tl act hc h
  have hgl : Gl (cxOf C8.CX0 X.prog X.w X.K X.mg X.base Ng x sg g cdg X.A X.stack s H C8.E0).nox e := hge
  refine ⟨_, pss_one (ps_try_as (X := (cxOf C8.CX0 X.prog X.w X.K X.mg X.base Ng x sg g cdg X.A X.stack s H C8.E0).nox) (c := .ref CS) (i := 1)
      (tb := fun W D σ H => ∃ Ech : XK, (∀ cls d σ' H', Ech cls d H' → W cls d σ' H') ∧ σ[0]? = some (some (.ref f)) ∧ H c' = some (CodeO c' q) ∧ tl Ech H D.rt)
      (ts := fun a cls d D' σ H => (∃ σ0 : L2.St, σ = σ0.set 1 (some (.ref a))) ∧ ∃ D t, cls = .ref D ∧ d = none ∧ FnX X.prog X.w X.K X.mg X.base k fn fdn psn (spName X.K D t) ∧ ∃ G, Sub G H ∧ MarkOk X.K G ∧ ∀ G' H'', Grow G H G' H'' → D'.rt (.str t) H'')
      rfl rfl nd h1 hln ⟨hgl, hde, .inl hme⟩ L2.takes0 (fun W pn xe tk _ => ?_) (fun a oe cls d pn hz hf => ?_)), ?_⟩
  · refine ⟨fun pins s' σ H' D I h' => ?_⟩
    obtain ⟨Ech, hW, g1, g2, g3⟩ := h'
    have hq := pss_one (ps_ret (pos := p3) (act W pn xe Ech p1 p2 tk hW))
    exact hq.run pins s' σ H' D I ⟨g1, g2, g3⟩
  · refine ⟨fun pins s' σ H' D I h' => ?_⟩
    obtain ⟨⟨σ0, hs0⟩, DD, t, rfl, rfl, F, G, sub, mk, q⟩ := h'
    have hs : σ[1]? = some (some (V.ref a)) := by
      have l1 : σ.length = Ng.length := I.len
      have l2 : 1 < Ng.length := (List.getElem?_eq_some_iff.mp h1).1
      rw [hs0] at l1 ⊢
      rw [List.length_set] at l1
      exact List.getElem?_set_self (by omega)
    have rd := hr.deeper (PyProof.Rows.envOfC x sg s.heap.objs.size g cdg)
    have hroom : L2H.RoomH k ((X.A.deeper (PyProof.Rows.envOfC x sg s.heap.objs.size g cdg)).mark (some (.ref a))) := ⟨rd.dp, rd.un⟩
    have call := pe_callX (X := (cxOf C8.CX0 X.prog X.w X.K X.mg X.base Ng x sg g cdg X.A X.stack s H C8.E0).nox.suite a ((a, oe) :: pn)) (p := (a, oe)) (x := nm) (q := q1) (pos := q3) F hroom (List.mem_cons_self ..) hgn hmn hkn hbn
      (pa_cons (pe_var (pos := q2) (i := 1) h1 (.inl hln) hd1 hd2) pa_nil rfl) hdn rfl rfl
    exact (pss_one (ps_ret (pos := p6) call)).run pins s' σ H' D I ⟨.ref a, hs, by rw [hl1]; rfl, rfl, hz, hf, G, sub, mk, q⟩
  · refine ⟨_, fun cls d σ' H' hE => ?_, h0 f, hc, h⟩
    obtain ⟨DD, t, rfl, rfl, hx, F, G, sub, mk, q⟩ := hE
    exact ⟨true, hx, fun _ a ha => ⟨⟨_, rfl⟩, DD, t, rfl, rfl, F, G, sub, mk, q⟩, fun z => nomatch z⟩
end
end Pd

/-! Pd21: told(lambda: e) as a reading. -/
namespace Pd
open PySem PySem.Spec L2 LamX
variable {K : PySem.W.Frag}
/-- what the body gives, or the text of its exception -/
def eTold (txt : Str → Option Str) (f : Ev → R D) : Ev → R D := fun ρ => match f ρ with
  | .ok d => .ok d
  | .exc c => match txt c with
    | some t => .ok (.str t)
    | none => .bad
  | .bad => .bad
theorem tabs_of {G H : Hp} (s : Sub G H) (m : MarkOk K G) (n : tabs K ≠ []) : Tabs (tabs K) H := by
  obtain ⟨b, hb⟩ := m n
  have n0 : ¬ isMk (mkT (tabs K)).toArray := isMk_T (T := tabs K) (by simp)
  obtain ⟨T, h1, h2, _⟩ : ∃ T, (mkT (tabs K)).toArray.toList = mkT T ∧ Tabs T H ∧ ∃ q, (b, q) ∈ T := by
    rcases s.at_ _ _ hb with z | ⟨hm, _⟩
    · exact z
    · exact absurd hm n0
  have e : tabs K = T := mkT_inj (by simpa using h1)
  rw [e]
  exact h2
/-- the tables have grown -/
theorem grow_tabs {G H H1 : Hp} (s : Sub G H) (m : MarkOk K G) (n : tabs K ≠ []) (e : ExtN H H1) (t : Tabs (tabs K) H1) : Grow G H G H1 := by
  obtain ⟨b0, hb0⟩ := m n
  refine ⟨fun b o h nn => e b o h nn, .refl _, ⟨fun b o h => ?_, s.one, s.uni⟩, fun a h1 h2 => absurd h1 h2, fun _ _ h => h⟩
  have z := s.at_ b o h
  cases o with
  | tbl ps =>
    rcases z with ⟨T, h1, _, h3⟩ | ⟨hm, o, ho, io⟩
    · have n0 : ¬ isMk (mkT (tabs K)).toArray := isMk_T (T := tabs K) (by simp)
      have ep := s.one b b0 ps _ h hb0 (isMk_T h1) n0
      have eT : T = tabs K := mkT_inj (by rw [← h1, ep])
      exact .inl ⟨tabs K, by rw [ep], t, by rw [← eT]; exact h3⟩
    · exact .inr ⟨hm, o, e _ _ ho io.nt, io⟩
  | _ => exact e _ _ z (fun _ z => nomatch z)
theorem told_read {mg : Str → Option Value} {W : WN} {CS : Addr} {nameOk : Addr → Str → Prop} {txt : Str → Option Str} {f : Ev → R D} (n : tabs K ≠ []) (hx : ∀ c t, txt c = some t → ∀ C, mg c = some (.ref C) → PySem.W.exmOne K (.ref C) (.ref CS) = some true ∧ nameOk C t)
    {σ : L2.St} {H : Hp} {Q : VK} (h : exOf K .v W (eTold txt f) σ H Q) : tLam (tabs K) (TTn K CS nameOk) (fun E => exOf K .v (WE' mg E) f) σ H Q := by
  obtain ⟨G, ρ, S, m⟩ := h
  refine ⟨tabs_of S.sub S.mkd n, fun H1 e t => ?_⟩
  have g1 : Grow G H G H1 := grow_tabs S.sub S.mkd n e t
  unfold eTold at m
  refine ⟨G, ρ, S.grow g1, ?_⟩
  cases q : f ρ with
  | ok d =>
    simp only [q] at m
    exact fun v G' H' g r => m v G' H' (g1.trans g) r
  | exc c =>
    simp only [q] at m
    cases q2 : txt c with
    | none => simp only [q2] at m
    | some tx =>
      simp only [q2] at m
      intro G' H' g C hC
      obtain ⟨x1, x2⟩ := hx c tx q2 C hC
      exact ⟨C, tx, rfl, rfl, x1, x2, G', g.gh, S.mkd.mono g.gg, fun G'' H'' g' => m (.str tx) G'' H'' ((g1.trans g).trans g') (.str tx)⟩
  | bad => simp only [q] at m
end Pd

/-! Pd22: told(lambda: e), the rule. -/
namespace Pd
open PySem PySem.Spec L2 LamX
variable {K : PySem.W.Frag}
section
variable {P : Program} {w : World} {mg : Str → Option Value} {base : Heap}
/-- what is known of the def that calls what it got -/
structure ToldOk (P : Program) (w : World) (K : PySem.W.Frag) (mg : Str → Option Value) (base : Heap) (k : Nat) (x : Str) (q : Str) (CS : Addr) (nameOk : Addr → Str → Prop) : Prop where
  ex : ∃ (g : Addr) (a : Str) (pg : Arguments) (bg : List Stmt) (sg : Scope) (dV kV doc pm cdv ct oc : Value) (an od : Option Addr) (osl : Array (Option Value)) (Ng : List Str),
    mg x = some (.ref g) ∧ PySem.W.keepIn K (.ref g) = true ∧ K.lookup g = some ⟨oc, od, .func (PySem.W.fnOf x x pg bg sg dV kV doc pm an cdv ct), osl⟩ ∧ PySem.W.codeIn K cdv x = true ∧
    L2.Binds K (PySem.W.fnOf x x pg bg sg dV kV doc pm an cdv ct) [a] [] ∧ FnScope Ng [a] sg ∧ Ng[0]? = some a ∧ Vis sg a ∧ (a == ("__debug__" : Str)) = false ∧ (a == ("__classdict__" : Str)) = false ∧
    ∀ X : Cx, X.prog = P → X.w = w → X.K = K → X.mg = mg → X.base = base → Room (k + 1) X.A → GivesTo X Ng x sg g cdv bg a q (TTn K CS nameOk)
end
section
variable {X : Cx} {W : WN}
theorem de_told {x : Str} {c P CS : Addr} {nameOk : Addr → Str → Prop} {txt : Str → Option Str} {k : Nat} {params : Arguments} {body : Expr} {scope : Scope} {f : Ev → R D} {p lpos pos : Pos}
    (O : ToldOk X.prog X.w X.K X.mg X.base (k + 1) x (X.env.qual ++ "<lambda>") CS nameOk) (hx : ∀ c t, txt c = some t → ∀ C, X.mg c = some (.ref C) → PySem.W.exmOne X.K (.ref C) (.ref CS) = some true ∧ nameOk C t)
    (TB : TabB X.base X.mg c P) (hcode : X.env.code = .ref c) (hmT : (P, X.env.qual ++ "<lambda>") ∈ tabs X.K) (hu : ∀ p ∈ tabs X.K, p.1 = P → p.2 = X.env.qual ++ "<lambda>") (hr : Room (k + 2) X.A) (L : LamS X.env.scope scope)
    (hbody : ∀ (A : Around) (outer : List Env) (s : Shared) (H : Hp) (E : XK) (f' c' : Addr), Room k (A.deeper (lamEnv X scope s.heap.objs.size f' c')) → PE (lamCx X A outer s H E scope f' c') body (exOf X.K .v (WE' X.mg E) f))
    (hg : Gl X x := by rfl) (hdef : defaultsOf params X.env = ([], []) := by rfl) (hbind : ∀ (q : Str) (cl : List (Str × Addr)) (pm cv ctv : Value), bindArgs (PySem.W.kla_fn "<lambda>" q params body scope cl pm cv ctv) ⟨[], []⟩ = pure [] := by intros; rfl)
    (hdb : (x == ("__debug__" : Str)) = false := by decide) : PE X (.Call (.Name x p) [.Lambda params body scope lpos] [] pos) (exOf X.K .v W (eTold txt f)) := by
  obtain ⟨g, a, pg, bg, sg, dV, kV, doc, pm, cdv, ct, oc, an, od, osl, Ng, h1, h2, h3, h4, h5, h6, h7, h8, h9, h10, h11⟩ := O.ex
  have n : tabs X.K ≠ [] := fun z => by rw [z] at hmT; cases hmT
  exact pe_imp (pe_lamcall (T := tabs X.K) (TT := TTn X.K CS nameOk) (t := fun E => exOf X.K .v (WE' X.mg E) f) (k := k) hg h1 h2 h3 h4 h5 h6 h7 h8 (h11 X rfl rfl rfl rfl rfl hr) TB hcode hmT hu hr L hdef hbind hbody hdb h9 h10) fun σ H Q h => told_read n hx h
end
section
variable {P : Program} {w : World} {mg : Str → Option Value} {base : Heap}
theorem fn_okL {x qual : Str} {st : Stmt} {f : Addr} {N ps : List Str} {k : Nat} {b : Ev → O} {oc : Value} {od an : Option Addr} {osl : Array (Option Value)} {kV doc pm cdv ct : Value} (lk : K.lookup f = some ⟨oc, od, .func (PySem.W.fnOf x qual (defArgs st) (defBody st) (defScope st) .none kV doc pm an cdv ct), osl⟩) (hcd : PySem.W.codeIn K cdv qual = true) (S : FnScope N ps (defScope st)) (hl : ps.length ≤ N.length)
    (hbody : ∀ (A : Around) (outer : List Env) (s : Shared) (H : Hp) (E : XK), Room k (A.deeper (PyProof.Rows.envOfC qual (defScope st) s.heap.objs.size f cdv)) →
      PassesOwn (model P w) (A.deeper (PyProof.Rows.envOfC qual (defScope st) s.heap.objs.size f cdv)) (PyProof.Rows.envOfC qual (defScope st) s.heap.objs.size f cdv) (cxOf (L2.CX P w) P w K mg base N qual (defScope st) f cdv A outer s H E).xe →
      Tk (cxOf (L2.CX P w) P w K mg base N qual (defScope st) f cdv A outer s H E) (WE' mg E) → PSs (cxOf (L2.CX P w) P w K mg base N qual (defScope st) f cdv A outer s H E) (defBody st) (tsOf K (WE' mg E) b)) :
    FnOk P w K mg base (L2.CX P w) (k + 1) f (PySem.W.fnOf x qual (defArgs st) (defBody st) (defScope st) .none kV doc pm an cdv ct) ps (spOf K mg ps.length (callF ps.length N.length b)) := by
  refine fn_of lk hcd S (fun vs H Q E h => ?_) (fun A outer s H vs Q E hr h => ?_)
  · obtain ⟨G, ds, _, _, r, l, _⟩ := h
    rw [r.length, l]
  · obtain ⟨G, ds, sub, mk, r, l, m⟩ := h
    refine ⟨_, hbody A outer s H E hr (PassesOwn.leaving) ⟨_, takes_of rfl rfl rfl rfl, fun c C σ H' h1 h2 => h2 C h1⟩, ?_⟩
    have hs : L2.start N vs = vs.map some ++ List.replicate (N.length - ps.length) none := by
      unfold L2.start
      rw [r.length, l]
    rw [hs]
    refine ⟨⟨G, H, true⟩, G, _, ⟨stt_start (N.length - ps.length) sub mk r, .of (.refl sub), fun i d p h1 _ => (no_own h1).elim, fun i Ω h1 => (no_st h1).elim⟩, ?_⟩
    unfold callF at m
    rw [if_pos l] at m
    cases e : b (ds.map SV.val ++ List.replicate (N.length - ps.length) .no) with
    | nx ρ => rw [e] at m; exact fun G' σ' H' S' _ => m .non G' H' S'.gr.pure .non
    | ret o d => rw [e] at m; exact fun v G' H' g r => m v G' H' g.pure r
    | retS d ρ => rw [e] at m; exact m.elim
    | exc c ρ => rw [e] at m; exact fun G' σ' H' S' _ C hC => m C G' H' hC S'.gr.pure
    | brk ρ => rw [e] at m; exact m.elim
    | ct ρ => rw [e] at m; exact m.elim
    | bad => rw [e] at m; exact m.elim
/-- exceptions out of a lambda's body -/
theorem tk_lam {X : Cx} {A : Around} {outer : List Env} {s : Shared} {H : Hp} {E : XK} {scope : Scope} {f c' : Addr} : Tk (lamCx X A outer s H E scope f c') (WE' X.mg E) := ⟨_, takes_of rfl rfl rfl rfl, fun c C σ H' h1 h2 => h2 C h1⟩
end
end Pd

/-! Pd23: told(lambda: e), the rule with all that is known in one. -/
namespace Pd
open PySem PySem.Spec L2 LamX
variable {K : PySem.W.Frag}
/-- all that is known of told(lambda: ..) in the def named ql with the code object c -/
structure LamK (P : Program) (w : World) (K : PySem.W.Frag) (mg : Str → Option Value) (base : Heap) (k : Nat) (x ql : Str) (c : Addr) (txt : Str → Option Str) : Prop where
  ex : ∃ (CS Pt : Addr) (nameOk : Addr → Str → Prop), ToldOk P w K mg base (k + 1) x ((ql ++ ".<locals>.") ++ "<lambda>") CS nameOk ∧ (∀ e t, txt e = some t → ∀ C, mg e = some (.ref C) → PySem.W.exmOne K (.ref C) (.ref CS) = some true ∧ nameOk C t) ∧
    TabB base mg c Pt ∧ (Pt, (ql ++ ".<locals>.") ++ "<lambda>") ∈ tabs K ∧ ∀ p ∈ tabs K, p.1 = Pt → p.2 = (ql ++ ".<locals>.") ++ "<lambda>"
section
variable {X : Cx} {W : WN} {P : Program} {w : World} {mg : Str → Option Value} {base : Heap}
theorem de_told2 {x ql : Str} {c : Addr} {txt : Str → Option Str} {k : Nat} {params : Arguments} {body : Expr} {scope : Scope} {f : Ev → R D} {p lpos pos : Pos} (L : LamK P w K mg base k x ql c txt)
    (e1 : X.prog = P) (e2 : X.w = w) (e3 : X.K = K) (e4 : X.mg = mg) (e5 : X.base = base) (e6 : X.env.qual = ql ++ ".<locals>.") (hcode : X.env.code = .ref c) (hr : Room (k + 2) X.A) (hL : LamS X.env.scope scope)
    (hbody : ∀ (A : Around) (outer : List Env) (s : Shared) (H : Hp) (E : XK) (f' c' : Addr), Room k (A.deeper (lamEnv X scope s.heap.objs.size f' c')) → PE (lamCx X A outer s H E scope f' c') body (exOf K .v (WE' mg E) f))
    (hg : Gl X x := by rfl) (hdef : defaultsOf params X.env = ([], []) := by rfl) (hbind : ∀ (q : Str) (cl : List (Str × Addr)) (pm cv ctv : Value), bindArgs (PySem.W.kla_fn "<lambda>" q params body scope cl pm cv ctv) ⟨[], []⟩ = pure [] := by intros; rfl)
    (hdb : (x == ("__debug__" : Str)) = false := by decide) : PE X (.Call (.Name x p) [.Lambda params body scope lpos] [] pos) (exOf K .v W (eTold txt f)) := by
  obtain ⟨CS, Pt, nameOk, O, hx, TB, hmT, hu⟩ := L.ex
  subst e1 e2 e3 e4 e5
  rw [← e6] at O hmT hu
  exact de_told O hx TB hcode hmT hu hr hL hbody hg hdef hbind hdb
end
end Pd

/-! Pd24: the end of a law that makes lambdas. -/
namespace Pd
open PySem PySem.Spec L2 LamX
variable {P : Program} {w : World} {K : PySem.W.Frag} {mg : Str → Option Value} {base : Heap}
/-- what the end asks of such a law: the tables are empty at first -/
def spEndT (K : PySem.W.Frag) (ps : List Addr) : Sp := fun vs H Q _ => (∀ p ∈ ps, H p = some (.tbl #[])) ∧ spEnd K vs H Q fun _ _ _ => False
/-- what stands, the first table being the mark of all -/
def stripM (K : PySem.W.Frag) (P0 : Addr) (H : Hp) : Hp := upd (strip H) P0 (.tbl (mkT (tabs K)).toArray)
theorem stripM_sub {P0 : Addr} {H : Hp} (hm : ∃ q, (P0, q) ∈ tabs K) (ht : ∀ p ∈ tabs K, H p.1 = some (.tbl #[])) : Sub (stripM K P0 H) H := by
  refine ⟨fun b o h => ?_, fun b c ps qs h1 h2 _ _ => ?_, fun b c i h1 _ => ?_⟩
  · unfold stripM at h
    by_cases e : b = P0
    · subst e
      rw [upd_same] at h
      cases h
      exact .inl ⟨tabs K, by simp, fun p hp => .nil (ht p hp), hm⟩
    · rw [upd_ne e] at h
      exact (subAt_nt (strip_nt h).2).mpr (strip_nt h).1
  · have key : ∀ b ps, stripM K P0 H b = some (.tbl ps) → ps = (mkT (tabs K)).toArray := fun b ps h => by
      unfold stripM at h
      by_cases e : b = P0
      · subst e
        rw [upd_same] at h
        cases h
        rfl
      · rw [upd_ne e] at h
        exact absurd rfl ((strip_nt h).2 ps)
    rw [key b ps h1, key c qs h2]
  · unfold stripM at h1
    by_cases e : b = P0
    · subst e
      rw [upd_same] at h1
      injection h1 with h1
      unfold mark at h1
      injection h1 with h1
      exact absurd (by rw [h1]; exact isMk_mark i) (isMk_T (T := tabs K) (ps := (mkT (tabs K)).toArray) (by simp))
    · rw [upd_ne e] at h1
      exact absurd rfl ((strip_nt h1).2 _)
theorem stripM_seq {P0 : Addr} {H : Hp} {a : Addr} {xs : List V} (h0 : H P0 = some (.tbl #[])) (h : SqL K H a xs) : SqL K (stripM K P0 H) a xs := by
  have n : strip H P0 = none := by unfold strip; rw [h0]
  have s : Same (strip H) (stripM K P0 H) := same_new n
  rcases strip_seq h with h | h
  · exact .inl (rd_same s h)
  · exact .inr h
theorem law_impT {k : Nat} {f : Addr} {fd : FuncData} {ps : List Str} {F : List D → R RetD} {P0 : Addr} {pl : List Addr} (h : FnOk P w K mg base (L2.CX P w) k f fd ps (spOf K mg 1 F)) (t : ∀ ns : List Int, ns.length ≤ 63 → F [.scr ns] = .ok (false, .bl true))
    (hm : ∃ q, (P0, q) ∈ tabs K) (hp : ∀ p ∈ tabs K, p.1 ∈ pl) : FnOk P w K mg base (L2.CX P w) k f fd ps (spEndT K pl) := h.imp fun vs H Q E ⟨ht, a, ns, e, hl, hs, q⟩ => by
  subst e
  have ht' : ∀ p ∈ tabs K, H p.1 = some (.tbl #[]) := fun p h => ht _ (hp p h)
  obtain ⟨qq, hq⟩ := hm
  refine ⟨stripM K P0 H, [.scr ns], stripM_sub ⟨qq, hq⟩ ht', fun _ => ⟨P0, upd_same⟩, .cons (.scr (stripM_seq (ht' _ hq) hs)) .nil, rfl, ?_⟩
  rw [t ns hl]
  intro v G' H' g r
  cases r with
  | bl => exact q H'
/-- the def that calls what it got -/
theorem toldOk_mk {x a e n q nm : Str} {st : Stmt} {g CS fn : Addr} {fdn : FuncData} {psn Ng : List Str} {k k0 : Nat} {oc kV doc pm cdv ct : Value} {od an : Option Addr} {osl : Array (Option Value)} {p1 p2 p3 p4 p6 p7 p8 q1 q2 q3 : Pos}
    (lk : K.lookup g = some ⟨oc, od, .func (PySem.W.fnOf x x (defArgs st) (defBody st) (defScope st) .none kV doc pm an cdv ct), osl⟩) (hcd : PySem.W.codeIn K cdv x = true) (kp : PySem.W.keepIn K (.ref g) = true) (hm : mg x = some (.ref g))
    (hb : ∀ us : List Value, us.length = 1 → bindArgs (PySem.W.fnOf x x (defArgs st) (defBody st) (defScope st) .none kV doc pm an cdv ct) ⟨us, []⟩ = pure ([a].zip us)) (S : FnScope Ng [a] (defScope st)) (N0 : Ng[0]? = some a) (N1 : Ng[1]? = some n) (va : Vis (defScope st) a)
    (hbody : defBody st = [.Try [.Return (some (.Call (.Name a p1) [] [] p2)) p3] [.ExceptHandler (some (.Name e p4)) (some n) [.Return (some (.Call (.Name nm q1) [.Name n q2] [] q3)) p6] p7] [] [] p8])
    (hge : (defScope st).names.lookup e = some .globalImplicit) (hln : (defScope st).names.lookup n = some .local) (hgn : (defScope st).names.lookup nm = some .globalImplicit) (hme : mg e = some (.ref CS))
    (hmn : mg nm = some (.ref fn)) (hkn : PySem.W.keepIn K (.ref fn) = true) (hbn : L2.Binds K fdn psn []) (hl1 : psn.length = 1) (hk : k0 ≤ k)
    (d1 : (e == ("__debug__" : Str)) = false := by decide) (d2 : (nm == ("__debug__" : Str)) = false := by decide) (d3 : (n == ("__debug__" : Str)) = false := by decide) (d4 : (n == ("__classdict__" : Str)) = false := by decide) (d5 : (a == ("__debug__" : Str)) = false := by decide) (d6 : (a == ("__classdict__" : Str)) = false := by decide) :
    ToldOk P w K mg base (k + 1) x q CS fun D t => FnX P w K mg base k0 fn fdn psn (spName K D t) := by
  refine ⟨g, a, _, _, _, _, kV, doc, pm, cdv, ct, oc, an, od, osl, Ng, hm, kp, lk, hcd, .all hb, S, N0, va, d5, d6, fun X e1 e2 e3 e4 e5 hr => ?_⟩
  subst e1 e2 e3 e4 e5
  rw [hbody]
  have hpos : 0 < Ng.length := (List.getElem?_eq_some_iff.mp N0).1
  exact told_names hge hme d1 (fun f => by
    unfold L2.start
    rfl) S.nd N1 hln hgn hmn hkn hbn hl1 d2 d3 d4 (hr.mono (by omega))
/-- the end's word for such a law: cs, the code objects of the defs that make lambdas, with their tables -/
theorem lawAtS_mk {l : PySem.W.OpenLaw} {k : Nat} {fa : Addr} {cs : List (Addr × Addr)} {h : Heap} {x : Str} {fd : FuncData} (KX : K.In h) (hE : ∀ p ∈ cs, h.get? p.2 = some (PySem.W.tabObj #[])) (hd : ∀ p ∈ cs, PySem.W.codeHdIn K p.1 p.2 = true) (nP : ∀ p ∈ cs, K.lookup p.2 = none)
    (hb : ∀ (s : Shared) (u : Value), BindsTo s fd ⟨[u], []⟩ [(x, u)]) (F : ∀ base : Heap, K.In base → base.Ns mainGlobals mg → (∀ p ∈ cs, TabB base mg p.1 p.2) → FnOk l.prog w K mg base (L2.CX l.prog w) k fa fd [x] (spEndT K (cs.map (·.2)))) :
    LawAtS l w K (L2.CX l.prog w) k 63 x mg fa h := by
  refine ⟨fd, cs, spEndT K (cs.map (·.2)), hE, nP, fun p hp => PySem.W.codeHd_of_K KX (hd p hp), hb, fun H a ns hl _ hT hS => ⟨fun p hp => ?_, a, ns, rfl, hl, hS, fun _ => rfl⟩, F⟩
  obtain ⟨z, hz, rfl⟩ := List.mem_map.mp hp
  exact hT z hz
theorem eIsP_self {a : Addr} {b : Bool} {i : Nat} {ρ : Ev} (h : ρ[i]? = some (.val (.fn (.ref a)))) : eIsP i a b ρ = .ok (.bl b) := by
  unfold eIsP
  rw [h]
  simp
end Pd

/-! Pd25: expressions that change what is one's own; setdefault, get. -/
namespace Pd
open PySem PySem.Spec L2
variable {K : PySem.W.Frag}

/-! ### d.setdefault(y, z), any keys -/
theorem dput_k {H H' : Hp} {a : Addr} {kvs : List (Key × V)} {k : Key} {v : V} (e : H a = some (.dK kvs)) (d : DPut H a (kV k) v H') : H' = upd H a (.dK (putK kvs k v)) := by
  rcases d with ⟨kvs', k', e', ey, _, eH⟩ | ⟨kvs', k', b, e', _, _, _, _⟩
  · rw [e] at e'
    cases e'
    rw [eH, ← kV_inj ey]
  · rw [e] at e'
    cases e'
theorem dput_t {H H' : Hp} {a b : Addr} {kvs : List (List Key × V)} {k : List Key} {v : V} (e : H a = some (.dT kvs)) (eb : H b = some (.tup (k.map kV))) (d : DPut H a (.ref b) v H') : H' = upd H a (.dT (putK kvs k v)) := by
  rcases d with ⟨kvs', k', e', ey, _, eH⟩ | ⟨kvs', k', b', e', ey, eb', _, eH⟩
  · rw [e] at e'
    cases e'
  · rw [e] at e'
    cases e'
    cases ey
    rw [eb] at eb'
    injection eb' with eb'
    injection eb' with eb'
    rw [eH, ← kVs_inj eb']
section
variable {X : Cx} {pins : List (Addr × Obj)} {σ : L2.St} {H : Hp} {s : Shared} {a : Addr} {u r : Value} {y d : V} {A : Around} {E : Value → Shared → Prop}
theorem setd_any {o : Option V} {Q : Value → Shared → Prop} (hu : A.units + 1 < cLine) (I : Inv X pins σ H s) (g : DGet H a y o) (ry : RelV y u) (rd : RelV d r)
    (h1 : ∀ v, o = some v → ∀ (w' : Value) (s' : Shared), Inv X pins σ H s' → RelV v w' → Q w' s') (h2 : o = none → ∃ H', DPut H a y d H' ∧ ∀ (w' : Value) (s' : Shared), Inv X pins σ H' s' → RelV d w' → Q w' s')
    (mu : (∃ kvs, H a = some (.dK kvs) ∧ kvs.length < sizeLine) ∨ ∃ kvs, H a = some (.dT kvs) ∧ kvs.length < sizeLine) : wpAny (model X.prog X.w) A (call (.builtin "dict.setdefault") [.ref a, u, r]) Q E s := by
  rcases mu with ⟨kvs0, e0, hl⟩ | ⟨kvs0, e0, hl⟩
  · rcases g with ⟨kvs, k, e, rfl, rfl⟩ | ⟨kvs, k, b, e, ey, eb, l⟩
    · have ee : kvs = kvs0 := by
        rcases e with e | ⟨u, e⟩ <;> rw [e0] at e <;> cases e
        rfl
      subst ee
      refine d_setd I e0 ry rd hl (fun v hv w' s' I' rw' => h1 v hv w' s' I' rw') fun hn w' s' I' rw' => ?_
      obtain ⟨H', dp, f⟩ := h2 hn
      rw [← dput_k e0 dp] at I'
      exact f w' s' I' rw'
    · rcases e with e | ⟨u, e⟩ <;> rw [e0] at e <;> cases e
  · rcases g with ⟨kvs, k, e, ey, l⟩ | ⟨kvs, k, b, e, ey, eb, l⟩
    · rcases e with e | ⟨u, e⟩ <;> rw [e0] at e <;> cases e
    · have ee : kvs = kvs0 := by
        rcases e with e | ⟨u, e⟩ <;> rw [e0] at e <;> cases e
        rfl
      subst ee ey
      cases (show u = Value.ref b from ry)
      obtain ⟨z, hd, xs, rel, dd⟩ := dt_of I.hok e0
      have hz : xs.length ≤ sizeLine := by rw [← Paired.length rel]; exact z
      have hl2 : (putK kvs k d).length ≤ sizeLine := by have := length_putK kvs k d; omega
      have rv := rel.val k
      rw [← l] at rv
      refine call_setdefault_heap (tupleKind_room_in1 hu) (key_of I.hok eb) hd dd (fun p hp => ?_) (fun hn h' dd' hs => ?_) hz
      · rw [hp] at rv
        cases o with
        | none => exact rv.elim
        | some v => exact h1 v rfl _ _ (I.tok _) rv
      · rw [hn] at rv
        cases o with
        | some v => exact rv.elim
        | none =>
          obtain ⟨H', dp, f⟩ := h2 rfl
          obtain ⟨q, es, ep, hq, f2, f3, f4, _, f5⟩ := dd'
          refine f _ _ ?_ rd
          rw [dput_t e0 eb dp]
          refine d_write I (by rw [e0]; exact True.intro) hs ⟨q, hq⟩ ⟨hl2, hd, _, (rel.put k eb rd).keeps fun c ys ec => ?_, q, es, ep, hq, f2, f3, f4, f5⟩
          rw [upd_ne (ne_of ec e0 (fun z => nomatch z))]
          exact ec
end
def tDSetG (td ty tx : TE) : TE := fun σ H Q => td σ H fun x H1 => ∃ a, x = .ref a ∧ IsD H1 a ∧ ty σ H1 fun y H2 => tx σ H2 fun z H3 => ∃ o, DGet H3 a y o ∧ ((∃ kvs, H3 a = some (.dK kvs) ∧ kvs.length < sizeLine) ∨ ∃ kvs, H3 a = some (.dT kvs) ∧ kvs.length < sizeLine) ∧
  (∀ v, o = some v → Q v H3) ∧ (o = none → ∃ H4, DPut H3 a y z H4 ∧ Q z H4)
theorem pe_dsetG {X : Cx} {o e f : Expr} {td ty tx : TE} {apos cpos : Pos} (hu : X.A.units + 1 < cLine) (ho : PE X o td) (he : PE X e ty) (hf : PE X f tx) (m : M2 X o "setdefault" apos e f cpos) : PE X (.Call (.Attribute o "setdefault" apos) [e, f] [] cpos) (tDSetG td ty tx) := by
  refine ⟨fun pins s σ H Q I h => ?_⟩
  have go := ho.run pins s σ H _ I h
  refine wpAny_Call_method m.base m.few m.line PySem.F.plainAttrs_dict PySem.F.slot_dict_setdefault PySem.F.type_dict_setdefault (thn go fun u s1 w1 => ?_)
  obtain ⟨x, H1, I1, rx, a, ex, dd, q1⟩ := w1
  subst ex
  obtain rfl : u = Value.ref a := rx
  obtain ⟨t1, t2, _⟩ := isD_at I1 dd
  refine ⟨t1, t2, ?_⟩
  rw [m.trees]
  have g1 := he.run pins s1 σ H1 _ I1 q1
  refine Calls.callWith_builtin rfl (Calls.evalArgs_plain (Calls.spliced_cons (thn g1 fun iv s2 w2 => ?_)))
  obtain ⟨y, H2, I2, ry, q2⟩ := w2
  have g2 := hf.run pins s2 σ H2 _ I2 q2
  refine Calls.spliced_cons (thn g2 fun fv s3 w3 => Calls.spliced_nil ?_)
  obtain ⟨z, H3, I3, rz, ov, dg, mu, k1, k2⟩ := w3
  exact setd_any hu I3 dg ry rz (fun v hv w' s4 I4 rw' => ⟨v, _, I4, rw', k1 v hv⟩) (fun hn => let ⟨H4, p4, q4⟩ := k2 hn; ⟨H4, p4, fun w' s4 I4 rw' => ⟨z, _, I4, rw', q4⟩⟩) mu

/-! ### effects -/
inductive RX (α : Type) where
  | ok (a : α) (ρ : Ev) | exc (c : Str) (ρ : Ev) | bad
def RX.bind {α β : Type} (r : RX α) (f : α → Ev → RX β) : RX β := match r with
  | .ok a ρ => f a ρ
  | .exc c ρ => .exc c ρ
  | .bad => .bad
@[simp] theorem RX.bind_ok {α β : Type} (a : α) (ρ : Ev) (f : α → Ev → RX β) : (RX.ok a ρ).bind f = f a ρ := rfl
@[simp] theorem RX.bind_exc {α β : Type} (c : Str) (ρ : Ev) (f : α → Ev → RX β) : (RX.exc c ρ).bind f = .exc c ρ := rfl
@[simp] theorem RX.bind_bad {α β : Type} (f : α → Ev → RX β) : (RX.bad).bind f = .bad := rfl
def RX.outX {α : Type} (r : RX α) (h : α → Ev → O) : O := match r with
  | .ok a ρ => h a ρ
  | .exc c ρ => .exc c ρ
  | .bad => .bad
@[simp] theorem RX.outX_ok {α : Type} (a : α) (ρ : Ev) (h : α → Ev → O) : (RX.ok a ρ).outX h = h a ρ := rfl
@[simp] theorem RX.outX_exc {α : Type} (c : Str) (ρ : Ev) (h : α → Ev → O) : (RX.exc c ρ : RX α).outX h = .exc c ρ := rfl
@[simp] theorem RX.outX_bad {α : Type} (h : α → Ev → O) : (RX.bad : RX α).outX h = .bad := rfl
def optX {α : Type} (ρ : Ev) : Option α → RX α
  | some a => .ok a ρ
  | none => .bad
@[simp] theorem optX_some {α : Type} (ρ : Ev) (a : α) : optX ρ (some a) = .ok a ρ := rfl
@[simp] theorem optX_none {α : Type} (ρ : Ev) : optX ρ (none : Option α) = .bad := rfl
/-- no effect -/
def liftX {α : Type} (f : Ev → R α) : Ev → RX α := fun ρ => match f ρ with
  | .ok a => .ok a ρ
  | .exc c => .exc c ρ
  | .bad => .bad
def xsOf (K : PySem.W.Frag) (W : WN) (f : Ev → RX D) : TE := fun σ H Q => ∃ B G ρ, Good K B G ρ σ H ∧ match f ρ with
  | .ok d ρ' => ∀ v G' H', Good K B G' ρ' σ H' → Same G G' → Rep K G' v d → Q v H'
  | .exc c ρ' => ∀ G' H', Good K B G' ρ' σ H' → Same G G' → W c σ H'
  | .bad => False
def xtOf (K : PySem.W.Frag) (W : WN) (f : Ev → RX Bool) : TT := fun σ H Q => ∃ B G ρ, Good K B G ρ σ H ∧ match f ρ with
  | .ok b ρ' => ∀ G' H', Good K B G' ρ' σ H' → Same G G' → Q b H'
  | .exc c ρ' => ∀ G' H', Good K B G' ρ' σ H' → Same G G' → W c σ H'
  | .bad => False
def xOp (g : D → D → Option D) (fa fb : Ev → RX D) : Ev → RX D := fun ρ => (fa ρ).bind fun d ρ1 => (fb ρ1).bind fun e ρ2 => optX ρ2 (g d e)
def xCmp (g : D → D → Option Bool) (fa fb : Ev → RX D) : Ev → RX Bool := fun ρ => (fa ρ).bind fun d ρ1 => (fb ρ1).bind fun e ρ2 => optX ρ2 (g d e)
def xNot (c : Ev → RX Bool) : Ev → RX Bool := fun ρ => (c ρ).bind fun b ρ1 => .ok (!b) ρ1
def xAnd (c d : Ev → RX Bool) : Ev → RX Bool := fun ρ => (c ρ).bind fun b ρ1 => if b then d ρ1 else .ok false ρ1
def xOr (c d : Ev → RX Bool) : Ev → RX Bool := fun ρ => (c ρ).bind fun b ρ1 => if b then .ok true ρ1 else d ρ1
def sIfX (c : Ev → RX Bool) (f g : Ev → O) : Ev → O := fun ρ => (c ρ).outX fun b ρ1 => if b then f ρ1 else g ρ1
def sSetX (i : Nat) (f : Ev → RX D) : Ev → O := fun ρ => (f ρ).outX fun d ρ1 => .nx (ρ1.set i (.val d))
def sRetX (f : Ev → RX D) : Ev → O := fun ρ => (f ρ).outX fun d _ => .ret false d
def sDropX (f : Ev → RX D) : Ev → O := fun ρ => (f ρ).outX fun _ ρ1 => .nx ρ1
def sAsgX (t : Tg) (f : Ev → RX D) : Ev → O := fun ρ => (f ρ).outX fun d ρ1 => match tgSet t d ρ1 with
  | some ρ' => .nx ρ'
  | none => .bad
section
variable {X : Cx} {W : WN} {e a b c : Expr} {pos : Pos}
theorem px_lift {f : Ev → R D} (h : PE X e (exOf K .v W f)) : PE X e (xsOf K W (liftX f)) := pe_imp h fun σ H Q ⟨B, G, ρ, S, m⟩ => by
  refine ⟨G, ρ, S.st, ?_⟩
  unfold liftX at m
  cases q : f ρ with
  | ok d => simp only [q] at m; exact fun v G' H' g r => m v G' H' (S.grow g) g.gg r
  | exc c => simp only [q] at m; exact fun G' H' g => m G' H' (S.grow g) g.gg
  | bad => simp only [q] at m
theorem xt_lift {f : Ev → R Bool} (h : PT X e (ttOf K W f)) : PT X e (xtOf K W (liftX f)) := pt_imp h fun σ H Q ⟨B, G, ρ, S, m⟩ => by
  refine ⟨G, ρ, S.st, ?_⟩
  unfold liftX at m
  cases q : f ρ with
  | ok d => simp only [q] at m; exact fun G' H' g => m G' H' (S.grow g) g.gg
  | exc c => simp only [q] at m; exact fun G' H' g => m G' H' (S.grow g) g.gg
  | bad => simp only [q] at m
theorem xt_cmp {op : CmpOp} {g : D → D → Option Bool} {fa fb : Ev → RX D} (ho : OpR X (compareOp op) (rB K g)) (ha : PE X a (xsOf K W fa)) (hb : PE X b (xsOf K W fb)) (hm : behindInMarks op b = false := by first | exact nomark _ | rfl) : PT X (.Compare a [op] [b] pos) (xtOf K W (xCmp g fa fb)) :=
  pt_imp (pt_cmpR ho ha hb hm) fun σ H Q ⟨B, G, ρ, S, m⟩ => by
  refine ⟨B, G, ρ, S, ?_⟩
  unfold xCmp at m
  cases q : fa ρ with
  | ok d ρ1 =>
    simp only [q, RX.bind_ok] at m
    intro v G1 H1 S1 s1 r1
    refine ⟨B, G1, ρ1, S1, ?_⟩
    cases q2 : fb ρ1 with
    | ok e2 ρ2 =>
      simp only [q2, RX.bind_ok] at m
      intro u G2 H2 S2 s2 r2
      cases q3 : g d e2 with
      | some k =>
        simp only [q3, optX_some] at m
        exact ⟨G2, d, e2, k, S2.st.sub, .inl (r1.mono s2), .inl r2, q3, k, rfl, m G2 H2 S2 (s1.trans s2)⟩
      | none => simp only [q3, optX_none] at m
    | exc c ρ2 => simp only [q2, RX.bind_exc] at m; exact fun G' H' S' s' => m G' H' S' (s1.trans s')
    | bad => simp only [q2, RX.bind_bad] at m
  | exc c ρ1 => simp only [q, RX.bind_exc] at m; exact m
  | bad => simp only [q, RX.bind_bad] at m
theorem px_cmp {op : CmpOp} {g : D → D → Option Bool} {fa fb : Ev → RX D} (ho : OpR X (compareOp op) (rB K g)) (ha : PE X a (xsOf K W fa)) (hb : PE X b (xsOf K W fb)) (hm : behindInMarks op b = false := by first | exact nomark _ | rfl) : PE X (.Compare a [op] [b] pos) (xsOf K W (xOp (fun d e => (g d e).map D.bl) fa fb)) :=
  pe_imp (pe_cmpR ho ha hb hm) fun σ H Q ⟨B, G, ρ, S, m⟩ => by
  refine ⟨B, G, ρ, S, ?_⟩
  unfold xOp at m
  cases q : fa ρ with
  | ok d ρ1 =>
    simp only [q, RX.bind_ok] at m
    intro v G1 H1 S1 s1 r1
    refine ⟨B, G1, ρ1, S1, ?_⟩
    cases q2 : fb ρ1 with
    | ok e2 ρ2 =>
      simp only [q2, RX.bind_ok] at m
      intro u G2 H2 S2 s2 r2
      cases q3 : g d e2 with
      | some k =>
        simp only [q3, Option.map_some, optX_some] at m
        exact ⟨G2, d, e2, k, S2.st.sub, .inl (r1.mono s2), .inl r2, q3, m _ G2 H2 S2 (s1.trans s2) (.bl k)⟩
      | none => simp only [q3, Option.map_none, optX_none] at m
    | exc c ρ2 => simp only [q2, RX.bind_exc] at m; exact fun G' H' S' s' => m G' H' S' (s1.trans s')
    | bad => simp only [q2, RX.bind_bad] at m
  | exc c ρ1 => simp only [q, RX.bind_exc] at m; exact m
  | bad => simp only [q, RX.bind_bad] at m
theorem px_bin {op : Operator} {g : D → D → Option D} {fa fb : Ev → RX D} (ho : OpR X (binaryOp op) (rV K g)) (ha : PE X a (xsOf K W fa)) (hb : PE X b (xsOf K W fb)) : PE X (.BinOp a op b pos) (xsOf K W (xOp g fa fb)) :=
  pe_imp (pe_op ho ha hb) fun σ H Q ⟨B, G, ρ, S, m⟩ => by
  refine ⟨B, G, ρ, S, ?_⟩
  unfold xOp at m
  cases q : fa ρ with
  | ok d ρ1 =>
    simp only [q, RX.bind_ok] at m
    intro v G1 H1 S1 s1 r1
    refine ⟨B, G1, ρ1, S1, ?_⟩
    cases q2 : fb ρ1 with
    | ok e2 ρ2 =>
      simp only [q2, RX.bind_ok] at m
      intro u G2 H2 S2 s2 r2
      cases q3 : g d e2 with
      | some k =>
        simp only [q3, optX_some] at m
        refine ⟨G2, d, e2, S2.st.sub, .inl (r1.mono s2), .inl r2, ?_⟩
        rw [q3]
        exact fun v' G3 H3 g3 r3 => m v' G3 H3 (S2.grow g3) ((s1.trans s2).trans g3.gg) r3
      | none => simp only [q3, optX_none] at m
    | exc c ρ2 => simp only [q2, RX.bind_exc] at m; exact fun G' H' S' s' => m G' H' S' (s1.trans s')
    | bad => simp only [q2, RX.bind_bad] at m
  | exc c ρ1 => simp only [q, RX.bind_exc] at m; exact m
  | bad => simp only [q, RX.bind_bad] at m
theorem xt_not {ca : Ev → RX Bool} (h : PT X a (xtOf K W ca)) : PT X (.UnaryOp .Not a pos) (xtOf K W (xNot ca)) := pt_imp (pt_not h) fun σ H Q ⟨B, G, ρ, S, m⟩ => by
  refine ⟨B, G, ρ, S, ?_⟩
  unfold xNot at m
  cases q : ca ρ with
  | ok b ρ1 => simp only [q, RX.bind_ok] at m; exact m
  | exc c ρ1 => simp only [q, RX.bind_exc] at m; exact m
  | bad => simp only [q, RX.bind_bad] at m
variable {ca cb : Ev → RX Bool} {rest : List Expr}
theorem xw_and1 (ha : PT X a (xtOf K W ca)) : PW X (.BoolOp .And [a] pos) (xtOf K W ca) := pw_and1 ha
theorem xw_or1 (ha : PT X a (xtOf K W ca)) : PW X (.BoolOp .Or [a] pos) (xtOf K W ca) := pw_or1 ha
theorem xw_and (ha : PT X a (xtOf K W ca)) (hb : PW X (.BoolOp .And (b :: rest) pos) (xtOf K W cb)) : PW X (.BoolOp .And (a :: b :: rest) pos) (xtOf K W (xAnd ca cb)) := pw_imp (pw_and ha hb) fun σ H Q ⟨B, G, ρ, S, m⟩ => by
  refine ⟨B, G, ρ, S, ?_⟩
  unfold xAnd at m
  cases q : ca ρ with
  | ok k ρ1 =>
    simp only [q, RX.bind_ok] at m
    intro G1 H1 S1 s1
    cases k with
    | true =>
      rw [if_pos rfl] at m ⊢
      refine ⟨B, G1, ρ1, S1, ?_⟩
      cases q2 : cb ρ1 with
      | ok k2 ρ2 => rw [q2] at m; exact fun G2 H2 S2 s2 => m G2 H2 S2 (s1.trans s2)
      | exc c ρ2 => rw [q2] at m; exact fun G2 H2 S2 s2 => m G2 H2 S2 (s1.trans s2)
      | bad => rw [q2] at m; exact m
    | false =>
      rw [if_neg Bool.false_ne_true] at m ⊢
      exact m G1 H1 S1 s1
  | exc c ρ1 => simp only [q, RX.bind_exc] at m; exact m
  | bad => simp only [q, RX.bind_bad] at m
theorem xw_or (ha : PT X a (xtOf K W ca)) (hb : PW X (.BoolOp .Or (b :: rest) pos) (xtOf K W cb)) : PW X (.BoolOp .Or (a :: b :: rest) pos) (xtOf K W (xOr ca cb)) := pw_imp (pw_or ha hb) fun σ H Q ⟨B, G, ρ, S, m⟩ => by
  refine ⟨B, G, ρ, S, ?_⟩
  unfold xOr at m
  cases q : ca ρ with
  | ok k ρ1 =>
    simp only [q, RX.bind_ok] at m
    intro G1 H1 S1 s1
    cases k with
    | false =>
      rw [if_neg Bool.false_ne_true] at m ⊢
      refine ⟨B, G1, ρ1, S1, ?_⟩
      cases q2 : cb ρ1 with
      | ok k2 ρ2 => rw [q2] at m; exact fun G2 H2 S2 s2 => m G2 H2 S2 (s1.trans s2)
      | exc c ρ2 => rw [q2] at m; exact fun G2 H2 S2 s2 => m G2 H2 S2 (s1.trans s2)
      | bad => rw [q2] at m; exact m
    | true =>
      rw [if_pos rfl] at m ⊢
      exact m G1 H1 S1 s1
  | exc c ρ1 => simp only [q, RX.bind_exc] at m; exact m
  | bad => simp only [q, RX.bind_bad] at m
variable {fe : Ev → RX D} {f g : Ev → O}
theorem xs_then {h : D → Ev → O} {Ed : Ends} {σ : L2.St} {H : Hp} {Q : VK} {B : Bs} {G : Hp} {ρ : Ev} (S : Good K B G ρ σ H) (m : OutP K B G W Ed ((fe ρ).outX h))
    (hq : ∀ d ρ1 v G' H', Good K B G' ρ1 σ H' → Same G G' → Rep K G' v d → OutP K B G W Ed (h d ρ1) → Q v H') : xsOf K W fe σ H Q := by
  refine ⟨B, G, ρ, S, ?_⟩
  cases q : fe ρ with
  | ok d ρ1 => rw [q] at m; exact fun v G' H' S' s' r => hq d ρ1 v G' H' S' s' r m
  | exc c ρ1 => rw [q] at m; exact fun G' H' S' s' => m G' σ H' S' s'
  | bad => rw [q] at m; exact m
theorem ds_ifX {x y : List Stmt} {fc : Ev → RX Bool} (hc : PT X c (xtOf K W fc)) (ha : PSs X x (tsOf K W f)) (hb : PSs X y (tsOf K W g)) : PS X (.If c x y pos) (tsOf K W (sIfX fc f g)) := ps_imp (ps_if hc ha hb) fun Ed σ H ⟨B, G, ρ, S, m⟩ => by
  refine ⟨B, G, ρ, S, ?_⟩
  unfold sIfX at m
  cases q : fc ρ with
  | ok k ρ1 =>
    simp only [q, RX.outX_ok] at m
    intro G1 H1 S1 s1
    cases k with
    | true => exact ⟨B, G1, ρ1, S1, OutP.later s1 m⟩
    | false => exact ⟨B, G1, ρ1, S1, OutP.later s1 m⟩
  | exc c ρ1 => simp only [q, RX.outX_exc] at m; exact fun G' H' S' s' => m G' σ H' S' s'
  | bad => simp only [q, RX.outX_bad] at m; exact m
theorem ds_setX {i : Nat} {x : Str} {pos' : Pos} (hN : X.N.Nodup) (hi : X.N[i]? = some x) (hx : Loc X.env.scope x) (he : PE X e (xsOf K W fe)) (hs : swapsWith e (some (.Name x pos')) pos.line X.env = pure false := by rfl) (hf : X.fn x = true ∨ X.env.scope.names.lookup x = some .local := by first | exact .inl rfl | exact .inr rfl | assumption) :
    PS X (.Assign [.Name x pos'] e pos) (tsOf K W (sSetX i fe)) := ps_imp (ps_set hN hi hx he hs hf) fun Ed σ H ⟨B, G, ρ, S, m⟩ =>
  xs_then S m fun d ρ1 v G' H' S' s' r m' => m' G' _ H' (good_setv S' r) s'
theorem ds_retX (he : PE X e (xsOf K W fe)) : PS X (.Return (some e) pos) (tsOf K W (sRetX fe)) := ps_imp (ps_ret he) fun Ed σ H ⟨B, G, ρ, S, m⟩ =>
  xs_then S m fun d ρ1 v G' H' S' s' r m' => m' v G' H' S'.gr r
theorem ds_dropX (he : PE X e (xsOf K W fe)) (hs : swapsWith e none pos.line X.env = pure false := by rfl) : PS X (.Expr e pos) (tsOf K W (sDropX fe)) := ps_imp (ps_expr he hs) fun Ed σ H ⟨B, G, ρ, S, m⟩ =>
  xs_then S m fun d ρ1 v G' H' S' s' r m' => m' G' σ H' S' s'
theorem ds_asgX {tg : Expr} {t : Tg} (he : PE X e (xsOf K W fe)) (hg : PG X tg (tgR K t)) (hs : swapsWithSole [tg] e pos.line X.env = pure false := by rfl) (hw : swappedStores [tg] e X.env = pure none := by rfl)
    (h1 : (assignEach [tg] X.env).map (·.2) = [assign tg X.env] := by rfl) : PS X (.Assign [tg] e pos) (tsOf K W (sAsgX t fe)) := ps_imp (ps_asg he hg hs hw h1) fun Ed σ H ⟨B, G, ρ, S, m⟩ =>
  xs_then S m fun d ρ1 v G' H' S' s' r m' => by
    cases q : tgSet t d ρ1 with
    | none => simp only [q] at m'; exact m'.elim
    | some ρ' =>
      simp only [q] at m'
      exact tg_run (P := fun ρ σ => Good K B G' ρ σ H') S'.st.sub t (fun _ _ _ _ _ _ p r => good_setv p r) S' r q fun σ' p' => m' G' σ' H' p' s'
/-! ### setdefault of an own dict -/
def xSetd (i : Nat) (fk fv : Ev → R D) : Ev → RX D := fun ρ => match ownM ρ i with
  | some (t, kvs) => (liftX fk ρ).bind fun k _ => (liftX fv ρ).bind fun v _ => if okKey t k && szOk (kvs.length + 1) then (match valD kvs k with
    | some d => .ok d ρ
    | none => .ok v (ρ.set i (.own (.dct t (putD kvs k v))))) else .bad
  | none => .bad
theorem px_setd (i : Nat) {x : Str} {ke ve : Expr} {fk fv : Ev → R D} {xpos apos cpos : Pos} {k : Nat} (hr : Room k X.A) (hk : PE X ke (exOf K .v W fk)) (hv : PE X ve (exOf K .v W fv)) (hN : X.N[i]? = some x := by rfl) (hvis : Vis X.env.scope x := by first | exact Or.inl rfl | exact Or.inr (Or.inl rfl) | exact Or.inr (Or.inr rfl))
    (hd : (x == ("__debug__" : Str)) = false := by decide) (hcd : (x == ("__classdict__" : Str)) = false := by decide) (m : M2 X (.Name x xpos) "setdefault" apos ke ve cpos := by exact ⟨rfl, rfl, rfl, rfl⟩) :
    PE X (.Call (.Attribute (.Name x xpos) "setdefault" apos) [ke, ve] [] cpos) (xsOf K W (xSetd i fk fv)) := pe_imp (pe_dsetG (hu_of hr) (pe_var hN hvis hd hcd) hk hv m) fun σ H Q ⟨B, G, ρ, S, m⟩ => by
  unfold xSetd at m
  cases q : ownM ρ i with
  | none => simp only [q] at m
  | some tk =>
    obtain ⟨t, kvs⟩ := tk
    simp only [q] at m
    have ho := ownM_some q
    obtain ⟨p, hp, gn, w⟩ := S.st.sl i _ ho
    have isD : ∀ {G H : Hp} {d : Pd.D}, OwnAt K G H p (.dct t kvs) → IsD H p := fun {G H d} w => by
      cases t with
      | false => obtain ⟨ks, e, _⟩ := w; exact .inl ⟨ks, .inl e⟩
      | true => obtain ⟨ks, e, _⟩ := w; exact .inr ⟨ks, .inl e⟩
    refine ⟨_, hp, p, rfl, isD (d := .non) w, G, ρ, S.st, ?_⟩
    unfold liftX at m
    cases q1 : fk ρ with
    | ok kd =>
      simp only [q1, RX.bind_ok] at m
      intro y G1 H1 g1 r1
      have S1 := S.grow g1
      refine ⟨G1, ρ, S1.st, ?_⟩
      cases q2 : fv ρ with
      | ok vd =>
        simp only [q2, RX.bind_ok] at m
        intro z G2 H2 g2 r2
        have S2 := S1.grow g2
        obtain ⟨p', hp', gn', w'⟩ := S2.st.sl i _ ho
        rw [hp] at hp'
        cases hp'
        cases hz : okKey t kd && szOk (kvs.length + 1) with
        | false => simp only [hz, if_neg Bool.false_ne_true] at m
        | true =>
          simp only [hz, if_true] at m
          rw [Bool.and_eq_true] at hz
          have wk : WRep K G2 H2 y kd := .inl (Rep.mono g2.gg r1)
          have ss : Same G G2 := g1.gg.trans g2.gg
          have len : (∃ kvs, H2 p = some (.dK kvs) ∧ kvs.length < sizeLine) ∨ ∃ kvs, H2 p = some (.dT kvs) ∧ kvs.length < sizeLine := by
            cases t with
            | false => obtain ⟨ks, e, r⟩ := w'; exact .inl ⟨ks, e, by rw [RepK.length r]; exact szOk_lt hz.2⟩
            | true => obtain ⟨ks, e, r⟩ := w'; exact .inr ⟨ks, e, by rw [RepT.length r]; exact szOk_lt hz.2⟩
          obtain ⟨a', ea, alt⟩ := dget_of S2.st.sub (.inr ⟨p, rfl, .inl gn', w'⟩ : WRep K G2 H2 (.ref p) (.dct t kvs)) wk hz.1
          cases ea
          obtain ⟨o', dp, w2⟩ := dput_of S2.st.sub w' wk hz.1 hz.2 r2
          rcases alt with ⟨dg, e0⟩ | ⟨v, d, dg, e0, rv⟩
          · rw [e0] at m
            exact ⟨none, dg, len, (fun v e => nomatch e), fun _ => ⟨_, dp, m z G2 _ (S2.mut ho hp gn' w2) ss r2⟩⟩
          · rw [e0] at m
            refine ⟨some v, dg, len, fun v' e => ?_, fun e => nomatch e⟩
            cases e
            exact m v G2 H2 S2 ss rv
      | exc c => simp only [q2, RX.bind_exc] at m; exact fun G' H' g' => m G' H' (S1.grow g') (g1.gg.trans g'.gg)
      | bad => simp only [q2, RX.bind_bad] at m
    | exc c => simp only [q1, RX.bind_exc] at m; exact fun G' H' g' => m G' H' (S.grow g') g'.gg
    | bad => simp only [q1, RX.bind_bad] at m
end
end Pd

/-! Pd26: enumerate over tuples; d.get; {k: v}. -/
namespace Pd
open PySem PySem.Spec L2
variable {K : PySem.W.Frag}
abbrev enuO (a : Addr) : Obj := { cls := .type "enumerate", data := .fields #[.none, .bool false, .ref a, rawInt 0, .none, .none] }
set_option maxHeartbeats 4000000 in
theorem meets_enum1 {v : Value} {o : Obj} {Hv : Heap → Prop} (B : Begins v o Hv) : Meets (Builtin.«enumerate.__new__» ⟨[.type "enumerate", v], []⟩)
    (fun _ R s => Hv s.heap ∧ R (.ok (.ret (.ref (s.heap.push o).objs.size))) { s with heap := (s.heap.push o).push (enuO s.heap.objs.size) }) :=
  .of_wp fun prog w A R s hyp => by
    obtain ⟨hp, ge, dr, tks, oo⟩ := s
    obtain ⟨hv0, hR⟩ := hyp
    have sub0 := sub_enumerate
    have it0 : ∀ {A' : Around} {E : Value → Shared → Prop} {Q : Value → Shared → Prop}, Q (.ref hp.objs.size) ⟨hp.push o, ge, dr, tks, oo⟩ → wpAny (model prog w) A' (pyIter v) Q E ⟨hp, ge, dr, tks, oo⟩ := fun q => B.iter prog w _ _ ⟨hp, ge, dr, tks, oo⟩ _ hv0 q
    wp_walk using it0
    refine wpAny_stack_any fun stk => wpAny_pure ?_
    split
    · rename_i cc _ _ _ _ _
      cases (cc == Value.type "enumerate")
      · wp_walk using it0
        exact ⟨_, rfl, hR⟩
      · wp_walk using it0
        exact ⟨_, rfl, hR⟩
    · wp_walk using it0
      exact ⟨_, rfl, hR⟩
section
variable {prog : Program} {w : World} {A : Around} {E : Value → Shared → Prop} {s : Shared}
theorem enum1_call {v : Value} {o : Obj} {Hv : Heap → Prop} {Q : Value → Shared → Prop} (B : Begins v o Hv) (hv0 : Hv s.heap)
    (q : ∀ hh, IsEnum hh (s.heap.objs.size + 1) s.heap.objs.size 0 .none → hh.get? s.heap.objs.size = some o → (∀ b ob, s.heap.get? b = some ob → hh.get? b = some ob) → Q (.ref (s.heap.objs.size + 1)) { s with heap := hh }) :
    wpAny (model prog w) A (call (.type "enumerate") [v]) Q E s := by
  have sz : (s.heap.push o).objs.size = s.heap.objs.size + 1 := Heap.size_push ..
  have en : IsEnum ((s.heap.push o).push (enuO s.heap.objs.size)) (s.heap.objs.size + 1) s.heap.objs.size 0 .none := by
    have z := Heap.get?_push_size (s.heap.push o) (o := enuO s.heap.objs.size) rfl
    rw [sz] at z
    exact z
  refine callType_new F.called_enumerate (by decide) (F.typeCall_enumerate_1 _) (F.newCall_enumerate_1 _) (fun ob => F.args_object_init_2 ob _) F.entry_enumerate_new (meets_enum1 B) ⟨hv0, ?_⟩
  show _ ∧ _
  rw [sz]
  exact ⟨⟨_, en, rfl⟩, q _ en (Heap.get?_push_of_some _ (Heap.get?_push_size _ B.free)) fun b ob x => Heap.get?_push_of_some _ (Heap.get?_push_of_some _ x)⟩
end
/-- the tuple at a, each item in a new pair with its number -/
def IteT (K : PySem.W.Frag) (a : Addr) : It :=
  ⟨fun i H => ∃ (xs : List V) (x : V), SqT K H a xs ∧ xs[i]? = some x, fun i H v H' => ∃ T x, v = .ref T ∧ H T = none ∧ H' = upd H T (.tup [.int (i : Nat), x]) ∧ ∀ xs, SqT K H a xs → xs[i]? = some x, fun i H => ∃ xs : List V, SqT K H a xs ∧ xs.length = i⟩
theorem turn_enumT {P : Program} {w : World} {K : PySem.W.Frag} {elts : List Expr} {kk : Nat} {tpos : Pos} (a e it : Addr) :
    Turn P w K (.Tuple elts kk tpos) (IteT K a) [e, it] e (fun i h => (∃ old, IsEnum h e it ((i : Nat) : Int) old) ∧ h.IsTupleIter it a i ∧ e ≠ it ∧ a ≠ it ∧ e ≠ a) where
  mem := by simp
  obj := fun i h st b hb => by
    obtain ⟨⟨old, en⟩, ⟨o, ho, hc, hd⟩, _⟩ := st
    have e' : b = e ∨ b = it := by simpa using hb
    rcases e' with z | z
    · rw [z]
      exact ⟨_, en, fun v q => nomatch q⟩
    · rw [z]
      exact ⟨o, ho, fun v q => by rw [hd] at q; cases q⟩
  keep := fun i h h' st k => by
    obtain ⟨⟨old, en⟩, ti, n1, n2, n3⟩ := st
    exact ⟨⟨old, k e (by simp) _ en⟩, ti.at fun o q => k it (by simp) o q, n1, n2, n3⟩
  item := by
    intro X hP hw hK hc i pins s σ H E I hf st hg
    subst hP hw hK
    obtain ⟨⟨old, en⟩, ti, n1, n2, n3⟩ := st
    obtain ⟨xs, x, hq, hx⟩ := hg
    obtain ⟨its, rv, p, hz⟩ := I.tuple hq
    obtain ⟨u, hu, ru⟩ := rv.get hx
    have hT0 : s.heap.IsTuple a its.toArray := p
    have hlt : i < its.toArray.size := by
      have := (List.getElem?_eq_some_iff.mp hu).1
      simpa using this
    have eL : e < s.heap.objs.size := Heap.lt_size en
    have iL : it < s.heap.objs.size := by obtain ⟨_, q, _⟩ := ti; exact Heap.lt_size q
    refine wpAny_pyNext_enum_itemD (Draws.tuple (A := X.A.in1) (I.ok.hd hc) it a n2 its.toArray) en ⟨ti, hT0⟩ hlt n1 (by simp [n1, n3]) fun y hh tk hy ho hit hT hsz hk => ?_
    have ey : y = u := by
      have z : its.toArray[i]? = some u := by simpa using hu
      rw [z] at hy
      exact (Option.some.inj hy).symm
    subst ey
    refine ⟨_, rfl, wpAny_letOwnedTupleGo_enum (s := { s with heap := hh, toks := tk + 1 }) ho fun h2 en2 sb => ?_⟩
    have hT2 : h2.get? s.heap.objs.size = some { cls := .type "tuple", data := .seq #[.int i tk, y] } := (sb.2 _ (Nat.ne_of_gt eL)).trans hT
    have nw : ObjOk X.prog X.w (upd H s.heap.objs.size (.tup [.int (i : Nat), x])) h2 s.heap.objs.size (.tup [.int (i : Nat), x]) :=
      ⟨by show 2 ≤ sizeLine; decide, [.int i tk, y], .cons ⟨_, rfl⟩ (.cons ru .nil), ⟨_, hT2, rfl, _, rfl⟩⟩
    have I1 : Inv X pins σ (upd H s.heap.objs.size (.tup [.int (i : Nat), x])) { s with heap := h2, toks := tk + 1 } :=
      I.turnedNew (ch := [e, it]) (fun b ob hb q => (sb.2 b (fun z => hb (by simp [z]))).trans (hk b ob (fun z => hb (by simp [z])) (fun z => hb (by simp [z])) q)) hf (Nat.le_refl _) nw
    refine ⟨.ref s.heap.objs.size, _, I1, rfl, ⟨_, x, rfl, I.hok.fresh (Nat.le_refl _), rfl, fun ys hy => by rw [I.tuple_inj hy hq]; exact hx⟩, ⟨⟨y, ?_⟩, hit.1.at fun o q => (sb.2 it (Ne.symm n1)).trans q, n1, n2, n3⟩, fun b hb => ?_⟩
    · have e1 : ((i + 1 : Nat) : Int) = (i : Int) + 1 := by omega
      rw [e1]
      exact en2
    · have hb' : b < s.heap.objs.size := by
        have e' : b = e ∨ b = it := by simpa using hb
        rcases e' with z | z <;> rw [z] <;> assumption
      rw [upd_ne (Nat.ne_of_lt hb')]
      exact (hf b hb).1
  done := by
    intro X hP hw hK hc i pins s σ H E I hf st hg
    subst hP hw hK
    obtain ⟨⟨old, en⟩, ti, n1, n2, n3⟩ := st
    obtain ⟨xs, hq, hx⟩ := hg
    obtain ⟨its, rv, p, hz⟩ := I.tuple hq
    obtain ⟨f0, f1, f2, f3, f4, f5⟩ := hf it (by simp)
    have hl := rv.length
    have hT0 : s.heap.IsTuple a its.toArray := p
    have ei : i = its.toArray.size := by simp; omega
    subst ei
    exact wpAny_pyNext_enum_endD (Draws.tuple (A := X.A.in1) (I.ok.hd hc) it a n2 its.toArray) en ⟨ti, hT0⟩ fun h2 eb => ⟨rfl, I.turned (t' := s.toks) (fun b o hb q => eb b o hb q) f0 f1 f3 f4 f5⟩
  self := fun A i s Q E st h => let ⟨⟨_, en⟩, _⟩ := st; wpAny_pyIter_enum en h
def iEnumT (K : PySem.W.Frag) (ta : TA) : TI := fun σ H R => ta σ H fun vs H1 => ∃ a xs, vs = [.ref a] ∧ SqT K H1 a xs ∧ R (IteT K a) H1
theorem pi_enumT {X : Cx} {e : Expr} {ta : TA} {p pos tpos : Pos} {elts : List Expr} {kk : Nat} (hg : Gl X "enumerate") (hm : X.mg "enumerate" = none) (ha : PA X [e] ta) (hs : starEach [e] X.env = [(false, eval e X.env)] := by rfl) :
    PI X (.Tuple elts kk tpos) (.Call (.Name "enumerate" p) [e] [] pos) (iEnumT X.K ta) := by
  refine ⟨fun pins s σ H R I h => ?_⟩
  have go := ha.run pos pins s σ H _ I h
  refine PyProof.Rows.Call_ (ld_blt I hg hm PyProof.Rows.boot_enumerate (PyProof.Rows.callWith_type1 (thn go fun us s1 w1 => ?_) hs rfl))
  obtain ⟨vs, H1, I1, r1, a, xs, ex, hq, q⟩ := w1
  subst ex
  cases r1 with
  | cons r rr =>
    cases rr
    cases r
    obtain ⟨its, rv, p', hz⟩ := I1.tuple hq
    have hT0 : s1.heap.IsTuple a its.toArray := p'
    have aL : a < s1.heap.objs.size := by obtain ⟨_, z, _⟩ := hT0; exact Heap.lt_size z
    refine enum1_call (begins_tuple a its.toArray) hT0 fun hh en it0 hk => wpAny_pyIter_enum en ?_
    have I2 : Inv X pins σ H1 { s1 with heap := hh } := I1.kept (t' := s1.toks) hk
    refine ⟨s1.heap.objs.size + 1, [s1.heap.objs.size + 1, s1.heap.objs.size], _, _, H1, rfl, I2, turn_enumT a (s1.heap.objs.size + 1) s1.heap.objs.size, ⟨⟨.none, en⟩, ⟨_, it0, rfl, rfl⟩, Nat.succ_ne_self _, Nat.ne_of_lt aL, Nat.ne_of_gt (Nat.lt_succ_of_lt aL)⟩, fun b hb => ?_, q⟩
    have hle : s1.heap.objs.size ≤ b := by
      have e' : b = s1.heap.objs.size + 1 ∨ b = s1.heap.objs.size := by simpa using hb
      rcases e' with z | z
      · rw [z]; exact Nat.le_succ _
      · rw [z]; exact Nat.le_refl _
    exact I1.fpOk hle (I1.hok.fresh hle)
theorem iteT_d {a : Addr} {G : Hp} {xs : List V} {ds : List D} (h : Rd G a (.tup xs)) (r : RepL K G xs ds) : ItD K (IteT K a) G (enumF 0 ds) := fun H' s => by
  have st : SqT K H' a xs := .inl (s.rd h)
  refine ⟨fun i d e => ?_, xs, st, by rw [enumF_len, r.length]⟩
  obtain ⟨x, rfl, e1⟩ := enumF_get e
  obtain ⟨v, hv, rv⟩ := r.get e1
  refine ⟨⟨xs, v, st, hv⟩, fun u H'' ⟨T, x', eu, nT, eH, fx⟩ G' s1 s2 => ?_⟩
  have q1 := fx xs st
  rw [hv] at q1
  cases q1
  subst eu eH
  rw [Nat.zero_add]
  exact pair_new s2 nT (.int _) (rv.mono s1)
def enumTD : List D → Option (List D)
  | [.tup ds] => some (enumF 0 ds)
  | [.pt ds] => some (enumF 0 ds)
  | _ => none
section
variable {X : Cx} {W : WN}
theorem di_enumT {a : Expr} {f : Ev → R (List D)} {p pos tpos : Pos} {elts : List Expr} {kk : Nat} (hm : X.mg "enumerate" = none) (ha : PA X [a] (taOf K W f)) (hK : X.K = K := by rfl) (hg : Gl X "enumerate" := by rfl)
    (hs : starEach [a] X.env = [(false, eval a X.env)] := by rfl) :
    PI X (.Tuple elts kk tpos) (.Call (.Name "enumerate" p) [a] [] pos) (tiOf K true W fun ρ => (f ρ).bind fun d => opt (enumTD d)) := pi_imp (pi_enumT hg hm ha hs) fun σ H Q h => by
  subst hK
  refine ti_args (r := fun vs H1 Q => ∃ a xs, vs = [.ref a] ∧ SqT X.K H1 a xs ∧ Q (IteT X.K a) H1) (fun G H vs ds its Q sub r e m => ?_) h
  cases r with
  | nil => cases e
  | cons r1 r2 =>
    cases r2 with
    | cons _ _ => cases r1 <;> cases e
    | nil =>
      cases r1 with
      | tup h1 q1 => cases e; exact ⟨_, _, rfl, .inl (.inl (sub _ _ h1)), m _ G H (.refl sub) (iteT_d (.inl h1) q1)⟩
      | pt h1 _ q1 => cases e; exact ⟨_, _, rfl, .inl (.inr ⟨_, sub _ _ h1⟩), m _ G H (.refl sub) (iteT_d (.inr ⟨_, h1⟩) q1)⟩
      | _ => cases e
/-! ### d.get -/
def eGet1 (fd fk : Ev → R D) : Ev → R D := fun ρ => (fd ρ).bind fun d => match d with
  | .dct t kvs => (fk ρ).bind fun k => if okKey t k then .ok ((valD kvs k).getD .non) else .bad
  | _ => .bad
def eGet2 (fd fk fx : Ev → R D) : Ev → R D := fun ρ => (fd ρ).bind fun d => match d with
  | .dct t kvs => (fk ρ).bind fun k => (fx ρ).bind fun x => if okKey t k then .ok ((valD kvs k).getD x) else .bad
  | _ => .bad
theorem wrep_dct {G H : Hp} {x : V} {t : Bool} {kvs : List (D × D)} (sub : Sub G H) (w : WRep K G H x (.dct t kvs)) : ∃ a, x = .ref a ∧ IsD H a := by
  cases t with
  | false => obtain ⟨a, ks, e, ha, _⟩ := wrep_dK sub w; exact ⟨a, e, .inl ⟨ks, .inl ha⟩⟩
  | true => obtain ⟨a, ks, e, ha, _⟩ := wrep_dT sub w; exact ⟨a, e, .inr ⟨ks, .inl ha⟩⟩
variable {o e f : Expr} {fd fk fx : Ev → R D} {apos cpos : Pos} {k : Nat}
theorem de_get1 (hr : Room k X.A) (ho : PE X o (exOf K .w W fd)) (he : PE X e (exOf K .w W fk)) (m : M1 X o "get" apos e cpos := by exact ⟨rfl, rfl, rfl, rfl⟩) :
    PE X (.Call (.Attribute o "get" apos) [e] [] cpos) (exOf K .v W (eGet1 fd fk)) := pe_imp (pe_dget1 (hu_of hr) ho he m) fun σ H Q ⟨G, ρ, S, m⟩ => by
  refine ⟨G, ρ, S, ?_⟩
  unfold eGet1 at m
  cases q : fd ρ with
  | ok d =>
    simp only [q, R.bind_ok] at m
    intro v G1 H1 g1 r1
    cases d with
    | dct t kvs =>
      simp only at m
      obtain ⟨a, ea, isd⟩ := wrep_dct g1.gh r1
      refine ⟨a, ea, isd, G1, ρ, S.grow g1, ?_⟩
      cases q2 : fk ρ with
      | ok kd =>
        simp only [q2, R.bind_ok] at m
        intro y G2 H2 g2 r2
        cases hz : okKey t kd with
        | false => simp only [hz, if_neg Bool.false_ne_true] at m
        | true =>
          simp only [hz, if_true] at m
          obtain ⟨a', ea', alt⟩ := dget_of g2.gh (WRep.grow g2 r1) r2 hz
          rw [ea] at ea'
          cases ea'
          rcases alt with ⟨dg, e0⟩ | ⟨u, d0, dg, e0, ru⟩
          · rw [e0] at m
            exact ⟨none, dg, m .non G2 H2 (g1.trans g2) .non⟩
          · rw [e0] at m
            exact ⟨some u, dg, m u G2 H2 (g1.trans g2) ru⟩
      | exc c => simp only [q2, R.bind_exc] at m; exact fun G' H' g' => m G' H' (g1.trans g')
      | bad => simp only [q2, R.bind_bad] at m
    | _ => exact m.elim
  | exc c => simp only [q, R.bind_exc] at m; exact m
  | bad => simp only [q, R.bind_bad] at m
theorem de_get2 (hr : Room k X.A) (ho : PE X o (exOf K .w W fd)) (he : PE X e (exOf K .w W fk)) (hf : PE X f (exOf K .v W fx)) (m : M2 X o "get" apos e f cpos := by exact ⟨rfl, rfl, rfl, rfl⟩) :
    PE X (.Call (.Attribute o "get" apos) [e, f] [] cpos) (exOf K .v W (eGet2 fd fk fx)) := pe_imp (pe_dget2 (hu_of hr) ho he hf m) fun σ H Q ⟨G, ρ, S, m⟩ => by
  refine ⟨G, ρ, S, ?_⟩
  unfold eGet2 at m
  cases q : fd ρ with
  | ok d =>
    simp only [q, R.bind_ok] at m
    intro v G1 H1 g1 r1
    cases d with
    | dct t kvs =>
      simp only at m
      obtain ⟨a, ea, isd⟩ := wrep_dct g1.gh r1
      refine ⟨a, ea, isd, G1, ρ, S.grow g1, ?_⟩
      cases q2 : fk ρ with
      | ok kd =>
        simp only [q2, R.bind_ok] at m
        intro y G2 H2 g2 r2
        refine ⟨G2, ρ, (S.grow g1).grow g2, ?_⟩
        cases q3 : fx ρ with
        | ok xd =>
          simp only [q3, R.bind_ok] at m
          intro z G3 H3 g3 r3
          have g12 := g1.trans g2
          cases hz : okKey t kd with
          | false => simp only [hz, if_neg Bool.false_ne_true] at m
          | true =>
            simp only [hz, if_true] at m
            obtain ⟨a', ea', alt⟩ := dget_of g3.gh (WRep.grow g3 (WRep.grow g2 r1)) (WRep.grow g3 r2) hz
            rw [ea] at ea'
            cases ea'
            rcases alt with ⟨dg, e0⟩ | ⟨u, d0, dg, e0, ru⟩
            · rw [e0] at m
              exact ⟨none, dg, m z G3 H3 (g12.trans g3) r3⟩
            · rw [e0] at m
              exact ⟨some u, dg, m u G3 H3 (g12.trans g3) ru⟩
        | exc c => simp only [q3, R.bind_exc] at m; exact fun G' H' g' => m G' H' ((g1.trans g2).trans g')
        | bad => simp only [q3, R.bind_bad] at m
      | exc c => simp only [q2, R.bind_exc] at m; exact fun G' H' g' => m G' H' (g1.trans g')
      | bad => simp only [q2, R.bind_bad] at m
    | _ => exact m.elim
  | exc c => simp only [q, R.bind_exc] at m; exact m
  | bad => simp only [q, R.bind_bad] at m
end
end Pd

/-! Pd27: enumerate over a list or a tuple. -/
namespace Pd
open PySem PySem.Spec L2
variable {K : PySem.W.Frag}
def iEnumA (K : PySem.W.Frag) (ta : TA) : TI := fun σ H R => ta σ H fun vs H1 => (∃ a xs, vs = [.ref a] ∧ SqL K H1 a xs ∧ R (Ite K a) H1) ∨ ∃ a xs, vs = [.ref a] ∧ SqT K H1 a xs ∧ R (IteT K a) H1
theorem pi_enumA {X : Cx} {e : Expr} {ta : TA} {p pos tpos : Pos} {elts : List Expr} {kk : Nat} (hg : Gl X "enumerate") (hm : X.mg "enumerate" = none) (ha : PA X [e] ta) (hs : starEach [e] X.env = [(false, eval e X.env)] := by rfl) :
    PI X (.Tuple elts kk tpos) (.Call (.Name "enumerate" p) [e] [] pos) (iEnumA X.K ta) := by
  refine ⟨fun pins s σ H R I h => ?_⟩
  have go := ha.run pos pins s σ H _ I h
  refine PyProof.Rows.Call_ (ld_blt I hg hm PyProof.Rows.boot_enumerate (PyProof.Rows.callWith_type1 (thn go fun us s1 w1 => ?_) hs rfl))
  obtain ⟨vs, H1, I1, r1, alt⟩ := w1
  have fresh : ∀ b ∈ [s1.heap.objs.size + 1, s1.heap.objs.size], FpOk X pins H1 b := fun b hb => by
    have hle : s1.heap.objs.size ≤ b := by
      have e' : b = s1.heap.objs.size + 1 ∨ b = s1.heap.objs.size := by simpa using hb
      rcases e' with z | z
      · rw [z]; exact Nat.le_succ _
      · rw [z]; exact Nat.le_refl _
    exact I1.fpOk hle (I1.hok.fresh hle)
  rcases alt with ⟨a, xs, ex, hq, q⟩ | ⟨a, xs, ex, hq, q⟩
  · subst ex
    cases r1 with
    | cons r rr =>
      cases rr
      cases r
      obtain ⟨its, rv, p', hz⟩ := I1.list hq
      refine call_enumerate_list p'.isList fun hh en it0 hsz hk => wpAny_pyIter_enum en ?_
      have I2 : Inv X pins σ H1 { s1 with heap := hh } := I1.kept (t' := s1.toks) hk
      exact ⟨s1.heap.objs.size + 1, [s1.heap.objs.size + 1, s1.heap.objs.size], _, _, H1, rfl, I2, turn_enum a (s1.heap.objs.size + 1) s1.heap.objs.size, ⟨⟨.none, en⟩, it0, Nat.succ_ne_self _⟩, fresh, q⟩
  · subst ex
    cases r1 with
    | cons r rr =>
      cases rr
      cases r
      obtain ⟨its, rv, p', hz⟩ := I1.tuple hq
      have hT0 : s1.heap.IsTuple a its.toArray := p'
      have aL : a < s1.heap.objs.size := by obtain ⟨_, z, _⟩ := hT0; exact Heap.lt_size z
      refine enum1_call (begins_tuple a its.toArray) hT0 fun hh en it0 hk => wpAny_pyIter_enum en ?_
      have I2 : Inv X pins σ H1 { s1 with heap := hh } := I1.kept (t' := s1.toks) hk
      exact ⟨s1.heap.objs.size + 1, [s1.heap.objs.size + 1, s1.heap.objs.size], _, _, H1, rfl, I2, turn_enumT a (s1.heap.objs.size + 1) s1.heap.objs.size, ⟨⟨.none, en⟩, ⟨_, it0, rfl, rfl⟩, Nat.succ_ne_self _, Nat.ne_of_lt aL, Nat.ne_of_gt (Nat.lt_succ_of_lt aL)⟩, fresh, q⟩
def enumAD : List D → Option (List D)
  | [.lst ds] => some (enumF 0 ds)
  | [.tup ds] => some (enumF 0 ds)
  | [.pt ds] => some (enumF 0 ds)
  | _ => none
section
variable {X : Cx} {W : WN}
theorem di_enumA {a : Expr} {f : Ev → R (List D)} {p pos tpos : Pos} {elts : List Expr} {kk : Nat} (hm : X.mg "enumerate" = none) (ha : PA X [a] (taOf K W f)) (hK : X.K = K := by rfl) (hg : Gl X "enumerate" := by rfl)
    (hs : starEach [a] X.env = [(false, eval a X.env)] := by rfl) :
    PI X (.Tuple elts kk tpos) (.Call (.Name "enumerate" p) [a] [] pos) (tiOf K true W fun ρ => (f ρ).bind fun d => opt (enumAD d)) := pi_imp (pi_enumA hg hm ha hs) fun σ H Q h => by
  subst hK
  refine ti_args (r := fun vs H1 Q => (∃ a xs, vs = [.ref a] ∧ SqL X.K H1 a xs ∧ Q (Ite X.K a) H1) ∨ ∃ a xs, vs = [.ref a] ∧ SqT X.K H1 a xs ∧ Q (IteT X.K a) H1) (fun G H vs ds its Q sub r e m => ?_) h
  cases r with
  | nil => cases e
  | cons r1 r2 =>
    cases r2 with
    | cons _ _ => cases r1 <;> cases e
    | nil =>
      cases r1 with
      | lst h1 q1 => cases e; exact .inl ⟨_, _, rfl, .of (sub _ _ h1), m _ G H (.refl sub) (ite_d (.of h1) q1)⟩
      | tup h1 q1 => cases e; exact .inr ⟨_, _, rfl, .inl (.inl (sub _ _ h1)), m _ G H (.refl sub) (iteT_d (.inl h1) q1)⟩
      | pt h1 _ q1 => cases e; exact .inr ⟨_, _, rfl, .inl (.inr ⟨_, sub _ _ h1⟩), m _ G H (.refl sub) (iteT_d (.inr ⟨_, h1⟩) q1)⟩
      | _ => cases e
end
end Pd

/-! Pd28: objects: fields, methods, making. -/
namespace Pd
open PySem PySem.Spec L2
variable {K : PySem.W.Frag}

/-! ### fields -/
def fldD (ds : List (Str × Bool × D)) (f : Str) : Option (Bool × D) := ds.lookup f
theorem FsOk.look {G H : Hp} {i : Nat} {f : Str} : ∀ {fs : List (Str × V)} {ds : List (Str × Bool × D)}, FsOk K G H i fs ds →
    (fs.lookup f = none ∧ ds.lookup f = none) ∨ ∃ v b d, fs.lookup f = some v ∧ ds.lookup f = some (b, d) ∧ (b = false → Rep K G v d) ∧ (b = true → ∃ q, v = .ref q ∧ G q = some (pmark i f) ∧ OwnAt K G H q d)
  | _, _, .nil => .inl ⟨rfl, rfl⟩
  | _, _, .val (f := g) (v := v) (d := d) _ r t => by
    by_cases e : f = g
    · subst e
      exact .inr ⟨v, false, d, by simp [List.lookup], by simp [List.lookup], (fun _ => r), (fun z => nomatch z)⟩
    · have hb : (f == g) = false := beq_eq_false_iff_ne.mpr e
      simp only [List.lookup, hb]
      exact FsOk.look t
  | _, _, .own (f := g) (q := q) (d := d) _ e1 w t => by
    by_cases e : f = g
    · subst e
      exact .inr ⟨.ref q, true, d, by simp [List.lookup], by simp [List.lookup], (fun z => nomatch z), (fun _ => ⟨q, rfl, e1, w⟩)⟩
    · have hb : (f == g) = false := beq_eq_false_iff_ne.mpr e
      simp only [List.lookup, hb]
      exact FsOk.look t
/-- a field stored -/
def putFD (f : Str) (b : Bool) (d : D) : List (Str × Bool × D) → List (Str × Bool × D)
  | [] => [(f, b, d)]
  | (g, x) :: r => if g = f then (g, b, d) :: r else (g, x) :: putFD f b d r
theorem lookup_putFD {f g : Str} {b : Bool} {d : D} (ne : g ≠ f) : ∀ {ds : List (Str × Bool × D)}, ds.lookup g = none → (putFD f b d ds).lookup g = none
  | [], _ => by
    unfold putFD
    simp only [List.lookup, beq_eq_false_iff_ne.mpr ne]
  | (h, x) :: r, e => by
    unfold putFD
    by_cases q : h = f
    · rw [if_pos q]
      simp only [List.lookup] at e ⊢
      by_cases z : (g == h) = true
      · rw [z] at e; cases e
      · rw [Bool.not_eq_true] at z
        rw [z] at e ⊢
        exact e
    · rw [if_neg q]
      simp only [List.lookup] at e ⊢
      by_cases z : (g == h) = true
      · rw [z] at e; cases e
      · rw [Bool.not_eq_true] at z
        rw [z] at e ⊢
        exact lookup_putFD ne e
theorem FsOk.putV {G H : Hp} {i : Nat} {f : Str} {v : V} {d : D} (r : Rep K G v d) : ∀ {fs : List (Str × V)} {ds : List (Str × Bool × D)}, FsOk K G H i fs ds → FsOk K G H i (putF f v fs) (putFD f false d ds)
  | _, _, .nil => .val rfl r .nil
  | _, _, .val (f := g) nf r0 t => by
    unfold putF putFD
    by_cases e : g = f
    · subst e; rw [if_pos rfl, if_pos rfl]; exact .val nf r t
    · rw [if_neg e, if_neg e]; exact .val (lookup_putFD e nf) r0 (FsOk.putV r t)
  | _, _, .own (f := g) nf e1 w t => by
    unfold putF putFD
    by_cases e : g = f
    · subst e; rw [if_pos rfl, if_pos rfl]; exact .val nf r t
    · rw [if_neg e, if_neg e]; exact .own (lookup_putFD e nf) e1 w (FsOk.putV r t)
theorem FsOk.putO {G H : Hp} {i : Nat} {f : Str} {q : Addr} {d : D} (hq : G q = some (pmark i f)) (w0 : OwnAt K G H q d) : ∀ {fs : List (Str × V)} {ds : List (Str × Bool × D)}, FsOk K G H i fs ds → FsOk K G H i (putF f (.ref q) fs) (putFD f true d ds)
  | _, _, .nil => .own rfl hq w0 .nil
  | _, _, .val (f := g) nf r0 t => by
    unfold putF putFD
    by_cases e : g = f
    · subst e; rw [if_pos rfl, if_pos rfl]; exact .own nf hq w0 t
    · rw [if_neg e, if_neg e]; exact .val (lookup_putFD e nf) r0 (FsOk.putO hq w0 t)
  | _, _, .own (f := g) nf e1 w t => by
    unfold putF putFD
    by_cases e : g = f
    · subst e; rw [if_pos rfl, if_pos rfl]; exact .own nf hq w0 t
    · rw [if_neg e, if_neg e]; exact .own (lookup_putFD e nf) e1 w (FsOk.putO hq w0 t)
/-- the ghost slot -/
def ghost (ρ : Ev) (g : Nat) : Option (List Ob) := match ρ[g]? with
  | some (.st _ Ω) => some Ω
  | _ => none
theorem ghost_some {ρ : Ev} {g : Nat} {Ω : List Ob} (h : ghost ρ g = some Ω) : ∃ rw, ρ[g]? = some (.st rw Ω) := by
  unfold ghost at h
  split at h
  · rename_i e
    cases h
    exact ⟨_, e⟩
  · cases h
theorem Stt.obs {G H : Hp} {ρ : Ev} {σ : L2.St} {g : Nat} {Ω : List Ob} (S : Stt K G ρ σ H) (h : ghost ρ g = some Ω) : ObsOk K G H Ω := by
  obtain ⟨rw, e⟩ := ghost_some h
  exact S.sl g _ e
theorem wrep_ob {G H : Hp} {x : V} {i : Nat} (h : WRep K G H x (.ob i)) : ∃ a, x = .ref a ∧ G a = some (mark i) := by
  rcases h with h | ⟨p, _, _, w⟩
  · cases h with
    | ob h => exact ⟨_, rfl, h⟩
  · exact w.elim
/-- the object at a, its number being i -/
theorem ob_at {G H : Hp} {Ω : List Ob} {a : Addr} {i : Nat} {ob : Ob} (sub : Sub G H) (O : ObsOk K G H Ω) (ha : G a = some (mark i)) (e : Ω[i]? = some ob) :
    ∃ C dx fs, H a = some (.ins C dx fs) ∧ G dx = some (pmark i "") ∧ H dx = some (.own a) ∧ PySem.W.nsIn K mainGlobals ob.cls = some (some (.ref C)) ∧ FsOk K G H i fs ob.fs ∧ fs.length ≤ 20 := by
  obtain ⟨p, C, dx, fs, h1, h2, h3, h4, h5, h6, h7⟩ := O.each i ob e
  obtain rfl := sub.uni p a i h1 ha
  exact ⟨C, dx, fs, h2, h3, h4, h5, h6, h7⟩
/-- what is known of an own class: its fields -/
structure ClsOk (K : PySem.W.Frag) (cls : Str) (fields : List Str) : Prop where
  ex : ∃ C, PySem.W.nsIn K mainGlobals cls = some (some (.ref C)) ∧ Cls K C ∧ ∀ f ∈ fields, NoAttr K C f
/-- o.f, read: of an object of the class cls -/
def getFld (ρ : Ev) (g : Nat) (cls f : Str) (d : D) : Option (Bool × D) := match d with
  | .ob i => (ghost ρ g).bind fun Ω => (Ω[i]?).bind fun ob => if ob.cls = cls then fldD ob.fs f else none
  | _ => none
def eFldW (g : Nat) (cls f : Str) (fo : Ev → R D) : Ev → R D := fun ρ => (fo ρ).bind fun d => opt ((getFld ρ g cls f d).map (·.2))
def eFld (g : Nat) (cls f : Str) (fo : Ev → R D) : Ev → R D := fun ρ => (fo ρ).bind fun d => opt ((getFld ρ g cls f d).bind fun x => if x.1 then none else some x.2)
theorem getFld_some {ρ : Ev} {g : Nat} {cls f : Str} {d : D} {x : Bool × D} (h : getFld ρ g cls f d = some x) : ∃ i Ω ob, d = .ob i ∧ ghost ρ g = some Ω ∧ Ω[i]? = some ob ∧ ob.cls = cls ∧ ob.fs.lookup f = some x := by
  unfold getFld at h
  split at h
  · rename_i i
    obtain ⟨Ω, h1, h⟩ := Option.bind_eq_some_iff.mp h
    obtain ⟨ob, h2, h⟩ := Option.bind_eq_some_iff.mp h
    split at h
    · exact ⟨i, Ω, ob, rfl, h1, h2, by assumption, h⟩
    · cases h
  · cases h
section
variable {X : Cx} {W : WN} {o e : Expr} {fo fe : Ev → R D} {f cls : Str} {pos pos' : Pos} {fields : List Str}
theorem fld_run {G H : Hp} {ρ : Ev} {σ : L2.St} {g : Nat} {x : V} {d : D} {y : Bool × D} (cl : ClsOk K cls fields) (hf : f ∈ fields) (S : Stt K G ρ σ H) (w : WRep K G H x d) (h : getFld ρ g cls f d = some y) :
    ∃ a C dx fs v, x = .ref a ∧ H a = some (.ins C dx fs) ∧ Cls K C ∧ NoAttr K C f ∧ fs.lookup f = some v ∧ (y.1 = false → Rep K G v y.2) ∧ (y.1 = true → WRep K G H v y.2) := by
  obtain ⟨i, Ω, ob, rfl, h1, h2, h3, h4⟩ := getFld_some h
  obtain ⟨a, rfl, ha⟩ := wrep_ob w
  obtain ⟨C, dx, fs, k1, _, _, k4, k5, _⟩ := ob_at S.sub (S.obs h1) ha h2
  obtain ⟨C', c1, c2, c3⟩ := cl.ex
  rw [h3, c1] at k4
  cases k4
  rcases k5.look (f := f) with ⟨_, z⟩ | ⟨v, b, dd, l1, l2, r1, r2⟩
  · rw [h4] at z; cases z
  · rw [h4] at l2
    cases l2
    exact ⟨a, C, dx, fs, v, rfl, k1, c2, c3 f hf, l1, r1, fun z => by
      obtain ⟨q, ev, gq, w⟩ := r2 z
      exact .inr ⟨q, ev, .inr ⟨i, f, gq⟩, w⟩⟩
theorem de_fldW (g : Nat) (cl : ClsOk K cls fields) (hf : f ∈ fields) (h : PE X o (exOf K .w W fo)) (hK : X.K = K := by rfl) (hb : attributeBase o f X.env (eval o X.env) = eval o X.env := by rfl) : PE X (.Attribute o f pos) (exOf K .w W (eFldW g cls f fo)) := pe_imp (pe_fld h hb) fun σ H Q ⟨G, ρ, S, m⟩ => by
  subst hK
  refine ⟨G, ρ, S, ?_⟩
  unfold eFldW at m
  cases q : fo ρ with
  | ok d =>
    simp only [q, R.bind_ok] at m
    intro v G1 H1 g1 r1
    cases q2 : getFld ρ g cls f d with
    | none => simp only [q2, Option.map_none, opt_none] at m
    | some y =>
      simp only [q2, Option.map_some, opt_some] at m
      obtain ⟨a, C, dx, fs, u, ex, k1, k2, k3, k4, k5, k6⟩ := fld_run cl hf (S.grow g1) r1 q2
      refine ⟨a, C, dx, fs, u, ex, k1, k2, k3, k4, m u G1 H1 g1 ?_⟩
      cases q3 : y.1 with
      | false => exact .inl (k5 q3)
      | true => exact k6 q3
  | exc c => simp only [q, R.bind_exc] at m; exact m
  | bad => simp only [q, R.bind_bad] at m
theorem de_fld (g : Nat) (cl : ClsOk K cls fields) (hf : f ∈ fields) (h : PE X o (exOf K .w W fo)) (hK : X.K = K := by rfl) (hb : attributeBase o f X.env (eval o X.env) = eval o X.env := by rfl) : PE X (.Attribute o f pos) (exOf K .v W (eFld g cls f fo)) := pe_imp (pe_fld h hb) fun σ H Q ⟨G, ρ, S, m⟩ => by
  subst hK
  refine ⟨G, ρ, S, ?_⟩
  unfold eFld at m
  cases q : fo ρ with
  | ok d =>
    simp only [q, R.bind_ok] at m
    intro v G1 H1 g1 r1
    cases q2 : getFld ρ g cls f d with
    | none => simp only [q2, Option.bind_none, opt_none] at m
    | some y =>
      obtain ⟨a, C, dx, fs, u, ex, k1, k2, k3, k4, k5, k6⟩ := fld_run cl hf (S.grow g1) r1 q2
      cases q3 : y.1 with
      | false =>
        simp only [q2, Option.bind_some, q3, if_neg Bool.false_ne_true, opt_some] at m
        exact ⟨a, C, dx, fs, u, ex, k1, k2, k3, k4, m u G1 H1 g1 (k5 q3)⟩
      | true => simp only [q2, Option.bind_some, q3, if_true, opt_none] at m
  | exc c => simp only [q, R.bind_exc] at m; exact m
  | bad => simp only [q, R.bind_bad] at m
end
end Pd

/-! Pd29: defs that see objects: promises, bodies. -/
namespace Pd
open PySem PySem.Spec L2
variable {K : PySem.W.Frag}

/-- what an object's deed comes to: the answer, and the store behind it -/
inductive RS where
  | ok (d : D) (Ω : List Ob) | exc (c : Str) (Ω : List Ob) | bad
/-- a promise that changes objects -/
def spS (K : PySem.W.Frag) (mg : Str → Option Value) (n : Nat) (F : List Ob → List D → RS) : Sp := fun vs H Q E => ∃ G Ω ds, Sub G H ∧ MarkOk K G ∧ ObsOk K G H Ω ∧ RepL K G vs ds ∧ ds.length = n ∧ match F Ω ds with
  | .ok d Ω' => ∀ v G' H', GrowB false G H G' H' → ObsOk K G' H' Ω' → Rep K G' v d → Q v H'
  | .exc c Ω' => ∀ C G' H', mg c = some (.ref C) → GrowB false G H G' H' → ObsOk K G' H' Ω' → E (.ref C) none H'
  | .bad => False
/-- a promise that reads objects alone -/
def spP (K : PySem.W.Frag) (mg : Str → Option Value) (n : Nat) (F : List Ob → List D → R RetD) : Sp := fun vs H Q E => ∃ G Ω ds, Sub G H ∧ MarkOk K G ∧ ObsOk K G H Ω ∧ RepL K G vs ds ∧ ds.length = n ∧ match F Ω ds with
  | .ok (o, d) => ∀ v G' H', Grow G H G' H' → KRep K (kb o) G H G' H' v d → Q v H'
  | .exc c => ∀ C G' H', mg c = some (.ref C) → Grow G H G' H' → E (.ref C) none H'
  | .bad => False
/-- the slots at first, the last one the store -/
def startG (n N : Nat) (rw : Bool) (Ω : List Ob) (ds : List D) : Ev := (ds.map SV.val ++ List.replicate (N - n) SV.no).set (N - 1) (.st rw Ω)
def callP (n N : Nat) (f : Ev → O) : List Ob → List D → R RetD := fun Ω ds => if ds.length = n then match f (startG n N false Ω ds) with
  | .nx _ => .ok (false, .non)
  | .ret o d => .ok (o, d)
  | .exc c _ => .exc c
  | _ => .bad else .bad
def gOut (ρ : Ev) (g : Nat) (h : List Ob → RS) : RS := match ghost ρ g with
  | some Ω => h Ω
  | none => .bad
def callS (n N : Nat) (f : Ev → O) : List Ob → List D → RS := fun Ω ds => if ds.length = n then match f (startG n N true Ω ds) with
  | .nx ρ => gOut ρ (N - 1) fun Ω' => .ok .non Ω'
  | .retS d ρ => gOut ρ (N - 1) fun Ω' => .ok d Ω'
  | .exc c ρ => gOut ρ (N - 1) fun Ω' => .exc c Ω'
  | _ => .bad else .bad
theorem Stt.setG {G H : Hp} {ρ : Ev} {σ : L2.St} {Ω : List Ob} {b : Bool} (i : Nat) (S : Stt K G ρ σ H) (O : ObsOk K G H Ω) : Stt K G (ρ.set i (.st b Ω)) σ H := by
  refine ⟨S.sub, by rw [List.length_set]; exact S.len, fun j s e => ?_, fun j l d1 d2 p hne e1 e2 h1 h2 => ?_, S.mkd⟩
  · rcases set_get e with ⟨rfl, rfl⟩ | ⟨hne, e⟩
    · exact O
    · exact S.sl j s e
  · rcases set_get e1 with ⟨_, z⟩ | ⟨n1, z1⟩
    · cases z
    · rcases set_get e2 with ⟨_, z⟩ | ⟨n2, z2⟩
      · cases z
      · exact S.dj j l d1 d2 p hne z1 z2 h1 h2
theorem good_start {G H : Hp} {vs : List V} {ds : List D} {Ω : List Ob} (n N : Nat) (rw : Bool) (s : Sub G H) (mk : MarkOk K G) (O : ObsOk K G H Ω) (r : RepL K G vs ds) : Good K ⟨G, H, !rw⟩ G (startG n N rw Ω ds) (vs.map some ++ List.replicate (N - n) none) H := by
  refine ⟨(stt_start (N - n) s mk r).setG _ O, .of (.refl s), fun i d p h1 _ => ?_, fun i Ω' h1 => ?_⟩
  · rcases set_get h1 with ⟨_, z⟩ | ⟨_, z⟩
    · cases z
    · exact (no_own z).elim
  · rcases set_get h1 with ⟨_, z⟩ | ⟨_, z⟩
    · cases z
      rfl
    · exact (no_st z).elim
section
variable {P : Program} {w : World} {mg : Str → Option Value} {base : Heap}
theorem outP {G H : Hp} {vs : List V} {ds : List D} {Ω : List Ob} {n N : Nat} {b : Ev → O} {Q : VK} {E : XK} (l : ds.length = n) (m : match callP n N b Ω ds with
    | .ok (o, d) => ∀ v G' H', Grow G H G' H' → KRep K (kb o) G H G' H' v d → Q v H'
    | .exc c => ∀ C G' H', mg c = some (.ref C) → Grow G H G' H' → E (.ref C) none H'
    | .bad => False) : OutP K ⟨G, H, !false⟩ G (WE' mg E) { nx := fun _ H' => Q .non H', rt := Q } (b (startG n N false Ω ds)) := by
  unfold callP at m
  rw [if_pos l] at m
  cases e : b (startG n N false Ω ds) with
  | nx ρ => rw [e] at m; exact fun G' σ' H' S' _ => m .non G' H' S'.gr.pure .non
  | ret o d => rw [e] at m; exact fun v G' H' g r => m v G' H' g.pure r
  | retS d ρ => rw [e] at m; exact m.elim
  | exc c ρ => rw [e] at m; exact fun G' σ' H' S' _ C hC => m C G' H' hC S'.gr.pure
  | brk ρ => rw [e] at m; exact m.elim
  | ct ρ => rw [e] at m; exact m.elim
  | bad => rw [e] at m; exact m.elim
theorem gOut_ok {ρ : Ev} {g : Nat} {h : List Ob → RS} (nb : gOut ρ g h ≠ .bad) : ∃ Ω, ghost ρ g = some Ω ∧ gOut ρ g h = h Ω := by
  unfold gOut at nb ⊢
  cases e : ghost ρ g with
  | some Ω => exact ⟨Ω, rfl, rfl⟩
  | none => rw [e] at nb; exact absurd rfl nb
theorem outS {G H : Hp} {vs : List V} {ds : List D} {Ω : List Ob} {n N : Nat} {b : Ev → O} {Q : VK} {E : XK} (l : ds.length = n) (m : match callS n N b Ω ds with
    | .ok d Ω' => ∀ v G' H', GrowB false G H G' H' → ObsOk K G' H' Ω' → Rep K G' v d → Q v H'
    | .exc c Ω' => ∀ C G' H', mg c = some (.ref C) → GrowB false G H G' H' → ObsOk K G' H' Ω' → E (.ref C) none H'
    | .bad => False) : OutP K ⟨G, H, !true⟩ G (WE' mg E) { nx := fun _ H' => Q .non H', rt := Q } (b (startG n N true Ω ds)) := by
  unfold callS at m
  rw [if_pos l] at m
  have gh : ∀ {ρ : Ev} {h : List Ob → RS}, (match gOut ρ (N - 1) h with
    | .ok d Ω' => ∀ v G' H', GrowB false G H G' H' → ObsOk K G' H' Ω' → Rep K G' v d → Q v H'
    | .exc c Ω' => ∀ C G' H', mg c = some (.ref C) → GrowB false G H G' H' → ObsOk K G' H' Ω' → E (.ref C) none H'
    | .bad => False) → ∃ Ω', ghost ρ (N - 1) = some Ω' ∧ gOut ρ (N - 1) h = h Ω' := fun {ρ h} m => gOut_ok fun z => by rw [z] at m; exact m
  cases e : b (startG n N true Ω ds) with
  | nx ρ =>
    rw [e] at m
    dsimp only at m
    obtain ⟨Ω', h1, h2⟩ := gh m
    rw [h2] at m
    exact fun G' σ' H' S' _ => m .non G' H' S'.gr (S'.st.obs h1) .non
  | ret o d => rw [e] at m; exact m.elim
  | retS d ρ =>
    rw [e] at m
    dsimp only at m
    obtain ⟨Ω', h1, h2⟩ := gh m
    rw [h2] at m
    exact fun v G' σ' H' S' _ r => m v G' H' S'.gr (S'.st.obs h1) r
  | exc c ρ =>
    rw [e] at m
    dsimp only at m
    obtain ⟨Ω', h1, h2⟩ := gh m
    rw [h2] at m
    exact fun G' σ' H' S' _ C hC => m C G' H' hC S'.gr (S'.st.obs h1)
  | brk ρ => rw [e] at m; exact m.elim
  | ct ρ => rw [e] at m; exact m.elim
  | bad => rw [e] at m; exact m.elim
theorem start_eq {G : Hp} {vs : List V} {ds : List D} {N ps : List Str} (r : RepL K G vs ds) (l : ds.length = ps.length) : L2.start N vs = vs.map some ++ List.replicate (N.length - ps.length) none := by
  unfold L2.start
  rw [r.length, l]
theorem fn_okP {x qual : Str} {st : Stmt} {f : Addr} {fd : FuncData} {N ps : List Str} {k : Nat} {b : Ev → O} (F : Fun K x qual st f fd) (S : FnScope N ps (defScope st)) (hl : ps.length ≤ N.length)
    (hbody : ∀ (cdv : Value) (A : Around) (outer : List Env) (s : Shared) (H : Hp) (E : XK), Room k (A.deeper (PyProof.Rows.envOfC qual (defScope st) s.heap.objs.size f cdv)) →
      PassesOwn (model P w) (A.deeper (PyProof.Rows.envOfC qual (defScope st) s.heap.objs.size f cdv)) (PyProof.Rows.envOfC qual (defScope st) s.heap.objs.size f cdv) (cxOf (L2.CX P w) P w K mg base N qual (defScope st) f cdv A outer s H E).xe →
      Tk (cxOf (L2.CX P w) P w K mg base N qual (defScope st) f cdv A outer s H E) (WE' mg E) → PSs (cxOf (L2.CX P w) P w K mg base N qual (defScope st) f cdv A outer s H E) (defBody st) (tsOf K (WE' mg E) b)) :
    FnOk P w K mg base (L2.CX P w) (k + 1) f fd ps (spP K mg ps.length (callP ps.length N.length b)) := by
  refine F.okX S (fun vs H Q E h => ?_) (fun cdv A outer s H vs Q E hr h => ?_)
  · obtain ⟨G, Ω, ds, _, _, _, r, l, _⟩ := h
    rw [r.length, l]
  · obtain ⟨G, Ω, ds, sub, mk, O, r, l, m⟩ := h
    refine ⟨_, hbody cdv A outer s H E hr (PassesOwn.leaving) ⟨_, takes_of rfl rfl rfl rfl, fun c C σ H' h1 h2 => h2 C h1⟩, ?_⟩
    rw [start_eq r l]
    exact ⟨⟨G, H, !false⟩, G, _, good_start _ _ false sub mk O r, outP (vs := vs) l m⟩
theorem fn_okS {x qual : Str} {st : Stmt} {f : Addr} {fd : FuncData} {N ps : List Str} {k : Nat} {b : Ev → O} (F : Fun K x qual st f fd) (S : FnScope N ps (defScope st)) (hl : ps.length ≤ N.length)
    (hbody : ∀ (cdv : Value) (A : Around) (outer : List Env) (s : Shared) (H : Hp) (E : XK), Room k (A.deeper (PyProof.Rows.envOfC qual (defScope st) s.heap.objs.size f cdv)) →
      PassesOwn (model P w) (A.deeper (PyProof.Rows.envOfC qual (defScope st) s.heap.objs.size f cdv)) (PyProof.Rows.envOfC qual (defScope st) s.heap.objs.size f cdv) (cxOf (L2.CX P w) P w K mg base N qual (defScope st) f cdv A outer s H E).xe →
      Tk (cxOf (L2.CX P w) P w K mg base N qual (defScope st) f cdv A outer s H E) (WE' mg E) → PSs (cxOf (L2.CX P w) P w K mg base N qual (defScope st) f cdv A outer s H E) (defBody st) (tsOf K (WE' mg E) b)) :
    FnOk P w K mg base (L2.CX P w) (k + 1) f fd ps (spS K mg ps.length (callS ps.length N.length b)) := by
  refine F.okX S (fun vs H Q E h => ?_) (fun cdv A outer s H vs Q E hr h => ?_)
  · obtain ⟨G, Ω, ds, _, _, _, r, l, _⟩ := h
    rw [r.length, l]
  · obtain ⟨G, Ω, ds, sub, mk, O, r, l, m⟩ := h
    refine ⟨_, hbody cdv A outer s H E hr (PassesOwn.leaving) ⟨_, takes_of rfl rfl rfl rfl, fun c C σ H' h1 h2 => h2 C h1⟩, ?_⟩
    rw [start_eq r l]
    exact ⟨⟨G, H, !true⟩, G, _, good_start _ _ true sub mk O r, outS (vs := vs) l m⟩
/-- the same for a def that makes lambdas -/
theorem fn_okSL {x qual : Str} {st : Stmt} {f : Addr} {N ps : List Str} {k : Nat} {b : Ev → O} {oc : Value} {od an : Option Addr} {osl : Array (Option Value)} {kV doc pm cdv ct : Value} (lk : K.lookup f = some ⟨oc, od, .func (PySem.W.fnOf x qual (defArgs st) (defBody st) (defScope st) .none kV doc pm an cdv ct), osl⟩) (hcd : PySem.W.codeIn K cdv qual = true) (S : FnScope N ps (defScope st)) (hl : ps.length ≤ N.length)
    (hbody : ∀ (A : Around) (outer : List Env) (s : Shared) (H : Hp) (E : XK), Room k (A.deeper (PyProof.Rows.envOfC qual (defScope st) s.heap.objs.size f cdv)) →
      PassesOwn (model P w) (A.deeper (PyProof.Rows.envOfC qual (defScope st) s.heap.objs.size f cdv)) (PyProof.Rows.envOfC qual (defScope st) s.heap.objs.size f cdv) (cxOf (L2.CX P w) P w K mg base N qual (defScope st) f cdv A outer s H E).xe →
      Tk (cxOf (L2.CX P w) P w K mg base N qual (defScope st) f cdv A outer s H E) (WE' mg E) → PSs (cxOf (L2.CX P w) P w K mg base N qual (defScope st) f cdv A outer s H E) (defBody st) (tsOf K (WE' mg E) b)) :
    FnOk P w K mg base (L2.CX P w) (k + 1) f (PySem.W.fnOf x qual (defArgs st) (defBody st) (defScope st) .none kV doc pm an cdv ct) ps (spS K mg ps.length (callS ps.length N.length b)) := by
  refine fn_of lk hcd S (fun vs H Q E h => ?_) (fun A outer s H vs Q E hr h => ?_)
  · obtain ⟨G, Ω, ds, _, _, _, r, l, _⟩ := h
    rw [r.length, l]
  · obtain ⟨G, Ω, ds, sub, mk, O, r, l, m⟩ := h
    refine ⟨_, hbody A outer s H E hr (PassesOwn.leaving) ⟨_, takes_of rfl rfl rfl rfl, fun c C σ H' h1 h2 => h2 C h1⟩, ?_⟩
    rw [start_eq r l]
    exact ⟨⟨G, H, !true⟩, G, _, good_start _ _ true sub mk O r, outS (vs := vs) l m⟩
end
/-! ### the store in the slots -/
def setGV (Ω : List Ob) : SV → SV
  | .st b _ => .st b Ω
  | s => s
@[simp] theorem setGV_no (Ω : List Ob) : setGV Ω .no = .no := rfl
@[simp] theorem setGV_val (Ω : List Ob) (d : D) : setGV Ω (.val d) = .val d := rfl
@[simp] theorem setGV_own (Ω : List Ob) (d : D) : setGV Ω (.own d) = .own d := rfl
@[simp] theorem setGV_st (Ω Ω' : List Ob) (b : Bool) : setGV Ω (.st b Ω') = .st b Ω := rfl
def setGh (Ω : List Ob) (ρ : Ev) : Ev := ρ.map (setGV Ω)
theorem setGh_get {Ω : List Ob} {ρ : Ev} {i : Nat} {s : SV} (h : (setGh Ω ρ)[i]? = some s) : ∃ s0, ρ[i]? = some s0 ∧ s = setGV Ω s0 := by
  unfold setGh at h
  rw [List.getElem?_map] at h
  cases e : ρ[i]? with
  | none => rw [e] at h; cases h
  | some s0 => rw [e] at h; exact ⟨s0, rfl, (Option.some.inj h).symm⟩
theorem setGV_own_inv {Ω : List Ob} {s : SV} {d : D} (h : SV.own d = setGV Ω s) : s = .own d := by
  cases s with
  | own e => exact h.symm
  | no => cases h
  | val e => cases h
  | st b o => cases h
/-- growth behind growth -/
theorem GrowB.comp {G0 H0 G H G' H' : Hp} (sub : Sub G H) (g0 : GrowB false G0 H0 G H) (g : GrowB false G H G' H') : GrowB false G0 H0 G' H' :=
  ⟨fun b o e n z => by
      have e1 := g0.hh b o e n z
      refine g.hh b o e1 n (.inr fun ps q => ?_)
      intro hm
      rcases z with z | z
      · cases z
      · cases qb : G0 b with
        | some x =>
          have := g0.gg b x qb
          rw [q] at this
          cases this
          exact z ps qb hm
        | none =>
          obtain ⟨xs, ex⟩ := g0.new b qb (by rw [q]; exact fun z => nomatch z) o e n
          subst ex
          rcases sub.at_ b _ q with ⟨T, hT, _⟩ | ⟨_, o', ho', io'⟩
          · exact isMk_T hT hm
          · rw [e1] at ho'
            cases ho'
            exact io', g0.gg.trans g.gg, g.gh, fun a h1 h2 => by
      cases q : G a with
      | none => exact g0.nw h1 (g.new a q h2)
      | some o => exact g0.new a h1 (by rw [q]; exact fun z => nomatch z), (fun z => nomatch z), fun b o e n => by
      obtain ⟨o1, e1, n1⟩ := g0.al b o e n
      obtain ⟨o2, e2, n2⟩ := g.al b o1 e1 n1
      exact ⟨o2, e2, n2⟩⟩
/-- objects have changed -/
theorem Good.gro {B : Bs} {G H G' H' : Hp} {ρ : Ev} {σ : L2.St} {Ω : List Ob} (S : Good K B G ρ σ H) (g : GrowB false G H G' H') (hp : B.pu = false) (O : ObsOk K G' H' Ω) : Good K B G' (setGh Ω ρ) σ H' := by
  have s : Same G G' := g.gg
  refine ⟨⟨g.gh, by unfold setGh; rw [List.length_map]; exact S.st.len, fun i t e => ?_, fun i j d1 d2 p hne e1 e2 h1 h2 => ?_, S.st.mkd.mono s⟩, ?_, fun i d p h1 h2 => ?_, fun i Ω' h1 => hp⟩
  · obtain ⟨s0, e0, rfl⟩ := setGh_get e
    have z := S.st.sl i s0 e0
    cases s0 with
    | no => trivial
    | val d => obtain ⟨v, hv, r⟩ := z; exact ⟨v, hv, r.mono s⟩
    | own d =>
      obtain ⟨p, hv, n, w⟩ := z
      have hH : ∀ o, H p = some o → nt o → H' p = some o := fun o e nn => g.hh p o e nn (.inr fun ps q => by rw [n] at q; cases q)
      obtain ⟨u, hu, io⟩ := w.there
      refine ⟨p, hv, ?_, ?_⟩
      · cases q : G' p with
        | none => rfl
        | some x =>
          obtain ⟨xs, ex⟩ := g.new p n (by rw [q]; exact fun z => nomatch z) u hu io.nt
          subst ex
          exact io.elim
      · have w2 : OwnAt K G H' p d := w.at (by rw [hu]; exact hH u hu io.nt)
        exact w2.mono s (.refl _)
    | st b Ω0 => exact O
  · obtain ⟨a1, b1, c1⟩ := setGh_get e1
    obtain ⟨a2, b2, c2⟩ := setGh_get e2
    rw [setGV_own_inv c1] at b1
    rw [setGV_own_inv c2] at b2
    exact S.st.dj i j d1 d2 p hne b1 b2 h1 h2
  · have g0 := S.gr
    rw [hp] at g0 ⊢
    exact g0.comp S.st.sub g
  · obtain ⟨a1, b1, c1⟩ := setGh_get h1
    rw [setGV_own_inv c1] at b1
    exact S.fr i d p b1 h2
end Pd

/-! Pd30: methods, defs that see objects, making: calls. -/
namespace Pd
open PySem PySem.Spec L2
variable {K : PySem.W.Frag}

section
variable (P : Program) (w : World) (K : PySem.W.Frag) (mg : Str → Option Value) (base : Heap) (k : Nat)
/-- what is known of a method -/
structure MethK (cls m : Str) (sp : Sp) : Prop where
  ex : ∃ C f fd ps, FnOk P w K mg base (L2.CX P w) k f fd ps sp ∧ PySem.W.nsIn K mainGlobals cls = some (some (.ref C)) ∧ Cls K C ∧ Meth K C m f ∧ Binds K fd ps []
structure MethS (cls m : Str) (n : Nat) (F : List Ob → List D → RS) : Prop where
  kk : MethK P w K mg base k cls m (spS K mg n F)
  len : ∀ Ω ds, ds.length ≠ n → F Ω ds = .bad
structure MethP (cls m : Str) (n : Nat) (F : List Ob → List D → R RetD) : Prop where
  kk : MethK P w K mg base k cls m (spP K mg n F)
  len : ∀ Ω ds, ds.length ≠ n → F Ω ds = .bad
/-- what is known of a def named x -/
structure DefK (x : Str) (sp : Sp) : Prop where
  ex : ∃ f fd ps, FnOk P w K mg base (L2.CX P w) k f fd ps sp ∧ mg x = some (.ref f) ∧ PySem.W.keepIn K (.ref f) = true ∧ Binds K fd ps []
structure DefS (x : Str) (n : Nat) (F : List Ob → List D → RS) : Prop where
  kk : DefK P w K mg base k x (spS K mg n F)
  len : ∀ Ω ds, ds.length ≠ n → F Ω ds = .bad
structure DefP (x : Str) (n : Nat) (F : List Ob → List D → R RetD) : Prop where
  kk : DefK P w K mg base k x (spP K mg n F)
  len : ∀ Ω ds, ds.length ≠ n → F Ω ds = .bad
/-- what is known of a class's making -/
structure MakeOk (cls : Str) (n : Nat) (F : List Ob → List D → RS) : Prop where
  ex : ∃ C f fd ps, FnOk P w K mg base (L2.CX P w) k f fd ps (spS K mg n F) ∧ PySem.W.nsIn K mainGlobals cls = some (some (.ref C)) ∧ mg cls = some (.ref C) ∧ Mk K C f ∧ Binds K fd ps []
  len : ∀ Ω ds, ds.length ≠ n → F Ω ds = .bad
  non : ∀ Ω ds d Ω', F Ω ds = .ok d Ω' → d = .non
end
/-- o.m(..): what it raises is wished for at the slots -/
def tMx (C : Addr) (m : Str) (sp : Sp) (E : L2.St → XK) (ta : TE) (t : TA) : TE := fun σ H Q => ta σ H fun x H1 => ∃ a dx fs, x = .ref a ∧ H1 a = some (.ins C dx fs) ∧ fs.lookup m = none ∧ t σ H1 fun vs H2 => sp (x :: vs) H2 Q (E σ)
section
variable {X : Cx} {CX : CXT} {k : Nat} {f C : Addr} {fd : FuncData} {ps : List Str} {sp : Sp} {E : L2.St → XK} {x m : Str} {p pos apos : Pos} {e o : Expr} {es : List Expr} {ta : TE} {t : TA}
theorem pe_methX {pl : Sem Bool} (he : PE X o ta) (c : Cls X.K C) (hm : Meth X.K C m f) (F : FnOk X.prog X.w X.K X.mg X.base CX k f fd ps sp) (hr : Room k X.A) (hb : Binds X.K fd ps []) (hx : ∀ σ, PassesAt CX X σ (E σ)) (ha : PA X (e :: es) t)
    (hst : starEach (e :: es) X.env = (false, eval e X.env) :: starEach es X.env := by rfl) (hpl : (backTo pos (starEach es X.env)).any (·.1) = false := by rfl)
    (ht : eval (.Call (.Attribute o m apos) (e :: es) [] pos) X.env = (do
      let ov ← eval o X.env
      standAt apos.atName
      let (f, first) ← holding [ov] (getMethod ov m pl)
      callWith pos f first (backTo pos (starEach (e :: es) X.env)) (backToKw pos (keywordEach [] X.env))) := by rfl) :
    PE X (.Call (.Attribute o m apos) (e :: es) [] pos) (tMx C m sp E ta t) := by
  refine ⟨fun pins s σ H Q I h => ?_⟩
  refine PySem.W.methodCall_KW (pl := pl) (thn (he.run pins s σ H _ I h) fun u s1 w1 => ?_) ht
  obtain ⟨y, H1, I1, ry, a, dx, fs, ey, ea, l, q⟩ := w1
  subst ey
  obtain rfl : u = Value.ref a := ry
  refine getmeth_ok I1 ea c hm l ?_
  refine PySem.W.callWith_K (first := [.ref a]) (h₀ := X.base) I.ok.mod.kin hm.kp (thn (ha.run pos pins s1 σ H1 _ I1 q) fun us s2 w2 => ?_) hst hpl
  obtain ⟨vs, H2, I2, r, q2⟩ := w2
  exact ⟨I2.kIn, run_fnS (us := .ref a :: us) (vs := .ref a :: vs) F hr hb (hx σ) I2 (.cons rfl r) q2⟩
theorem pe_methX0 {pl : Sem Bool} (he : PE X o ta) (c : Cls X.K C) (hm : Meth X.K C m f) (F : FnOk X.prog X.w X.K X.mg X.base CX k f fd ps sp) (hr : Room k X.A) (hb : Binds X.K fd ps []) (hx : ∀ σ, PassesAt CX X σ (E σ))
    (ht : eval (.Call (.Attribute o m apos) [] [] pos) X.env = (do
      let ov ← eval o X.env
      standAt apos.atName
      let (f, first) ← holding [ov] (getMethod ov m pl)
      callWith pos f first (backTo pos (starEach [] X.env)) (backToKw pos (keywordEach [] X.env))) := by rfl) :
    PE X (.Call (.Attribute o m apos) [] [] pos) (tMx C m sp E ta tNil) := by
  refine ⟨fun pins s σ H Q I h => ?_⟩
  refine PySem.W.methodCall_KW (pl := pl) (thn (he.run pins s σ H _ I h) fun u s1 w1 => ?_) ht
  obtain ⟨y, H1, I1, ry, a, dx, fs, ey, ea, l, q⟩ := w1
  subst ey
  obtain rfl : u = Value.ref a := ry
  refine getmeth_ok I1 ea c hm l ?_
  exact PySem.W.callWith_K0 (first := [.ref a]) I1.kIn hm.kp (run_fnS (us := [.ref a]) (vs := [.ref a]) F hr hb (hx σ) I1 (.cons rfl .nil) q)
theorem pe_callX0 (F : FnOk X.prog X.w X.K X.mg X.base CX k f fd ps sp) (hr : Room k X.A) (hg : Gl X x) (hm : X.mg x = some (.ref f)) (hk : PySem.W.keepIn X.K (.ref f) = true) (hb : Binds X.K fd ps []) (hx : ∀ σ, PassesAt CX X σ (E σ))
    (hdb : (x == ("__debug__" : Str)) = false := by decide) : PE X (.Call (.Name x p) [] [] pos) (tCallS sp E tNil) := by
  refine ⟨fun pins s σ H Q I h => ?_⟩
  refine wpAny_Call_Name_kw (ld_glob I hg hm ?_ hdb)
  exact PySem.W.callWith_K0 I.kIn hk (run_fnS (us := []) F hr hb (hx σ) I .nil h)
/-- C(..) -/
def tMkx (C : Addr) (sp : Sp) (E : L2.St → XK) (t : TA) : TE := fun σ H Q => t σ H fun vs H1 => ∀ x dx, H1 x = none → H1 dx = none → dx ≠ x →
  sp (.ref x :: vs) (upd (upd H1 dx (.own x)) x (.ins C dx [])) (fun v H2 => v = .non ∧ Q (.ref x) H2) (E σ)
theorem pe_makeX (M : Mk X.K C f) (F : FnOk X.prog X.w X.K X.mg X.base CX k f fd ps sp) (hr : Room (k + 1) X.A) (hg : Gl X x) (hm : X.mg x = some (.ref C)) (hb : Binds X.K fd ps []) (hx : ∀ σ, PassesAt CX X σ (E σ))
    (ha : PA X (e :: es) t) (hdb : (x == ("__debug__" : Str)) = false := by decide) (he : starEach (e :: es) X.env = (false, eval e X.env) :: starEach es X.env := by rfl) (hpl : (backTo pos (starEach es X.env)).any (·.1) = false := by rfl) :
    PE X (.Call (.Name x p) (e :: es) [] pos) (tMkx C sp E t) := by
  refine ⟨fun pins s σ H Q I h => ?_⟩
  refine wpAny_Call_Name_kw (ld_glob I hg hm ?_ hdb)
  refine PySem.W.callWith_K (h₀ := X.base) I.ok.mod.kin M.kp (thn (ha.run pos pins s σ H _ I h) fun us s1 w1 => ?_) he hpl
  obtain ⟨vs, H1, I1, r, q⟩ := w1
  refine ⟨I1.kIn, ?_⟩
  have hq := q (s1.heap.objs.size + 1) s1.heap.objs.size (I1.hok.fresh (Nat.le_succ _)) (I1.hok.fresh (Nat.le_refl _)) (Nat.ne_of_lt (Nat.lt_succ_self _))
  have I2 := Inv.made (C := C) I1
  have r2 : Vals (V.ref (s1.heap.objs.size + 1) :: vs) (Value.ref (s1.heap.objs.size + 1) :: us) := .cons rfl r
  have hl : (Value.ref (s1.heap.objs.size + 1) :: us).length = ps.length := by
    have e := r2.length
    rw [F.len _ _ _ _ hq] at e
    exact e.symm
  have b := hb _ (Value.ref (s1.heap.objs.size + 1) :: us) I2.kIn (by rw [List.append_nil]; exact hl)
  rw [List.append_nil] at b
  refine wpAny_call (make_map (f := f) I1.kIn M.makes M.init (beq_iff_eq.mp M.fn) (codeAny_mono (F.run _ X.stack _ _ ⟨Value.ref (s1.heap.objs.size + 1) :: us, []⟩ (Value.ref (s1.heap.objs.size + 1) :: us) _ _ (E σ) (hr.make C us [])
    (I2.env0.make C us []) b r2 hq) fun r s' hq' => ?_))
  cases r with
  | error e => exact hx σ pins _ _ e s' I2 hq'
  | ok fl =>
    cases fl with
    | ret u =>
      obtain ⟨v, H', I3, rv, ev, q3⟩ := I2.after hq'
      subst ev
      exact ⟨rv, ⟨V.ref (s1.heap.objs.size + 1), H', I3, rfl, q3⟩⟩
    | next => exact False.elim hq'
    | brk => exact False.elim hq'
    | cont => exact False.elim hq'
end

/-! ### the reckonings -/
def ghostW (ρ : Ev) (g : Nat) : Option (List Ob) := match ρ[g]? with
  | some (.st true Ω) => some Ω
  | _ => none
theorem ghostW_some {ρ : Ev} {g : Nat} {Ω : List Ob} (h : ghostW ρ g = some Ω) : ρ[g]? = some (.st true Ω) := by
  unfold ghostW at h
  split at h
  · rename_i e
    cases h
    exact e
  · cases h
theorem ghostW_ghost {ρ : Ev} {g : Nat} {Ω : List Ob} (h : ghostW ρ g = some Ω) : ghost ρ g = some Ω := by
  unfold ghost
  rw [ghostW_some h]
/-- the store, if d is an object of the class, without a field of that name -/
def hasM (cls m : Str) (d : D) (Ω : List Ob) : Bool := match d with
  | .ob i => match Ω[i]? with
    | some ob => decide (ob.cls = cls) && (ob.fs.lookup m).isNone
    | none => false
  | _ => false
def rsX (ρ : Ev) : RS → RX D
  | .ok d Ω => .ok d (setGh Ω ρ)
  | .exc c Ω => .exc c (setGh Ω ρ)
  | .bad => .bad
def rRet (o : Bool) (r : R RetD) : R D := r.bind fun x => if o then (if x.1 then .ok x.2 else .bad) else .ok x.2
/-- a method that reads alone -/
def eMP (o : Bool) (g : Nat) (cls m : Str) (F : List Ob → List D → R RetD) (fo : Ev → R D) (fa : Ev → R (List D)) : Ev → R D := fun ρ => (fo ρ).bind fun d => match ghost ρ g with
  | some Ω => if hasM cls m d Ω then (fa ρ).bind fun ds => rRet o (F Ω (d :: ds)) else .bad
  | none => .bad
def eCP (o : Bool) (g : Nat) (F : List Ob → List D → R RetD) (fa : Ev → R (List D)) : Ev → R D := fun ρ => match ghost ρ g with
  | some Ω => (fa ρ).bind fun ds => rRet o (F Ω ds)
  | none => .bad
/-- a method that changes -/
def xM (g : Nat) (cls m : Str) (F : List Ob → List D → RS) (fo : Ev → R D) (fa : Ev → R (List D)) : Ev → RX D := fun ρ => (liftX fo ρ).bind fun d _ => match ghostW ρ g with
  | some Ω => if hasM cls m d Ω then (liftX fa ρ).bind fun ds _ => rsX ρ (F Ω (d :: ds)) else .bad
  | none => .bad
def xC (g : Nat) (F : List Ob → List D → RS) (fa : Ev → R (List D)) : Ev → RX D := fun ρ => match ghostW ρ g with
  | some Ω => (liftX fa ρ).bind fun ds _ => rsX ρ (F Ω ds)
  | none => .bad
/-- a method that reads, of a thing that is reckoned with changes -/
def xMP (g : Nat) (cls m : Str) (F : List Ob → List D → R RetD) (fo : Ev → RX D) (fa : Ev → R (List D)) : Ev → RX D := fun ρ => (fo ρ).bind fun d ρ1 => match ghost ρ1 g with
  | some Ω => if hasM cls m d Ω then (liftX fa ρ1).bind fun ds _ => liftX (fun _ => rRet false (F Ω (d :: ds))) ρ1 else .bad
  | none => .bad
def xMk (g : Nat) (cls : Str) (F : List Ob → List D → RS) (fa : Ev → R (List D)) : Ev → RX D := fun ρ => match ghostW ρ g with
  | some Ω => (liftX fa ρ).bind fun ds _ => match F (Ω ++ [⟨cls, []⟩]) (.ob Ω.length :: ds) with
    | .ok _ Ω' => .ok (.ob Ω.length) (setGh Ω' ρ)
    | .exc c Ω' => .exc c (setGh Ω' ρ)
    | .bad => .bad
  | none => .bad
/-- the object behind hasM -/
theorem hasM_at {G H : Hp} {Ω : List Ob} {cls m : Str} {d : D} {v : V} {C : Addr} (sub : Sub G H) (O : ObsOk K G H Ω) (hc : PySem.W.nsIn K mainGlobals cls = some (some (.ref C))) (h : hasM cls m d Ω = true) (r : Rep K G v d) :
    ∃ a dx fs, v = .ref a ∧ H a = some (.ins C dx fs) ∧ fs.lookup m = none := by
  unfold hasM at h
  split at h
  · rename_i i
    split at h
    · rename_i ob e
      rw [Bool.and_eq_true] at h
      obtain ⟨a, ea, ha⟩ := wrep_ob (.inl r : WRep K G H v (.ob i))
      obtain ⟨C', dx, fs, k1, _, _, k4, k5, _⟩ := ob_at sub O ha e
      rw [of_decide_eq_true h.1, hc] at k4
      cases k4
      refine ⟨a, dx, fs, ea, k1, ?_⟩
      rcases k5.look (f := m) with ⟨z, _⟩ | ⟨u, b, dd, _, l2, _⟩
      · exact z
      · rw [l2] at h
        exact absurd h.2 (by simp)
    · cases h
  · cases h
section
variable {X : Cx} {W : WN} {oe e : Expr} {es : List Expr} {fo : Ev → R D} {fa : Ev → R (List D)} {x cls mt : Str} {p pos apos : Pos} {k n : Nat} {FP : List Ob → List D → R RetD} {F : List Ob → List D → RS} {t : TA}
/-- a reading promise used -/
theorem spP_run {o : Bool} {vs : List V} {ds : List D} {σ : L2.St} {G H G0 H0 : Hp} {Ω : List Ob} {Q : VK} {Wx : WX} (im : ∀ c C σ H, X.mg c = some (.ref C) → W c σ H → Wx (.ref C) none σ H) (hn : ∀ Ω ds, ds.length ≠ n → FP Ω ds = .bad) (mk : MarkOk K G) (g0 : Grow G0 H0 G H) (O : ObsOk K G H Ω) (r : RepL K G vs ds)
    (m : match rRet o (FP Ω ds) with
      | .ok d => ∀ v G' H', Grow G0 H0 G' H' → KRep K (kb o) G0 H0 G' H' v d → Q v H'
      | .exc c => ∀ G' H', Grow G0 H0 G' H' → W c σ H'
      | .bad => False) : spP K X.mg n FP vs H Q (WE Wx σ) := by
  have hl : ds.length = n := Decidable.byContradiction fun z => by
    rw [hn Ω ds z] at m
    exact m.elim
  refine ⟨G, Ω, ds, g0.gh, mk, O, r, hl, ?_⟩
  unfold rRet at m
  cases e : FP Ω ds with
  | ok q =>
    obtain ⟨o', d⟩ := q
    rw [e] at m
    simp only [R.bind_ok] at m
    intro v G2 H2 g2 r2
    cases o with
    | true =>
      rw [if_pos rfl] at m
      cases o' with
      | false => rw [if_neg Bool.false_ne_true] at m; exact m.elim
      | true => rw [if_pos rfl] at m; exact m v G2 H2 (g0.trans g2) (KRep.shift (k := .o) g0.hh r2)
    | false =>
      rw [if_neg Bool.false_ne_true] at m
      cases o' with
      | false => exact m v G2 H2 (g0.trans g2) r2
      | true =>
        obtain ⟨p, ev, hn, gn, w⟩ := r2
        subst ev
        obtain ⟨u, hu, io⟩ := w.there
        exact m _ _ H2 (g0.trans (g2.frozen hn hu io.nt gn)) (w.rep gn hu)
  | exc c => rw [e] at m; exact fun C G' H' hC g => im c C σ H' hC (m G' H' (g0.trans g))
  | bad => rw [e] at m; exact m.elim
theorem mp_run {o : Bool} {g : Nat} {C : Addr} {σ : L2.St} {H : Hp} {Q : VK} {Wx : WX} (im : ∀ c C σ H, X.mg c = some (.ref C) → W c σ H → Wx (.ref C) none σ H) (hn : ∀ Ω ds, ds.length ≠ n → FP Ω ds = .bad)
    (hc : PySem.W.nsIn K mainGlobals cls = some (some (.ref C))) (ht : ∀ σ H Q, taOf K W fa σ H Q → t σ H Q) (h : exOf K (kb o) W (eMP o g cls mt FP fo fa) σ H Q) : tMx C mt (spP K X.mg n FP) (WE Wx) (exOf K .v W fo) t σ H Q := by
  obtain ⟨G, ρ, S, m⟩ := h
  refine ⟨G, ρ, S, ?_⟩
  unfold eMP at m
  cases e1 : fo ρ with
  | bad => simp only [e1, R.bind_bad] at m
  | exc c => simp only [e1, R.bind_exc] at m; exact m
  | ok d =>
    simp only [e1, R.bind_ok] at m
    intro v G1 H1 g1 r1
    cases e2 : ghost ρ g with
    | none => simp only [e2] at m
    | some Ω =>
      simp only [e2] at m
      cases e3 : hasM cls mt d Ω with
      | false => simp only [e3, if_neg Bool.false_ne_true] at m
      | true =>
        simp only [e3, if_true] at m
        have S1 := S.grow g1
        obtain ⟨a, dx, fs, ev, k1, k2⟩ := hasM_at S1.sub (S1.obs e2) hc e3 r1
        refine ⟨a, dx, fs, ev, k1, k2, ht _ _ _ ⟨G1, ρ, S1, ?_⟩⟩
        cases e4 : fa ρ with
        | bad => simp only [e4, R.bind_bad] at m
        | exc c => simp only [e4, R.bind_exc] at m; exact fun G' H' g => m G' H' (g1.trans g)
        | ok ds =>
          simp only [e4, R.bind_ok] at m
          intro vs G2 H2 g2 r2
          have S2 := S1.grow g2
          exact spP_run im hn S2.mkd (g1.trans g2) (S2.obs e2) (.cons (r1.mono g2.gg) r2) m
theorem de_pmeth (o : Bool) (g : Nat) (M : MethP X.prog X.w X.K X.mg X.base k cls mt n FP) (hK : X.K = K) (hr : Room k X.A) (tk : Tk X W) (ho : PE X oe (exOf K .v W fo)) (ha : PA X (e :: es) (taOf K W fa))
    (hst : starEach (e :: es) X.env = (false, eval e X.env) :: starEach es X.env := by rfl) (hpl : (backTo pos (starEach es X.env)).any (·.1) = false := by rfl) {pl : Sem Bool}
    (ht : eval (.Call (.Attribute oe mt apos) (e :: es) [] pos) X.env = (do
      let ov ← eval oe X.env
      standAt apos.atName
      let (f, first) ← holding [ov] (getMethod ov mt pl)
      callWith pos f first (backTo pos (starEach (e :: es) X.env)) (backToKw pos (keywordEach [] X.env))) := by rfl) :
    PE X (.Call (.Attribute oe mt apos) (e :: es) [] pos) (exOf K (kb o) W (eMP o g cls mt FP fo fa)) := by
  subst hK
  obtain ⟨C, f, fd, ps, F0, h1, h2, h3, h4⟩ := M.kk.ex
  obtain ⟨Wx, tk, im⟩ := tk
  exact pe_imp (pe_methX (E := WE Wx) ho h2 h3 F0 hr h4 (passAt tk) ha hst hpl ht) fun σ H Q h => mp_run im M.len h1 (fun _ _ _ h => h) h
theorem de_pmeth0 (o : Bool) (g : Nat) (M : MethP X.prog X.w X.K X.mg X.base k cls mt n FP) (hK : X.K = K) (hr : Room k X.A) (tk : Tk X W) (ho : PE X oe (exOf K .v W fo)) {pl : Sem Bool}
    (ht : eval (.Call (.Attribute oe mt apos) [] [] pos) X.env = (do
      let ov ← eval oe X.env
      standAt apos.atName
      let (f, first) ← holding [ov] (getMethod ov mt pl)
      callWith pos f first (backTo pos (starEach [] X.env)) (backToKw pos (keywordEach [] X.env))) := by rfl) :
    PE X (.Call (.Attribute oe mt apos) [] [] pos) (exOf K (kb o) W (eMP o g cls mt FP fo aNil)) := by
  subst hK
  obtain ⟨C, f, fd, ps, F0, h1, h2, h3, h4⟩ := M.kk.ex
  obtain ⟨Wx, tk, im⟩ := tk
  exact pe_imp (pe_methX0 (E := WE Wx) ho h2 h3 F0 hr h4 (passAt tk) ht) fun σ H Q h => mp_run im M.len h1 (fun σ H Q ⟨G, ρ, S, m⟩ => m [] G H (.refl S.sub) .nil) h
theorem cp_run {o : Bool} {g : Nat} {σ : L2.St} {H : Hp} {Q : VK} {Wx : WX} (im : ∀ c C σ H, X.mg c = some (.ref C) → W c σ H → Wx (.ref C) none σ H) (hn : ∀ Ω ds, ds.length ≠ n → FP Ω ds = .bad)
    (ht : ∀ σ H Q, taOf K W fa σ H Q → t σ H Q) (h : exOf K (kb o) W (eCP o g FP fa) σ H Q) : tCallS (spP K X.mg n FP) (WE Wx) t σ H Q := by
  obtain ⟨G, ρ, S, m⟩ := h
  unfold eCP at m
  cases e2 : ghost ρ g with
  | none => simp only [e2] at m
  | some Ω =>
    simp only [e2] at m
    refine ht _ _ _ ⟨G, ρ, S, ?_⟩
    cases e4 : fa ρ with
    | bad => simp only [e4, R.bind_bad] at m
    | exc c => simp only [e4, R.bind_exc] at m; exact m
    | ok ds =>
      simp only [e4, R.bind_ok] at m
      intro vs G2 H2 g2 r2
      have S2 := S.grow g2
      exact spP_run im hn S2.mkd g2 (S2.obs e2) r2 m
theorem de_pcall (o : Bool) (g : Nat) (D0 : DefP X.prog X.w X.K X.mg X.base k x n FP) (hK : X.K = K) (hr : Room k X.A) (tk : Tk X W) (ha : PA X (e :: es) (taOf K W fa))
    (hg : Gl X x := by rfl) (hdb : (x == ("__debug__" : Str)) = false := by decide) (he : starEach (e :: es) X.env = (false, eval e X.env) :: starEach es X.env := by rfl) (hpl : (backTo pos (starEach es X.env)).any (·.1) = false := by rfl) :
    PE X (.Call (.Name x p) (e :: es) [] pos) (exOf K (kb o) W (eCP o g FP fa)) := by
  subst hK
  obtain ⟨f, fd, ps, F0, h1, h2, h3⟩ := D0.kk.ex
  obtain ⟨Wx, tk, im⟩ := tk
  exact pe_imp (pe_callS (E := WE Wx) F0 hr hg h1 h2 h3 (passAt tk) ha hdb he hpl) fun σ H Q h => cp_run im D0.len (fun _ _ _ h => h) h
/-- a changing promise used -/
theorem spS_run {vs : List V} {ds : List D} {σ : L2.St} {B : Bs} {G H : Hp} {ρ : Ev} {g : Nat} {Ω : List Ob} {Q : VK} {Wx : WX} (im : ∀ c C σ H, X.mg c = some (.ref C) → W c σ H → Wx (.ref C) none σ H) (hn : ∀ Ω ds, ds.length ≠ n → F Ω ds = .bad) (S : Good K B G ρ σ H) (hg : ghostW ρ g = some Ω) (r : RepL K G vs ds)
    (m : match rsX ρ (F Ω ds) with
      | .ok d ρ' => ∀ v G' H', Good K B G' ρ' σ H' → Same G G' → Rep K G' v d → Q v H'
      | .exc c ρ' => ∀ G' H', Good K B G' ρ' σ H' → Same G G' → W c σ H'
      | .bad => False) : spS K X.mg n F vs H Q (WE Wx σ) := by
  have hl : ds.length = n := Decidable.byContradiction fun z => by
    rw [hn Ω ds z] at m
    exact m.elim
  have hp : B.pu = false := S.ns g Ω (ghostW_some hg)
  refine ⟨G, Ω, ds, S.st.sub, S.st.mkd, S.st.obs (ghostW_ghost hg), r, hl, ?_⟩
  cases e : F Ω ds with
  | ok d Ω' => rw [e] at m; exact fun v G' H' gr O r => m v G' H' (S.gro gr hp O) gr.gg r
  | exc c Ω' => rw [e] at m; exact fun C G' H' hC gr O => im c C σ H' hC (m G' H' (S.gro gr hp O) gr.gg)
  | bad => rw [e] at m; exact m.elim
/-- a part without changes ahead -/
theorem xs_lift {fo : Ev → R D} {B : Bs} {G H : Hp} {ρ : Ev} {σ : L2.St} {Q Q' : VK} {h : D → Ev → RX D} (S : Good K B G ρ σ H) (m : match (liftX fo ρ).bind h with
      | .ok d ρ' => ∀ v G' H', Good K B G' ρ' σ H' → Same G G' → Rep K G' v d → Q v H'
      | .exc c ρ' => ∀ G' H', Good K B G' ρ' σ H' → Same G G' → W c σ H'
      | .bad => False) (hq : ∀ d v G1 H1, Good K B G1 ρ σ H1 → Rep K G1 v d → (match h d ρ with
      | .ok d ρ' => ∀ v G' H', Good K B G' ρ' σ H' → Same G1 G' → Rep K G' v d → Q v H'
      | .exc c ρ' => ∀ G' H', Good K B G' ρ' σ H' → Same G1 G' → W c σ H'
      | .bad => False) → Q' v H1) : exOf K .v W fo σ H Q' := by
  refine ⟨G, ρ, S.st, ?_⟩
  unfold liftX at m
  cases e : fo ρ with
  | ok d =>
    simp only [e, RX.bind_ok] at m
    intro v G1 H1 g1 r1
    refine hq d v G1 H1 (S.grow g1) r1 ?_
    cases e2 : h d ρ with
    | ok d2 ρ2 => rw [e2] at m; exact fun v G' H' S' s' r => m v G' H' S' (g1.gg.trans s') r
    | exc c ρ2 => rw [e2] at m; exact fun G' H' S' s' => m G' H' S' (g1.gg.trans s')
    | bad => rw [e2] at m; exact m
  | exc c => simp only [e, RX.bind_exc] at m; exact fun G' H' g => m G' H' (S.grow g) g.gg
  | bad => simp only [e, RX.bind_bad] at m
theorem xa_lift {fa : Ev → R (List D)} {B : Bs} {G H : Hp} {ρ : Ev} {σ : L2.St} {Q : VK} {Q' : List V → Hp → Prop} {h : List D → Ev → RX D} (S : Good K B G ρ σ H) (m : match (liftX fa ρ).bind h with
      | .ok d ρ' => ∀ v G' H', Good K B G' ρ' σ H' → Same G G' → Rep K G' v d → Q v H'
      | .exc c ρ' => ∀ G' H', Good K B G' ρ' σ H' → Same G G' → W c σ H'
      | .bad => False) (hq : ∀ ds vs G1 H1, Good K B G1 ρ σ H1 → Same G G1 → RepL K G1 vs ds → (match h ds ρ with
      | .ok d ρ' => ∀ v G' H', Good K B G' ρ' σ H' → Same G1 G' → Rep K G' v d → Q v H'
      | .exc c ρ' => ∀ G' H', Good K B G' ρ' σ H' → Same G1 G' → W c σ H'
      | .bad => False) → Q' vs H1) : taOf K W fa σ H Q' := by
  refine ⟨G, ρ, S.st, ?_⟩
  unfold liftX at m
  cases e : fa ρ with
  | ok d =>
    simp only [e, RX.bind_ok] at m
    intro v G1 H1 g1 r1
    refine hq d v G1 H1 (S.grow g1) g1.gg r1 ?_
    cases e2 : h d ρ with
    | ok d2 ρ2 => rw [e2] at m; exact fun v G' H' S' s' r => m v G' H' S' (g1.gg.trans s') r
    | exc c ρ2 => rw [e2] at m; exact fun G' H' S' s' => m G' H' S' (g1.gg.trans s')
    | bad => rw [e2] at m; exact m
  | exc c => simp only [e, RX.bind_exc] at m; exact fun G' H' g => m G' H' (S.grow g) g.gg
  | bad => simp only [e, RX.bind_bad] at m
theorem xm_run {g : Nat} {C : Addr} {σ : L2.St} {H : Hp} {Q : VK} {Wx : WX} (im : ∀ c C σ H, X.mg c = some (.ref C) → W c σ H → Wx (.ref C) none σ H) (hn : ∀ Ω ds, ds.length ≠ n → F Ω ds = .bad)
    (hc : PySem.W.nsIn K mainGlobals cls = some (some (.ref C))) (ht : ∀ σ H Q, taOf K W fa σ H Q → t σ H Q) (h : xsOf K W (xM g cls mt F fo fa) σ H Q) : tMx C mt (spS K X.mg n F) (WE Wx) (exOf K .v W fo) t σ H Q := by
  obtain ⟨B, G, ρ, S, m⟩ := h
  unfold xM at m
  refine xs_lift S m fun d v G1 H1 S1 r1 m => ?_
  cases e2 : ghostW ρ g with
  | none => simp only [e2] at m
  | some Ω =>
    simp only [e2] at m
    cases e3 : hasM cls mt d Ω with
    | false => simp only [e3, if_neg Bool.false_ne_true] at m
    | true =>
      simp only [e3, if_true] at m
      obtain ⟨a, dx, fs, ev, k1, k2⟩ := hasM_at S1.st.sub (S1.st.obs (ghostW_ghost e2)) hc e3 r1
      exact ⟨a, dx, fs, ev, k1, k2, ht _ _ _ (xa_lift S1 m fun ds vs G2 H2 S2 s2 r2 m => spS_run im hn S2 e2 (.cons (r1.mono s2) r2) m)⟩
theorem px_meth (g : Nat) (M : MethS X.prog X.w X.K X.mg X.base k cls mt n F) (hK : X.K = K) (hr : Room k X.A) (tk : Tk X W) (ho : PE X oe (exOf K .v W fo)) (ha : PA X (e :: es) (taOf K W fa))
    (hst : starEach (e :: es) X.env = (false, eval e X.env) :: starEach es X.env := by rfl) (hpl : (backTo pos (starEach es X.env)).any (·.1) = false := by rfl) {pl : Sem Bool}
    (ht : eval (.Call (.Attribute oe mt apos) (e :: es) [] pos) X.env = (do
      let ov ← eval oe X.env
      standAt apos.atName
      let (f, first) ← holding [ov] (getMethod ov mt pl)
      callWith pos f first (backTo pos (starEach (e :: es) X.env)) (backToKw pos (keywordEach [] X.env))) := by rfl) :
    PE X (.Call (.Attribute oe mt apos) (e :: es) [] pos) (xsOf K W (xM g cls mt F fo fa)) := by
  subst hK
  obtain ⟨C, f, fd, ps, F0, h1, h2, h3, h4⟩ := M.kk.ex
  obtain ⟨Wx, tk, im⟩ := tk
  exact pe_imp (pe_methX (E := WE Wx) ho h2 h3 F0 hr h4 (passAt tk) ha hst hpl ht) fun σ H Q h => xm_run im M.len h1 (fun _ _ _ h => h) h
theorem px_meth0 (g : Nat) (M : MethS X.prog X.w X.K X.mg X.base k cls mt n F) (hK : X.K = K) (hr : Room k X.A) (tk : Tk X W) (ho : PE X oe (exOf K .v W fo)) {pl : Sem Bool}
    (ht : eval (.Call (.Attribute oe mt apos) [] [] pos) X.env = (do
      let ov ← eval oe X.env
      standAt apos.atName
      let (f, first) ← holding [ov] (getMethod ov mt pl)
      callWith pos f first (backTo pos (starEach [] X.env)) (backToKw pos (keywordEach [] X.env))) := by rfl) :
    PE X (.Call (.Attribute oe mt apos) [] [] pos) (xsOf K W (xM g cls mt F fo aNil)) := by
  subst hK
  obtain ⟨C, f, fd, ps, F0, h1, h2, h3, h4⟩ := M.kk.ex
  obtain ⟨Wx, tk, im⟩ := tk
  exact pe_imp (pe_methX0 (E := WE Wx) ho h2 h3 F0 hr h4 (passAt tk) ht) fun σ H Q h => xm_run im M.len h1 (fun σ H Q ⟨G, ρ, S, m⟩ => m [] G H (.refl S.sub) .nil) h
theorem px_call (g : Nat) (D0 : DefS X.prog X.w X.K X.mg X.base k x n F) (hK : X.K = K) (hr : Room k X.A) (tk : Tk X W) (ha : PA X (e :: es) (taOf K W fa))
    (hg : Gl X x := by rfl) (hdb : (x == ("__debug__" : Str)) = false := by decide) (he : starEach (e :: es) X.env = (false, eval e X.env) :: starEach es X.env := by rfl) (hpl : (backTo pos (starEach es X.env)).any (·.1) = false := by rfl) :
    PE X (.Call (.Name x p) (e :: es) [] pos) (xsOf K W (xC g F fa)) := by
  subst hK
  obtain ⟨f, fd, ps, F0, h1, h2, h3⟩ := D0.kk.ex
  obtain ⟨Wx, tk, im⟩ := tk
  refine pe_imp (pe_callS (E := WE Wx) F0 hr hg h1 h2 h3 (passAt tk) ha hdb he hpl) fun σ H Q ⟨B, G, ρ, S, m⟩ => ?_
  unfold xC at m
  cases e2 : ghostW ρ g with
  | none => simp only [e2] at m
  | some Ω =>
    simp only [e2] at m
    exact xa_lift S m fun ds vs G2 H2 S2 s2 r2 m => spS_run im D0.len S2 e2 r2 m
end
end Pd

/-! Pd31: objects made and changed. -/
namespace Pd
open PySem PySem.Spec L2
variable {K : PySem.W.Frag}

theorem mark_inj {i j : Nat} (h : mark i = mark j) : i = j := by
  simp [mark] at h
  exact_mod_cast h
theorem pmark_inj {i j : Nat} {f g : Str} (h : pmark i f = pmark j g) : i = j ∧ f = g := by
  simp [pmark] at h
  exact ⟨by exact_mod_cast h.1, h.2⟩
theorem pmark_mark {i j : Nat} {f : Str} : pmark i f ≠ mark j := fun h => by simp [pmark, mark] at h
/-! ### an object's fields have changed -/
theorem FsOk.upda {G H : Hp} {a : Addr} {k : Nat} {o : HO} {j : Nat} (ha : G a = some (mark k)) : ∀ {fs : List (Str × V)} {ds : List (Str × Bool × D)}, FsOk K G H j fs ds → FsOk K G (upd H a o) j fs ds
  | _, _, .nil => .nil
  | _, _, .val nf r t => .val nf r (FsOk.upda ha t)
  | _, _, .own (q := q) nf e w t => .own nf e (w.at (upd_ne fun z => by
    rw [z, ha] at e
    exact pmark_mark (Option.some.inj e).symm)) (FsOk.upda ha t)
theorem FsOk.updq {G H : Hp} {q : Addr} {i : Nat} {f : Str} {o : HO} {j : Nat} (hq : G q = some (pmark i f)) : ∀ {fs : List (Str × V)} {ds : List (Str × Bool × D)}, FsOk K G H j fs ds → (j ≠ i ∨ ds.lookup f = none) → FsOk K G (upd H q o) j fs ds
  | _, _, .nil, _ => .nil
  | _, _, .val (f := g) nf r t, h => .val nf r (FsOk.updq hq t (h.imp id fun z => by
    simp only [List.lookup] at z
    by_cases e : (f == g) = true
    · rw [e] at z; cases z
    · rw [Bool.not_eq_true] at e
      rw [e] at z
      exact z))
  | _, _, .own (f := g) (q := q2) nf e w t, h => by
    have hn : j ≠ i ∨ (f ≠ g) := h.imp id fun z => by
      rintro rfl
      simp [List.lookup] at z
    refine .own nf e (w.at (upd_ne fun z => ?_)) (FsOk.updq hq t (h.imp id fun z => ?_))
    · rw [z, hq] at e
      obtain ⟨h1, h2⟩ := pmark_inj (Option.some.inj e)
      exact hn.elim (fun n => n h1.symm) fun n => n h2
    · simp only [List.lookup] at z
      by_cases e : (f == g) = true
      · rw [e] at z; cases z
      · rw [Bool.not_eq_true] at e
        rw [e] at z
        exact z
theorem FsOk.mutf {G H : Hp} {q : Addr} {i : Nat} {f : Str} {o : HO} {d0 d' : D} (hq : G q = some (pmark i f)) (w' : OwnAt K G (upd H q o) q d') : ∀ {fs : List (Str × V)} {ds : List (Str × Bool × D)}, FsOk K G H i fs ds → fs.lookup f = some (.ref q) → ds.lookup f = some (true, d0) →
    FsOk K G (upd H q o) i fs (putFD f true d' ds)
  | _, _, .nil, h, _ => by cases h
  | _, _, .val (f := g) nf r t, h1, h2 => by
    unfold putFD
    by_cases e : f = g
    · subst e
      simp [List.lookup] at h2
    · rw [if_neg (Ne.symm e)]
      have eb : (f == g) = false := beq_eq_false_iff_ne.mpr e
      simp only [List.lookup, eb] at h1 h2
      exact .val (lookup_putFD (Ne.symm e) nf) r (FsOk.mutf hq w' t h1 h2)
  | _, _, .own (f := g) (q := q2) nf e1 w t, h1, h2 => by
    unfold putFD
    by_cases e : f = g
    · subst e
      rw [if_pos rfl]
      simp [List.lookup] at h1
      subst h1
      exact .own nf hq w' (t.updq hq (.inr nf))
    · rw [if_neg (Ne.symm e)]
      have eb : (f == g) = false := beq_eq_false_iff_ne.mpr e
      simp only [List.lookup, eb] at h1 h2
      refine .own (lookup_putFD (Ne.symm e) nf) e1 (w.at (upd_ne fun z => ?_)) (FsOk.mutf hq w' t h1 h2)
      rw [z, hq] at e1
      exact e (pmark_inj (Option.some.inj e1)).2
/-- what stands at a mark has changed -/
theorem GrowB.mk1 {G H : Hp} {a : Addr} {ps : Array Value} {o o' : HO} (sub : Sub G H) (ha : G a = some (.tbl ps)) (hm : isMk ps) (e : H a = some o) (io : isObO o) (io' : isObO o') : GrowB false G H G (upd H a o') :=
  ⟨fun b x q n z => by
    by_cases hb : b = a
    · subst hb
      rcases z with z | z
      · cases z
      · exact absurd hm (z ps ha)
    · rw [upd_ne hb]; exact q, .refl _, sub_mutO sub (fun x q => by rw [ha] at q; cases q; exact ⟨⟨ps, rfl, hm⟩, io'⟩) e io, fun b h1 h2 => absurd h1 h2, (fun z => nomatch z), fun b x q n => by
    by_cases hb : b = a
    · subst hb
      exact ⟨o', upd_same, io'.nt⟩
    · rw [upd_ne hb]; exact ⟨x, q, n⟩⟩
def putOb (Ω : List Ob) (i : Nat) (f : Str) (b : Bool) (d : D) : List Ob := match Ω[i]? with
  | some ob => Ω.set i ⟨ob.cls, putFD f b d ob.fs⟩
  | none => Ω
theorem putOb_some {Ω : List Ob} {i : Nat} {f : Str} {b : Bool} {d : D} {ob : Ob} (e : Ω[i]? = some ob) : putOb Ω i f b d = Ω.set i ⟨ob.cls, putFD f b d ob.fs⟩ := by
  unfold putOb
  rw [e]
theorem oset_get {l : List Ob} {i j : Nat} {a s : Ob} (h : (l.set i a)[j]? = some s) : (i = j ∧ s = a) ∨ (i ≠ j ∧ l[j]? = some s) := by
  by_cases e : i = j
  · subst e
    rw [List.getElem?_set] at h
    simp only [if_true] at h
    split at h
    · exact .inl ⟨rfl, (Option.some.inj h).symm⟩
    · cases h
  · rw [List.getElem?_set_ne e] at h
    exact .inr ⟨e, h⟩
/-- the object at a has other fields -/
theorem ObsOk.fld {G H : Hp} {Ω : List Ob} {a : Addr} {i : Nat} {ob : Ob} {C dx : Addr} {fs fs' : List (Str × V)} {ds' : List (Str × Bool × D)} (sub : Sub G H) (O : ObsOk K G H Ω) (ha : G a = some (mark i)) (e : Ω[i]? = some ob) (eH : H a = some (.ins C dx fs)) (F' : FsOk K G H i fs' ds') (hl : fs'.length ≤ 20) :
    ObsOk K G (upd H a (.ins C dx fs')) (Ω.set i ⟨ob.cls, ds'⟩) := by
  obtain ⟨C0, dx0, fs0, k1, k2, k3, k4, k5, k6⟩ := ob_at sub O ha e
  rw [eH] at k1
  cases k1
  refine ⟨fun j ob' e' => ?_, fun j p h => by rw [List.length_set]; exact O.few j p h⟩
  rcases oset_get e' with ⟨rfl, rfl⟩ | ⟨ne, e'⟩
  · refine ⟨a, C, dx, fs', ha, upd_same, k2, ?_, k4, F'.upda ha, hl⟩
    rw [upd_ne fun z => by rw [z, ha] at k2; exact pmark_mark (Option.some.inj k2).symm]
    exact k3
  · obtain ⟨p, C1, dx1, fs1, h1, h2, h3, h4, h5, h6, h7⟩ := O.each j ob' e'
    refine ⟨p, C1, dx1, fs1, h1, ?_, h3, ?_, h5, h6.upda ha, h7⟩
    · rw [upd_ne fun z => by rw [z, ha] at h1; exact ne (mark_inj (Option.some.inj h1))]
      exact h2
    · rw [upd_ne fun z => by rw [z, ha] at h3; exact pmark_mark (Option.some.inj h3).symm]
      exact h4
theorem Good.fld {B : Bs} {G H : Hp} {ρ : Ev} {σ : L2.St} {Ω : List Ob} {a : Addr} {i : Nat} {ob : Ob} {C dx : Addr} {fs fs' : List (Str × V)} {ds' : List (Str × Bool × D)} (S : Good K B G ρ σ H) (hp : B.pu = false) (O : ObsOk K G H Ω) (ha : G a = some (mark i)) (e : Ω[i]? = some ob) (eH : H a = some (.ins C dx fs)) (F' : FsOk K G H i fs' ds') (hl : fs'.length ≤ 20) :
    Good K B G (setGh (Ω.set i ⟨ob.cls, ds'⟩) ρ) σ (upd H a (.ins C dx fs')) :=
  S.gro (GrowB.mk1 S.st.sub ha (isMk_mark i) eH trivial trivial) hp (O.fld S.st.sub ha e eH F' hl)
/-- a part of an object has changed -/
theorem ObsOk.mutf {G H : Hp} {Ω : List Ob} {a q : Addr} {i : Nat} {ob : Ob} {C dx : Addr} {fs : List (Str × V)} {f : Str} {o' : HO} {d0 d' : D} (sub : Sub G H) (O : ObsOk K G H Ω) (ha : G a = some (mark i)) (e : Ω[i]? = some ob) (eH : H a = some (.ins C dx fs)) (hq : G q = some (pmark i f)) (h1 : fs.lookup f = some (.ref q)) (h2 : ob.fs.lookup f = some (true, d0)) (w' : OwnAt K G (upd H q o') q d') {o : HO} (eo : H q = some o) (io : isOwn o) :
    ObsOk K G (upd H q o') (Ω.set i ⟨ob.cls, putFD f true d' ob.fs⟩) := by
  obtain ⟨C0, dx0, fs0, k1, k2, k3, k4, k5, k6⟩ := ob_at sub O ha e
  rw [eH] at k1
  cases k1
  have nown : ∀ {b x}, H b = some (.own x) → b ≠ q := fun h z => by
    rw [z, eo] at h
    cases h
    exact io
  have nins : ∀ {b} {x y z}, H b = some (.ins x y z) → b ≠ q := fun h z => by
    rw [z, eo] at h
    cases h
    exact io
  refine ⟨fun j ob' e' => ?_, fun j p h => by rw [List.length_set]; exact O.few j p h⟩
  rcases oset_get e' with ⟨rfl, rfl⟩ | ⟨ne, e'⟩
  · exact ⟨a, C, dx, fs, ha, by rw [upd_ne (nins eH)]; exact eH, k2, by rw [upd_ne (nown k3)]; exact k3, k4, k5.mutf hq w' h1 h2, k6⟩
  · obtain ⟨p, C1, dx1, fs1, g1, g2, g3, g4, g5, g6, g7⟩ := O.each j ob' e'
    exact ⟨p, C1, dx1, fs1, g1, by rw [upd_ne (nins g2)]; exact g2, g3, by rw [upd_ne (nown g4)]; exact g4, g5, g6.updq hq (.inl (Ne.symm ne)), g7⟩
theorem Good.mutf {B : Bs} {G H : Hp} {ρ : Ev} {σ : L2.St} {Ω : List Ob} {a q : Addr} {i : Nat} {ob : Ob} {C dx : Addr} {fs : List (Str × V)} {f : Str} {o' : HO} {d0 d' : D} (S : Good K B G ρ σ H) (hp : B.pu = false) (O : ObsOk K G H Ω) (ha : G a = some (mark i)) (e : Ω[i]? = some ob) (eH : H a = some (.ins C dx fs)) (hq : G q = some (pmark i f)) (h1 : fs.lookup f = some (.ref q)) (h2 : ob.fs.lookup f = some (true, d0)) (w' : OwnAt K G (upd H q o') q d') {o : HO} (eo : H q = some o) (io : isOwn o) (io' : isOwn o') :
    Good K B G (setGh (Ω.set i ⟨ob.cls, putFD f true d' ob.fs⟩) ρ) σ (upd H q o') :=
  S.gro (GrowB.mk1 S.st.sub hq (isMk_pmark i f) eo io.obO io'.obO) hp (O.mutf S.st.sub ha e eH hq h1 h2 w' eo io)
/-- a thing of nobody's becomes an object's part -/
theorem Good.prom {B : Bs} {G H : Hp} {ρ : Ev} {σ : L2.St} {p : Addr} {o : HO} {i : Nat} {f : Str} (S : Good K B G ρ σ H) (hn : Fr B.H p) (gp : G p = none) (ho : H p = some o) (io : isOwn o) (hs : ∀ (j : Nat) (d : D), ρ[j]? = some (SV.own d) → σ[j]? ≠ some (some (V.ref p))) : Same G (upd G p (pmark i f)) ∧ Good K B (upd G p (pmark i f)) ρ σ H := by
  have s : Same G (upd G p (pmark i f)) := same_new gp
  have hmk : ∀ j q, upd G p (pmark i f) q = some (mark j) → G q = some (mark j) := fun j q h => by
    by_cases e : q = p
    · subst e
      rw [upd_same] at h
      exact absurd (Option.some.inj h) pmark_mark
    · rwa [upd_ne e] at h
  have sub : Sub (upd G p (pmark i f)) H := S.st.sub.upd (.inr ⟨isMk_pmark i f, o, ho, io.obO⟩) (fun ps e => by
    unfold pmark at e
    injection e with e
    subst e
    exact isMk_pmark i f) fun j e => absurd e pmark_mark
  refine ⟨s, ⟨⟨sub, S.st.len, fun j x e => ?_, S.st.dj, S.st.mkd.mono s⟩, ⟨S.gr.hh, S.gr.gg.trans s, sub, fun b h1 h2 => ?_, fun hp j q h => S.gr.mks hp j q (hmk j q h), S.gr.al⟩, S.fr, S.ns⟩⟩
  · have z := S.st.sl j x e
    cases x with
    | no => trivial
    | val d => obtain ⟨v, hv, r⟩ := z; exact ⟨v, hv, r.mono s⟩
    | own d =>
      obtain ⟨p', hv, n, w⟩ := z
      refine ⟨p', hv, ?_, w.mono s (.refl _)⟩
      rw [upd_ne fun q => hs j d e (by rw [hv, q])]
      exact n
    | st b Ω => exact ObsOk.mono s (fun b o _ eb _ => eb) hmk z
  · by_cases e : b = p
    · rw [e]; exact hn.nw
    · rw [upd_ne e] at h2
      exact S.gr.new b h1 h2
/-- a new object -/
theorem made {G H : Hp} {Ω : List Ob} {x dx C : Addr} {cls : Str} (sub : Sub G H) (mk : MarkOk K G) (O : ObsOk K G H Ω) (hc : PySem.W.nsIn K mainGlobals cls = some (some (.ref C))) (hx : H x = none) (hd : H dx = none) (ne : dx ≠ x) :
    ∃ G', GrowB false G H G' (upd (upd H dx (.own x)) x (.ins C dx [])) ∧ ObsOk K G' (upd (upd H dx (.own x)) x (.ins C dx [])) (Ω ++ [⟨cls, []⟩]) ∧ G' x = some (mark Ω.length) := by
  have gx := sub.free hx
  have gd := sub.free hd
  have s1 : Same H (upd H dx (.own x)) := same_new hd
  have s2 : Same (upd H dx (.own x)) (upd (upd H dx (.own x)) x (.ins C dx [])) := same_new (by rw [upd_ne (Ne.symm ne)]; exact hx)
  have sH := s1.trans s2
  have t1 : Same G (upd G dx (pmark Ω.length "")) := same_new gd
  have t2 : Same (upd G dx (pmark Ω.length "")) (upd (upd G dx (pmark Ω.length "")) x (mark Ω.length)) := same_new (by rw [upd_ne (Ne.symm ne)]; exact gx)
  have sG := t1.trans t2
  have hD : upd (upd H dx (.own x)) x (.ins C dx []) dx = some (.own x) := by rw [upd_ne ne, upd_same]
  have subA : Sub (upd G dx (pmark Ω.length "")) (upd (upd H dx (.own x)) x (.ins C dx [])) := (sub.same sH).upd (.inr ⟨isMk_pmark _ _, _, hD, trivial⟩) (fun ps e => by
    unfold pmark at e
    injection e with e
    subst e
    exact isMk_pmark _ _) fun j e => absurd e pmark_mark
  have old : ∀ j p, upd G dx (pmark Ω.length "") p = some (mark j) → G p = some (mark j) := fun j p h => by
    by_cases e : p = dx
    · subst e
      rw [upd_same] at h
      exact absurd (Option.some.inj h) pmark_mark
    · rwa [upd_ne e] at h
  have subB : Sub (upd (upd G dx (pmark Ω.length "")) x (mark Ω.length)) (upd (upd H dx (.own x)) x (.ins C dx [])) := subA.upd (.inr ⟨isMk_mark _, _, upd_same, trivial⟩) (fun ps e => by
    unfold mark at e
    injection e with e
    subst e
    exact isMk_mark _) fun j e c hcm => by
    have := mark_inj e
    subst this
    exact absurd (O.few _ _ (old _ _ hcm)) (Nat.lt_irrefl _)
  refine ⟨_, ⟨fun b o e n _ => sH b o e, sG, subB, fun a h1 h2 => ?_, (fun z => nomatch z), fun b o e n => ⟨o, sH b o e, n⟩⟩, ⟨fun j ob e => ?_, fun j p h => ?_⟩, upd_same⟩
  · by_cases ea : a = x
    · rw [ea]; exact (Fr.of hx).nw
    · rw [upd_ne ea] at h2
      by_cases ed : a = dx
      · rw [ed]; exact (Fr.of hd).nw
      · rw [upd_ne ed] at h2
        exact absurd h1 h2
  · by_cases hj : j < Ω.length
    · rw [List.getElem?_append_left hj] at e
      exact (O.each j ob e).mono sG fun b o _ eb _ => sH b o eb
    · rw [List.getElem?_append_right (by omega)] at e
      have ej : j = Ω.length := by
        by_cases h0 : j - Ω.length = 0
        · omega
        · rw [List.getElem?_cons] at e
          rw [if_neg h0] at e
          simp at e
      subst ej
      simp at e
      subst e
      exact ⟨x, C, dx, [], upd_same, upd_same, by rw [upd_ne ne, upd_same], hD, hc, .nil, by simp⟩
  · rw [List.length_append]
    by_cases ep : p = x
    · subst ep
      rw [upd_same] at h
      have := mark_inj (Option.some.inj h)
      subst this
      simp
    · rw [upd_ne ep] at h
      have := O.few j p (old j p h)
      simp
      omega
section
variable {X : Cx} {W : WN} {oe e : Expr} {es : List Expr} {fo fe : Ev → R D} {fa : Ev → R (List D)} {x cls f : Str} {p pos pos' apos cpos : Pos} {k n : Nat} {F : List Ob → List D → RS} {fields : List Str}
theorem px_make (g : Nat) (M : MakeOk X.prog X.w X.K X.mg X.base k cls n F) (hK : X.K = K) (hr : Room (k + 1) X.A) (tk : Tk X W) (ha : PA X (e :: es) (taOf K W fa))
    (hg : Gl X cls := by rfl) (hdb : (cls == ("__debug__" : Str)) = false := by decide) (he : starEach (e :: es) X.env = (false, eval e X.env) :: starEach es X.env := by rfl) (hpl : (backTo pos (starEach es X.env)).any (·.1) = false := by rfl) :
    PE X (.Call (.Name cls p) (e :: es) [] pos) (xsOf K W (xMk g cls F fa)) := by
  subst hK
  obtain ⟨C, fn, fd, ps, F0, h1, h2, h3, h4⟩ := M.ex
  obtain ⟨Wx, tk, im⟩ := tk
  refine pe_imp (pe_makeX (E := WE Wx) h3 F0 hr hg h2 h4 (passAt tk) ha hdb he hpl) fun σ H Q ⟨B, G, ρ, S, m⟩ => ?_
  unfold xMk at m
  cases e2 : ghostW ρ g with
  | none => simp only [e2] at m
  | some Ω =>
    simp only [e2] at m
    refine xa_lift S m fun ds vs G1 H1 S1 s1 r1 m => ?_
    intro y dx hy hd ne
    have hp : B.pu = false := S.ns g Ω (ghostW_some e2)
    obtain ⟨G2, gr, O2, gy⟩ := made S1.st.sub S1.st.mkd (S1.st.obs (ghostW_ghost e2)) h1 hy hd ne
    have hl : (Pd.D.ob Ω.length :: ds).length = n := Decidable.byContradiction fun z => by
      rw [M.len _ _ z] at m
      exact m.elim
    refine ⟨G2, _, .ob Ω.length :: ds, gr.gh, S1.st.mkd.mono gr.gg, O2, .cons (.ob gy) (r1.mono gr.gg), hl, ?_⟩
    cases e3 : F (Ω ++ [⟨cls, []⟩]) (.ob Ω.length :: ds) with
    | ok d Ω' =>
      simp only [e3] at m
      intro v G3 H3 g3 O3 r3
      have ed := M.non _ _ _ _ e3
      subst ed
      cases r3
      have gc := GrowB.comp gr.gh gr g3
      exact ⟨rfl, m _ G3 H3 (S1.gro gc hp O3) gc.gg (.ob (g3.gg _ _ gy))⟩
    | exc c Ω' =>
      simp only [e3] at m
      intro C' G3 H3 hC g3 O3
      have gc := GrowB.comp gr.gh gr g3
      exact im c C' σ H3 hC (m G3 H3 (S1.gro gc hp O3) gc.gg)
    | bad => simp only [e3] at m

/-! ### fields stored -/
/-- the object, which may be changed -/
def obW (ρ : Ev) (g : Nat) (cls : Str) (d : D) : Option (Nat × List Ob × Ob) := match d with
  | .ob i => (ghostW ρ g).bind fun Ω => (Ω[i]?).bind fun ob => if ob.cls = cls ∧ ob.fs.length < 20 then some (i, Ω, ob) else none
  | _ => none
theorem obW_some {ρ : Ev} {g : Nat} {d : D} {i : Nat} {Ω : List Ob} {ob : Ob} (h : obW ρ g cls d = some (i, Ω, ob)) : d = .ob i ∧ ghostW ρ g = some Ω ∧ Ω[i]? = some ob ∧ ob.cls = cls ∧ ob.fs.length < 20 := by
  unfold obW at h
  split at h
  · obtain ⟨Ω', h1, h⟩ := Option.bind_eq_some_iff.mp h
    obtain ⟨ob', h2, h⟩ := Option.bind_eq_some_iff.mp h
    split at h
    · cases h
      exact ⟨rfl, h1, h2, (by assumption : _ ∧ _).1, (by assumption : _ ∧ _).2⟩
    · cases h
  · cases h
theorem FsOk.length {G H : Hp} {i : Nat} : ∀ {fs : List (Str × V)} {ds : List (Str × Bool × D)}, FsOk K G H i fs ds → fs.length = ds.length
  | _, _, .nil => rfl
  | _, _, .val _ _ t => by rw [List.length_cons, List.length_cons, FsOk.length t]
  | _, _, .own _ _ _ t => by rw [List.length_cons, List.length_cons, FsOk.length t]
def sFd (o : Bool) (g : Nat) (cls f : Str) (fo fe : Ev → R D) : Ev → O := fun ρ => (fe ρ).out ρ fun d => (fo ρ).out ρ fun od => match obW ρ g cls od with
  | some (i, Ω, _) => .nx (setGh (putOb Ω i f o d) ρ)
  | none => .bad
theorem ds_fld (o : Bool) (g : Nat) (cl : ClsOk X.K cls fields) (hf : f ∈ fields) (ho : PE X oe (exOf K .v W fo)) (he : PE X e (exOf K (kb o) W fe)) (hK : X.K = K := by rfl) (hs : swapsWith e (some (.Attribute oe f pos')) pos.line X.env = pure false := by rfl) :
    PS X (.Assign [.Attribute oe f pos'] e pos) (tsOf K W (sFd o g cls f fo fe)) := ps_imp (ps_fld ho he hs) fun E σ H ⟨B, G, ρ, S, m⟩ => by
  subst hK
  unfold sFd at m
  refine ex_then (k := kb o) S m fun d v G1 H1 S1 g1 r1 m1 => ?_
  refine ex_then (k := .v) S1 (OutP.later g1.gg m1) fun od ov G2 H2 S2 g2 r2 m2 => ?_
  cases q : obW ρ g cls od with
  | none => simp only [q] at m2; exact m2.elim
  | some y =>
    obtain ⟨i, Ω, ob⟩ := y
    simp only [q] at m2
    obtain ⟨rfl, h1, h2, h3, h4⟩ := obW_some q
    have r2' : Rep X.K G2 ov (.ob i) := r2
    obtain ⟨a, rfl, ha⟩ := wrep_ob (H := H2) (.inl r2')
    have O2 := S2.st.obs (ghostW_ghost h1)
    obtain ⟨C, dx, fs, k1, k2, k3, k4, k5, k6⟩ := ob_at S2.st.sub O2 ha h2
    obtain ⟨C', c1, c2, c3⟩ := cl.ex
    rw [h3, c1] at k4
    cases k4
    have hp : B.pu = false := S2.ns g Ω (ghostW_some h1)
    have hl := k5.length
    rw [putOb_some h2] at m2
    cases o with
    | false =>
      refine ⟨a, C, dx, fs, rfl, k1, c2, c3 f hf, by omega, ?_⟩
      have r1' : Rep X.K G2 v d := Rep.mono g2.gg r1
      have hz := length_putF f v fs
      exact m2 G2 σ _ (S2.fld hp O2 ha h2 k1 (k5.putV r1') (by omega)) g2.gg
    | true =>
      have r1' : KRep X.K .o G H G1 H1 v d := r1
      obtain ⟨p, rfl, hn, gp, w⟩ := KRep.grow g2 r1'
      obtain ⟨oo, hoo, io⟩ := w.there
      obtain ⟨s3, S3⟩ := Good.prom (i := i) (f := f) S2 (S.gr.free hn) gp hoo io fun j dj ej hj => by
        obtain ⟨p', hp', _, w'⟩ := S.st.sl j _ ej
        rw [hj] at hp'
        cases hp'
        obtain ⟨u, hu, iu⟩ := w'.there
        exact hn u hu iu.nt
      refine ⟨a, C, dx, fs, rfl, k1, c2, c3 f hf, by omega, ?_⟩
      have hz := length_putF f (.ref p) fs
      have k5' : FsOk X.K (upd G2 p (pmark i f)) H2 i fs ob.fs := k5.mono s3 fun _ _ _ h _ => h
      have O3 := S3.st.obs (ghostW_ghost h1)
      exact m2 _ σ _ (S3.fld hp O3 (s3 _ _ ha) h2 k1 (k5'.putO upd_same (w.mono s3 (.refl _))) (by omega)) (g2.gg.trans s3)
/-- an own part, which may be changed -/
def fldO (ρ : Ev) (g : Nat) (cls f : Str) (d : D) : Option (Nat × List Ob × D) := (obW ρ g cls d).bind fun x => match x.2.2.fs.lookup f with
  | some (true, y) => some (x.1, x.2.1, y)
  | _ => none
theorem fldO_some {ρ : Ev} {g : Nat} {od d : D} {i : Nat} {Ω : List Ob} (h : fldO ρ g cls f od = some (i, Ω, d)) : ∃ ob, od = .ob i ∧ ghostW ρ g = some Ω ∧ Ω[i]? = some ob ∧ ob.cls = cls ∧ ob.fs.lookup f = some (true, d) := by
  unfold fldO at h
  obtain ⟨⟨i', Ω', ob⟩, h1, h⟩ := Option.bind_eq_some_iff.mp h
  split at h
  · rename_i e
    cases h
    obtain ⟨a1, a2, a3, a4, _⟩ := obW_some h1
    exact ⟨ob, a1, a2, a3, a4, e⟩
  · cases h
theorem fldO_at {G H : Hp} {ρ : Ev} {σ : L2.St} {g : Nat} {v : V} {d : D} {i : Nat} {Ω : List Ob} {ob : Ob} (cl : ClsOk K cls fields) (hf : f ∈ fields) (S : Stt K G ρ σ H) (h1 : ghostW ρ g = some Ω) (h2 : Ω[i]? = some ob) (h3 : ob.cls = cls) (h4 : ob.fs.lookup f = some (true, d)) (r : Rep K G v (.ob i)) :
    ∃ a C dx fs q, v = .ref a ∧ H a = some (.ins C dx fs) ∧ Cls K C ∧ NoAttr K C f ∧ fs.lookup f = some (.ref q) ∧ G a = some (mark i) ∧ G q = some (pmark i f) ∧ OwnAt K G H q d := by
  obtain ⟨a, rfl, ha⟩ := wrep_ob (.inl r : WRep K G H v (.ob i))
  obtain ⟨C, dx, fs, k1, k2, k3, k4, k5, k6⟩ := ob_at S.sub (S.obs (ghostW_ghost h1)) ha h2
  obtain ⟨C', c1, c2, c3⟩ := cl.ex
  rw [h3, c1] at k4
  cases k4
  rcases k5.look (f := f) with ⟨_, z⟩ | ⟨v, b, dd, l1, l2, _, r2⟩
  · rw [h4] at z; cases z
  · rw [h4] at l2
    cases l2
    obtain ⟨q, rfl, gq, w⟩ := r2 rfl
    exact ⟨a, C, dx, fs, q, rfl, k1, c2, c3 f hf, l1, ha, gq, w⟩
/-- o.f.append(e) -/
def sFApp (g : Nat) (cls f : Str) (fo fe : Ev → R D) : Ev → O := fun ρ => (fo ρ).out ρ fun od => match fldO ρ g cls f od with
  | some (i, Ω, .lst ds) => (fe ρ).out ρ fun d => if szOk (ds.length + 1) then .nx (setGh (putOb Ω i f true (.lst (ds ++ [d]))) ρ) else .bad
  | _ => .bad
theorem ds_fapp (g : Nat) (cl : ClsOk X.K cls fields) (hf : f ∈ fields) (ho : PE X oe (exOf K .v W fo)) (he : PE X e (exOf K .v W fe)) (hK : X.K = K := by rfl) (hb0 : attributeBase oe f X.env (eval oe X.env) = eval oe X.env := by rfl)
    (hbase : attributeBase (.Attribute oe f p) "append" X.env (eval (.Attribute oe f p) X.env) = eval (.Attribute oe f p) X.env := by rfl)
    (hfew : ((backTo cpos (starEach (e :: []) X.env)).all (fun x => !x.1) && (backToKw cpos (keywordEach [] X.env)).all (fun x => x.1.isSome)
      && decide ((e :: ([] : List Expr)).length + ([] : List Keyword).length + (if ([] : List Keyword).isEmpty then 0 else 1) < 30)) = true := by rfl)
    (hline : (apos.endLine == cpos.line) = true := by rfl) (hs1 : starEach (e :: []) X.env = (false, eval e X.env) :: starEach [] X.env := by rfl) (hplain : (backTo cpos (starEach [] X.env)).any (·.1) = false := by rfl)
    (hs : swapsWith (.Call (.Attribute (.Attribute oe f p) "append" apos) [e] [] cpos) none pos.line X.env = pure false := by rfl) :
    PS X (.Expr (.Call (.Attribute (.Attribute oe f p) "append" apos) [e] [] cpos) pos) (tsOf K W (sFApp g cls f fo fe)) :=
  ps_imp (ps_expr (pe_bm PySem.F.plainAttrs_list PySem.F.slot_list_append PySem.F.type_list_append mt_append (pe_fld ho hb0) (pa_cons he pa_nil hs1) hbase hfew hline hs1 hplain) hs) fun E σ H ⟨B, G, ρ, S, m⟩ => by
  subst hK
  unfold sFApp at m
  refine ex_then (k := .v) S m fun od ov G1 H1 S1 g1 r1 m1 => ?_
  cases q : fldO ρ g cls f od with
  | none => simp only [q] at m1; exact m1.elim
  | some y =>
    obtain ⟨i, Ω, dd⟩ := y
    simp only [q] at m1
    obtain ⟨ob, rfl, h1, h2, h3, h4⟩ := fldO_some q
    cases dd with
    | lst ds =>
      simp only at m1
      obtain ⟨a, C, dx, fs, qa, rfl, k1, k2, k3, k4, ka, kq, vs, hvs, rl⟩ := fldO_at cl hf S1.st h1 h2 h3 h4 (r1 : Rep X.K G1 ov (.ob i))
      refine ⟨a, C, dx, fs, _, rfl, k1, k2, k3, k4, .inl ⟨rfl, vs, .of hvs⟩, ?_⟩
      refine ex_then (k := .v) S1 (OutP.later g1.gg m1) fun d v G2 H2 S2 g2 rv m2 => ?_
      have k1' : H2 a = some (.ins C dx fs) := g2.hh _ _ k1 (fun _ z => nomatch z)
      have hvs' : H2 qa = some (.lst vs) := g2.hh _ _ hvs (fun _ z => nomatch z)
      have rl' := rl.mono g2.gg
      split at m2
      · rename_i hz
        refine ⟨qa, vs, v, rfl, rfl, hvs', by rw [rl'.length]; exact szOk_lt hz, ?_⟩
        rw [putOb_some h2] at m2
        exact m2 G2 σ _ (S2.mutf (S2.ns g Ω (ghostW_some h1)) (S2.st.obs (ghostW_ghost h1)) (g2.gg _ _ ka) h2 k1' (g2.gg _ _ kq) k4 h4 ⟨_, upd_same, rl'.append (.cons rv .nil)⟩ hvs' trivial trivial) g2.gg
      · exact m2.elim
    | _ => exact m1.elim
/-- o.f[k] = e, of a dict -/
def sFPut (g : Nat) (cls f : Str) (fo fk fe : Ev → R D) : Ev → O := fun ρ => (fe ρ).out ρ fun d => (fo ρ).out ρ fun od => match fldO ρ g cls f od with
  | some (i, Ω, .dct t kvs) => (fk ρ).out ρ fun kd => if okKey t kd && szOk (kvs.length + 1) then .nx (setGh (putOb Ω i f true (.dct t (putD kvs kd d))) ρ) else .bad
  | _ => .bad
theorem ds_fput (g : Nat) {ke : Expr} {fk : Ev → R D} {kk : Nat} {tpos : Pos} (hr : Room kk X.A) (cl : ClsOk X.K cls fields) (hf : f ∈ fields) (ho : PE X oe (exOf K .v W fo)) (hk : PE X ke (exOf K .w W fk)) (he : PE X e (exOf K .v W fe)) (hK : X.K = K := by rfl) (hb0 : attributeBase oe f X.env (eval oe X.env) = eval oe X.env := by rfl)
    (hs : swapsWith e (some (.Subscript (.Attribute oe f p) ke tpos)) pos.line X.env = pure false := by rfl) :
    PS X (.Assign [.Subscript (.Attribute oe f p) ke tpos] e pos) (tsOf K W (sFPut g cls f fo fk fe)) := ps_imp (ps_dput (hu_of hr) (pe_fld ho hb0) hk he hs) fun E σ H ⟨B, G, ρ, S, m⟩ => by
  subst hK
  unfold sFPut at m
  refine ex_then (k := .v) S m fun d v G0 H0 S0 g0 rv m0 => ?_
  refine ex_then (k := .v) S0 (OutP.later g0.gg m0) fun od ov G1 H1 S1 g1 r1 m1 => ?_
  cases q : fldO ρ g cls f od with
  | none => simp only [q] at m1; exact m1.elim
  | some y =>
    obtain ⟨i, Ω, dd⟩ := y
    simp only [q] at m1
    obtain ⟨ob, rfl, h1, h2, h3, h4⟩ := fldO_some q
    cases dd with
    | dct t kvs =>
      simp only at m1
      obtain ⟨a, C, dx, fs, qa, rfl, k1, k2, k3, k4, ka, kq, w⟩ := fldO_at cl hf S1.st h1 h2 h3 h4 (r1 : Rep X.K G1 ov (.ob i))
      refine ⟨a, C, dx, fs, _, rfl, k1, k2, k3, k4, ?_⟩
      refine ex_then (k := .w) S1 (OutP.later g1.gg m1) fun kd u G2 H2 S2 g2 ru m2 => ?_
      have k1' : H2 a = some (.ins C dx fs) := g2.hh _ _ k1 (fun _ z => nomatch z)
      have w' : OwnAt X.K G2 H2 qa (.dct t kvs) := w.mono g2.gg g2.hh
      split at m2
      · rename_i hz
        rw [Bool.and_eq_true] at hz
        obtain ⟨oo, hoo, io⟩ := w'.there
        obtain ⟨o', gp, w2⟩ := dput_of S2.st.sub w' ru hz.1 hz.2 (Rep.mono (g1.gg.trans g2.gg) rv)
        rw [putOb_some h2] at m2
        have io' : isOwn o' := by
          obtain ⟨o2, e2, i2⟩ := w2.there
          rw [upd_same] at e2
          cases e2
          exact i2
        exact ⟨qa, _, rfl, gp, m2 G2 σ _ (S2.mutf (S2.ns g Ω (ghostW_some h1)) (S2.st.obs (ghostW_ghost h1)) (g2.gg _ _ ka) h2 k1' (g2.gg _ _ kq) k4 h4 w2 hoo io io') g2.gg⟩
      · exact m2.elim
    | _ => exact m1.elim
/-- o.f.pop() -/
def xFPop (g : Nat) (cls f : Str) (fo : Ev → R D) : Ev → RX D := fun ρ => (liftX fo ρ).bind fun od _ => match fldO ρ g cls f od with
  | some (i, Ω, .lst ds) => match ds.getLast? with
    | some d => .ok d (setGh (putOb Ω i f true (.lst ds.dropLast)) ρ)
    | none => .bad
  | _ => .bad
theorem px_fpop (g : Nat) (cl : ClsOk X.K cls fields) (hf : f ∈ fields) (ho : PE X oe (exOf K .v W fo)) (hK : X.K = K := by rfl) (hb0 : attributeBase oe f X.env (eval oe X.env) = eval oe X.env := by rfl)
    (hbase : attributeBase (.Attribute oe f p) "pop" X.env (eval (.Attribute oe f p) X.env) = eval (.Attribute oe f p) X.env := by rfl) (hline : (apos.endLine == cpos.line) = true := by rfl) :
    PE X (.Call (.Attribute (.Attribute oe f p) "pop" apos) [] [] cpos) (xsOf K W (xFPop g cls f fo)) :=
  pe_imp (pe_bm0 PySem.F.plainAttrs_list PySem.F.slot_list_pop PySem.F.type_list_pop mt_pop (pe_fld ho hb0) hbase hline) fun σ H Q ⟨B, G, ρ, S, m⟩ => by
  subst hK
  unfold xFPop at m
  refine xs_lift S m fun od ov G1 H1 S1 r1 m1 => ?_
  cases q : fldO ρ g cls f od with
  | none => simp only [q] at m1
  | some y =>
    obtain ⟨i, Ω, dd⟩ := y
    simp only [q] at m1
    obtain ⟨ob, rfl, h1, h2, h3, h4⟩ := fldO_some q
    cases dd with
    | lst ds =>
      simp only at m1
      obtain ⟨a, C, dx, fs, qa, rfl, k1, k2, k3, k4, ka, kq, vs, hvs, rl⟩ := fldO_at cl hf S1.st h1 h2 h3 h4 r1
      refine ⟨a, C, dx, fs, _, rfl, k1, k2, k3, k4, .inl ⟨rfl, vs, .of hvs⟩, ?_⟩
      cases q2 : ds.getLast? with
      | none => simp only [q2] at m1
      | some d =>
        simp only [q2] at m1
        rw [List.getLast?_eq_getElem?] at q2
        obtain ⟨v, hv, rv⟩ := rl.get q2
        rw [putOb_some h2] at m1
        refine ⟨qa, vs, v, rfl, rfl, hvs, by rw [rl.length]; exact hv, ?_⟩
        exact m1 v G1 _ (S1.mutf (S1.ns g Ω (ghostW_some h1)) (S1.st.obs (ghostW_ghost h1)) ka h2 k1 kq k4 h4 ⟨_, upd_same, rl.dropLast⟩ hvs trivial trivial) (.refl _) rv
    | _ => exact m1.elim
end
end Pd

/-! Pd32: told(lambda: an effect), effects in tuples and stores, attributes as targets. -/
namespace Pd
open PySem PySem.Spec L2 LamX
variable {K : PySem.W.Frag}

/-! ### told(lambda: e), e with effects -/
def xTold (txt : Str → Option Str) (f : Ev → RX D) : Ev → RX D := fun ρ => match f ρ with
  | .ok d ρ1 => .ok d ρ1
  | .exc c ρ1 => match txt c with
    | some t => .ok (.str t) ρ1
    | none => .bad
  | .bad => .bad
theorem told_readX {mg : Str → Option Value} {W : WN} {CS : Addr} {nameOk : Addr → Str → Prop} {txt : Str → Option Str} {f : Ev → RX D} (n : tabs K ≠ []) (hx : ∀ c t, txt c = some t → ∀ C, mg c = some (.ref C) → PySem.W.exmOne K (.ref C) (.ref CS) = some true ∧ nameOk C t)
    {σ : L2.St} {H : Hp} {Q : VK} (h : xsOf K W (xTold txt f) σ H Q) : tLam (tabs K) (TTn K CS nameOk) (fun E => xsOf K (WE' mg E) f) σ H Q := by
  obtain ⟨B, G, ρ, S, m⟩ := h
  refine ⟨tabs_of S.st.sub S.st.mkd n, fun H1 e t => ?_⟩
  have g1 : Grow G H G H1 := grow_tabs S.st.sub S.st.mkd n e t
  unfold xTold at m
  refine ⟨B, G, ρ, S.grow g1, ?_⟩
  cases q : f ρ with
  | ok d ρ1 =>
    simp only [q] at m
    exact fun v G' H' S' s' r => m v G' H' S' s' r
  | exc c ρ1 =>
    simp only [q] at m
    cases q2 : txt c with
    | none => simp only [q2] at m
    | some tx =>
      simp only [q2] at m
      intro G' H' S' s' C hC
      obtain ⟨x1, x2⟩ := hx c tx q2 C hC
      exact ⟨C, tx, rfl, rfl, x1, x2, G', S'.st.sub, S'.st.mkd, fun G'' H'' g' => m (.str tx) G'' H'' (S'.grow g') (s'.trans g'.gg) (.str tx)⟩
  | bad => simp only [q] at m
section
variable {X : Cx} {W : WN} {P : Program} {w : World} {mg : Str → Option Value} {base : Heap}
theorem px_told2 {x ql : Str} {c : Addr} {txt : Str → Option Str} {k : Nat} {params : Arguments} {body : Expr} {scope : Scope} {f : Ev → RX D} {p lpos pos : Pos} (L : LamK P w K mg base k x ql c txt)
    (e1 : X.prog = P) (e2 : X.w = w) (e3 : X.K = K) (e4 : X.mg = mg) (e5 : X.base = base) (e6 : X.env.qual = ql ++ ".<locals>.") (hcode : X.env.code = .ref c) (hr : Room (k + 2) X.A) (hL : LamS X.env.scope scope)
    (hbody : ∀ (A : Around) (outer : List Env) (s : Shared) (H : Hp) (E : XK) (f' c' : Addr), Room k (A.deeper (lamEnv X scope s.heap.objs.size f' c')) → PE (lamCx X A outer s H E scope f' c') body (xsOf K (WE' mg E) f))
    (hg : Gl X x := by rfl) (hdef : defaultsOf params X.env = ([], []) := by rfl) (hbind : ∀ (q : Str) (cl : List (Str × Addr)) (pm cv ctv : Value), bindArgs (PySem.W.kla_fn "<lambda>" q params body scope cl pm cv ctv) ⟨[], []⟩ = pure [] := by intros; rfl)
    (hdb : (x == ("__debug__" : Str)) = false := by decide) : PE X (.Call (.Name x p) [.Lambda params body scope lpos] [] pos) (xsOf K W (xTold txt f)) := by
  obtain ⟨CS, Pt, nameOk, O, hx, TB, hmT, hu⟩ := L.ex
  subst e1 e2 e3 e4 e5
  rw [← e6] at O hmT hu
  obtain ⟨g, a, pg, bg, sg, dV, kV, doc, pm, cdv, ct, oc, an, od, osl, Ng, h1, h2, h3, h4, h5, h6, h7, h8, h9, h10, h11⟩ := O.ex
  have n : tabs X.K ≠ [] := fun z => by rw [z] at hmT; cases hmT
  exact pe_imp (pe_lamcall (T := tabs X.K) (TT := TTn X.K CS nameOk) (t := fun E => xsOf X.K (WE' X.mg E) f) (k := k) hg h1 h2 h3 h4 h5 h6 h7 h8 (h11 X rfl rfl rfl rfl rfl hr) TB hcode hmT hu hr hL hdef hbind hbody hdb h9 h10) fun σ H Q h => told_readX n hx h
end

/-! ### the end of a def that changes objects -/
def sRetS (f : Ev → RX D) : Ev → O := fun ρ => (f ρ).outX fun d ρ1 => .retS d ρ1
section
variable {X : Cx} {W : WN} {oe e : Expr} {es : List Expr} {fo : Ev → R D} {fe : Ev → RX D} {fa : Ev → R (List D)} {x cls f mt : Str} {p pos pos' apos cpos : Pos} {k n : Nat} {F : List Ob → List D → RS} {FP : List Ob → List D → R RetD} {fields : List Str}
theorem ds_retS (he : PE X e (xsOf K W fe)) : PS X (.Return (some e) pos) (tsOf K W (sRetS fe)) := ps_imp (ps_ret he) fun Ed σ H ⟨B, G, ρ, S, m⟩ =>
  xs_then S m fun d ρ1 v G' H' S' s' r m' => m' v G' σ H' S' s' r
theorem ds_retNS : PS X (.Return none pos) (tsOf K W (fun ρ => .retS .non ρ)) := ps_imp ps_retN fun E σ H ⟨B, G, ρ, S, m⟩ => m .non G σ H S (.refl _) .non

/-! ### effects in displays -/
def xaOf (K : PySem.W.Frag) (W : WN) (f : Ev → RX (List D)) : TA := fun σ H Q => ∃ B G ρ, Good K B G ρ σ H ∧ match f ρ with
  | .ok ds ρ' => ∀ vs G' H', Good K B G' ρ' σ H' → Same G G' → RepL K G' vs ds → Q vs H'
  | .exc c ρ' => ∀ G' H', Good K B G' ρ' σ H' → Same G G' → W c σ H'
  | .bad => False
def xaNil : Ev → RX (List D) := fun ρ => .ok [] ρ
def xaCons (f : Ev → RX D) (g : Ev → RX (List D)) : Ev → RX (List D) := fun ρ => (f ρ).bind fun d ρ1 => (g ρ1).bind fun ds ρ2 => .ok (d :: ds) ρ2
theorem xa_nil : PA X [] (xaOf K W xaNil) := pa_imp pa_nil fun σ H Q ⟨B, G, ρ, S, m⟩ => m [] G H S (.refl _) .nil
theorem xa_cons {fe : Ev → RX D} {g : Ev → RX (List D)} (h : PE X e (xsOf K W fe)) (hr : PA X es (xaOf K W g)) (hs : starEach (e :: es) X.env = (false, eval e X.env) :: starEach es X.env := by rfl) :
    PA X (e :: es) (xaOf K W (xaCons fe g)) := pa_imp (pa_cons h hr hs) fun σ H Q ⟨B, G, ρ, S, m⟩ => by
  refine ⟨B, G, ρ, S, ?_⟩
  unfold xaCons at m
  cases q : fe ρ with
  | ok d ρ1 =>
    simp only [q, RX.bind_ok] at m
    intro v G1 H1 S1 s1 r1
    refine ⟨B, G1, ρ1, S1, ?_⟩
    cases q2 : g ρ1 with
    | ok ds ρ2 =>
      simp only [q2, RX.bind_ok] at m
      exact fun vs G2 H2 S2 s2 r2 => m _ G2 H2 S2 (s1.trans s2) (.cons (r1.mono s2) r2)
    | exc c ρ2 => simp only [q2, RX.bind_exc] at m; exact fun G' H' S' s' => m G' H' S' (s1.trans s')
    | bad => simp only [q2, RX.bind_bad] at m
  | exc c ρ1 => simp only [q, RX.bind_exc] at m; exact m
  | bad => simp only [q, RX.bind_bad] at m
def xTup (f : Ev → RX (List D)) : Ev → RX D := fun ρ => (f ρ).bind fun ds ρ1 => if szOk ds.length then .ok (.tup ds) ρ1 else .bad
theorem px_tup {f : Ev → RX (List D)} {kt : Nat} (h : PA X es (xaOf K W f)) : PE X (.Tuple es kt pos) (xsOf K W (xTup f)) := pe_imp (pe_tup h) fun σ H Q ⟨B, G, ρ, S, m⟩ => by
  refine ⟨B, G, ρ, S, ?_⟩
  unfold xTup at m
  cases e : f ρ with
  | ok ds ρ1 =>
    simp only [e, RX.bind_ok] at m
    intro vs G' H' S' s' r
    cases hz : szOk ds.length with
    | false => rw [hz, if_neg Bool.false_ne_true] at m; exact m.elim
    | true =>
      rw [hz, if_pos rfl] at m
      refine ⟨by rw [r.length]; exact szOk_le hz, fun p hp => ?_⟩
      have g := Grow.laid (o := .tup vs) S'.st.sub hp
      exact m _ _ _ (S'.grow g) (s'.trans g.gg) (.tup upd_same (r.mono g.gg))
  | exc c ρ1 => simp only [e, RX.bind_exc] at m; exact m
  | bad => simp only [e, RX.bind_bad] at m
def sParX (i j : Nat) (f g : Ev → RX D) : Ev → O := fun ρ => (f ρ).outX fun d ρ1 => (g ρ1).outX fun e ρ2 => .nx ((ρ2.set i (.val d)).set j (.val e))
theorem ds_parX {i j : Nat} {x y : Str} {a b : Expr} {fa fb : Ev → RX D} {px py pt pos : Pos} {kt k2 pt2} (hc : X.calm = true) (hN : X.N.Nodup) (hi : X.N[i]? = some x) (hj : X.N[j]? = some y) (hij : i ≠ j)
    (hx : X.env.scope.names.lookup x = some .local) (hy : X.env.scope.names.lookup y = some .local) (ha : PE X a (xsOf K W fa)) (hb : PE X b (xsOf K W fb))
    (hw : swappedStores [.Tuple [.Name x px, .Name y py] kt pt] (.Tuple [a, b] k2 pt2) X.env = pure (some [x, y]) := by rfl)
    (hs : swapsWithSole [.Tuple [.Name x px, .Name y py] kt pt] (.Tuple [a, b] k2 pt2) pos.line X.env = pure false := by rfl)
    (h1 : starEach (a :: b :: []) X.env = (false, eval a X.env) :: starEach (b :: []) X.env := by rfl) (h2 : starEach (b :: []) X.env = (false, eval b X.env) :: starEach [] X.env := by rfl) :
    PS X (.Assign [.Tuple [.Name x px, .Name y py] kt pt] (.Tuple [a, b] k2 pt2) pos) (tsOf K W (sParX i j fa fb)) := ps_imp (ps_par hc hN hi hj hij hx hy (pa_cons ha (pa_cons hb pa_nil h2) h1) hw hs) fun E σ H ⟨B, G, ρ, S, m⟩ => by
  unfold sParX at m
  refine xs_then S m fun d ρ1 v G1 H1 S1 s1 r1 m1 => ?_
  refine xs_then S1 (OutP.later s1 m1) fun e ρ2 u G2 H2 S2 s2 r2 m2 => ?_
  exact ⟨v, u, rfl, m2 G2 _ H2 (good_setv (good_setv S2 (r1.mono s2)) r2) s2⟩
def sParX3 (i j l : Nat) (f g h : Ev → RX D) : Ev → O := fun ρ => (f ρ).outX fun d ρ1 => (g ρ1).outX fun e ρ2 => (h ρ2).outX fun c ρ3 => .nx (((ρ3.set i (.val d)).set j (.val e)).set l (.val c))
theorem ds_parX3 {i j l : Nat} {x y z : Str} {a b c : Expr} {fa fb fc : Ev → RX D} {px py pz pt pos : Pos} {kt k2 pt2} (hc : X.calm = true) (hN : X.N.Nodup) (hi : X.N[i]? = some x) (hj : X.N[j]? = some y) (hl : X.N[l]? = some z) (hij : i ≠ j) (hil : i ≠ l) (hjl : j ≠ l)
    (hx : X.env.scope.names.lookup x = some .local) (hy : X.env.scope.names.lookup y = some .local) (hz : X.env.scope.names.lookup z = some .local) (ha : PE X a (xsOf K W fa)) (hb : PE X b (xsOf K W fb)) (hcc : PE X c (xsOf K W fc))
    (hw : swappedStores [.Tuple [.Name x px, .Name y py, .Name z pz] kt pt] (.Tuple [a, b, c] k2 pt2) X.env = pure (some [x, y, z]) := by rfl)
    (hs : swapsWithSole [.Tuple [.Name x px, .Name y py, .Name z pz] kt pt] (.Tuple [a, b, c] k2 pt2) pos.line X.env = pure false := by rfl)
    (h1 : starEach (a :: b :: c :: []) X.env = (false, eval a X.env) :: starEach (b :: c :: []) X.env := by rfl) (h2 : starEach (b :: c :: []) X.env = (false, eval b X.env) :: starEach (c :: []) X.env := by rfl) (h3 : starEach (c :: []) X.env = (false, eval c X.env) :: starEach [] X.env := by rfl) :
    PS X (.Assign [.Tuple [.Name x px, .Name y py, .Name z pz] kt pt] (.Tuple [a, b, c] k2 pt2) pos) (tsOf K W (sParX3 i j l fa fb fc)) := ps_imp (ps_par3 hc hN hi hj hl hij hil hjl hx hy hz (pa_cons ha (pa_cons hb (pa_cons hcc pa_nil h3) h2) h1) hw hs) fun E σ H ⟨B, G, ρ, S, m⟩ => by
  unfold sParX3 at m
  refine xs_then S m fun d ρ1 v G1 H1 S1 s1 r1 m1 => ?_
  refine xs_then S1 (OutP.later s1 m1) fun e ρ2 u G2 H2 S2 s2 r2 m2 => ?_
  refine xs_then S2 (OutP.later s2 m2) fun c ρ3 t G3 H3 S3 s3 r3 m3 => ?_
  exact ⟨v, u, t, rfl, m3 G3 _ H3 (good_setv (good_setv (good_setv S3 (r1.mono (s2.trans s3))) (r2.mono s3)) r3) s3⟩

/-! ### a method that reads, of a thing reckoned with effects -/
theorem xmp_run {g : Nat} {C : Addr} {t : TA} {fo : Ev → RX D} {σ : L2.St} {H : Hp} {Q : VK} {Wx : WX} (im : ∀ c C σ H, X.mg c = some (.ref C) → W c σ H → Wx (.ref C) none σ H) (hn : ∀ Ω ds, ds.length ≠ n → FP Ω ds = .bad)
    (hc : PySem.W.nsIn K mainGlobals cls = some (some (.ref C))) (ht : ∀ σ H Q, taOf K W fa σ H Q → t σ H Q) (h : xsOf K W (xMP g cls mt FP fo fa) σ H Q) : tMx C mt (spP K X.mg n FP) (WE Wx) (xsOf K W fo) t σ H Q := by
  obtain ⟨B, G, ρ, S, m⟩ := h
  refine ⟨B, G, ρ, S, ?_⟩
  unfold xMP at m
  cases e1 : fo ρ with
  | bad => simp only [e1, RX.bind_bad] at m
  | exc c ρ1 => simp only [e1, RX.bind_exc] at m; exact m
  | ok d ρ1 =>
    simp only [e1, RX.bind_ok] at m
    intro v G1 H1 S1 s1 r1
    cases e2 : ghost ρ1 g with
    | none => simp only [e2] at m
    | some Ω =>
      simp only [e2] at m
      cases e3 : hasM cls mt d Ω with
      | false => simp only [e3, if_neg Bool.false_ne_true] at m
      | true =>
        simp only [e3, if_true] at m
        obtain ⟨a, dx, fs, ev, k1, k2⟩ := hasM_at S1.st.sub (S1.st.obs e2) hc e3 r1
        refine ⟨a, dx, fs, ev, k1, k2, ht _ _ _ ⟨G1, ρ1, S1.st, ?_⟩⟩
        unfold liftX at m
        cases e4 : fa ρ1 with
        | bad => simp only [e4, RX.bind_bad] at m
        | exc c => simp only [e4, RX.bind_exc] at m; exact fun G' H' g => m G' H' (S1.grow g) (s1.trans g.gg)
        | ok ds =>
          simp only [e4, RX.bind_ok] at m
          intro vs G2 H2 g2 r2
          have S2 := S1.grow g2
          refine spP_run (o := false) im hn S2.st.mkd g2 (S2.st.obs e2) (.cons (r1.mono g2.gg) r2) ?_
          cases e5 : rRet false (FP Ω (d :: ds)) with
          | ok d2 => rw [e5] at m; exact fun v' G' H' g' r' => m v' G' H' (S1.grow g') (s1.trans g'.gg) r'
          | exc c => rw [e5] at m; exact fun G' H' g' => m G' H' (S1.grow g') (s1.trans g'.gg)
          | bad => rw [e5] at m; exact m
theorem px_pmeth0 (g : Nat) {fo : Ev → RX D} (M : MethP X.prog X.w X.K X.mg X.base k cls mt n FP) (hK : X.K = K) (hr : Room k X.A) (tk : Tk X W) (ho : PE X oe (xsOf K W fo)) {pl : Sem Bool}
    (ht : eval (.Call (.Attribute oe mt apos) [] [] pos) X.env = (do
      let ov ← eval oe X.env
      standAt apos.atName
      let (f, first) ← holding [ov] (getMethod ov mt pl)
      callWith pos f first (backTo pos (starEach [] X.env)) (backToKw pos (keywordEach [] X.env))) := by rfl) :
    PE X (.Call (.Attribute oe mt apos) [] [] pos) (xsOf K W (xMP g cls mt FP fo aNil)) := by
  subst hK
  obtain ⟨C, f, fd, ps, F0, h1, h2, h3, h4⟩ := M.kk.ex
  obtain ⟨Wx, tk, im⟩ := tk
  exact pe_imp (pe_methX0 (E := WE Wx) ho h2 h3 F0 hr h4 (passAt tk) ht) fun σ H Q h => xmp_run im M.len h1 (fun σ H Q ⟨G, ρ, S, m⟩ => m [] G H (.refl S.sub) .nil) h

/-! ### an attribute as a target -/
def gAtt (K : PySem.W.Frag) (to : TE) (f : Str) : TG := fun v σ H Q => to σ H fun x H1 => ∃ a C dx fs, x = .ref a ∧ H1 a = some (.ins C dx fs) ∧ Cls K C ∧ NoAttr K C f ∧ fs.length < 1000 ∧ Q σ (upd H1 a (.ins C dx (putF f v fs)))
theorem pg_att {to : TE} (ho : PE X oe to) : PG X (.Attribute oe f pos) (gAtt X.K to f) := by
  refine ⟨fun pins s σ H v u Q I r h => ?_⟩
  rw [assign_Attribute]
  refine wpAny_bind (wpAny_holding (thn (ho.run pins s σ H _ I h) fun ov s1 w1 => ?_))
  obtain ⟨x, H1, I1, r1, a, C, dx, fs, ex, ea, c, nn, l, q⟩ := w1
  subst ex
  obtain rfl : ov = Value.ref a := r1
  refine wpAny_bind (wpAny_standAt (wpAny_bind (wpAny_holding (setattr_ok I1 ea c nn l r fun s3 I3 => ?_))))
  exact wpAny_release ⟨σ, _, I3, q⟩
/-- o.f, a, b, .. = e -/
def sAsgF (g : Nat) (cls f : Str) (fo : Ev → R D) (ts : List Tg) (fe : Ev → RX D) : Ev → O := fun ρ => (fe ρ).outX fun d ρ1 => match d with
  | .tup (d0 :: ds) => if ds.length = ts.length then (fo ρ1).out ρ1 fun od => match obW ρ1 g cls od with
    | some (i, Ω, _) => match tgSets ts ds (setGh (putOb Ω i f false d0) ρ1) with
      | some ρ' => .nx ρ'
      | none => .bad
    | none => .bad else .bad
  | _ => .bad
theorem ds_asgF (g : Nat) {ts : List Tg} {kt : Nat} {tpos : Pos} (hcalm : X.calm = true) (cl : ClsOk X.K cls fields) (hf : f ∈ fields) (he : PE X e (xsOf K W fe)) (ho : PE X oe (exOf K .v W fo)) (hg : PGs X es (tgRs K ts)) (hK : X.K = K := by rfl)
    (hcons : (assignEach (.Attribute oe f p :: es) X.env).map (·.2) = assign (.Attribute oe f p) X.env :: (assignEach es X.env).map (·.2) := by rfl)
    (hn : (assignEach (.Attribute oe f p :: es) X.env).length = ts.length + 1 := by rfl) (hst : (assignEach (.Attribute oe f p :: es) X.env).findIdx? (·.1) = none := by rfl)
    (hs : swapsWithSole [.Tuple (.Attribute oe f p :: es) kt tpos] e pos.line X.env = pure false := by rfl) (hw : swappedStores [.Tuple (.Attribute oe f p :: es) kt tpos] e X.env = pure none := by rfl)
    (h1 : (assignEach [.Tuple (.Attribute oe f p :: es) kt tpos] X.env).map (·.2) = [assign (.Tuple (.Attribute oe f p :: es) kt tpos) X.env] := by rfl) :
    PS X (.Assign [.Tuple (.Attribute oe f p :: es) kt tpos] e pos) (tsOf K W (sAsgF g cls f fo ts fe)) := by
  subst hK
  refine ps_imp (ps_asg he (pg_tup hcalm (pgs_cons (pg_att (f := f) ho) hg hcons) hn hst) hs hw h1) fun Ed σ H ⟨B, G, ρ, S, m⟩ => ?_
  unfold sAsgF at m
  refine xs_then S m fun d ρ1 v G1 H1 S1 s1 r1 m1 => ?_
  cases d with
  | tup dd =>
    cases dd with
    | nil => exact m1.elim
    | cons d0 ds =>
      simp only at m1
      cases r1 with
      | tup ht rl =>
        rename_i a xs
        cases rl with
        | cons r0 rl =>
          rename_i v0 vs
          have hl := rl.length
          by_cases hlt : ds.length = ts.length
          case neg => rw [if_neg hlt] at m1; exact m1.elim
          rw [if_pos hlt] at m1
          refine ⟨a, _, rfl, .inl (.inl (S1.st.sub _ _ ht)), ?_, ?_⟩
          · rw [List.length_cons, hl, hlt]
          · refine ⟨v0, vs, rfl, ?_⟩
            refine ex_then (k := .v) S1 (OutP.later s1 m1) fun od ov G2 H2 S2 g2 r2 m2 => ?_
            cases q : obW ρ1 g cls od with
            | none => simp only [q] at m2; exact m2.elim
            | some y =>
              obtain ⟨i, Ω, ob⟩ := y
              simp only [q] at m2
              obtain ⟨rfl, k1, k2, k3, k4⟩ := obW_some q
              have r2' : Rep X.K G2 ov (.ob i) := r2
              obtain ⟨a', rfl, ha⟩ := wrep_ob (H := H2) (.inl r2')
              have O2 := S2.st.obs (ghostW_ghost k1)
              obtain ⟨C, dx, fs, l1, l2, l3, l4, l5, l6⟩ := ob_at S2.st.sub O2 ha k2
              obtain ⟨C', c1, c2, c3⟩ := cl.ex
              rw [k3, c1] at l4
              cases l4
              have hp : B.pu = false := S2.ns g Ω (ghostW_some k1)
              have hlen := l5.length
              have hz := length_putF f v0 fs
              refine ⟨a', C, dx, fs, rfl, l1, c2, c3 f hf, by omega, ?_⟩
              have S3 := S2.fld hp O2 ha k2 l1 (l5.putV (f := f) (r0.mono g2.gg)) (by omega)
              rw [putOb_some k2] at m2
              cases q3 : tgSets ts ds (setGh (Ω.set i ⟨ob.cls, putFD f false d0 ob.fs⟩) ρ1) with
              | none => simp only [q3] at m2; exact m2.elim
              | some ρ' =>
                simp only [q3] at m2
                exact tgs_run (P := fun ρ σ => Good X.K B G2 ρ σ _) S3.st.sub ts (fun _ _ _ _ _ _ p r => good_setv p r) S3 (rl.mono g2.gg) q3 fun σ' p' => m2 G2 σ' _ p' g2.gg
  | _ => exact m1.elim
end
end Pd

/-! Pd33: what the end asks, for laws with objects. -/
namespace Pd
open PySem PySem.Spec L2 LamX
variable {P : Program} {w : World} {K : PySem.W.Frag} {mg : Str → Option Value} {base : Heap}
theorem callS_len {n N : Nat} {b : Ev → O} : ∀ Ω ds, ds.length ≠ n → callS n N b Ω ds = .bad := fun Ω ds h => by
  unfold callS
  rw [if_neg h]
theorem callP_len {n N : Nat} {b : Ev → O} : ∀ Ω ds, ds.length ≠ n → callP n N b Ω ds = .bad := fun Ω ds h => by
  unfold callP
  rw [if_neg h]
/-- a class's making def: it answers None -/
def callI (n N : Nat) (f : Ev → O) : List Ob → List D → RS := fun Ω ds => if ds.length = n then match f (startG n N true Ω ds) with
  | .nx ρ => gOut ρ (N - 1) fun Ω' => .ok .non Ω'
  | .exc c ρ => gOut ρ (N - 1) fun Ω' => .exc c Ω'
  | _ => .bad else .bad
theorem callI_len {n N : Nat} {b : Ev → O} : ∀ Ω ds, ds.length ≠ n → callI n N b Ω ds = .bad := fun Ω ds h => by
  unfold callI
  rw [if_neg h]
theorem callI_S {n N : Nat} {b : Ev → O} {Ω : List Ob} {ds : List D} : callI n N b Ω ds = .bad ∨ callI n N b Ω ds = callS n N b Ω ds := by
  unfold callI callS
  by_cases h : ds.length = n
  · rw [if_pos h, if_pos h]
    cases b (startG n N true Ω ds) with
    | nx ρ => exact .inr rfl
    | exc c ρ => exact .inr rfl
    | _ => exact .inl rfl
  · rw [if_neg h]; exact .inl rfl
theorem callI_non {n N : Nat} {b : Ev → O} : ∀ Ω ds d Ω', callI n N b Ω ds = .ok d Ω' → d = .non := fun Ω ds d Ω' h => by
  unfold callI at h
  split at h
  · split at h
    · unfold gOut at h
      split at h <;> cases h
      rfl
    · unfold gOut at h
      split at h <;> cases h
    · cases h
  · cases h
theorem fn_okI {x qual : Str} {st : Stmt} {f : Addr} {fd : FuncData} {N ps : List Str} {k : Nat} {b : Ev → O} (F : Fun K x qual st f fd) (S : FnScope N ps (defScope st)) (hl : ps.length ≤ N.length)
    (hbody : ∀ (cdv : Value) (A : Around) (outer : List Env) (s : Shared) (H : Hp) (E : XK), Room k (A.deeper (PyProof.Rows.envOfC qual (defScope st) s.heap.objs.size f cdv)) →
      PassesOwn (model P w) (A.deeper (PyProof.Rows.envOfC qual (defScope st) s.heap.objs.size f cdv)) (PyProof.Rows.envOfC qual (defScope st) s.heap.objs.size f cdv) (cxOf (L2.CX P w) P w K mg base N qual (defScope st) f cdv A outer s H E).xe →
      Tk (cxOf (L2.CX P w) P w K mg base N qual (defScope st) f cdv A outer s H E) (WE' mg E) → PSs (cxOf (L2.CX P w) P w K mg base N qual (defScope st) f cdv A outer s H E) (defBody st) (tsOf K (WE' mg E) b)) :
    FnOk P w K mg base (L2.CX P w) (k + 1) f fd ps (spS K mg ps.length (callI ps.length N.length b)) := (fn_okS F S hl hbody).imp fun vs H Q E ⟨G, Ω, ds, h1, h2, h3, h4, h5, m⟩ => by
  refine ⟨G, Ω, ds, h1, h2, h3, h4, h5, ?_⟩
  rcases callI_S (n := ps.length) (N := N.length) (b := b) (Ω := Ω) (ds := ds) with e | e
  · rw [e] at m; exact m.elim
  · rw [e] at m; exact m
section
variable {x qual cls : Str} {st : Stmt} {f C : Addr} {fd : FuncData} {ps : List Str} {k n N : Nat} {b : Ev → O}
theorem def_okS (F : Fun K x qual st f fd) (g : mg x = some (.ref f)) (h : FnOk P w K mg base (L2.CX P w) k f fd ps (spS K mg n (callS n N b)))
    (hb : ∀ (kV doc pm : Value) (an : Option Addr) (cdv ct : Value) (us : List Value), us.length = ps.length → bindArgs (PySem.W.fnOf x qual (defArgs st) (defBody st) (defScope st) .none kV doc pm an cdv ct) ⟨us, []⟩ = pure (ps.zip us)) :
    DefS P w K mg base k x n (callS n N b) := ⟨⟨f, fd, ps, h, g, F.kp, F.binds hb⟩, callS_len⟩
theorem def_okP (F : Fun K x qual st f fd) (g : mg x = some (.ref f)) (h : FnOk P w K mg base (L2.CX P w) k f fd ps (spP K mg n (callP n N b)))
    (hb : ∀ (kV doc pm : Value) (an : Option Addr) (cdv ct : Value) (us : List Value), us.length = ps.length → bindArgs (PySem.W.fnOf x qual (defArgs st) (defBody st) (defScope st) .none kV doc pm an cdv ct) ⟨us, []⟩ = pure (ps.zip us)) :
    DefP P w K mg base k x n (callP n N b) := ⟨⟨f, fd, ps, h, g, F.kp, F.binds hb⟩, callP_len⟩
theorem meth_okS (F : Fun K x qual st f fd) (hc : PySem.W.nsIn K mainGlobals cls = some (some (.ref C))) (c : Cls K C) (me : Meth K C x f) (h : FnOk P w K mg base (L2.CX P w) k f fd ps (spS K mg n (callS n N b)))
    (hb : ∀ (kV doc pm : Value) (an : Option Addr) (cdv ct : Value) (us : List Value), us.length = ps.length → bindArgs (PySem.W.fnOf x qual (defArgs st) (defBody st) (defScope st) .none kV doc pm an cdv ct) ⟨us, []⟩ = pure (ps.zip us)) :
    MethS P w K mg base k cls x n (callS n N b) := ⟨⟨C, f, fd, ps, h, hc, c, me, F.binds hb⟩, callS_len⟩
theorem meth_okP (F : Fun K x qual st f fd) (hc : PySem.W.nsIn K mainGlobals cls = some (some (.ref C))) (c : Cls K C) (me : Meth K C x f) (h : FnOk P w K mg base (L2.CX P w) k f fd ps (spP K mg n (callP n N b)))
    (hb : ∀ (kV doc pm : Value) (an : Option Addr) (cdv ct : Value) (us : List Value), us.length = ps.length → bindArgs (PySem.W.fnOf x qual (defArgs st) (defBody st) (defScope st) .none kV doc pm an cdv ct) ⟨us, []⟩ = pure (ps.zip us)) :
    MethP P w K mg base k cls x n (callP n N b) := ⟨⟨C, f, fd, ps, h, hc, c, me, F.binds hb⟩, callP_len⟩
theorem make_ok (F : Fun K x qual st f fd) (hc : PySem.W.nsIn K mainGlobals cls = some (some (.ref C))) (g : mg cls = some (.ref C)) (M : Mk K C f) (h : FnOk P w K mg base (L2.CX P w) k f fd ps (spS K mg n (callI n N b)))
    (hb : ∀ (kV doc pm : Value) (an : Option Addr) (cdv ct : Value) (us : List Value), us.length = ps.length → bindArgs (PySem.W.fnOf x qual (defArgs st) (defBody st) (defScope st) .none kV doc pm an cdv ct) ⟨us, []⟩ = pure (ps.zip us)) :
    MakeOk P w K mg base k cls n (callI n N b) := ⟨⟨C, f, fd, ps, h, hc, g, M, F.binds hb⟩, callI_len, callI_non⟩
end
theorem obs_nil {G H : Hp} (n : ∀ i p, G p ≠ some (mark i)) : ObsOk K G H [] := ⟨fun i ob e => by simp at e, fun i p e => absurd e (n i p)⟩
theorem strip_mark {H : Hp} : ∀ i p, strip H p ≠ some (mark i) := fun i p h => (strip_nt h).2 _ rfl
theorem stripM_mark {H : Hp} {P0 : Addr} : ∀ i p, stripM K P0 H p ≠ some (mark i) := fun i p h => by
  unfold stripM at h
  by_cases e : p = P0
  · subst e
    rw [upd_same] at h
    injection h with h
    unfold mark at h
    injection h with h
    exact absurd (by rw [h]; exact isMk_mark i) (isMk_T (T := tabs K) (ps := (mkT (tabs K)).toArray) (by simp))
  · rw [upd_ne e] at h
    exact strip_mark i p h
theorem law_impS {k : Nat} {f : Addr} {fd : FuncData} {ps : List Str} {F : List Ob → List D → RS} (h : FnOk P w K mg base (L2.CX P w) k f fd ps (spS K mg 1 F)) (t : ∀ ns : List Int, ns.length ≤ 63 → ∃ Ω, F [] [.scr ns] = .ok (.bl true) Ω) (nl : lams = [] := by rfl) :
    FnOk P w K mg base (L2.CX P w) k f fd ps (spEnd K) := h.imp fun vs H Q E ⟨a, ns, e, hl, hs, q⟩ => by
  subst e
  refine ⟨strip H, [], [.scr ns], strip_sub H, tabs_nil nl, obs_nil strip_mark, .cons (.scr (strip_seq hs)) .nil, rfl, ?_⟩
  obtain ⟨Ω, e⟩ := t ns hl
  rw [e]
  intro v G' H' g o r
  cases r with
  | bl => exact q H'
theorem law_impTS {k : Nat} {f : Addr} {fd : FuncData} {ps : List Str} {F : List Ob → List D → RS} {P0 : Addr} {pl : List Addr} (h : FnOk P w K mg base (L2.CX P w) k f fd ps (spS K mg 1 F)) (t : ∀ ns : List Int, ns.length ≤ 63 → ∃ Ω, F [] [.scr ns] = .ok (.bl true) Ω)
    (hm : ∃ q, (P0, q) ∈ tabs K) (hp : ∀ p ∈ tabs K, p.1 ∈ pl) : FnOk P w K mg base (L2.CX P w) k f fd ps (spEndT K pl) := h.imp fun vs H Q E ⟨ht, a, ns, e, hl, hs, q⟩ => by
  subst e
  have ht' : ∀ p ∈ tabs K, H p.1 = some (.tbl #[]) := fun p h => ht _ (hp p h)
  obtain ⟨qq, hq⟩ := hm
  refine ⟨stripM K P0 H, [], [.scr ns], stripM_sub ⟨qq, hq⟩ ht', fun _ => ⟨P0, upd_same⟩, obs_nil stripM_mark, .cons (.scr (stripM_seq (ht' _ hq) hs)) .nil, rfl, ?_⟩
  obtain ⟨Ω, e⟩ := t ns hl
  rw [e]
  intro v G' H' g o r
  cases r with
  | bl => exact q H'
end Pd

/-! Pd34: effects in and, or, lists, appends. -/
namespace Pd
open PySem PySem.Spec L2
variable {K : PySem.W.Frag}
def xVAnd (f g : Ev → RX D) : Ev → RX D := fun ρ => (f ρ).bind fun d ρ1 => match d with
  | .bl b => if b then g ρ1 else .ok (.bl false) ρ1
  | _ => .bad
def xVOr (f g : Ev → RX D) : Ev → RX D := fun ρ => (f ρ).bind fun d ρ1 => match d with
  | .bl b => if b then .ok (.bl true) ρ1 else g ρ1
  | _ => .bad
def xLst (f : Ev → RX (List D)) : Ev → RX D := fun ρ => (f ρ).bind fun ds ρ1 => if szOk ds.length then .ok (.lst ds) ρ1 else .bad
def sSetXL (i : Nat) (f : Ev → RX (List D)) : Ev → O := fun ρ => (f ρ).outX fun ds ρ1 => if szOk ds.length then .nx (ρ1.set i (.own (.lst ds))) else .bad
def sAppX (i : Nat) (f : Ev → RX D) : Ev → O := fun ρ => match ownL ρ i with
  | some _ => (f ρ).outX fun d ρ1 => match ownL ρ1 i with
    | some ds => if szOk (ds.length + 1) then .nx (ρ1.set i (.own (.lst (ds ++ [d])))) else .bad
    | none => .bad
  | none => .bad
section
variable {X : Cx} {W : WN} {a b e : Expr} {rest es : List Expr} {fa fb f : Ev → RX D} {x : Str} {pos apos cpos xpos : Pos}
theorem px_one {op} (ha : PE X a (xsOf K W fa)) : PE X (.BoolOp op [a] pos) (xsOf K W fa) := pe_one ha
theorem px_and (ha : PE X a (xsOf K W fa)) (hb : PE X (.BoolOp .And (b :: rest) pos) (xsOf K W fb)) : PE X (.BoolOp .And (a :: b :: rest) pos) (xsOf K W (xVAnd fa fb)) := pe_imp (pe_and ha hb) fun σ H Q ⟨B, G, ρ, S, m⟩ => by
  refine ⟨B, G, ρ, S, ?_⟩
  unfold xVAnd at m
  cases e : fa ρ with
  | ok d ρ1 =>
    simp only [e, RX.bind_ok] at m
    cases d with
    | bl k =>
      rintro v G' H' S' s' r
      cases r
      refine ⟨k, rfl, ?_⟩
      cases k with
      | true =>
        simp only [if_true] at m
        rw [if_pos rfl]
        refine ⟨B, G', ρ1, S', ?_⟩
        cases e2 : fb ρ1 with
        | ok k2 ρ2 => rw [e2] at m; exact fun v G2 H2 S2 s2 r2 => m v G2 H2 S2 (s'.trans s2) r2
        | exc c ρ2 => rw [e2] at m; exact fun G2 H2 S2 s2 => m G2 H2 S2 (s'.trans s2)
        | bad => rw [e2] at m; exact m
      | false =>
        simp only [Bool.false_eq_true, if_false] at m
        rw [if_neg Bool.false_ne_true]
        exact m _ G' H' S' s' (.bl false)
    | _ => exact m.elim
  | exc c ρ1 => simp only [e, RX.bind_exc] at m; exact m
  | bad => simp only [e, RX.bind_bad] at m
theorem px_or (ha : PE X a (xsOf K W fa)) (hb : PE X (.BoolOp .Or (b :: rest) pos) (xsOf K W fb)) : PE X (.BoolOp .Or (a :: b :: rest) pos) (xsOf K W (xVOr fa fb)) := pe_imp (pe_or ha hb) fun σ H Q ⟨B, G, ρ, S, m⟩ => by
  refine ⟨B, G, ρ, S, ?_⟩
  unfold xVOr at m
  cases e : fa ρ with
  | ok d ρ1 =>
    simp only [e, RX.bind_ok] at m
    cases d with
    | bl k =>
      rintro v G' H' S' s' r
      cases r
      refine ⟨k, rfl, ?_⟩
      cases k with
      | false =>
        simp only [Bool.false_eq_true, if_false] at m
        rw [if_neg Bool.false_ne_true]
        refine ⟨B, G', ρ1, S', ?_⟩
        cases e2 : fb ρ1 with
        | ok k2 ρ2 => rw [e2] at m; exact fun v G2 H2 S2 s2 r2 => m v G2 H2 S2 (s'.trans s2) r2
        | exc c ρ2 => rw [e2] at m; exact fun G2 H2 S2 s2 => m G2 H2 S2 (s'.trans s2)
        | bad => rw [e2] at m; exact m
      | true =>
        simp only [if_true] at m
        rw [if_pos rfl]
        exact m _ G' H' S' s' (.bl true)
    | _ => exact m.elim
  | exc c ρ1 => simp only [e, RX.bind_exc] at m; exact m
  | bad => simp only [e, RX.bind_bad] at m
theorem px_lst {g : Ev → RX (List D)} (h : PA X es (xaOf K W g)) : PE X (.List es pos) (xsOf K W (xLst g)) := pe_imp (pe_lst h) fun σ H Q ⟨B, G, ρ, S, m⟩ => by
  refine ⟨B, G, ρ, S, ?_⟩
  unfold xLst at m
  cases e : g ρ with
  | ok ds ρ1 =>
    simp only [e, RX.bind_ok] at m
    intro vs G' H' S' s' r
    cases hz : szOk ds.length with
    | false => rw [hz, if_neg Bool.false_ne_true] at m; exact m.elim
    | true =>
      rw [hz, if_pos rfl] at m
      refine ⟨by rw [r.length]; exact szOk_le hz, fun p hp => ?_⟩
      have g := Grow.laid (o := .lst vs) S'.st.sub hp
      exact m _ _ _ (S'.grow g) (s'.trans g.gg) (.lst upd_same (r.mono g.gg))
  | exc c ρ1 => simp only [e, RX.bind_exc] at m; exact m
  | bad => simp only [e, RX.bind_bad] at m
theorem ds_setXL {g : Ev → RX (List D)} {i : Nat} {pos' : Pos} (hN : X.N.Nodup) (hi : X.N[i]? = some x) (hx : Loc X.env.scope x) (h : PA X es (xaOf K W g)) (hs : swapsWith (.List es cpos) (some (.Name x pos')) pos.line X.env = pure false := by rfl) (hf : X.fn x = true ∨ X.env.scope.names.lookup x = some .local := by first | exact .inl rfl | exact .inr rfl | assumption) :
    PS X (.Assign [.Name x pos'] (.List es cpos) pos) (tsOf K W (sSetXL i g)) := ps_imp (ps_set hN hi hx (pe_lst h) hs hf) fun Ed σ H ⟨B, G, ρ, S, m⟩ => by
  refine ⟨B, G, ρ, S, ?_⟩
  unfold sSetXL at m
  cases e : g ρ with
  | ok ds ρ1 =>
    simp only [e, RX.outX_ok] at m
    intro vs G' H' S' s' r
    cases hz : szOk ds.length with
    | false => rw [hz, if_neg Bool.false_ne_true] at m; exact m.elim
    | true =>
      rw [hz, if_pos rfl] at m
      refine ⟨by rw [r.length]; exact szOk_le hz, fun p hp => ?_⟩
      exact m G' _ _ (S'.set (o := true) (.more S'.st.sub hp) ⟨p, rfl, .of hp, S'.st.sub.free hp, vs, upd_same, r⟩) s'
  | exc c ρ1 => simp only [e, RX.outX_exc] at m; exact fun G' H' S' s' => m G' σ H' S' s'
  | bad => simp only [e, RX.outX_bad] at m; exact m
theorem ds_appX (i : Nat) (he : PE X e (xsOf K W f)) (hK : X.K = K := by rfl) (hN : X.N[i]? = some x := by rfl) (hv : Vis X.env.scope x := by first | exact Or.inl rfl | exact Or.inr (Or.inl rfl) | exact Or.inr (Or.inr rfl)) (hd : (x == ("__debug__" : Str)) = false := by decide)
    (hcd : (x == ("__classdict__" : Str)) = false := by decide)
    (hbase : attributeBase (.Name x xpos) "append" X.env (eval (.Name x xpos) X.env) = eval (.Name x xpos) X.env := by rfl)
    (hfew : ((backTo cpos (starEach (e :: []) X.env)).all (fun x => !x.1) && (backToKw cpos (keywordEach [] X.env)).all (fun x => x.1.isSome)
      && decide ((e :: ([] : List Expr)).length + ([] : List Keyword).length + (if ([] : List Keyword).isEmpty then 0 else 1) < 30)) = true := by rfl)
    (hline : (apos.endLine == cpos.line) = true := by rfl) (hs1 : starEach (e :: []) X.env = (false, eval e X.env) :: starEach [] X.env := by rfl) (hplain : (backTo cpos (starEach [] X.env)).any (·.1) = false := by rfl)
    (hs : swapsWith (.Call (.Attribute (.Name x xpos) "append" apos) [e] [] cpos) none pos.line X.env = pure false := by rfl) :
    PS X (.Expr (.Call (.Attribute (.Name x xpos) "append" apos) [e] [] cpos) pos) (tsOf K W (sAppX i f)) := ps_imp (ps_expr (pe_bm PySem.F.plainAttrs_list PySem.F.slot_list_append PySem.F.type_list_append mt_append (pe_var hN hv hd hcd) (pa_cons he pa_nil hs1) hbase hfew hline hs1 hplain) hs) fun E σ H ⟨B, G, ρ, S, m⟩ => by
  subst hK
  unfold sAppX at m
  cases q : ownL ρ i with
  | none => simp only [q] at m; exact m.elim
  | some ds =>
    simp only [q] at m
    have ho := ownL_some q
    obtain ⟨p, hp, gn, vs, hvs, r⟩ := S.st.sl i _ ho
    refine ⟨_, hp, .inl ⟨rfl, vs, .of hvs⟩, ?_⟩
    refine xs_then S m fun d ρ1 v G' H' S' s' rv m' => ?_
    cases q1 : ownL ρ1 i with
    | none => simp only [q1] at m'; exact m'.elim
    | some ds1 =>
      simp only [q1] at m'
      have ho1 := ownL_some q1
      obtain ⟨p', hp', gn', vs', hvs', r'⟩ := S'.st.sl i _ ho1
      rw [hp] at hp'
      cases hp'
      split at m'
      · rename_i hz
        refine ⟨p, vs', v, rfl, rfl, hvs', by rw [r'.length]; exact szOk_lt hz, ?_⟩
        exact m' G' σ _ (S'.mut ho1 hp gn' ⟨_, upd_same, r'.append (.cons rv .nil)⟩) s'
      · exact m'.elim
end
end Pd

/-! Pd35: {k: v}, keys of any kind. -/
namespace Pd
open PySem PySem.Spec L2
variable {K : PySem.W.Frag}
section
variable {prog : Program} {w : World} {A : Around} {E : Value → Shared → Prop} {s : Shared}
theorem subDict1 {k v : Sem Value} {Q : Addr → Shared → Prop}
    (h : wpAny (model prog w) A k (fun kv s1 => wpAny (model prog w) A v (fun vv s2 => wpAny (model prog w) A (dictSet s.heap.objs.size kv vv) (fun _ s3 => Q s.heap.objs.size s3) E s2) E s1) E { s with heap := s.heap.push { cls := .type "dict", data := .dict #[] } }) :
    wpAny (model prog w) A (subDict [(k, v)]) Q E s := by
  unfold subDict
  refine wpAny_bind (wpAny_alloc ?_)
  refine wpAny_bind (wpAny_holding ?_)
  rw [if_pos (by simp)]
  refine wpAny_bind (evalPairs_cons (wpAny_mono h (fun kv s1 h1 => wpAny_mono h1 (fun vv s2 h2 => evalPairs_nil ?_) fun _ _ e => e) fun _ _ e => e))
  refine wpAny_holding ?_
  refine wpAny_bind ?_
  rw [List.forIn_cons]
  refine wpAny_bind (wpAny_bind (wpAny_mono h2 (fun _ s3 h3 => wpAny_pure ?_) fun _ _ e => e))
  dsimp only
  rw [List.forIn_nil]
  exact wpAny_pure (wpAny_pure (wpAny_pure h3))
theorem disp1 {env : Env} {ke ve : Expr} {pos : Pos} {Q : Value → Shared → Prop}
    (h : wpAny (model prog w) A (eval ke env) (fun kv s1 => wpAny (model prog w) A (eval ve env) (fun vv s2 => wpAny (model prog w) A (dictSet s.heap.objs.size kv vv) (fun _ s3 => Q (.ref s.heap.objs.size) s3) E s2) E s1) E { s with heap := s.heap.push { cls := .type "dict", data := .dict #[] } }) :
    wpAny (model prog w) A (eval (.Dict [some ke] [ve] pos) env) Q E s := by
  rw [arm_eval_Dict, zip_pairTrees [some ke] [ve] env pos rfl rfl, dictDisplay_pairs _ (by simp [pairTrees]) (by simp [pairTrees])]
  refine wpAny_bind (wpAny_standAt (wpAny_bind (subDict1 ?_)))
  refine wpAny_mono h (fun kv s1 h1 => wpAny_bind (wpAny_mono h1 (fun vv s2 h2 => wpAny_bind (wpAny_standAt (wpAny_pure (wpAny_mono h2 (fun _ s3 h3 => wpAny_pure h3) fun _ _ e => e)))) fun _ _ e => e)) fun _ _ e => e
end
section
variable {X : Cx} {pins : List (Addr × Obj)} {σ : L2.St} {H H' : Hp} {s : Shared} {a : Addr} {y v : V} {u r : Value} {A : Around} {E : Value → Shared → Prop}
theorem d_dictSet {Q : Unit → Shared → Prop} (hu : A.units + 1 < cLine) (I : Inv X pins σ H s) (g : DPut H a y v H') (ry : RelV y u) (rv : RelV v r) (h : ∀ s', Inv X pins σ H' s' → Q () s') :
    wpAny (model X.prog X.w) A (dictSet a u r) Q E s := by
  rcases g with ⟨kvs, k, e, ey, l, eH⟩ | ⟨kvs, k, b, e, ey, eb, l, eH⟩
  · subst ey eH
    obtain ⟨z, hd, vs, rel, dd⟩ := dk_of I.hok e
    have hz : vs.length ≤ sizeLine := by rw [← rel.length]; exact z
    have hl : (putK kvs k v).length ≤ sizeLine := by have := length_putK kvs k v; omega
    refine wpAny_dictSet_pairs (hsz := hz) (kV_is ry) dd fun h' dd' hs => h _ ?_
    have he : ∃ q, h'.get? a = some q := let ⟨q, _, _, hq, _⟩ := dd'; ⟨q, hq⟩
    exact d_write I (by rw [e]; exact True.intro) hs he (dk_new hl hd (rel.put k rv) dd')
  · subst ey eH
    cases (show u = Value.ref b from ry)
    obtain ⟨z, hd, xs, rel, dd⟩ := dt_of I.hok e
    have hz : xs.length ≤ sizeLine := by rw [← Paired.length rel]; exact z
    have hl : (putK kvs k v).length ≤ sizeLine := by have := length_putK kvs k v; omega
    refine wpAny_dictSet_heap (hsz := hz) (Nat.lt_of_succ_lt hu) (key_of I.hok eb) dd fun h' dd' hs => h _ ?_
    obtain ⟨q, es, ep, hq, h2, h3, h4, _, h5⟩ := dd'
    refine d_write I (by rw [e]; exact True.intro) hs ⟨q, hq⟩ ⟨hl, hd, _, (rel.put k eb rv).keeps fun c ys ec => ?_, q, es, ep, hq, h2, h3, h4, h5⟩
    rw [upd_ne (ne_of ec e (fun z => nomatch z))]
    exact ec
end
def emptyD (t : Bool) : HO := if t then .dT [] else .dK []
def tDisp1 (t : Bool) (tk tv : TE) : TE := fun σ H Q => ∀ p, H p = none → tk σ (upd H p (emptyD t)) fun y H1 => tv σ H1 fun v H2 => ∃ H3, DPut H2 p y v H3 ∧ Q (.ref p) H3
theorem pe_disp1 {X : Cx} {pos : Pos} {ke ve : Expr} {tk tv : TE} (t : Bool) (hu : X.A.units + 1 < cLine) (hk : PE X ke tk) (hv : PE X ve tv) : PE X (.Dict [some ke] [ve] pos) (tDisp1 t tk tv) := by
  refine ⟨fun pins s σ H Q I q => ?_⟩
  have hn := I.hok.fresh (Nat.le_refl s.heap.objs.size)
  have I1 : Inv X pins σ (upd H s.heap.objs.size (emptyD t)) { s with heap := s.heap.push { cls := .type "dict", data := .dict #[] } } := by
    cases t with
    | true => exact I.laid (a := s.heap.objs.size) (o := .dT []) (t' := s.toks) (fun _ _ q => Heap.get?_push_of_some _ q) (Nat.le_refl _) (dt_empty s.heap I.big)
    | false => exact I.laid (a := s.heap.objs.size) (o := .dK []) (t' := s.toks) (fun _ _ q => Heap.get?_push_of_some _ q) (Nat.le_refl _) (dk_empty s.heap I.big)
  refine disp1 (thn (hk.run pins _ σ _ _ I1 (q _ hn)) fun u s1 w1 => ?_)
  obtain ⟨y, H1, I1', ry, q1⟩ := w1
  refine thn (hv.run pins s1 σ H1 _ I1' q1) fun r s2 w2 => ?_
  obtain ⟨v, H2, I2, rv, H3, dp, q3⟩ := w2
  exact d_dictSet hu I2 dp ry rv fun s3 I3 => ⟨V.ref s.heap.objs.size, H3, I3, rfl, q3⟩
def eDisp1 (t : Bool) (fk fv : Ev → R D) : Ev → R D := fun ρ => (fk ρ).bind fun k => (fv ρ).bind fun v => if okKey t k then .ok (.dct t [(k, v)]) else .bad
section
variable {X : Cx} {W : WN}
theorem de_disp1 (t : Bool) {pos : Pos} {ke ve : Expr} {fk fv : Ev → R D} {k : Nat} (hr : Room k X.A) (hk : PE X ke (exOf K .w W fk)) (hv : PE X ve (exOf K .v W fv)) : PE X (.Dict [some ke] [ve] pos) (exOf K .o W (eDisp1 t fk fv)) :=
  pe_imp (pe_disp1 t (hu_of hr) hk hv) fun σ H Q ⟨G, ρ, S, m⟩ => by
  intro p hp
  have hfr : Fr H p := .of hp
  have gp : G p = none := S.sub.free hp
  have g0 : Grow G H G (upd H p (emptyD t)) := .more S.sub hp
  have w0 : ∀ G', OwnAt K G' (upd H p (emptyD t)) p (.dct t []) := fun G' => by
    cases t with
    | true => exact ⟨[], upd_same, .nil⟩
    | false => exact ⟨[], upd_same, .nil⟩
  have io : isOwn (emptyD t) := by cases t <;> trivial
  refine ⟨G, ρ, S.grow g0, ?_⟩
  unfold eDisp1 at m
  cases e1 : fk ρ with
  | bad => simp only [e1, R.bind_bad] at m
  | exc c => simp only [e1, R.bind_exc] at m; exact fun G' H' g => m G' H' (g0.trans g)
  | ok kd =>
    simp only [e1, R.bind_ok] at m
    intro y G1 H1 g1 r1
    refine ⟨G1, ρ, (S.grow g0).grow g1, ?_⟩
    cases e2 : fv ρ with
    | bad => simp only [e2, R.bind_bad] at m
    | exc c => simp only [e2, R.bind_exc] at m; exact fun G' H' g => m G' H' ((g0.trans g1).trans g)
    | ok vd =>
      simp only [e2, R.bind_ok] at m
      intro v G2 H2 g2 r2
      cases hz : okKey t kd with
      | false => rw [hz, if_neg Bool.false_ne_true] at m; exact m.elim
      | true =>
        rw [hz, if_pos rfl] at m
        have g12 := g1.trans g2
        have hp2 : H2 p = some (emptyD t) := g12.hh _ _ upd_same io.nt
        have gp2 : G2 p = none := g12.free gp upd_same io
        have w2 : OwnAt K G2 H2 p (.dct t []) := (w0 G).mono g12.gg g12.hh
        have wk : WRep K G2 H2 y kd := WRep.grow g2 r1
        obtain ⟨o', dp, w3⟩ := dput_of g2.gh w2 wk hz (by rfl) r2
        have gg := g0.trans g12
        refine ⟨_, dp, m _ G2 _ (gg.mutd hfr gp2 hp2 io) ⟨p, rfl, hfr, gp2, ?_⟩⟩
        have pe : putD ([] : List (D × D)) kd vd = [(kd, vd)] := rfl
        rw [pe] at w3
        exact w3
end
end Pd

/-! Pd36: sorted(d.items()), d a dict of texts and ints. -/
namespace Pd
open PySem PySem.Spec L2 PySem.W PySem.Calls PyProof.Rows
variable {K : PySem.W.Frag}
section
variable {X : Cx}
def rItemsK : V → List V → Hp → VK → Prop := fun x xs H Q => ∃ (a : Addr) (kvs : List (Key × V)), x = .ref a ∧ xs = [] ∧ H a = some (.dK kvs) ∧ ∀ p, H p = none → Q (.ref p) (upd H p (DX.itemsO p a))
theorem mt_itemsK : MtR X "dict.items" rItemsK := by
  intro pins s σ H x xs v us Q I rx rxs h
  obtain ⟨a, kvs, rfl, rfl, ha, q⟩ := h
  cases rx
  cases rxs
  obtain ⟨z, hd, xs', rel, o, es, ep, ho, hx, hdat, _⟩ := dk_of I.hok ha
  refine DT.callItems (es := es) (ep := ep) hd ⟨o, ho, hx, hdat⟩ ?_
  have hf : H s.heap.objs.size = none := I.hok.fresh (Nat.le_refl _)
  exact ⟨.ref s.heap.objs.size, upd H s.heap.objs.size (DX.itemsO s.heap.objs.size a), I.laid (t' := s.toks) (fun b u e => Heap.get?_push_of_some _ e) (Nat.le_refl _) (DX.itemsO_ok (Heap.get?_push_size _ rfl)), rfl, q _ hf⟩
abbrev entS (e : Str × Int) : Key × V := (Sum.inr e.1, V.int e.2)
def encS (e : Str × Int) : PyData := .tuple [.str e.1, .int e.2]
def rSortK : List V → Hp → VK → Prop := fun vs H Q => ∃ (p a : Addr) (ks : List (Str × Int)), vs = [.ref p] ∧ H p = some (DX.itemsO p a) ∧ H a = some (.dK (ks.map entS)) ∧
  ∀ (H' : Hp) (l : Addr) (ps : List (Addr × Str × Int)), (∀ b o, H b = some o → H' b = some o) → ps.map (·.2) = ks.mergeSort (dataLe false encS) → (ps.map (·.1)).Nodup → H l = none → H' l = some (.lst (ps.map fun z => V.ref z.1)) →
    (∀ z ∈ ps, H z.1 = none ∧ H' z.1 = some (.tup [.str z.2.1, .int z.2.2])) → Q (.ref l) H'
theorem pairs_at {prog : Program} {w : World} : ∀ {es : List DictEntry} {vs : List (Key × Value)} {j : Nat} {e : DictEntry}, Pairs (mixKind prog w) es vs → es[j]? = some e → ∃ kv, vs[j]? = some kv ∧ (mixKind prog w).is kv.1 e.key = true ∧ e.val = kv.2
  | _, _, _, _, .nil, h => by simp at h
  | _, _, 0, e, .cons (kv := kv) h1 h2 _, h => by
    simp only [List.getElem?_cons_zero, Option.some.injEq] at h
    subst h
    exact ⟨kv, rfl, h1, h2⟩
  | _, _, j + 1, e, .cons _ _ t, h => by
    simp only [List.getElem?_cons_succ] at h
    obtain ⟨kv, q⟩ := pairs_at t h
    exact ⟨kv, by simpa using q.1, q.2⟩
theorem eachRef {β : Type} {f : β → Addr} : ∀ {out : List Value} {zs : List β}, EachIs (fun v z => v = Value.ref (f z)) out zs → out = zs.map fun z => Value.ref (f z)
  | _, _, .nil => rfl
  | _, _, .cons h t => by rw [h, eachRef t]; rfl
theorem refEach {β : Type} {f : β → Addr} : ∀ (zs : List β), EachIs (fun v z => v = Value.ref (f z)) (zs.map fun z => Value.ref (f z)) zs
  | [] => .nil
  | _ :: zs => .cons rfl (refEach zs)
theorem each_of {β : Type} {R : Value → β → Prop} {f : β → Value} : ∀ (zs : List β), (∀ z ∈ zs, R (f z) z) → EachIs R (zs.map f) zs
  | [], _ => .nil
  | z :: zs, h => .cons (h z (.head _)) (each_of zs fun y hy => h y (.tail _ hy))
theorem cr_sortK (hc : X.calm = true) (hu : X.A.units + 64 < cLine) : CallR X (.builtin "sorted") rSortK := by
  intro pins s σ H xs us Q I r h
  obtain ⟨p, a, ks, rfl, hp, ha, q⟩ := h
  obtain rfl := Vals.ref1 r
  have view : s.heap.IsItemsView p a := (show ObjOk X.prog X.w H s.heap p (DX.itemsO p a) from I.hok p _ hp).1
  obtain ⟨z, hd, xs', rel, o, es, ep, ho, hx, hdat, hes, his, hn⟩ := dk_of I.hok ha
  have l1 : (ks.map entS).length = xs'.length := Paired.length rel
  rw [List.length_map] at z l1
  have l2 : es.size = xs'.length := by rw [← Array.length_toList]; exact his.length
  have hh : X.A.handled = none := I.ok.hd hc
  refine DT.sortedI (es := es) (ep := ep) hh view ⟨o, ho, hx, hdat⟩ (by omega) fun h' tk as hk hlt hl hG => ?_
  have lak : as.length = ks.length := by omega
  have nd : as.Nodup := List.Pairwise.imp (fun h => Nat.ne_of_lt h) hG.rise
  have pr : ∀ (j : Nat) (b : Addr), as[j]? = some b → ∃ (e : Str × Int) (t u : Tok), ks[j]? = some e ∧ h'.get? b = some { cls := .type "tuple", data := .seq #[Value.str e.1 t, Value.int e.2 u] } := by
    intro j b hj
    obtain ⟨en, he, hg⟩ := hG.pairs j b hj
    rw [← Array.getElem?_toList] at he
    obtain ⟨kv, hkv, k1, k2⟩ := pairs_at his he
    obtain ⟨e0, he0, r1, r2⟩ := DX.pget rel hkv
    rw [List.getElem?_map] at he0
    cases hkj : ks[j]? with
    | none => rw [hkj] at he0; cases he0
    | some e =>
      rw [hkj] at he0
      have ee : entS e = e0 := Option.some.inj he0
      rw [← ee] at r1 r2
      have r1' : (Sum.inr e.1 : Key) = kv.1 := r1
      obtain ⟨u, hu2⟩ := (show ∃ t, kv.2 = Value.int e.2 t from r2)
      obtain ⟨t, ht⟩ : ∃ t, en.key = Value.str e.1 t := by
        rw [← r1'] at k1
        exact (relV_key (k := Sum.inr e.1) k1)
      refine ⟨e, t, u, rfl, ?_⟩
      rw [hg, ht, k2, hu2]
  have hob : (h'.push { cls := .type "list", data := .seq (as.map Value.ref).toArray }).get? h'.objs.size = some (seqObj "list" (as.map Value.ref).toArray 0) := Heap.get?_push_size _ rfl
  have kb : ∀ b o, s.heap.get? b = some o → (h'.push { cls := .type "list", data := .seq (as.map Value.ref).toArray }).get? b = some o := fun b o e => Heap.get?_push_of_some _ (hk b o e)
  have ne0 : ∀ b o, h'.get? b = some o → b ≠ h'.objs.size := fun b o e => Nat.ne_of_lt (Heap.lt_size e)
  generalize hh2 : h'.push { cls := .type "list", data := .seq (as.map Value.ref).toArray } = h2 at hob kb ⊢
  have ka : ∀ b o, h'.get? b = some o → h2.get? b = some o := fun b o e => by rw [← hh2]; exact Heap.get?_push_of_some _ e
  have idx : ∀ z ∈ as.zip ks, ∃ j : Nat, as[j]? = some z.1 ∧ ks[j]? = some z.2 := by
    intro z' hz'
    obtain ⟨j, hj⟩ := List.mem_iff_getElem?.mp hz'
    exact ⟨j, List.getElem?_zip_eq_some.mp hj⟩
  have prz : ∀ z ∈ as.zip ks, ∃ (t u : Tok), h'.get? z.1 = some { cls := .type "tuple", data := .seq #[Value.str z.2.1 t, Value.int z.2.2 u] } := by
    intro z hz
    obtain ⟨j, j1, j2⟩ := idx z hz
    obtain ⟨e, t, u, e1', hg⟩ := pr j _ j1
    have ee : e = z.2 := Option.some.inj (e1'.symm.trans j2)
    rw [ee] at hg
    exact ⟨t, u, hg⟩
  have eas : as.map Value.ref = (as.zip ks).map fun z => Value.ref z.1 := by
    have m2 : (as.zip ks).map (·.1) = as := List.map_fst_zip (by rw [lak]; exact Nat.le_refl _)
    have m3 : (as.zip ks).map (fun z => Value.ref z.1) = ((as.zip ks).map (·.1)).map Value.ref := by rw [List.map_map]; rfl
    rw [m3, m2]
  have lz : (as.zip ks).length = ks.length := by rw [List.length_zip, lak, Nat.min_self]
  refine list_sort_data (s := { s with heap := h2, toks := tk }) (bs := as.zip ks) (enc := fun z : Addr × Str × Int => encS z.2) (R := fun v z => v = Value.ref z.1 ) (vs := as.map Value.ref) hob (by rw [eas]; exact refEach _) ?_ ?_ ?_ (by rw [lz]; exact z) ?_ fun out lo eo => ?_
  · rw [eas]
    refine each_of _ fun z hz => ?_
    obtain ⟨t, u, hg⟩ := prz z hz
    exact ⟨[], .tuple (ka _ _ hg) rfl rfl (.cons (.str _ _) (.cons (.int _ _) .nil)), List.not_mem_nil⟩
  · exact AllAlike.of fun b b' => by simp [encS, alike, alikeAll]
  · exact Sortable.tuples fun b => ⟨_, _, rfl⟩
  · intro b _
    show X.A.units + 1 + 1 + (encS b.2).depth < cLine
    simp only [encS, PyData.depth, PyData.depthAll]
    omega
  · have eo' := eachRef eo
    generalize hzs : (as.zip ks).mergeSort (dataLe false fun z : Addr × Str × Int => encS z.2) = zs at eo'
    have pz : zs.Perm (as.zip ks) := by rw [← hzs]; exact List.mergeSort_perm _ _
    have ndz : (zs.map (·.1)).Nodup := by
      have m2 : (as.zip ks).map (·.1) = as := List.map_fst_zip (by rw [lak]; exact Nat.le_refl _)
      have pm := pz.map (·.1)
      rw [m2] at pm
      exact pm.nodup_iff.mpr nd
    have hm : zs.map (·.2) = ks.mergeSort (dataLe false encS) := by
      have m4 := sort_maps (r := dataLe false fun z : Addr × Str × Int => encS z.2) (s := dataLe false encS) (fun z : Addr × Str × Int => z.2) (l := as.zip ks) (fun a _ b _ => rfl)
      have m5 : (as.zip ks).map (fun z => z.2) = ks := List.map_snd_zip (by rw [lak]; exact Nat.le_refl _)
      rw [← hzs, m4, m5]
    have kF : ∀ b o, b ≠ h'.objs.size → h2.get? b = some o → (sortedHeap h2 h'.objs.size (as.map Value.ref) out.toArray).get? b = some o := fun b o hb e => (PyProof.Rows.sortedHeap_old hb (Heap.lt_size e)).trans e
    have kS : ∀ b o, s.heap.get? b = some o → (sortedHeap h2 h'.objs.size (as.map Value.ref) out.toArray).get? b = some o := fun b o e => kF b o (ne0 _ _ (hk b o e)) (kb b o e)
    obtain ⟨eF, heF⟩ := PyProof.Rows.sortedHeap_at (vs := as.map Value.ref) (out := out.toArray) hob
    have I1 : Inv X pins σ H { s with heap := sortedHeap h2 h'.objs.size (as.map Value.ref) out.toArray, toks := tk } := I.kept (t' := tk) kS
    have hn0 : H h'.objs.size = none := I.hok.fresh (Nat.le_of_lt hlt)
    have hlen : (zs.map fun z => V.ref z.1).length ≤ sizeLine := by rw [List.length_map, pz.length_eq, lz]; exact z
    have rv : Vals (zs.map fun z => V.ref z.1) out := by
      rw [eo']
      exact vals_maps (fun z : Addr × Str × Int => V.ref z.1) (fun z => Value.ref z.1) zs fun _ _ => rfl
    have I2 : Inv X pins σ (upd H h'.objs.size (.lst (zs.map fun z => V.ref z.1))) { s with heap := sortedHeap h2 h'.objs.size (as.map Value.ref) out.toArray, toks := tk } :=
      I1.take (h' := sortedHeap h2 h'.objs.size (as.map Value.ref) out.toArray) (t' := tk) (fun b ob _ e => e) (I.fpOk (Nat.le_of_lt hlt) hn0) ⟨hlen, out, eF, rv, heF⟩
    have fr : ∀ b ∈ as, H b = none := fun b hb => I.hok.fresh (Nat.le_of_lt (hG.above b hb))
    obtain ⟨H2, I3, g, qt⟩ := DX.takeT (P := fun b vs => ∃ (j : Nat) (e : Str × Int), as[j]? = some b ∧ ks[j]? = some e ∧ vs = [.str e.1, .int e.2]) I as _ I2 nd fun b hb => by
      obtain ⟨j, hj⟩ := List.mem_iff_getElem?.mp hb
      obtain ⟨e, t, u, he, hg⟩ := pr j b hj
      refine ⟨Nat.le_of_lt (hG.above b hb), ?_, [.str e.1, .int e.2], ⟨j, e, hj, he, rfl⟩, fun H3 => ⟨(by rw [sizeLine_eq]; show 2 ≤ 16777216; omega), [Value.str e.1 t, Value.int e.2 u], .cons ⟨t, rfl⟩ (.cons ⟨u, rfl⟩ .nil), ⟨_, kF _ _ (ne0 _ _ hg) (ka _ _ hg), rfl, 0, rfl⟩⟩⟩
      rw [upd_ne (ne0 _ _ hg)]
      exact fr b hb
    have gr : ∀ b o, H b = some o → H2 b = some o := fun b o e => g b o (by rw [upd_ne (ne_of_none e hn0)]; exact e)
    refine ⟨.ref h'.objs.size, H2, I3, rfl, q H2 h'.objs.size zs gr hm ndz hn0 (g _ _ upd_same) fun z' hz' => ?_⟩
    obtain ⟨i, i1, i2⟩ := idx z' (pz.mem_iff.mp hz')
    obtain ⟨vs, ⟨j, e, j1, j2, ev⟩, hH⟩ := qt z'.1 (List.mem_of_getElem? i1)
    have eij : i = j := (List.getElem?_inj (List.getElem?_eq_some_iff.mp i1).1 nd).mp (i1.trans j1.symm)
    subst eij
    have ee : e = z'.2 := Option.some.inj (j2.symm.trans i2)
    rw [ev, ee] at hH
    exact ⟨fr _ (List.mem_of_getElem? i1), hH⟩
end
/-! ### as readings -/
def siD : List (D × D) → Option (List (Str × Int))
  | [] => some []
  | (.str x, .int i) :: ds => (siD ds).map ((x, i) :: ·)
  | _ :: _ => none
def sD (e : Str × Int) : D := .tup [.str e.1, .int e.2]
def sortItemsD : D → Option D
  | .dct false kvs => (siD kvs).map fun ks => .lst ((ks.mergeSort (dataLe false encS)).map sD)
  | _ => none
theorem si_rep {G : Hp} : ∀ {ks : List (Key × V)} {kvs : List (D × D)} {es : List (Str × Int)}, RepK K G ks kvs → siD kvs = some es → ks = es.map entS
  | _, _, _, .nil, h => by cases h; rfl
  | _, _, _, .cons (k := k) (d := d) (kvs := kvs) h r, q => by
    cases k with
    | inl i => simp [siD, kD] at q
    | inr x =>
      cases d with
      | int i =>
        cases h
        cases e : siD kvs with
        | none => simp [siD, kD, e] at q
        | some es =>
          simp [siD, kD, e] at q
          subst q
          rw [si_rep r e]
          rfl
      | _ => simp [siD, kD] at q
theorem tups_grow {G H H' : Hp} : ∀ (ps : List (Addr × Str × Int)) (G1 : Hp), Grow G H G1 H' → (ps.map (·.1)).Nodup → (∀ z ∈ ps, H z.1 = none ∧ G1 z.1 = none ∧ H' z.1 = some (.tup [.str z.2.1, .int z.2.2])) →
    ∃ G2, Grow G H G2 H' ∧ (∀ b, b ∉ ps.map (·.1) → G2 b = G1 b) ∧ RepL K G2 (ps.map fun z => V.ref z.1) (ps.map fun z => sD z.2)
  | [], G1, g, _, _ => ⟨G1, g, fun _ _ => rfl, .nil⟩
  | z :: ps, G1, g, hn, h => by
    rw [List.map_cons, List.nodup_cons] at hn
    obtain ⟨h1, h2, h3⟩ := h z (.head _)
    have g1 := g.frozen (Fr.of h1) h3 (by intro _ q; cases q) h2
    obtain ⟨G2, g2, ho, r⟩ := tups_grow ps _ g1 hn.2 fun y hy => by
      obtain ⟨k1, k2, k3⟩ := h y (.tail _ hy)
      refine ⟨k1, ?_, k3⟩
      rw [upd_ne (fun e => hn.1 (by rw [← e]; exact List.mem_map.mpr ⟨y, hy, rfl⟩))]
      exact k2
    refine ⟨G2, g2, fun b hb => ?_, .cons (.tup (xs := [.str z.2.1, .int z.2.2]) ?_ (.cons (.str _) (.cons (.int _) .nil))) r⟩
    · rw [List.map_cons, List.mem_cons, not_or] at hb
      rw [ho b hb.2, upd_ne hb.1]
    · rw [ho z.1 hn.1, upd_same]
theorem ritems_ok {G H : Hp} {x : V} {d : D} {Q : VK} (sub : Sub G H) (wr : WRep K G H x d) (m : ResK K .o G H Q (sortItemsD d)) : tyV K "dict" x H ∧ rItemsK x [] H fun v H1 => rSortK [v] H1 Q := by
  cases d with
  | dct t kvs =>
    cases t with
    | true => exact m.elim
    | false =>
      obtain ⟨a, ks, rfl, ha, rl⟩ := wrep_dK sub wr
      simp only [sortItemsD] at m
      cases e : siD kvs with
      | none => rw [e] at m; exact m.elim
      | some es =>
        rw [e] at m
        simp only [Option.map_some] at m
        have ev := si_rep rl e
        subst ev
        refine ⟨?_, a, _, rfl, rfl, ha, fun p hp => ?_⟩
        · exact .inr (.inr (.inl ⟨rfl, .inl ⟨_, ha⟩⟩))
        refine ⟨p, a, es, rfl, upd_same, by rw [upd_ne (ne_of_none ha hp)]; exact ha, fun H' l ps gr hps nd hl0 hl hz => ?_⟩
        have g1 : Grow G H G (upd H p (DX.itemsO p a)) := .more sub hp
        have g2 : Grow (G) (upd H p (DX.itemsO p a)) G H' := ⟨(show Same _ _ from gr).ext, .refl _, g1.gh.same gr, fun a h1 h2 => absurd h1 h2, fun _ _ h => h⟩
        have fz : ∀ q, upd H p (DX.itemsO p a) q = none → H q = none := fun q h => by
          by_cases e : q = p
          · rw [e]; exact hp
          · rw [upd_ne e] at h; exact h
        obtain ⟨G2, g3, ho, r⟩ := tups_grow (K := K) ps G (g1.trans g2) nd fun z h => ⟨fz _ (hz z h).1, sub.free (fz _ (hz z h).1), (hz z h).2⟩
        have el : ps.map (fun z => sD z.2) = (es.mergeSort (dataLe false encS)).map sD := by rw [← hps, List.map_map]; rfl
        rw [el] at r
        have hl1 : H l = none := fz _ hl0
        refine m _ _ _ g3 ⟨l, rfl, .of hl1, ?_, _, hl, r⟩
        rw [ho l ?_]
        · exact sub.free hl1
        · intro hm
          obtain ⟨z, hz1, hz2⟩ := List.mem_map.mp hm
          have z1 := (hz z hz1).2
          have hz2' : z.1 = l := hz2
          rw [hz2', hl] at z1
          cases z1
  | _ => exact m.elim
section
variable {X : Cx} {W : WN} {a : Expr} {f : Ev → R D} {p apos cpos pos : Pos}
theorem de_sortItems (hm : X.mg "sorted" = none) (hu : X.A.units + 65 < cLine) (ha : PE X a (exOf K .w W f)) (hc : X.calm = true := by rfl) (hK : X.K = K := by rfl) (hg : Gl X "sorted" := by rfl)
    (hbase : attributeBase a "items" X.env (eval a X.env) = eval a X.env := by rfl) (hline : (apos.endLine == cpos.line) = true := by rfl)
    (nb : starEach (.Call (.Attribute a "items" apos) [] [] cpos :: []) X.env = (false, eval (.Call (.Attribute a "items" apos) [] [] cpos) X.env) :: starEach [] X.env := by rfl)
    (hpl2 : (backTo pos (starEach [] X.env)).any (·.1) = false := by rfl) :
    PE X (.Call (.Name "sorted" p) [.Call (.Attribute a "items" apos) [] [] cpos] [] pos) (exOf K .o W (e1 sortItemsD f)) := by
  subst hK
  exact pe_imp (pe_callB (cr_sortK hc (by omega)) hg hm (by decide +kernel) (pa_cons (pe_bm0 PySem.F.plainAttrs_dict PySem.F.slot_dict_items PySem.F.type_dict_items mt_itemsK ha hbase hline) pa_nil nb) (by decide) (by decide) nb hpl2) fun σ H Q h =>
    ex1 (K := X.K) (k := .o) (f := f) (g := sortItemsD) (r := fun x H Q => tyV X.K "dict" x H ∧ rItemsK x [] H fun v H1 => rSortK [v] H1 Q) (fun G H x d Q sub w m => ritems_ok sub w m) h
end
end Pd

/-! Pd37: for (a, b), c in d.items(), d a locked dict with tuple keys. -/
namespace Pd
open PySem PySem.Spec L2 PyProof.Rows
variable {K : PySem.W.Frag}
/-- the pairs of a locked dict with tuple keys, each a new tuple of the key's tuple and the value -/
def ItiT (d : Addr) (o : Obj) (kvs : List (List Key × V)) : It :=
  ⟨fun i H => H d = some (.frz o (.dT kvs)) ∧ i < kvs.length, fun i H x H' => ∃ T k v q, kvs[i]? = some (k, v) ∧ x = .ref T ∧ H T = none ∧ H q = some (.tup (k.map kV)) ∧ H' = upd H T (.tup [.ref q, v]), fun i H => H d = some (.frz o (.dT kvs)) ∧ kvs.length ≤ i⟩
section
variable {X : Cx} {pins : List (Addr × Obj)} {σ : L2.St} {H : Hp} {s : Shared} {d : Addr} {o : Obj}
theorem frzTV {kvs : List (List Key × V)} (I : Inv X pins σ H s) (h : H d = some (.frz o (.dT kvs))) :
    (d == sysModules) = false ∧ s.heap.get? d = some o ∧ o.ExactDict ∧ ∃ (es : Array DictEntry) (ep : Nat), o.data = .dict es ep ∧ es.size = kvs.length ∧
      ∀ (i : Nat) (k : List Key) (v : V), kvs[i]? = some (k, v) → ∃ (en : DictEntry) (q : Addr), es[i]? = some en ∧ en.key = .ref q ∧ H q = some (.tup (k.map kV)) ∧ RelV v en.val := by
  obtain ⟨hd, z, hs, xs, pr, o', es, ep, ho, hx, hdt, he, _⟩ := I.hok d _ h
  rw [hd] at ho
  cases ho
  refine ⟨hs, hd, hx, es, ep, hdt, ?_, fun i k v e => ?_⟩
  · have l1 : es.size = xs.length := size_of_entries he
    have l2 : kvs.length = xs.length := Paired.length pr
    omega
  · obtain ⟨b, hb, e1', e2', e3'⟩ := paired_get pr e
    have q := entry_at he i
    rw [hb] at q
    exact ⟨_, b.2.1, q, rfl, e2', e3'⟩
end
section
variable {P : Program} {w : World} {d : Addr} {o : Obj} {es : Array DictEntry} {ep : Nat}
theorem turn_itemsT {kvs : List (List Key × V)} {elts : List Expr} {kk : Nat} {tpos : Pos} (it : Addr) (hod : o.data = .dict es ep) :
    Turn P w K (.Tuple elts kk tpos) (ItiT d o kvs) [it] it (fun i h => ∃ ok ov, IsItemIter h it d i kvs.length ep ok ov) where
  mem := by simp
  obj := fun i h st b hb => by
    have e : b = it := by simpa using hb
    subst e
    obtain ⟨ok, ov, e⟩ := st
    exact ⟨_, e, fun v z => nomatch z⟩
  keep := fun i h h' st k => let ⟨ok, ov, e⟩ := st; ⟨ok, ov, k it (by simp) _ e⟩
  item := by
    intro X hP hw hK hc i pins s σ H E I hf st hg
    subst hP hw hK
    obtain ⟨hd, hi⟩ := hg
    obtain ⟨hs, hgd, hx, es', ep', hdt, hsz, ent⟩ := frzTV I hd
    obtain ⟨rfl, rfl⟩ := dict_ep hod hdt
    obtain ⟨⟨k, v⟩, hkv⟩ : ∃ p, kvs[i]? = some p := ⟨kvs[i], List.getElem?_eq_getElem hi⟩
    obtain ⟨en, q, hen, hkey, hq, hval⟩ := ent i k v hkv
    obtain ⟨ok, ov, he⟩ := st
    rw [← hsz] at he
    have hi' : i < es'.size := by omega
    have hen' : es'[i] = en := by rw [Array.getElem?_eq_getElem hi'] at hen; exact Option.some.inj hen
    have hlt : it < s.heap.objs.size := Heap.lt_size he
    refine DT.nextI he ⟨o, hgd, hx, hdt⟩ hi' fun h' ho hT hz hk => ?_
    rw [hen', hkey] at ho hT
    refine ⟨_, rfl, wpAny_letOwnedTupleGo_items (s := { s with heap := h' }) ho fun h'' he' sb => ?_⟩
    have hT2 : h''.get? s.heap.objs.size = some { cls := .type "tuple", data := .seq #[.ref q, en.val] } := (sb.2 _ (Nat.ne_of_gt hlt)).trans hT
    have new : ObjOk X.prog X.w (upd H s.heap.objs.size (.tup [.ref q, v])) h'' s.heap.objs.size (.tup [.ref q, v]) :=
      ⟨by show 2 ≤ sizeLine; decide, [.ref q, en.val], .cons rfl (.cons hval .nil), ⟨_, hT2, rfl, _, rfl⟩⟩
    have I1 : Inv X pins σ (upd H s.heap.objs.size (.tup [.ref q, v])) { s with heap := h'' } :=
      I.turnedNew (t' := s.toks) (ch := [it]) (fun b ob hb e => (sb.2 b (by simpa using hb)).trans (hk b ob (by simpa using hb) e)) hf (Nat.le_refl _) new
    refine ⟨.ref s.heap.objs.size, _, I1, rfl, ⟨_, k, v, q, hkv, rfl, I.hok.fresh (Nat.le_refl _), hq, rfl⟩, ⟨.ref q, en.val, ?_⟩, fun b hb => ?_⟩
    · rw [← hsz]; exact he'
    · have e : b = it := by simpa using hb
      rw [e, upd_ne (Nat.ne_of_lt hlt)]
      exact (hf it (by simp)).1
  done := by
    intro X hP hw hK hc i pins s σ H E I hf st hg
    subst hP hw hK
    obtain ⟨hd, hi⟩ := hg
    obtain ⟨f0, f1, f2, f3, f4, f5⟩ := hf it (by simp)
    obtain ⟨hs, hgd, hx, es', ep', hdt, hsz, ent⟩ := frzTV I hd
    obtain ⟨rfl, rfl⟩ := dict_ep hod hdt
    obtain ⟨ok, ov, he⟩ := st
    rw [← hsz] at he
    exact DT.endI (I.ok.hd hc) he ⟨o, hgd, hx, hdt⟩ (by omega) fun h' eb => ⟨rfl, I.turned (t' := s.toks) (fun b ob hb e => eb b ob hb e) f0 f1 f3 f4 f5⟩
  self := fun A i s Q E st h => let ⟨_, _, e⟩ := st; PySem.W.kcp_self e h
end
def iItemsT (td : TE) : TI := fun σ H R => td σ H fun x H1 => ∃ d o kvs, x = .ref d ∧ H1 d = some (.frz o (.dT kvs)) ∧ R (ItiT d o kvs) H1
section
variable {X : Cx} {tg e : Expr} {td : TE} {apos cpos : Pos}
theorem pi_itemsT {elts : List Expr} {kk : Nat} {tpos : Pos} (he : PE X e td) (hbase : attributeBase e "items" X.env (eval e X.env) = eval e X.env := by rfl) (hline : (apos.endLine == cpos.line) = true := by rfl) :
    PI X (.Tuple elts kk tpos) (.Call (.Attribute e "items" apos) [] [] cpos) (iItemsT td) := by
  refine ⟨fun pins s σ H R I h => ?_⟩
  refine wpAny_Call_method (T := "dict") (id := "dict.items") hbase rfl hline F.plainAttrs_dict F.slot_dict_items F.type_dict_items (thn (he.run pins s σ H _ I h) fun u s1 ⟨x, H1, I1, rx, d, o, kvs, ex, hd, q⟩ => ?_)
  subst ex
  obtain rfl : u = Value.ref d := rx
  obtain ⟨hs, hgd, hx, es, ep, hdt, hsz, ent⟩ := frzTV I1 hd
  have hm : DT.Raw s1.heap d es ep := ⟨o, hgd, hx, hdt⟩
  refine ⟨hm.typeIs, fun a ha => ?_, ?_⟩
  · cases ha
    exact ⟨o, hgd, hx.2.1⟩
  have I2 : Inv X pins σ H1 { s1 with heap := s1.heap.push { cls := .type "dict_items", data := .fields #[.ref d] } } := I1.kept (t' := s1.toks) fun b ob q => Heap.get?_push_of_some _ q
  have fin : wpAny (model X.prog X.w) X.A (pyIter (.ref s1.heap.objs.size)) (PIE X pins σ (.Tuple elts kk tpos) R) X.xe { s1 with heap := s1.heap.push { cls := .type "dict_items", data := .fields #[.ref d] } } := by
    refine DT.iterI (d := d) ⟨_, Heap.get?_push_size _ rfl, rfl, rfl⟩ (hm.push _) (pi_one (tk := s1.toks) I2 _ (turn_itemsT _ hdt) ⟨.none, .none, ?_⟩ q)
    rw [← hsz]
    exact Heap.get?_push_size _ rfl
  show wpAny _ _ (callWith cpos (.builtin "dict.items") [.ref d] [] []) _ X.xe s1
  exact method_meetsIn F.slot_dict_items F.entry_dict_items rfl (PySem.evalArgs_none ⟨rfl, hm.typeIs, F.args_dict_items_1 _, _, DT.meetsItems (es := es) (ep := ep) hs, ⟨hm, fin⟩⟩)
end
/-- a key's tuple may be known for ever -/
theorem key_known {G H : Hp} {q : Addr} {ks : List Key} (s : Sub G H) (h : H q = some (.tup (ks.map kV))) : ∃ G1, Grow G H G1 H ∧ Rep K G1 (.ref q) (.tup (ks.map kD)) := by
  have rp : ∀ {G1 : Hp} (l : List Key), RepL K G1 (l.map kV) (l.map kD) := fun l => by
    induction l with
    | nil => exact .nil
    | cons k l ih =>
      cases k with
      | inl i => exact .cons (.int i) ih
      | inr x => exact .cons (.str x) ih
  have n : nt (.tup (ks.map kV)) := by intro _ z; cases z
  cases e : G q with
  | none =>
    refine ⟨upd G q (.tup (ks.map kV)), ⟨.refl _, same_new e, s.frozen h n, fun a h1 h2 => ?_, mark_upd n⟩, .tup upd_same (rp ks)⟩
    by_cases hb : a = q
    · rw [hb]
      intro o ho _
      rw [h] at ho
      exact ⟨_, (Option.some.inj ho).symm⟩
    · rw [upd_ne hb] at h2
      exact absurd h1 h2
  | some o =>
    have z := s.at_ q o e
    have eo : o = .tup (ks.map kV) := by
      cases o with
      | tbl ps =>
        exfalso
        rcases z with ⟨T, _, ht, q, hq⟩ | ⟨_, o, ho, io⟩
        · obtain ⟨us, hu, _⟩ := ht _ hq
          rw [show H _ = some (.tbl us) from hu] at h
          cases h
        · rw [h] at ho
          rw [← Option.some.inj ho] at io
          exact io
      | _ =>
        have z' : H q = some _ := z
        rw [h] at z'
        exact (Option.some.inj z').symm
    rw [eo] at e
    exact ⟨G, .refl s, .tup e (rp ks)⟩
/-- the pairs of a dict with tuple keys -/
def itemsL : List (D × D) → List D
  | [] => []
  | kv :: kvs => .tup [kv.1, kv.2] :: itemsL kvs
theorem itemsL_get {G : Hp} : ∀ {ks : List (List Key × V)} {kvs : List (D × D)} {i : Nat} {d : D}, RepT K G ks kvs → (itemsL kvs)[i]? = some d → ∃ k v e, ks[i]? = some (k, v) ∧ d = .tup [.tup (k.map kD), e] ∧ Rep K G v e
  | _, _, _, _, .nil, h => by simp [itemsL] at h
  | _, _, 0, _, .cons r t, h => by
    simp only [itemsL, List.getElem?_cons_zero, Option.some.injEq] at h
    exact ⟨_, _, _, rfl, h.symm, r⟩
  | _, _, i + 1, _, .cons r t, h => by
    simp only [itemsL, List.getElem?_cons_succ] at h
    obtain ⟨k, v, e, h1, h2⟩ := itemsL_get t h
    exact ⟨k, v, e, by simpa using h1, h2⟩
theorem itemsL_len : ∀ kvs : List (D × D), (itemsL kvs).length = kvs.length
  | [] => rfl
  | _ :: kvs => by simp [itemsL, itemsL_len kvs]
theorem itiT_d {d : Addr} {o : Obj} {G : Hp} {ks : List (List Key × V)} {kvs : List (D × D)} (h : G d = some (.frz o (.dT ks))) (r : RepT K G ks kvs) : ItD K (ItiT d o ks) G (itemsL kvs) := fun H' s => by
  have hd : H' d = some (.frz o (.dT ks)) := s.at_ _ _ h
  refine ⟨fun i e he => ?_, hd, by rw [itemsL_len, r.length]; exact Nat.le_refl _⟩
  obtain ⟨k, v, y, h1, rfl, rv⟩ := itemsL_get r he
  refine ⟨⟨hd, (List.getElem?_eq_some_iff.mp h1).1⟩, fun u H'' ⟨T, k', v', q, e1', eu, nT, hq, eH⟩ G' s1 s2 => ?_⟩
  rw [h1] at e1'
  cases e1'
  subst eu eH
  obtain ⟨G1, g1, rq⟩ := key_known (K := K) s2 hq
  obtain ⟨G2, g2, r2⟩ := pair_new g1.gh nT rq ((rv.mono s1).mono g1.gg)
  exact ⟨G2, g1.trans g2, r2⟩
def itemsTD : D → Option (List D)
  | .ldc true kvs => some (itemsL kvs)
  | _ => none
end Pd

/-! Pd38: an own dict is locked for ever, and gone through. -/
namespace Pd
open PySem PySem.Spec L2 PyProof.Rows
variable {K : PySem.W.Frag}
/-- the own dict of slot i is locked for ever -/
def lockE (i : Nat) (ρ : Ev) : Ev := match ρ[i]? with
  | some (.own (.dct t kvs)) => ρ.set i (.val (.ldc t kvs))
  | _ => ρ
/-- a locked dict stands where an own one stood -/
theorem lock_good {B : Bs} {G H : Hp} {ρ : Ev} {σ : L2.St} {i : Nat} {t : Bool} {kvs : List (D × D)} (S : Good K B G ρ σ H) (q : ρ[i]? = some (.own (.dct t kvs))) :
    ∃ p o, H p = some o ∧ Mut (some o) ∧ ∀ od, Same G (upd G p (.frz od o)) ∧ Good K B (upd G p (.frz od o)) (ρ.set i (.val (.ldc t kvs))) σ (upd H p (.frz od o)) := by
  obtain ⟨p, hp, gn, w⟩ := S.st.sl i _ q
  obtain ⟨o, ho, io⟩ := w.there
  have hB := S.fr i _ p q hp
  have mu : Mut (some o) := by
    cases t <;> (obtain ⟨ks, e, _⟩ := w; rw [ho] at e; cases e; trivial)
  refine ⟨p, o, ho, mu, fun od => ?_⟩
  have n : nt (.frz od o) := by intro _ z; cases z
  have sg : Same G (upd G p (.frz od o)) := same_new gn
  have sG : Sub G (upd H p (.frz od o)) := sub_mut S.st.sub gn ho io
  have sub : Sub (upd G p (.frz od o)) (upd H p (.frz od o)) := sG.frozen upd_same n
  have rp : Rep K (upd G p (.frz od o)) (.ref p) (.ldc t kvs) := by
    cases t with
    | false =>
      obtain ⟨ks, e, r⟩ := w
      rw [ho] at e
      cases e
      exact .lK upd_same (r.mono sg)
    | true =>
      obtain ⟨ks, e, r⟩ := w
      rw [ho] at e
      cases e
      exact .lT upd_same (r.mono sg)
  refine ⟨sg, ⟨⟨sub, by simpa using S.st.len, fun j s z => ?_, fun j l d1 d2 p' hne e1 e2 h1 h2 => ?_, S.st.mkd.mono sg⟩, (S.gr.mutF hB sG).fz hB gn sub n, fun j e' p' z h => ?_, fun j Ω h1 => ?_⟩⟩
  · rcases set_get z with ⟨rfl, rfl⟩ | ⟨hne, z⟩
    · exact ⟨_, hp, rp⟩
    · have y := S.st.sl j s z
      cases s with
      | no => trivial
      | val x => obtain ⟨v, e, r⟩ := y; exact ⟨v, e, r.mono sg⟩
      | own x =>
        obtain ⟨p', e', n', w'⟩ := y
        have hne' : p' ≠ p := by
          rintro rfl
          exact S.st.dj j i x _ p' (Ne.symm hne) z q e' hp
        refine ⟨p', e', ?_, (w'.at (upd_ne hne')).mono sg (.refl _)⟩
        rw [upd_ne hne']
        exact n'
      | st b0 Ω => exact ObsOk.mono sg (fun b o gb eb _ => by rw [upd_ne (fun zz => gb (by rw [zz]; exact gn))]; exact eb) (mark_upd n) y
  · rcases set_get e1 with ⟨_, z⟩ | ⟨_, z1⟩
    · cases z
    · rcases set_get e2 with ⟨_, z⟩ | ⟨_, z2⟩
      · cases z
      · exact S.st.dj j l d1 d2 p' hne z1 z2 h1 h2
  · rcases set_get z with ⟨_, y⟩ | ⟨_, z⟩
    · cases y
    · exact S.fr j e' p' z h
  · rcases set_get h1 with ⟨_, y⟩ | ⟨_, z⟩
    · cases y
    · exact S.ns j Ω z
/-- the thing at d is locked from here on -/
def tLk (t : TS) : TS := fun D σ H => (∃ d u, H d = some u ∧ Mut (some u) ∧ ∀ od, t D σ (upd H d (.frz od u))) ∨ t D σ H
def sLk (i : Nat) (f : Ev → O) : Ev → O := fun ρ => f (lockE i ρ)
section
variable {X : Cx} {W : WN} {st : Stmt} {f : Ev → O}
theorem ps_lk {t : TS} (h : PS X st t) : PS X st (tLk t) := by
  refine ⟨fun pins s σ H D I hw => ?_⟩
  rcases hw with ⟨d, u, hd, mu, hw⟩ | hw
  · obtain ⟨od, I1⟩ := I.lock hd mu
    exact h.run pins s σ _ _ I1 (hw od)
  · exact h.run pins s σ _ _ I hw
theorem ds_lk (i : Nat) (h : PS X st (tsOf K W f)) : PS X st (tsOf K W (sLk i f)) := ps_imp (ps_lk h) fun E σ H ⟨B, G, ρ, S, m⟩ => by
  unfold sLk lockE at m
  split at m
  · rename_i t kvs q
    obtain ⟨p, o, ho, mu, z⟩ := lock_good S q
    refine .inl ⟨p, o, ho, mu, fun od => ?_⟩
    obtain ⟨s, S'⟩ := z od
    exact ⟨B, _, _, S', OutP.later s m⟩
  · exact .inr ⟨B, G, ρ, S, m⟩
/-- for (a, b), c in d.items(): d locked -/
theorem di_itemsT {e : Expr} {fe : Ev → R D} {apos cpos tpos : Pos} {elts : List Expr} {kk : Nat} (he : PE X e (exOf K .v W fe)) (hK : X.K = K := by rfl)
    (hbase : attributeBase e "items" X.env (eval e X.env) = eval e X.env := by rfl) (hline : (apos.endLine == cpos.line) = true := by rfl) :
    PI X (.Tuple elts kk tpos) (.Call (.Attribute e "items" apos) [] [] cpos) (tiOf K true W fun ρ => (fe ρ).bind fun d => opt (itemsTD d)) := pi_imp (pi_itemsT he hbase hline) fun σ H Q ⟨G, ρ, S, m⟩ => by
  subst hK
  refine ⟨G, ρ, S, ?_⟩
  cases q : fe ρ with
  | bad => simp only [q, R.bind_bad] at m
  | exc c => simp only [q, R.bind_exc] at m; exact m
  | ok d =>
    simp only [q, R.bind_ok] at m
    intro v G1 H1 g r
    have r : Rep X.K G1 v d := r
    cases r with
    | lT h1 q1 => exact ⟨_, _, _, rfl, g.gh _ _ h1, m _ _ _ g (itiT_d h1 q1)⟩
    | lK h1 q1 => exact m.elim
    | _ => exact m.elim
end
end Pd

/-! Pd39: the order of data of any depth: min of a list, `<`. -/
namespace Pd
open PySem PySem.Spec L2 PySem.W
variable {K : PySem.W.Frag}
theorem toPys_map : ∀ ds : List D, toPys ds = ds.map toPy
  | [] => rfl
  | d :: ds => by rw [toPys, toPys_map ds]; rfl
theorem toPy_inj : ∀ (n : Nat) (d e : D), okD n d = true → okD n e = true → toPy d = toPy e → d = e := by
  intro n
  induction n with
  | zero =>
    intro d e h1 h2 h
    cases d <;> simp [okD] at h1 <;> cases e <;> simp [okD] at h2 <;> simp [toPy] at h <;> simp [h]
  | succ n ih =>
    have all : ∀ ds es : List D, ds.all (okD n) = true → es.all (okD n) = true → toPys ds = toPys es → ds = es := by
      intro ds
      induction ds with
      | nil =>
        intro es _ _ h
        cases es with
        | nil => rfl
        | cons e es => simp [toPys] at h
      | cons d ds ihd =>
        intro es h1 h2 h
        cases es with
        | nil => simp [toPys] at h
        | cons e es =>
          simp only [toPys, List.cons.injEq] at h
          simp only [List.all_cons, Bool.and_eq_true] at h1 h2
          rw [ih d e h1.1 h2.1 h.1, ihd es h1.2 h2.2 h.2]
    intro d e h1 h2 h
    cases d with
    | tup ds =>
      cases e with
      | tup es =>
        simp only [toPy, PyData.tuple.injEq] at h
        rw [all ds es (by simpa [okD] using h1) (by simpa [okD] using h2) h]
      | _ => simp [okD] at h2 <;> simp [toPy] at h
    | lst ds =>
      cases e with
      | lst es =>
        simp only [toPy, PyData.list.injEq] at h
        rw [all ds es (by simpa [okD] using h1) (by simpa [okD] using h2) h]
      | _ => simp [okD] at h2 <;> simp [toPy] at h
    | _ => simp [okD] at h1 <;> cases e <;> simp [okD] at h2 <;> simp [toPy] at h <;> simp [h]
/-- the first of the least -/
def minF (d : D) (ds : List D) : D := ds.foldl (fun a y => if dataLt (toPy y) (toPy a) then y else a) d
theorem minF_py : ∀ (ds : List D) (d : D), toPy (minF d ds) = minD (toPy d) (toPys ds)
  | [], d => rfl
  | y :: ds, d => by
    have ih := minF_py ds (if dataLt (toPy y) (toPy d) then y else d)
    unfold minF minD at ih ⊢
    rw [toPys, List.foldl_cons, List.foldl_cons, ih]
    congr 1
    split <;> rfl
theorem minF_mem : ∀ (ds : List D) (d : D), minF d ds ∈ d :: ds
  | [], d => List.mem_singleton.mpr rfl
  | y :: ds, d => by
    have ih := minF_mem ds (if dataLt (toPy y) (toPy d) then y else d)
    unfold minF at ih ⊢
    rw [List.foldl_cons]
    rcases List.mem_cons.mp ih with h | h
    · rw [h]
      split
      · exact .tail _ (.head _)
      · exact .head _
    · exact .tail _ (.tail _ h)
def someD : D → Bool
  | .non => false
  | _ => true
/-- to be compared with one another -/
def ordOk (ds : List D) : Bool := ds.all (okD 14) && (ds.all fun x => ds.all fun y => alike (toPy x) (toPy y)) && ds.all someD
theorem toPy_some {d : D} (h : someD d = true) : toPy d ≠ .none := by
  cases d <;> simp [someD] at h <;> simp [toPy]
theorem ordOk_ok {ds : List D} (h : ordOk ds = true) : ds.all (okD 14) = true := by
  unfold ordOk at h
  rw [Bool.and_eq_true, Bool.and_eq_true] at h
  exact h.1.1
theorem ordOk_al {ds : List D} (h : ordOk ds = true) : AlikeAll (toPys ds) := by
  unfold ordOk at h
  rw [Bool.and_eq_true, Bool.and_eq_true] at h
  rw [toPys_map]
  refine ⟨fun x hx y hy => ?_, fun x hx => ?_⟩
  · obtain ⟨d, hd, rfl⟩ := List.mem_map.mp hx
    obtain ⟨e, he, rfl⟩ := List.mem_map.mp hy
    exact List.all_eq_true.mp (List.all_eq_true.mp h.1.2 d hd) e he
  · obtain ⟨d, hd, rfl⟩ := List.mem_map.mp hx
    exact toPy_some (List.all_eq_true.mp h.2 d hd)
theorem depth_all {n : Nat} : ∀ {ds : List D}, ds.all (okD n) = true → PyData.depthAll (toPys ds) ≤ n
  | [], _ => by simp [toPys, PyData.depthAll]
  | d :: ds, h => by
    simp only [List.all_cons, Bool.and_eq_true] at h
    have a := (okD_all n d h.1).2
    have b := depth_all h.2
    simp only [toPys, PyData.depthAll]
    omega
def rMinX (K : PySem.W.Frag) : List V → Hp → VK → Prop := fun vs H Q => ∃ (a : Addr) (xs : List V) (p : PyData) (ps : List PyData), vs = [.ref a] ∧ SqL K H a xs ∧ DpAll K H xs (p :: ps) ∧ AlikeAll (p :: ps) ∧ PyData.depthAll (p :: ps) ≤ 40 ∧
  ∀ (i : Nat) x d, xs[i]? = some x → (p :: ps)[i]? = some d → d = minD p ps → Q x H
theorem vals_back : ∀ {xs : List V} {us : List Value} {i : Nat} {u : Value}, Vals xs us → us[i]? = some u → ∃ x, xs[i]? = some x ∧ RelV x u := fun {xs us i u} r e => by
  cases q : xs[i]? with
  | none => rw [r.none_of q] at e; cases e
  | some x =>
    obtain ⟨u', e', rv⟩ := r.get q
    rw [e] at e'
    cases e'
    exact ⟨x, rfl, rv⟩
theorem minD_mem : ∀ (ps : List PyData) (p : PyData), minD p ps ∈ p :: ps
  | [], p => List.mem_singleton.mpr rfl
  | y :: ps, p => by
    have ih := minD_mem ps (if dataLt y p then y else p)
    unfold minD at ih ⊢
    rw [List.foldl_cons]
    rcases List.mem_cons.mp ih with h | h
    · rw [h]
      split
      · exact .tail _ (.head _)
      · exact .head _
    · exact .tail _ (.tail _ h)
section
variable {X : Cx}
theorem cr_minX (hc : X.calm = true) (hu : X.A.units + 64 < cLine) : CallR X (.builtin "min") (rMinX X.K) := by
  intro pins s σ H vs us Q I r h
  obtain ⟨a, xs, p, ps, rfl, hs, hd, al, dp, q⟩ := h
  obtain ⟨its, rv, hl, _⟩ := I.list hs
  rw [Vals.ref1 r]
  obtain ⟨as, hr⟩ := Dp.readsAll I (p :: ps) xs its hd rv
  refine min_list_data (I.ok.hd hc) hl.isList (by simpa using hr) al (by omega) fun i v h' tk bs hv hrd hk => ?_
  have hv' : its[i]? = some v := by simpa using hv
  obtain ⟨x, hx, rx⟩ := vals_back rv hv'
  obtain ⟨cs, r1, hlt, hm, _⟩ := readsAll_at hr i v hv'
  have hg : (p :: ps)[i]? = some ((p :: ps).getD i .none) := by
    rw [List.getD_eq_getElem?_getD, List.getElem?_eq_getElem hlt]
    rfl
  have e := alike_unique _ _ v cs bs (al.1 _ hm _ (minD_mem ps p)) (reads_keeps hk r1) hrd
  exact ⟨x, H, I.kept hk, rx, q i x _ hx hg e⟩
end
def minLD : D → Option D
  | .lst (d :: ds) => if ordOk (d :: ds) then some (minF d ds) else none
  | _ => none
section
variable {X : Cx}
theorem do_minL {k : Nat} (hr : Room k X.A) (hc : X.calm = true := by rfl) (hK : X.K = K := by rfl) : CallR X (.builtin "min") (rC1 K .v minLD) := cr1_of fun G H x d r Q sub w q m => by
  subst hK
  unfold minLD at q
  split at q
  · rename_i d ds
    split at q
    · rename_i hz
      cases q
      obtain ⟨a, vs, rfl, ha, rl⟩ := wrep_lst sub w
      have ok := ordOk_ok hz
      have dd := repl_dp sub (d :: ds) 14 vs ok rl
      rw [toPys] at dd
      have al := ordOk_al hz
      rw [toPys] at al
      have dp := depth_all ok
      rw [toPys] at dp
      refine ⟨_, cr_minX hc hr.units, a, vs, toPy d, toPys ds, rfl, .of ha, dd, al, by omega, fun i x e hx he hm => ?_⟩
      have he' : (toPys (d :: ds))[i]? = some e := by rw [toPys]; exact he
      rw [toPys_map, List.getElem?_map] at he'
      cases hi : (d :: ds)[i]? with
      | none => rw [hi] at he'; cases he'
      | some y =>
        rw [hi] at he'
        have ey : toPy y = e := Option.some.inj he'
        obtain ⟨v, hv, rvv⟩ := rl.get hi
        rw [hx] at hv
        cases hv
        have hy := List.mem_of_getElem? hi
        have eq : y = minF d ds := toPy_inj 14 _ _ (List.all_eq_true.mp ok y hy) (List.all_eq_true.mp ok _ (minF_mem ds d)) (by rw [minF_py, ey, hm])
        rw [eq] at rvv
        exact m x G H (.refl sub) rvv
    · cases q
  · cases q
/-- `<` of tuples and lists -/
def ltXD (d e : D) : Option Bool := if ordOk [d, e] then some (dataLt (toPy d) (toPy e)) else none
def rLtX (K : PySem.W.Frag) : R2 := fun x y H Q => ∃ p p', Dp K H x p ∧ Dp K H y p' ∧ alike p p' = true ∧ p ≠ .none ∧ min p.depth p'.depth ≤ 40 ∧ Q (.bl (dataLt p p')) H
theorem op_ltX (hu : X.A.units + 64 < cLine) : OpR X (compareOp .Lt) (rLtX X.K) := by
  intro pins s σ H x y v u Q I rx ry h
  obtain ⟨p, p', h1, h2, al, hn, dp, q⟩ := h
  obtain ⟨as, r1⟩ := Dp.reads I p x v h1 rx
  obtain ⟨bs, r2⟩ := Dp.reads I p' y u h2 ry
  exact lt_data r1 r2 al hn (by omega) ⟨.bl _, H, I, rfl, q⟩
theorem do_ltX {k : Nat} (hr : Room k X.A) (hK : X.K = K := by rfl) : OpR X (compareOp .Lt) (rB K ltXD) := opb_of fun G H x y d e b Q sub wx wy q m => by
  subst hK
  unfold ltXD at q
  split at q
  · rename_i hz
    have ok := ordOk_ok hz
    simp only [List.all_cons, List.all_nil, Bool.and_true, Bool.and_eq_true] at ok
    have al := ordOk_al hz
    simp only [toPys] at al
    refine ⟨_, op_ltX hr.units, toPy d, toPy e, wrep_dp sub ok.1 wx, wrep_dp sub ok.2 wy, al.1 _ (by simp) _ (by simp), al.2 _ (by simp), ?_, ?_⟩
    · have := (okD_all 14 d ok.1).2
      omega
    · rw [Option.some.inj q]
      exact m
  · cases q
end
end Pd

/-! Pd40: dicts locked from their birth: locked at once, gone through by keys, read by get. -/
namespace Pd
open PySem PySem.Spec L2 PyProof.Rows
variable {K : PySem.W.Frag}
section
variable {X : Cx} {W : WN} {e : Expr}
/-! ### locked at once -/
theorem pe_lkd {t : TE} (h : PE X e t) : PE X e (fun σ H Q => t σ H fun x H1 => ∃ p u, x = .ref p ∧ H1 p = some u ∧ Mut (some u) ∧ ∀ od, Q (.ref p) (upd H1 p (.frz od u))) := ⟨fun pins s σ H Q I q =>
  wpAny_mono (h.run pins s σ H _ I q) (fun v s1 ⟨x, H1, I1, r, p, u, ex, hp, mu, hq⟩ => by
    subst ex
    obtain ⟨od, I2⟩ := I1.lock hp mu
    exact ⟨_, _, I2, r, hq od⟩) fun _ _ e => e⟩
def lkD : D → Option D
  | .dct t kvs => some (.ldc t kvs)
  | _ => none
theorem Grow.lock {G H G' H' : Hp} {p : Addr} {o : HO} {od : Obj} (g : Grow G H G' H') (hn : Fr H p) (gn : G' p = none) (ho : H' p = some o) (io : isOwn o) : Grow G H (upd G' p (.frz od o)) (upd H' p (.frz od o)) := by
  have n : nt (.frz od o) := by intro _ z; cases z
  have sG : Sub G' (upd H' p (.frz od o)) := sub_mut g.gh gn ho io
  refine ⟨ext_mut g.hh hn, g.gg.trans (same_new gn), sG.frozen upd_same n, fun a h1 h2 => ?_, fun i q z => g.mks i q (mark_upd n i q z)⟩
  by_cases e : a = p
  · rw [e]; exact hn.nw
  · rw [upd_ne e] at h2
    exact g.new a h1 h2
def eLk (f : Ev → R D) : Ev → R D := fun ρ => (f ρ).bind fun d => opt (lkD d)
theorem de_lk {f : Ev → R D} (h : PE X e (exOf K .o W f)) : PE X e (exOf K .v W (eLk f)) := pe_imp (pe_lkd h) fun σ H Q ⟨G, ρ, S, m⟩ => by
  refine ⟨G, ρ, S, ?_⟩
  unfold eLk at m
  cases q : f ρ with
  | ok d =>
    simp only [q, R.bind_ok] at m
    rintro v G1 H1 g ⟨p, rfl, hn, gn, w⟩
    obtain ⟨o, ho, io⟩ := w.there
    cases d with
    | dct t kvs =>
      have mu : Mut (some o) := by
        cases t <;> (obtain ⟨ks, e, _⟩ := w; rw [ho] at e; cases e; trivial)
      refine ⟨p, o, rfl, ho, mu, fun od => m _ _ _ (g.lock hn gn ho io) ?_⟩
      have sg : Same G1 (upd G1 p (.frz od o)) := same_new gn
      cases t with
      | false =>
        obtain ⟨ks, e, r⟩ := w
        rw [ho] at e
        cases e
        exact .lK upd_same (r.mono sg)
      | true =>
        obtain ⟨ks, e, r⟩ := w
        rw [ho] at e
        cases e
        exact .lT upd_same (r.mono sg)
    | _ => exact m.elim
  | exc c => simp only [q, R.bind_exc] at m; exact m
  | bad => simp only [q, R.bind_bad] at m
end
/-! ### its keys in turn -/
def keysLD : D → Option (List D)
  | .ldc _ kvs => some (kvs.map (·.1))
  | _ => none
theorem repK_get {G : Hp} : ∀ {ks : List (Key × V)} {kvs : List (D × D)} {i : Nat} {d : D}, RepK K G ks kvs → (kvs.map (·.1))[i]? = some d → ∃ k v, ks[i]? = some (k, v) ∧ d = kD k
  | _, _, _, _, .nil, h => by simp at h
  | _, _, 0, _, .cons (k := k) (v := v) r t, h => by
    simp only [List.map_cons, List.getElem?_cons_zero, Option.some.injEq] at h
    exact ⟨k, v, rfl, h.symm⟩
  | _, _, i + 1, _, .cons r t, h => by
    simp only [List.map_cons, List.getElem?_cons_succ] at h
    obtain ⟨k, v, h1, h2⟩ := repK_get t h
    exact ⟨k, v, by simpa using h1, h2⟩
theorem repT_get {G : Hp} : ∀ {ks : List (List Key × V)} {kvs : List (D × D)} {i : Nat} {d : D}, RepT K G ks kvs → (kvs.map (·.1))[i]? = some d → ∃ k v, ks[i]? = some (k, v) ∧ d = .tup (k.map kD)
  | _, _, _, _, .nil, h => by simp at h
  | _, _, 0, _, .cons (k := k) (v := v) r t, h => by
    simp only [List.map_cons, List.getElem?_cons_zero, Option.some.injEq] at h
    exact ⟨k, v, rfl, h.symm⟩
  | _, _, i + 1, _, .cons r t, h => by
    simp only [List.map_cons, List.getElem?_cons_succ] at h
    obtain ⟨k, v, h1, h2⟩ := repT_get t h
    exact ⟨k, v, by simpa using h1, h2⟩
theorem rep_kD {G : Hp} (k : Key) : Rep K G (kV k) (kD k) := by
  cases k with
  | inl i => exact .int i
  | inr x => exact .str x
theorem itk_d {d : Addr} {o : Obj} {G : Hp} {ks : List (Key × V)} {kvs : List (D × D)} (h : G d = some (.frz o (.dK ks))) (r : RepK K G ks kvs) : ItD K (Itk d o ks) G (kvs.map (·.1)) := fun H' s => by
  have hd : H' d = some (.frz o (.dK ks)) := s.at_ _ _ h
  refine ⟨fun i e he => ?_, hd, by rw [List.length_map, RepK.length r]; exact Nat.le_refl _⟩
  obtain ⟨k, v, h1, rfl⟩ := repK_get r he
  refine ⟨⟨hd, (List.getElem?_eq_some_iff.mp h1).1⟩, fun u H'' ⟨eH, k', v', e1', eu⟩ G' s1 s2 => ?_⟩
  rw [h1] at e1'
  cases e1'
  subst eu eH
  exact ⟨G', .refl s2, rep_kD k⟩
theorem itkt_d {d : Addr} {o : Obj} {G : Hp} {ks : List (List Key × V)} {kvs : List (D × D)} (h : G d = some (.frz o (.dT ks))) (r : RepT K G ks kvs) : ItD K (Itkt d o ks) G (kvs.map (·.1)) := fun H' s => by
  have hd : H' d = some (.frz o (.dT ks)) := s.at_ _ _ h
  refine ⟨fun i e he => ?_, hd, by rw [List.length_map, RepT.length r]; exact Nat.le_refl _⟩
  obtain ⟨k, v, h1, rfl⟩ := repT_get r he
  refine ⟨⟨hd, (List.getElem?_eq_some_iff.mp h1).1⟩, fun u H'' ⟨eH, k', v', q, e1', eu, hq⟩ G' s1 s2 => ?_⟩
  rw [h1] at e1'
  cases e1'
  subst eu eH
  obtain ⟨G1, g1, rq⟩ := key_known (K := K) s2 hq
  exact ⟨G1, g1, rq⟩
section
variable {X : Cx} {W : WN} {e tg : Expr}
theorem di_keysL {fe : Ev → R D} (he : PE X e (exOf K .v W fe)) (hK : X.K = K := by rfl) : PI X tg e (tiOf K true W fun ρ => (fe ρ).bind fun d => opt (keysLD d)) := pi_imp (pi_keys he) fun σ H Q ⟨G, ρ, S, m⟩ => by
  subst hK
  refine ⟨G, ρ, S, ?_⟩
  cases q : fe ρ with
  | bad => simp only [q, R.bind_bad] at m
  | exc c => simp only [q, R.bind_exc] at m; exact m
  | ok d =>
    simp only [q, R.bind_ok] at m
    intro v G1 H1 g r
    have r : Rep X.K G1 v d := r
    cases r with
    | lT h1 q1 => exact ⟨_, _, rfl, .inr ⟨_, g.gh _ _ h1, m _ _ _ g (itkt_d h1 q1)⟩⟩
    | lK h1 q1 => exact ⟨_, _, rfl, .inl ⟨_, g.gh _ _ h1, m _ _ _ g (itk_d h1 q1)⟩⟩
    | _ => exact m.elim
/-! ### d.get, d locked or not -/
def dictOf : D → Option (Bool × List (D × D))
  | .dct t kvs => some (t, kvs)
  | .ldc t kvs => some (t, kvs)
  | _ => none
theorem isd_any {G H : Hp} {x : V} {d : D} {t : Bool} {kvs : List (D × D)} (sub : Sub G H) (hd : dictOf d = some (t, kvs)) (w : WRep K G H x d) : ∃ a, x = .ref a ∧ IsD H a := by
  cases d with
  | dct t kvs => exact wrep_dct sub w
  | ldc t kvs =>
    have r0 : Rep K G x (.ldc t kvs) := by
      rcases w with h | ⟨p, _, _, w⟩
      · exact h
      · exact w.elim
    cases r0 with
    | lK h r => exact ⟨_, rfl, .inl ⟨_, .inr ⟨_, sub _ _ h⟩⟩⟩
    | lT h r => exact ⟨_, rfl, .inr ⟨_, .inr ⟨_, sub _ _ h⟩⟩⟩
  | _ => cases hd
theorem dget_any {G H : Hp} {x y : V} {d : D} {t : Bool} {kvs : List (D × D)} {k : D} (sub : Sub G H) (hd : dictOf d = some (t, kvs)) (wx : WRep K G H x d) (wy : WRep K G H y k) (ok : okKey t k = true) :
    ∃ a, x = .ref a ∧ ((DGet H a y none ∧ valD kvs k = none) ∨ ∃ v d, DGet H a y (some v) ∧ valD kvs k = some d ∧ Rep K G v d) := by
  cases d with
  | dct t kvs => cases hd; exact dget_of sub wx wy ok
  | ldc t kvs => cases hd; exact dget_ofL sub wx wy ok
  | _ => cases hd
def eGetA1 (fd fk : Ev → R D) : Ev → R D := fun ρ => (fd ρ).bind fun d => (opt (dictOf d)).bind fun p => (fk ρ).bind fun k => if okKey p.1 k then .ok ((valD p.2 k).getD .non) else .bad
def eGetA2 (fd fk fx : Ev → R D) : Ev → R D := fun ρ => (fd ρ).bind fun d => (opt (dictOf d)).bind fun p => (fk ρ).bind fun k => (fx ρ).bind fun x => if okKey p.1 k then .ok ((valD p.2 k).getD x) else .bad
variable {o f : Expr} {fd fk fx : Ev → R D} {apos cpos : Pos} {k : Nat}
theorem de_getA1 (hr : Room k X.A) (ho : PE X o (exOf K .w W fd)) (he : PE X e (exOf K .w W fk)) (m : M1 X o "get" apos e cpos := by exact ⟨rfl, rfl, rfl, rfl⟩) :
    PE X (.Call (.Attribute o "get" apos) [e] [] cpos) (exOf K .v W (eGetA1 fd fk)) := pe_imp (pe_dget1 (hu_of hr) ho he m) fun σ H Q ⟨G, ρ, S, m⟩ => by
  refine ⟨G, ρ, S, ?_⟩
  unfold eGetA1 at m
  cases q : fd ρ with
  | exc c => simp only [q, R.bind_exc] at m; exact m
  | bad => simp only [q, R.bind_bad] at m
  | ok d =>
    simp only [q, R.bind_ok] at m
    cases qd : dictOf d with
    | none => simp only [qd, opt_none, R.bind_bad] at m
    | some tk =>
      obtain ⟨t, kvs⟩ := tk
      simp only [qd, opt_some, R.bind_ok] at m
      intro v G1 H1 g1 r1
      obtain ⟨a, ea, isd⟩ := isd_any g1.gh qd r1
      refine ⟨a, ea, isd, G1, ρ, S.grow g1, ?_⟩
      cases q2 : fk ρ with
      | exc c => simp only [q2, R.bind_exc] at m; exact fun G' H' g' => m G' H' (g1.trans g')
      | bad => simp only [q2, R.bind_bad] at m
      | ok kd =>
        simp only [q2, R.bind_ok] at m
        intro y G2 H2 g2 r2
        cases hz : okKey t kd with
        | false => simp only [hz, if_neg Bool.false_ne_true] at m
        | true =>
          simp only [hz, if_true] at m
          obtain ⟨a', ea', alt⟩ := dget_any g2.gh qd (WRep.grow g2 r1) r2 hz
          rw [ea] at ea'
          cases ea'
          rcases alt with ⟨dg, e0⟩ | ⟨u, d0, dg, e0, ru⟩
          · rw [e0] at m
            exact ⟨none, dg, m .non G2 H2 (g1.trans g2) .non⟩
          · rw [e0] at m
            exact ⟨some u, dg, m u G2 H2 (g1.trans g2) ru⟩
theorem de_getA2 (hr : Room k X.A) (ho : PE X o (exOf K .w W fd)) (he : PE X e (exOf K .w W fk)) (hf : PE X f (exOf K .v W fx)) (m : M2 X o "get" apos e f cpos := by exact ⟨rfl, rfl, rfl, rfl⟩) :
    PE X (.Call (.Attribute o "get" apos) [e, f] [] cpos) (exOf K .v W (eGetA2 fd fk fx)) := pe_imp (pe_dget2 (hu_of hr) ho he hf m) fun σ H Q ⟨G, ρ, S, m⟩ => by
  refine ⟨G, ρ, S, ?_⟩
  unfold eGetA2 at m
  cases q : fd ρ with
  | exc c => simp only [q, R.bind_exc] at m; exact m
  | bad => simp only [q, R.bind_bad] at m
  | ok d =>
    simp only [q, R.bind_ok] at m
    cases qd : dictOf d with
    | none => simp only [qd, opt_none, R.bind_bad] at m
    | some tk =>
      obtain ⟨t, kvs⟩ := tk
      simp only [qd, opt_some, R.bind_ok] at m
      intro v G1 H1 g1 r1
      obtain ⟨a, ea, isd⟩ := isd_any g1.gh qd r1
      refine ⟨a, ea, isd, G1, ρ, S.grow g1, ?_⟩
      cases q2 : fk ρ with
      | exc c => simp only [q2, R.bind_exc] at m; exact fun G' H' g' => m G' H' (g1.trans g')
      | bad => simp only [q2, R.bind_bad] at m
      | ok kd =>
        simp only [q2, R.bind_ok] at m
        intro y G2 H2 g2 r2
        refine ⟨G2, ρ, (S.grow g1).grow g2, ?_⟩
        cases q3 : fx ρ with
        | exc c => simp only [q3, R.bind_exc] at m; exact fun G' H' g' => m G' H' ((g1.trans g2).trans g')
        | bad => simp only [q3, R.bind_bad] at m
        | ok xd =>
          simp only [q3, R.bind_ok] at m
          intro z G3 H3 g3 r3
          have g12 := g1.trans g2
          cases hz : okKey t kd with
          | false => simp only [hz, if_neg Bool.false_ne_true] at m
          | true =>
            simp only [hz, if_true] at m
            obtain ⟨a', ea', alt⟩ := dget_any g3.gh qd (WRep.grow g3 (WRep.grow g2 r1)) (WRep.grow g3 r2) hz
            rw [ea] at ea'
            cases ea'
            rcases alt with ⟨dg, e0⟩ | ⟨u, d0, dg, e0, ru⟩
            · rw [e0] at m
              exact ⟨none, dg, m z G3 H3 (g12.trans g3) r3⟩
            · rw [e0] at m
              exact ⟨some u, dg, m u G3 H3 (g12.trans g3) ru⟩
end
end Pd

/-! Pd41: set(a list of texts), its len and its sorted list. -/
namespace Pd
open PySem PySem.Spec L2 PySem.Froz PyProof.Rows
variable {K : PySem.W.Frag}
def txV : Value → Str
  | .str x _ => x
  | _ => Str.empty
/-- a set that holds the texts l, each once -/
def TxR (P : Program) (w : World) (h : Heap) (a : Addr) (l : List Str) : Prop :=
  ∃ D : SD, h.get? a = some (sObj "set" D) ∧ TxOk P w D l ∧ l.Nodup ∧ (D.1.toList.map fun e => txV e.2).Perm l ∧ (∀ e ∈ D.1.toList, ∃ k t, e.2 = .str k t) ∧ Ris D.2.2.place.toList ∧ (w.params.followText "set-order" = true ∨ D.2.2.led = true)
theorem TxR.at {P : Program} {w : World} {h h' : Heap} {a : Addr} {l : List Str} (R : TxR P w h a l) (k : ∀ o, h.get? a = some o → h'.get? a = some o) : TxR P w h' a l := by
  obtain ⟨D, ho, r⟩ := R
  exact ⟨D, k _ ho, r⟩
theorem txr_new {P : Program} {w : World} {h : Heap} {a : Addr} (ho : h.get? a = some (set0 w)) : TxR P w h a [] := by
  refine ⟨(#[], 0, .fresh 0 0 (!w.params.followText "set-order")), ho, TxOk.nil rfl, List.nodup_nil, List.Perm.refl _, (fun e he => nomatch he), List.Pairwise.nil, ?_⟩
  cases q : w.params.followText "set-order"
  · exact .inr rfl
  · exact .inl rfl
theorem addTx_ris {h : Int} {v : Value} {D : SD} (r : Ris D.2.2.place.toList) : Ris (addTx h v D).2.2.place.toList ∧ (addTx h v D).2.2.led = D.2.2.led := by
  obtain ⟨es, ep, t⟩ := D
  have r1 := layNew_ris t es h v r
  have l1 := layNew_led t es h v
  unfold addTx tailTx
  dsimp only
  generalize layNew t es h v = Z at r1 l1 ⊢
  obtain ⟨es1, t1, wd, gv⟩ := Z
  dsimp only at r1 l1 ⊢
  have key : ∀ t2 : SetTable, Ris t2.place.toList → t2.led = t.led → Ris (if (!wd && t2.tooFull) = true then ((relayAll t2 es1 (SetTable.grown es1.size)).1, ep + 2, (relayAll t2 es1 (SetTable.grown es1.size)).2.1) else (es1, ep + 1, t2) : SD).2.2.place.toList ∧
      (if (!wd && t2.tooFull) = true then ((relayAll t2 es1 (SetTable.grown es1.size)).1, ep + 2, (relayAll t2 es1 (SetTable.grown es1.size)).2.1) else (es1, ep + 1, t2) : SD).2.2.led = t.led := fun t2 h1 h2 => by
    split
    · exact ⟨relayAll_ris t2 es1 _, (relayAll_led t2 es1 _).trans h2⟩
    · exact ⟨h1, h2⟩
  split
  · exact key _ r1 l1
  · exact key _ r1 l1
theorem addTx_perm {h : Int} {v : Value} {D : SD} : (addTx h v D).1.toList.Perm ((h, v) :: D.1.toList) := by
  obtain ⟨es, ep, t⟩ := D
  have pm := layNew_perm t es h v
  rw [Array.toList_push] at pm
  have pc := pm.trans (List.perm_append_singleton _ _)
  unfold addTx tailTx
  dsimp only
  generalize layNew t es h v = Z at pc ⊢
  obtain ⟨es1, t1, wd, gv⟩ := Z
  dsimp only at pc ⊢
  have key : ∀ t2 : SetTable, (if (!wd && t2.tooFull) = true then ((relayAll t2 es1 (SetTable.grown es1.size)).1, ep + 2, (relayAll t2 es1 (SetTable.grown es1.size)).2.1) else (es1, ep + 1, t2) : SD).1.toList.Perm ((h, v) :: es.toList) := fun t2 => by
    split
    · exact (relayAll_perm t2 es1 _).trans pc
    · exact pc
  split
  · exact key _
  · exact key _
section
variable {P : Program} {w : World} {A : Around} {E : Value → Shared → Prop} {s : Shared}
/-- a text that is there is put in again: nothing changes -/
theorem same_x {a : Addr} {D : SD} {l : List Str} {k : Str} {u : Tok} {Q : Bool → Shared → Prop} (ho : s.heap.get? a = some (sObj "set" D)) (F : TxOk P w D l) (hk : k ∈ l) (hb : l.length < scanBound)
    (h : Q false s) : wpAny (model P w) A (setAddHashed a (.str k u) (hashStr w k)) Q E s := by
  obtain ⟨es, ep, t⟩ := D
  have hsz : es.size = l.length := F.sz
  have hkey : (strKind P w).is k (.str k u) = true := is_str k u
  unfold setAddHashed setAddHashedIn
  refine wpAny_holding (wpAny_bind (wpAny_setState_of ho rfl F.fit ?_))
  dsimp only
  rw [byScan_of rfl (show es.size < scanBound by omega) F.el]
  simp only [↓reduceIte]
  unfold setAddByScan
  refine wpAny_bind (wpAny_bind (wpAny_rule (wpAny_bind (wpAny_setScan_of (knd := strKind P w) (k := k) hkey ho rfl F.fit F.el ?_))))
  cases hfi : List.findIdx? (fun e => (strKind P w).is k e.2) es.toList with
  | some j => exact wpAny_pure (wpAny_pure h)
  | none =>
    obtain ⟨e, he, q⟩ := (F.mem k).mp hk
    have := List.findIdx?_eq_none_iff.mp hfi e he
    rw [q] at this
    cases this
theorem txr_put {a : Addr} {l : List Str} {k : Str} {u : Tok} {Q : Bool → Shared → Prop} (R : TxR P w s.heap a l) (hb : l.length + 1 < scanBound)
    (h : ∀ h' b, Heap.SameBut a s.heap h' → TxR P w h' a (if k ∈ l then l else k :: l) → Q b { s with heap := h' }) : wpAny (model P w) A (setAddHashed a (.str k u) (hashStr w k)) Q E s := by
  obtain ⟨D, ho, F, nd, pm, ks, r, hl⟩ := R
  by_cases hk : k ∈ l
  · refine same_x ho F hk (by omega) (h s.heap false (Heap.SameBut.refl a s.heap) ?_)
    rw [if_pos hk]
    exact ⟨D, ho, F, nd, pm, ks, r, hl⟩
  · obtain ⟨r2, l2⟩ := addTx_ris (h := hashStr w k) (v := .str k u) r
    refine add_x ho F hk hb (h _ true (Heap.SameBut.update s.heap a _) ?_)
    rw [if_neg hk]
    have ap := addTx_perm (h := hashStr w k) (v := .str k u) (D := D)
    have a2 : ((addTx (hashStr w k) (.str k u) D).1.toList.map fun e => txV e.2).Perm (k :: l) := by
      have z := ap.map fun e => txV e.2
      simp only [List.map_cons, show txV (Value.str k u) = k from rfl] at z
      exact z.trans (List.Perm.cons k pm)
    refine ⟨_, get_upd _ ho rfl, add_ok u F, List.nodup_cons.mpr ⟨hk, nd⟩, a2, fun e he => ?_, r2, hl.imp _root_.id fun z => by rw [l2]; exact z⟩
    rcases List.mem_cons.mp (ap.mem_iff.mp he) with z | z
    · rw [z]; exact ⟨k, u, rfl⟩
    · exact ks e z
theorem set_update_txts {I : Addr} {fp wr : List Addr} {G : Array GenState → Array GenState → Prop} {n : Nat} {Pv : Nat → Value → Prop} {St : Nat → Shared → Prop} {R : Result → Shared → Prop}
    (W : WalksS P w A.in1 I fp wr G n Pv St) (S : Addr) (hSf : S ∉ fp) (zs : List Str) (hn : n = zs.length) (hb : zs.length + 1 < scanBound) (hval : ∀ i v, Pv i v → ∃ k t, zs[i]? = some k ∧ v = .str k t) :
    ∀ (m i : Nat) (s : Shared) (l : List Str), n - i = m → i ≤ n → St i s → TxR P w s.heap S l → l.length ≤ i → (∀ x, x ∈ l ↔ x ∈ zs.take i) →
      (∀ s' l', Moved (S :: wr) G s s' → TxR P w s'.heap S l' → l'.length ≤ n → (∀ x, x ∈ l' ↔ x ∈ zs) → R (.ok (.ret .none)) s') → codeAny (model P w) A (.builtin "set.update.loop" ⟨[.ref S, .ref I], []⟩) R s := by
  have nw : S ∉ wr := fun z => hSf (W.sub _ z)
  have up : ∀ b ∈ wr, b ∈ S :: wr := fun b z => List.mem_cons_of_mem _ z
  intro m
  induction m with
  | zero =>
    intro i s l hm hi hst hS hl hx hR
    have hin : i = n := by omega
    subst hin
    refine codeAny_builtin F.entry_set_update_loop ?_
    rw [Around.under_plainId F.plain_set_update_loop _]
    show wpAny (model P w) A.in1 (pyNext (.ref I) >>= _) _ _ s
    refine wpAny_bind (W.done s _ _ hst fun s1 m1 => ?_)
    show wpAny (model P w) A.in1 (ret Value.none) _ _ s1
    rw [List.take_of_length_le (by omega)] at hx
    exact wpAny_pure (hR s1 l (m1.mono up) (hS.at fun o e => m1.heap S o nw e) hl hx)
  | succ m ih =>
    intro i s l hm hi hst hS hl hx hR
    have hlt : i < n := by omega
    refine codeAny_builtin F.entry_set_update_loop ?_
    rw [Around.under_plainId F.plain_set_update_loop _]
    show wpAny (model P w) A.in1 (pyNext (.ref I) >>= _) _ _ s
    refine wpAny_bind (W.item i s _ _ hlt hst fun v s1 hv hst1 m1 => ?_)
    obtain ⟨k, t, hk, rfl⟩ := hval i v hv
    have hS1 : TxR P w s1.heap S l := hS.at fun o e => m1.heap S o nw e
    show wpAny (model P w) A.in1 (holding [Value.str k t] (setAdd S (.str k t)) >>= _) _ _ s1
    refine wpAny_bind (wpAny_holding ?_)
    unfold setAdd
    refine wpAny_holding (wpAny_bind ((strKind P w).pyHash (k := k) (is_str k t) ?_))
    refine txr_put (s := { s1 with toks := s1.toks + 1 }) hS1 (by omega) fun h2 bb sb hS2 => ?_
    have hx2 : ∀ x, x ∈ (if k ∈ l then l else k :: l) ↔ x ∈ zs.take (i + 1) := fun x => by
      rw [List.take_add_one, hk, Option.toList_some, List.mem_append, List.mem_singleton, ← hx x]
      split
      · rename_i hin
        constructor
        · exact fun z => .inl z
        · rintro (z | rfl)
          · exact z
          · exact hin
      · rw [List.mem_cons]
        exact Or.comm
    have hl2 : (if k ∈ l then l else k :: l).length ≤ i + 1 := by
      split
      · omega
      · simp only [List.length_cons]; omega
    refine wpAny_pure ⟨plainId_quiet F.plain_set_update_loop _, ih (i + 1) _ _ (by omega) hlt (W.frame _ s1 _ _ hst1 (Nat.le_succ _) fun b z o e => ?_) hS2 hl2 hx2 fun s3 l3 m3 hS3 q1 q2 => ?_⟩
    · rw [sb.2 b (fun y : b = S => hSf (by rw [← y]; exact z))]
      exact e
    · refine hR s3 l3 (Moved.trans W.gtrans ((m1.mono up).then_heap (Nat.le_succ _) fun b o z e => ?_) m3) hS3 q1 q2
      rw [sb.2 b (fun y : b = S => z (by rw [y]; exact List.mem_cons_self))]
      exact e
theorem strs_at {h : Heap} {vs : Array Value} {zs : List Str} (S : PyProof.Rows.StrsAre vs.toList zs) (i : Nat) (v : Value) (hv : vs[i]? = some v) : ∃ k t, zs[i]? = some k ∧ v = .str k t := by
  have key : ∀ (vs : List Value) (zs : List Str), PyProof.Rows.StrsAre vs zs → ∀ (i : Nat) v, vs[i]? = some v → ∃ k t, zs[i]? = some k ∧ v = .str k t := by
    intro vs zs S
    induction S with
    | nil => intro i v h; simp at h
    | cons x t _ ih =>
      intro i v h
      cases i with
      | zero =>
        simp only [List.getElem?_cons_zero, Option.some.injEq] at h
        exact ⟨x, t, rfl, h.symm⟩
      | succ i =>
        simp only [List.getElem?_cons_succ] at h
        obtain ⟨k, u, h1, h2⟩ := ih i v h
        exact ⟨k, u, by simpa using h1, h2⟩
  exact key _ _ S i v (by rw [Array.getElem?_toList]; exact hv)
set_option maxHeartbeats 6000000 in
theorem init_set_txts {S l : Addr} {items : Array Value} {zs : List Str} (hh : A.handled = none) (hS : s.heap.get? S = some (set0 w)) (hl : s.heap.IsList l items)
    (hit : PyProof.Rows.StrsAre items.toList zs) (hz : items.size = zs.length) (hb : zs.length + 1 < scanBound) {Q : Value → Shared → Prop}
    (h : ∀ (h' : Heap) (tk : Nat) (l' : List Str), TxR P w h' S l' → l'.length ≤ zs.length → (∀ x, x ∈ l' ↔ x ∈ zs) → (∀ b o, b ≠ S → s.heap.get? b = some o → h'.get? b = some o) → Q .none { s with heap := h', toks := tk }) :
    codeAny (model P w) A (.call (.builtin "set.__init__") ⟨[.ref S, .ref l], []⟩) (wants Q E) s := by
  have hT : Shared.TypeIs s (.ref S) "set" := ⟨_, hS, rfl⟩
  refine codeAny_call_builtin F.called_set.init.plain F.entry_set_init (check_set_init_1 hT ?_)
  have hSlt : S < s.heap.objs.size := Heap.lt_size hS
  have hne : l ≠ S := by
    rintro rfl
    obtain ⟨o, ho, hc, _⟩ := hl
    rw [hS] at ho
    cases ho
    have hc' : Value.type "set" = Value.type "list" := hc
    exact absurd hc' (by decide)
  obtain ⟨ol, hol, hcl, nl, hdl⟩ := id hl
  obtain ⟨ocls, odict, odata, oslots⟩ := ol
  simp only at hcl hdl
  subst hcl
  subst hdl
  have t1 := F.sub_list_set
  have t2 := F.sub_list_frozenset
  have t3 : (Value.type "list" == Value.type "dict") = false := by decide
  have hlt : l < s.heap.objs.size := Heap.lt_size hol
  have fr1 : l ≠ s.heap.objs.size := Nat.ne_of_lt hlt
  have fr2 : S ≠ s.heap.objs.size := Nat.ne_of_lt hSlt
  unfold Builtin.«set.__init__» noKeywords Builtin.Frozenset.updateFrom
  generalize hPI : pyIter = PI
  wp_walk
  subst hPI
  refine wpAny_pyIter_list hl ?_
  refine wpAny_bind (wpAny_runValue ?_)
  have hA : A.in1.in1.handled = none := by simp [hh]
  have hS2 : (s.heap.push { cls := .type "list_iterator", data := .fields #[.ref l, .int 0 0] }).get? S = some (set0 w) := Heap.get?_push_of_some _ hS
  refine set_update_txts ((Walks.list hA s.heap.objs.size l fr1 items).toS) S (by simp [fr2, hne.symm]) zs hz hb (strs_at (h := s.heap) hit) (items.size - 0) 0 _ [] (by omega) (Nat.zero_le _)
    ?sts (txr_new hS2) (Nat.zero_le _) (fun x => by simp) fun s' l' hm hS' hl' hx' => ?_
  case sts => exact ⟨⟨_, Heap.get?_push_size _ rfl, rfl, rfl⟩, hl.push _⟩
  have e1 : s'.gens = s.gens := hm.gens
  have e2 : s'.drawn = s.drawn := hm.drawn
  have e3 : s'.os = s.os := hm.os
  have e : s' = { s with heap := s'.heap, toks := s'.toks } := by
    cases s'
    cases s
    simp only at e1 e2 e3
    subst e1 e2 e3
    rfl
  show wpAny _ _ _ _ _ _
  refine wpAny_pure ?_
  show wpAny _ _ (ret Value.none) _ _ _
  refine wpAny_pure ?_
  rw [e]
  refine h _ _ l' hS' (hz ▸ hl') hx' fun b o hbS hbo => ?_
  have fr3 : b ≠ s.heap.objs.size := Nat.ne_of_lt (Heap.lt_size hbo)
  exact hm.heap b o (by simp [hbS, fr3]) (Heap.get?_push_of_some _ hbo)
set_option maxHeartbeats 6000000 in
theorem call_set_txts {l : Addr} {items : Array Value} {zs : List Str} (hh : A.handled = none) (hl : s.heap.IsList l items) (hit : PyProof.Rows.StrsAre items.toList zs) (hz : items.size = zs.length) (hb : zs.length + 1 < scanBound) {Q : Value → Shared → Prop}
    (h : ∀ (h' : Heap) (tk : Nat) (l' : List Str), TxR P w h' s.heap.objs.size l' → l'.length ≤ zs.length → (∀ x, x ∈ l' ↔ x ∈ zs) → (∀ b o, s.heap.get? b = some o → h'.get? b = some o) → Q (.ref s.heap.objs.size) { s with heap := h', toks := tk }) :
    wpAny (model P w) A (call (.type "set") [.ref l]) Q E s := by
  obtain ⟨c, tl, hmro⟩ := F.called_set.mro
  have f1 := F.called_set.made
  have f2 := F.called_set.sub
  have f3 := F.called_set.notType
  have f4 := F.called_set.canCreate
  have f5 := F.typeCall_set_1 (.ref l)
  refine wpAny_call (codeAny_of_tree ?_)
  show wpAny _ _ (callAny (.type "set") _) _ _ _
  refine wpAny_pure ⟨Code.quiet_builtin _ (by decide +kernel), codeAny_builtin F.entry_type_call ?_⟩
  rw [Around.under_plain (weight_type_call_type "set" [.ref l] []) rfl]
  repeat (any_goals (first | assumption | wp_step))
  refine codeAny_mono (code_set_led1 (.ref l) (E := E) (Q₁ := fun obj s₁ => obj = .ref s.heap.objs.size ∧ s₁ = { s with heap := s.heap.push (set0 w) }) ⟨rfl, rfl⟩) fun r s₁ hr => ?_
  match r, hr with
  | .error e, hr => exact hr
  | .ok (.ret obj), hr =>
    obtain ⟨rfl, rfl⟩ := hr
    have hS : (s.heap.push (set0 w)).get? s.heap.objs.size = some (set0 w) := Heap.get?_push_size _ rfl
    have hT : Shared.TypeIs { s with heap := s.heap.push (set0 w) } (.ref s.heap.objs.size) "set" := ⟨_, hS, rfl⟩
    have g1 := F.called_set.init.lookup
    have g2 := F.called_set.init.bind (.ref s.heap.objs.size)
    repeat (any_goals (first | assumption | wp_step))
    refine codeAny_mono (init_set_txts (s := { s with heap := s.heap.push (set0 w) }) (E := E) (Q := fun r s₂ => r = .none ∧ ∃ h' tk l', s₂ = { s with heap := h', toks := tk } ∧ TxR P w h' s.heap.objs.size l' ∧ l'.length ≤ zs.length ∧ (∀ x, x ∈ l' ↔ x ∈ zs) ∧
          (∀ b o, s.heap.get? b = some o → h'.get? b = some o)) (by simpa using hh) hS (hl.push _) hit hz hb fun h' tk l' h1 h2 h3 h4 => ⟨rfl, h', tk, l', rfl, h1, h2, h3, fun b o e => h4 b o (Nat.ne_of_lt (Heap.lt_size e)) (Heap.get?_push_of_some _ e)⟩) fun r₂ s₂ hr₂ => ?_
    match r₂, hr₂ with
    | .error e, hr₂ => exact hr₂
    | .ok (.ret r), hr₂ =>
      obtain ⟨rfl, h', tk, l', rfl, q1, q2, q3, q4⟩ := hr₂
      repeat (any_goals (first | assumption | wp_step))
      exact h _ _ _ q1 q2 q3 q4
end
end Pd

/-! Pd42: sorted lists of data of any kind, sorted(set(texts)), len(set(texts)). -/
namespace Pd
open PySem PySem.Spec L2 PySem.W PySem.Froz PySem.Calls PyProof.Rows
variable {K : PySem.W.Frag}
/-! ### sorted(a list of data) -/
def ordD (a b : D) : Bool := dataLe false toPy a b
/-- tuples that are not empty all, or none a tuple -/
def tupsD (ds : List D) : Bool := ds.all fun d => match d with
  | .tup (_ :: _) => true
  | _ => false
def nonTupD (ds : List D) : Bool := ds.all fun d => match d with
  | .tup _ => false
  | _ => true
def sortOk (ds : List D) : Bool := ordOk ds && (tupsD ds || nonTupD ds)
def sortedAD : D → Option D
  | .lst ds => if sortOk ds && szOk ds.length then some (.lst (ds.mergeSort ordD)) else none
  | _ => none
theorem sortOk_able {ds : List D} (h : sortOk ds = true) : Sortable (ds.map toPy) := by
  unfold sortOk at h
  rw [Bool.and_eq_true, Bool.or_eq_true] at h
  rcases h.2 with z | z
  · refine .inl fun d hd => ?_
    obtain ⟨e, he, rfl⟩ := List.mem_map.mp hd
    have := List.all_eq_true.mp z e he
    split at this
    · exact ⟨_, _, rfl⟩
    · cases this
  · refine .inr fun d hd => ?_
    obtain ⟨e, he, rfl⟩ := List.mem_map.mp hd
    have t := List.all_eq_true.mp z e he
    have n : someD e = true := by
      have h1 := h.1
      unfold ordOk at h1
      rw [Bool.and_eq_true] at h1
      exact List.all_eq_true.mp h1.2 e he
    refine ⟨toPy_some n, fun xs q => ?_⟩
    cases e <;> first | (simp at t; done) | (simp [toPy] at q)
def rSortA (K : PySem.W.Frag) : List V → Hp → VK → Prop := fun vs H Q => ∃ (a : Addr) (xs : List V) (ds : List D), vs = [.ref a] ∧ SqL K H a xs ∧ DpAll K H xs (toPys ds) ∧ sortOk ds = true ∧ ds.length ≤ sizeLine ∧
  ∀ p, H p = none → Q (.ref p) (upd H p (.lst (((xs.zip ds).mergeSort (dataLe false fun b => toPy b.2)).map (·.1))))
theorem readsAll_mem {h : Heap} : ∀ {us : List Value} {ps : List PyData} {as : List Addr}, ReadsAll h us ps as → EachIs (fun u p => ∃ as, Reads h u p as) us ps
  | [], [], _, .nil => .nil
  | _ :: _, _ :: _, _, .cons a b => .cons ⟨_, a⟩ (readsAll_mem b)
theorem each_zip {h : Heap} : ∀ {xs : List V} {ds : List D} {us : List Value}, Vals xs us → EachIs (fun u p => ∃ as, Reads h u p as) us (toPys ds) → EachIs (fun u (b : V × D) => RelV b.1 u) us (xs.zip ds) ∧ EachIs (fun u (b : V × D) => ∃ as, Reads h u (toPy b.2) as) us (xs.zip ds)
  | [], [], _, r, e => by cases r; exact ⟨.nil, .nil⟩
  | [], _ :: _, _, r, e => by cases r; rw [toPys] at e; cases e
  | _ :: _, [], _, r, e => by cases r; rw [toPys] at e; cases e
  | x :: xs, d :: ds, _, r, e => by
    cases r with
    | cons r1 r2 =>
      rw [toPys] at e
      cases e with
      | cons e1' e2' =>
        obtain ⟨a, b⟩ := each_zip r2 e2'
        exact ⟨.cons r1 a, .cons e1' b⟩
theorem vals_each {β : Type} {f : β → V} : ∀ {out : List Value} {bs : List β}, EachIs (fun u b => RelV (f b) u) out bs → Vals (bs.map f) out
  | _, _, .nil => .nil
  | _, _, .cons h t => .cons h (vals_each t)
section
variable {X : Cx}
theorem cr_sortA (hu : X.A.units + 65 < cLine) : CallR X (.builtin "sorted") (rSortA X.K) := by
  intro pins s σ H vs us Q I r h
  obtain ⟨a, xs, ds, rfl, hs, hd, ok, hz, q⟩ := h
  obtain ⟨its, rv, hl, hsz⟩ := I.list hs
  rw [Vals.ref1 r]
  obtain ⟨as, hr⟩ := Dp.readsAll I _ xs its hd rv
  obtain ⟨ez1, ez2⟩ := each_zip rv (readsAll_mem hr)
  have al := ordOk_al (show ordOk ds = true by unfold sortOk at ok; rw [Bool.and_eq_true] at ok; exact ok.1)
  have okk := ordOk_ok (show ordOk ds = true by unfold sortOk at ok; rw [Bool.and_eq_true] at ok; exact ok.1)
  have lx : xs.length = ds.length := by
    have a1 := rv.length
    have a2 := (readsAll_mem hr).length
    rw [toPys_map, List.length_map] at a2
    omega
  have lz : (xs.zip ds).length = ds.length := by rw [List.length_zip]; omega
  have mz : (xs.zip ds).map (fun b => toPy b.2) = ds.map toPy := by
    have : (xs.zip ds).map (fun b => toPy b.2) = ((xs.zip ds).map (·.2)).map toPy := by rw [List.map_map]; rfl
    rw [this, List.map_snd_zip (by omega)]
  refine sorted_data (bs := xs.zip ds) (enc := fun b : V × D => toPy b.2) hl.isList ez1 ez2 (by rw [mz, ← toPys_map]; exact fun d hd d' hd' => al.1 d hd d' hd') (by rw [mz]; exact sortOk_able ok) (by rw [lz]; exact hz) (fun b hb => ?_) fun out ho eo => ?_
  · have hb2 := (List.of_mem_zip hb).2
    have := (okD_all 14 b.2 (List.all_eq_true.mp okk _ hb2)).2
    omega
  · obtain ⟨ep, he'⟩ := PyProof.Rows.sortedAll_at s.heap its out.toArray
    have rv2 := vals_each (f := fun b : V × D => b.1) eo
    have hlen : (((xs.zip ds).mergeSort (dataLe false fun b => toPy b.2)).map (·.1)).length ≤ sizeLine := by rw [List.length_map, List.length_mergeSort, lz]; exact hz
    exact ⟨.ref _, upd H (s.heap.objs.size + 1) (.lst _), I.laid (t' := s.toks) (fun _ _ => PyProof.Rows.sortedAll_old) (Nat.le_succ _) ⟨hlen, out, ep, rv2, he'⟩, rfl, q _ (I.hok.fresh (Nat.le_succ _))⟩
theorem zip_sorted {G : Hp} {xs : List V} {ds : List D} (r : RepL K G xs ds) : RepL K G (((xs.zip ds).mergeSort (dataLe false fun b => toPy b.2)).map (·.1)) (ds.mergeSort ordD) := by
  have hm : ∀ b ∈ (xs.zip ds).mergeSort (dataLe false fun b : V × D => toPy b.2), Rep K G b.1 b.2 := fun b hb => by
    have hb' := (List.mergeSort_perm _ _).mem_iff.mp hb
    obtain ⟨i, hi⟩ := List.mem_iff_getElem?.mp hb'
    obtain ⟨h1, h2⟩ := List.getElem?_zip_eq_some.mp hi
    obtain ⟨v, h3, h4⟩ := r.get h2
    rw [h1] at h3
    cases h3
    exact h4
  have e : ds.mergeSort ordD = ((xs.zip ds).mergeSort (dataLe false fun b : V × D => toPy b.2)).map (·.2) := by
    have m4 := sort_maps (r := dataLe false fun b : V × D => toPy b.2) (s := ordD) (fun b : V × D => b.2) (l := xs.zip ds) (fun a _ b _ => rfl)
    rw [m4, List.map_snd_zip (by rw [r.length]; exact Nat.le_refl _)]
  rw [e]
  generalize (xs.zip ds).mergeSort (dataLe false fun b : V × D => toPy b.2) = Z at hm
  induction Z with
  | nil => exact .nil
  | cons b Z ih => exact .cons (hm b (.head _)) (ih fun c hc => hm c (.tail _ hc))
theorem do_sortA {k : Nat} (hr : Room k X.A) (hK : X.K = K := by rfl) : CallR X (.builtin "sorted") (rC1 K .o sortedAD) := cr1_of fun G H x d r Q sub w q m => by
  subst hK
  cases d with
  | lst ds =>
    simp only [sortedAD] at q
    split at q
    · rename_i hz
      rw [Bool.and_eq_true] at hz
      cases q
      obtain ⟨a, vs, rfl, ha, rl⟩ := wrep_lst sub w
      have ok := ordOk_ok (show ordOk ds = true by have := hz.1; unfold sortOk at this; rw [Bool.and_eq_true] at this; exact this.1)
      exact ⟨_, cr_sortA (un65 hr), a, vs, ds, rfl, .of ha, repl_dp sub ds 14 vs ok rl, hz.1, szOk_le hz.2, fun p hp => res_own sub m hp (zip_sorted rl)⟩
    · cases q
  | _ => cases q
end
/-! ### sets of texts -/
def txLe (a b : Str) : Bool := dataLe false PyData.str a b
def sortS (l : List Str) : List Str := l.mergeSort txLe
def dedS : List Str → List Str
  | [] => []
  | a :: l => if a ∈ l then dedS l else a :: dedS l
def setS (l : List Str) : List Str := sortS (dedS l)
theorem dedS_mem {x : Str} : ∀ {l : List Str}, x ∈ dedS l ↔ x ∈ l
  | [] => Iff.rfl
  | a :: l => by
    unfold dedS
    split
    · rename_i h
      rw [dedS_mem, List.mem_cons]
      constructor
      · exact .inr
      · rintro (rfl | z)
        · exact h
        · exact z
    · rw [List.mem_cons, List.mem_cons, dedS_mem]
theorem dedS_nodup : ∀ l : List Str, (dedS l).Nodup
  | [] => List.nodup_nil
  | a :: l => by
    unfold dedS
    split
    · exact dedS_nodup l
    · rename_i h
      exact List.nodup_cons.mpr ⟨fun z => h (dedS_mem.mp z), dedS_nodup l⟩
theorem txLe_eq (a b : Str) : txLe a b = decide (a.cps.toList ≤ b.cps.toList) := by
  unfold txLe
  rw [dataLe_eq]
  show (!dataLt (.str b) (.str a)) = _
  rw [dataLt_str, not_lt_str]
theorem txLe_trans {a b c : Str} (h1 : txLe a b = true) (h2 : txLe b c = true) : txLe a c = true := by
  rw [txLe_eq, decide_eq_true_eq] at *
  exact List.le_trans h1 h2
theorem txLe_total (a b : Str) : (txLe a b || txLe b a) = true := by
  rw [txLe_eq, txLe_eq, Bool.or_eq_true, decide_eq_true_eq, decide_eq_true_eq]
  exact List.le_total _ _
theorem txLe_anti {a b : Str} (h1 : txLe a b = true) (h2 : txLe b a = true) : a = b := by
  rw [txLe_eq, decide_eq_true_eq] at *
  exact str_of_cps (List.le_antisymm h1 h2)
theorem sortS_perm (l : List Str) : (sortS l).Perm l := List.mergeSort_perm _ _
theorem sortS_le (l : List Str) : (sortS l).Pairwise (fun a b => txLe a b = true) := List.pairwise_mergeSort (le := txLe) (fun _ _ _ => txLe_trans) txLe_total l
theorem txs_uniq {a b : List Str} (p : a.Perm b) (h1 : a.Pairwise fun a b => txLe a b = true) (h2 : b.Pairwise fun a b => txLe a b = true) : a = b :=
  List.Perm.eq_of_pairwise (fun x y _ _ h1 h2 => txLe_anti h1 h2) h1 h2 p
theorem sortS_eq {a b : List Str} (p : a.Perm b) : sortS a = sortS b := txs_uniq (((sortS_perm a).trans p).trans (sortS_perm b).symm) (sortS_le a) (sortS_le b)
theorem setS_of {a b : List Str} (na : a.Nodup) (h : ∀ x, x ∈ a ↔ x ∈ b) : sortS a = setS b :=
  sortS_eq ((List.perm_ext_iff_of_nodup na (dedS_nodup b)).mpr fun x => by rw [h x, dedS_mem])
theorem setS_len {a b : List Str} (na : a.Nodup) (h : ∀ x, x ∈ a ↔ x ∈ b) : (setS b).length = a.length := by
  rw [← setS_of na h, (sortS_perm a).length_eq]
theorem setS_mem {x : Str} {l : List Str} : x ∈ setS l ↔ x ∈ l := by
  unfold setS
  rw [(sortS_perm _).mem_iff, dedS_mem]
theorem setS_nodup (l : List Str) : (setS l).Nodup := (sortS_perm _).nodup_iff.mpr (dedS_nodup l)
def TxO (P : Program) (w : World) (a : Addr) (l : List Str) : HO := .ext fun h => TxR P w h a l
section
variable {X : Cx}
theorem txO_new {P : Program} {w : World} {H : Hp} {h : Heap} {a : Addr} {l : List Str} (R : TxR P w h a l) : ObjOk P w H h a (TxO P w a l) := by
  have ⟨D, ho, _⟩ := R
  exact ⟨R, ⟨_, ho⟩, fun h1 h2 p k => TxR.at p k⟩
theorem txO_get {pins : List (Addr × Obj)} {σ : L2.St} {H : Hp} {s : Shared} {a : Addr} {l : List Str} (I : Inv X pins σ H s) (ha : H a = some (TxO X.prog X.w a l)) : TxR X.prog X.w s.heap a l := (I.hok a _ ha).1
/-- set(l): l a list of texts -/
def rSetS (K : PySem.W.Frag) (P : Program) (w : World) : List V → Hp → VK → Prop := fun xs H Q => ∃ (a : Addr) (zs : List Str), xs = [.ref a] ∧ SqL K H a (zs.map V.str) ∧ zs.length ≤ 4000 ∧
  ∀ p l, H p = none → l.length ≤ zs.length → l.Nodup → (∀ x, x ∈ l ↔ x ∈ zs) → Q (.ref p) (upd H p (TxO P w p l))
theorem cr_setS (hc : X.calm = true) : CallR X (.type "set") (rSetS X.K X.prog X.w) := by
  intro pins s σ H xs us Q I r h
  obtain ⟨a, zs, rfl, hq, hn, q⟩ := h
  rw [Vals.ref1 r]
  obtain ⟨its, rv, pl, hz⟩ := I.list hq
  have li : its.length = zs.length := by have := rv.length; rw [List.length_map] at this; exact this.symm
  refine call_set_txts (I.ok.hd hc) pl.isList (by simpa using rv.strs) (by simpa using li) (by unfold scanBound; omega) fun h' tk l h1 h2 h3 h4 => ?_
  have nd : l.Nodup := by obtain ⟨_, _, _, nd, _⟩ := h1; exact nd
  exact ⟨.ref _, upd H s.heap.objs.size (TxO X.prog X.w s.heap.objs.size l), I.laid (t' := tk) h4 (Nat.le_refl _) (txO_new h1), rfl, q _ _ (I.hok.fresh (Nat.le_refl _)) h2 nd h3⟩
/-- len(found): found a set of texts -/
def rLenS (P : Program) (w : World) : List V → Hp → VK → Prop := fun xs H Q => ∃ (a : Addr) (l : List Str), xs = [.ref a] ∧ H a = some (TxO P w a l) ∧ l.length ≤ 4000 ∧ Q (.int l.length) H
theorem cr_lenS : CallR X (.builtin "len") (rLenS X.prog X.w) := by
  intro pins s σ H xs us Q I r h
  obtain ⟨a, l, rfl, ha, hn, q⟩ := h
  rw [Vals.ref1 r]
  obtain ⟨D, ho, F, nd, pm, ks, ri, hl⟩ := txO_get I ha
  have hz : D.1.size = l.length := F.sz
  exact call_len_set ho ⟨rfl, rfl, rfl⟩ rfl F.fit (by rw [hz]; omega) ⟨.int l.length, H, I.tok _, ⟨_, by rw [hz]⟩, q⟩
theorem strs_each : ∀ (vs : List Value), (∀ v ∈ vs, ∃ k t, v = Value.str k t) → EachIs (fun v b => ∃ t, v = Value.str b t) vs (vs.map txV)
  | [], _ => .nil
  | v :: vs, h => by
    obtain ⟨k, t, rfl⟩ := h v (.head _)
    exact .cons ⟨t, rfl⟩ (strs_each vs fun u hu => h u (.tail _ hu))
theorem strs_reads {h : Heap} {a : Addr} : ∀ {vs : List Value} {bs : List Str}, EachIs (fun v b => ∃ t, v = Value.str b t) vs bs → EachIs (fun v b => ∃ as, Reads h v (PyData.str b) as ∧ a ∉ as) vs bs
  | _, _, .nil => .nil
  | _, _, .cons ⟨t, e⟩ r => .cons ⟨[], by rw [e]; exact .str _ t, List.not_mem_nil⟩ (strs_reads r)
theorem strs_vals : ∀ {vs : List Value} {bs : List Str}, EachIs (fun v b => ∃ t, v = Value.str b t) vs bs → Vals (bs.map V.str) vs
  | _, _, .nil => .nil
  | _, _, .cons h r => .cons h (strs_vals r)
/-- sorted(found) -/
def rSortS (P : Program) (w : World) : List V → Hp → VK → Prop := fun vs H Q => ∃ (a : Addr) (l : List Str), vs = [.ref a] ∧ H a = some (TxO P w a l) ∧ l.length ≤ 4000 ∧
  ∀ p, H p = none → Q (.ref p) (upd H p (.lst ((sortS l).map V.str)))
theorem cr_sortS (hc : X.calm = true) (hu : X.A.units + 64 < cLine) : CallR X (.builtin "sorted") (rSortS X.prog X.w) := by
  intro pins s σ H vs us Q I r h
  obtain ⟨a, l, rfl, ha, hn, q⟩ := h
  rw [Vals.ref1 r]
  obtain ⟨D, ho, F, nd, pm, ks, ri, hl⟩ := txO_get I ha
  obtain ⟨es, ep, t⟩ := D
  have hz : es.size = l.length := F.sz
  have hsc : es.size < scanBound := by unfold scanBound; omega
  have hh : X.A.handled = none := I.ok.hd hc
  refine call_function_entry kind_sorted plain_sorted entry_sorted (args_sorted1 _) ?_
  unfold Builtin.«sorted»
  refine wpAny_bind (m := checkCount "sorted" 1 1 _) (wpAny_pure ?_)
  refine wpAny_bind (collect_set (A := X.A.in1) (es := es) (ep := ep) (t := t) hh ⟨_, ho, rfl, rfl⟩ F.fit hsc ri hl fun s1 out k1 z1 g1 o1 pmo => ?_)
  have lo : out.length = l.length := by rw [pmo.length_eq, List.length_map, Array.length_toList]; exact hz
  have hsl : l.length ≤ sizeLine := by rw [sizeLine_eq]; omega
  refine wpAny_bind (wpAny_newList ?_ (by rw [lo]; exact hsl))
  have hoL : (s1.heap.push (seqObj "list" out.toArray 0)).get? s1.heap.objs.size = some (seqObj "list" out.toArray 0) := Heap.get?_push_size _ rfl
  have st : ∀ v ∈ out, ∃ k t, v = Value.str k t := fun v hv => by
    obtain ⟨e, he, rfl⟩ := List.mem_map.mp (pmo.mem_iff.mp hv)
    exact ks e he
  have eo := strs_each out st
  refine wpAny_bind (wpAny_holding (wpAny_mono (list_sort_data (s := { s1 with heap := s1.heap.push (seqObj "list" out.toArray 0) }) (Q := fun _ s2 => ∃ vs2 bs2, s2 = { s1 with heap := PyProof.Rows.sortedHeap (s1.heap.push (seqObj "list" out.toArray 0)) s1.heap.objs.size out (List.toArray vs2) } ∧ EachIs (fun v b => ∃ t, v = Value.str b t) vs2 bs2 ∧ bs2 = (out.map txV).mergeSort txLe)
    (bs := out.map txV) (enc := PyData.str) (R := fun v b => ∃ t, v = Value.str b t) hoL eo (strs_reads eo) (AllAlike.of fun b b' => by simp [alike]) (Sortable.others fun b => ⟨by simp, fun xs => by simp⟩) (by rw [List.length_map, lo]; exact hsl) (fun b _ => by
      show X.A.units + 1 + 1 + (PyData.str b).depth < cLine
      simp only [PyData.depth]
      omega) fun o2 l2 e2 => ⟨o2, _, rfl, e2, rfl⟩) (fun _ s2 hs2 => ?_) fun _ _ e => e))
  obtain ⟨vs2, bs2, rfl, e2, rfl⟩ := hs2
  have pe : (out.map txV).mergeSort txLe = sortS l := by
    have p1 : (out.map txV).Perm l := by
      have := (pmo.map txV)
      rw [List.map_map] at this
      exact this.trans pm
    exact sortS_eq p1
  rw [pe] at e2
  obtain ⟨c, hc2⟩ := PyProof.Rows.sortedHeap_at (vs := out) (out := vs2.toArray) hoL
  have hn0 : H s1.heap.objs.size = none := I.hok.fresh z1
  have hlen : ((sortS l).map V.str).length ≤ sizeLine := by rw [List.length_map, (sortS_perm l).length_eq]; exact hsl
  have kp : ∀ b u, s.heap.get? b = some u → (PyProof.Rows.sortedHeap (s1.heap.push (seqObj "list" out.toArray 0)) s1.heap.objs.size out vs2.toArray).get? b = some u := fun b u e => by
    have q1 := k1 b u e
    have lt := Heap.lt_size q1
    rw [PyProof.Rows.sortedHeap_old (Nat.ne_of_lt lt) (by rw [Heap.size_push]; exact Nat.lt_succ_of_lt lt)]
    exact Heap.get?_push_of_some _ q1
  generalize hF : PyProof.Rows.sortedHeap (s1.heap.push (seqObj "list" out.toArray 0)) s1.heap.objs.size out vs2.toArray = hF' at hc2 kp ⊢
  have J : L2.Inv X pins σ (upd H s1.heap.objs.size (.lst ((sortS l).map V.str))) { s with heap := hF', gens := s1.gens, drawn := s1.drawn, toks := s1.toks } :=
    I.call (ch := []) (Un.laid kp z1 hn0) (I.hok.laid kp z1 ⟨hlen, vs2, c, strs_vals e2, hc2⟩) (by rw [g1]; exact I.bare) (fun _ z => nomatch z)
  have e : ({ s1 with heap := hF' } : Shared) = { s with heap := hF', gens := s1.gens, drawn := s1.drawn, toks := s1.toks } := by
    cases s1
    cases s
    cases o1
    rfl
  rw [e]
  exact wpAny_pure ⟨_, rfl, .ref _, _, J, rfl, q _ hn0⟩
end
/-! ### as readings -/
def strsD : List D → Option (List Str)
  | [] => some []
  | .str b :: ds => (strsD ds).map (b :: ·)
  | _ :: _ => none
theorem strsD_map : ∀ (xs : List Str), strsD (xs.map D.str) = some xs
  | [] => rfl
  | x :: xs => by rw [List.map_cons, strsD, strsD_map xs]; rfl
theorem strs_rep {G : Hp} : ∀ {vs : List V} {ds : List D} {bs : List Str}, RepL K G vs ds → strsD ds = some bs → vs = bs.map V.str
  | _, _, _, .nil, h => by cases h; rfl
  | _, _, _, .cons (d := d) (ds := ds) h r, q => by
    cases d with
    | str b =>
      cases h
      cases e : strsD ds with
      | none => simp [strsD, e] at q
      | some bs =>
        simp [strsD, e] at q
        subst q
        rw [List.map_cons, ← strs_rep r e]
    | _ => simp [strsD] at q
theorem RepL.strs {G : Hp} : ∀ (zs : List Str), RepL K G (zs.map V.str) (zs.map D.str)
  | [] => .nil
  | z :: zs => .cons (.str z) (RepL.strs zs)
/-- sorted(set(l)), l of texts -/
def sortedSetTD : D → Option D
  | .lst ds => (strsD ds).bind fun zs => if decide (zs.length ≤ 4000) then some (.lst ((setS zs).map D.str)) else none
  | _ => none
/-- len(set(l)), l of texts -/
def lenSetTD : D → Option D
  | .lst ds => (strsD ds).bind fun zs => if decide (zs.length ≤ 4000) then some (.int ((setS zs).length : Nat)) else none
  | _ => none
theorem rsortS_ok {P : Program} {w : World} {G H : Hp} {x : V} {d : D} {Q : VK} (sub : Sub G H) (wr : WRep K G H x d) (m : ResK K .o G H Q (sortedSetTD d)) : rSetS K P w [x] H fun v H1 => rSortS P w [v] H1 Q := by
  cases d with
  | lst ds =>
    obtain ⟨a, vs, rfl, ha, rl⟩ := wrep_lst sub wr
    simp only [sortedSetTD] at m
    cases e : strsD ds with
    | none => rw [e] at m; exact m.elim
    | some zs =>
      rw [e] at m
      simp only [Option.bind_some] at m
      split at m
      · rename_i hz
        have hz := of_decide_eq_true hz
        have ev := strs_rep rl e
        subst ev
        refine ⟨a, zs, rfl, .of ha, hz, fun p l hp hl nd hx => ?_⟩
        refine ⟨p, l, rfl, upd_same, by omega, fun p2 hp2 => ?_⟩
        rw [setS_of nd hx]
        have g1 : Grow G H G (upd H p (TxO P w p l)) := .more sub hp
        have hp2' : Fr H p2 := g1.hh.free (.of hp2)
        exact m _ _ _ (g1.trans (.more g1.gh hp2)) ⟨p2, rfl, hp2', g1.gh.free hp2, _, upd_same, RepL.strs _⟩
      · exact m.elim
  | _ => exact m.elim
theorem rlenS_ok {P : Program} {w : World} {G H : Hp} {x : V} {d : D} {Q : VK} (sub : Sub G H) (wr : WRep K G H x d) (m : ResK K .v G H Q (lenSetTD d)) : rSetS K P w [x] H fun v H1 => rLenS P w [v] H1 Q := by
  cases d with
  | lst ds =>
    obtain ⟨a, vs, rfl, ha, rl⟩ := wrep_lst sub wr
    simp only [lenSetTD] at m
    cases e : strsD ds with
    | none => rw [e] at m; exact m.elim
    | some zs =>
      rw [e] at m
      simp only [Option.bind_some] at m
      split at m
      · rename_i hz
        have hz := of_decide_eq_true hz
        have ev := strs_rep rl e
        subst ev
        refine ⟨a, zs, rfl, .of ha, hz, fun p l hp hl nd hx => ?_⟩
        refine ⟨p, l, rfl, upd_same, by omega, ?_⟩
        rw [setS_len nd hx] at m
        exact m _ _ _ (.more sub hp) (.int _)
      · exact m.elim
  | _ => exact m.elim
section
variable {X : Cx} {W : WN} {a : Expr} {f : Ev → R D} {p p2 q pos : Pos} {k : Nat}
theorem de_sortedSetT (hr : Room k X.A) (hm : X.mg "sorted" = none) (hm2 : X.mg "set" = none) (ha : PE X a (exOf K .w W f)) (hc : X.calm = true := by rfl) (hK : X.K = K := by rfl) (hg : Gl X "sorted" := by rfl) (hg2 : Gl X "set" := by rfl)
    (na : starEach (a :: []) X.env = (false, eval a X.env) :: starEach [] X.env := by rfl) (nb : starEach (.Call (.Name "set" p2) [a] [] q :: []) X.env = (false, eval (.Call (.Name "set" p2) [a] [] q) X.env) :: starEach [] X.env := by rfl)
    (hpl : (backTo q (starEach [] X.env)).any (·.1) = false := by rfl) (hpl2 : (backTo pos (starEach [] X.env)).any (·.1) = false := by rfl) :
    PE X (.Call (.Name "sorted" p) [.Call (.Name "set" p2) [a] [] q] [] pos) (exOf K .o W (Pd.e1 sortedSetTD f)) := by
  subst hK
  exact pe_imp (pe_callB (cr_sortS hc hr.units) hg hm (by decide +kernel) (pa_cons (pe_callTy (cr_setS hc) hg2 hm2 (by decide +kernel) (pa_cons ha pa_nil na) (by decide) (by decide) na hpl) pa_nil nb) (by decide) (by decide) nb hpl2) fun σ H Q h =>
    ex1 (K := X.K) (k := .o) (f := f) (g := sortedSetTD) (r := fun x H Q => rSetS X.K X.prog X.w [x] H fun v H1 => rSortS X.prog X.w [v] H1 Q) (fun G H x d Q sub w m => rsortS_ok sub w m) h
theorem de_lenSetT (hm : X.mg "len" = none) (hm2 : X.mg "set" = none) (ha : PE X a (exOf K .w W f)) (hc : X.calm = true := by rfl) (hK : X.K = K := by rfl) (hg : Gl X "len" := by rfl) (hg2 : Gl X "set" := by rfl)
    (na : starEach (a :: []) X.env = (false, eval a X.env) :: starEach [] X.env := by rfl) (nb : starEach (.Call (.Name "set" p2) [a] [] q :: []) X.env = (false, eval (.Call (.Name "set" p2) [a] [] q) X.env) :: starEach [] X.env := by rfl)
    (hpl : (backTo q (starEach [] X.env)).any (·.1) = false := by rfl) (hpl2 : (backTo pos (starEach [] X.env)).any (·.1) = false := by rfl) :
    PE X (.Call (.Name "len" p) [.Call (.Name "set" p2) [a] [] q] [] pos) (exOf K .v W (Pd.e1 lenSetTD f)) := by
  subst hK
  exact pe_imp (pe_callB cr_lenS hg hm (by decide +kernel) (pa_cons (pe_callTy (cr_setS hc) hg2 hm2 (by decide +kernel) (pa_cons ha pa_nil na) (by decide) (by decide) na hpl) pa_nil nb) (by decide) (by decide) nb hpl2) fun σ H Q h =>
    ex1 (K := X.K) (k := .v) (f := f) (g := lenSetTD) (r := fun x H Q => rSetS X.K X.prog X.w [x] H fun v H1 => rLenS X.prog X.w [v] H1 Q) (fun G H x d Q sub w m => rlenS_ok sub w m) h
end
end Pd

/-! Pd43: zip of two or three, lists or tuples each; the drawing of a turn. -/
namespace Pd
open PySem PySem.Spec L2 PyProof.Rows
/-- an iterator of a list or of a tuple -/
structure Src where
  it : Addr
  l : Addr
  tup : Bool
  xs : Array Value
def SrcAt (h : Heap) (c : Src) (k : Nat) : Prop := if c.tup then h.IsTupleIter c.it c.l k else h.IsListIter c.it c.l k
def SeqAt' (h : Heap) (c : Src) : Prop := if c.tup then h.IsTuple c.l c.xs else h.IsList c.l c.xs
abbrev SeqAt := SeqAt'
abbrev tupO (vs : Array Value) : Obj := { cls := .type "tuple", data := .seq vs }
theorem SrcAt.but {h h' : Heap} {c : Src} {k : Nat} {b : Addr} (u : SrcAt h c k) (s : Heap.ExtBut b h h') (n : c.it ≠ b) : SrcAt h' c k := by
  unfold SrcAt at u ⊢
  split
  · rename_i q
    rw [if_pos q] at u
    exact u.at fun o e => s _ _ n e
  · rename_i q
    rw [if_neg q] at u
    exact u.at fun o e => s _ _ n e
theorem SrcAt.at {h h' : Heap} {c : Src} {k : Nat} (u : SrcAt h c k) (s : ∀ o, h.get? c.it = some o → h'.get? c.it = some o) : SrcAt h' c k := by
  unfold SrcAt at u ⊢
  split
  · rename_i q
    rw [if_pos q] at u
    exact u.at s
  · rename_i q
    rw [if_neg q] at u
    exact u.at s
theorem SeqAt'.but {h h' : Heap} {c : Src} {b : Addr} (u : SeqAt' h c) (s : Heap.ExtBut b h h') (n : c.l ≠ b) : SeqAt' h' c := by
  unfold SeqAt' at u ⊢
  split
  · rename_i q
    rw [if_pos q] at u
    obtain ⟨o, e, r⟩ := u
    exact ⟨o, s _ _ n e, r⟩
  · rename_i q
    rw [if_neg q] at u
    obtain ⟨o, e, r⟩ := u
    exact ⟨o, s _ _ n e, r⟩
section
variable {prog : Program} {w : World} {A : Around} {E : Value → Shared → Prop} {s : Shared}
theorem src_item {c : Src} {k : Nat} {x : Value} {Q : Value → Shared → Prop} (u : SrcAt s.heap c k) (q : SeqAt s.heap c) (hx : c.xs[k]? = some x)
    (hQ : ∀ h', SrcAt h' c (k + 1) → Heap.SameBut c.it s.heap h' → Q x { s with heap := h' }) : wpAny (model prog w) A (Builtin.SmallTypes.nextOf (.ref c.it)) Q E s := by
  unfold SrcAt at u hQ
  unfold SeqAt SeqAt' at q
  cases t : c.tup with
  | true =>
    rw [t] at u q hQ
    simp only [if_true] at u q hQ
    exact RZ.nextOf_tuple_item u q hx hQ
  | false =>
    rw [t] at u q hQ
    simp only [Bool.false_eq_true, if_false] at u q hQ
    exact wpAny_nextOf_list_item u q hx hQ
theorem src_end {c : Src} {k : Nat} {Q : Value → Shared → Prop} (hh : A.handled = none) (u : SrcAt s.heap c k) (q : SeqAt s.heap c) (hx : c.xs[k]? = none)
    (hE : ∀ h' e, Heap.ExtBut c.it s.heap h' → (∃ o, h'.get? e = some o ∧ o.cls = .type "StopIteration") → E (.ref e) { s with heap := h' }) : wpAny (model prog w) A (Builtin.SmallTypes.nextOf (.ref c.it)) Q E s := by
  unfold SrcAt at u
  unfold SeqAt SeqAt' at q
  cases t : c.tup with
  | true =>
    rw [t] at u q
    simp only [if_true] at u q
    exact RZ.nextOf_tuple_end hh u q hx hE
  | false =>
    rw [t] at u q
    simp only [Bool.false_eq_true, if_false] at u q
    exact wpAny_nextOf_list_end hh u q hx hE
theorem updTup {T : Addr} {vs : Array Value} {x : Value} {k : Nat} {Q : Unit → Shared → Prop} (hT : s.heap.get? T = some (tupO vs)) (hz : vs.size ≤ 3)
    (h : ∀ h', h'.get? T = some (tupO (vs.setIfInBounds k x)) → Heap.SameBut T s.heap h' → Q () { s with heap := h' }) : wpAny (model prog w) A (updateSeq T (·.setIfInBounds k x)) Q E s := by
  have z1 : vs.size ≤ sizeLine := by rw [sizeLine_eq]; omega
  have z2 : (vs.setIfInBounds k x).size ≤ sizeLine + 1 := by rw [Array.size_setIfInBounds]; omega
  refine wpAny_updateSeq hT rfl (h _ ?_ (Heap.SameBut.update ..)) z1 z2
  rw [Heap.get?_update_self _ hT rfl]
  simp [Obj.mapSeq]
theorem zip2_item {z TI TO : Addr} {k : Nat} {c1 c2 : Src} {x1 x2 a1 a2 : Value} {Q : Value → Shared → Prop} (D : [z, TI, TO, c1.it, c2.it].Nodup) (Lq1 : c1.l ∉ [z, TI, TO, c1.it, c2.it]) (Lq2 : c2.l ∉ [z, TI, TO, c1.it, c2.it]) (hz : IsZip s.heap z TI TO .none) (hTI : s.heap.get? TI = some (tupO #[.ref c1.it, .ref c2.it])) (hTO : s.heap.get? TO = some (tupO #[a1, a2]))
    (h1 : SrcAt s.heap c1 k) (h2 : SrcAt s.heap c2 k) (q1 : SeqAt s.heap c1) (q2 : SeqAt s.heap c2) (e1 : c1.xs[k]? = some x1) (e2 : c2.xs[k]? = some x2)
    (hQ : ∀ h', IsZip h' z TI TO (rawInt s.heap.objs.size) → h'.get? TO = some (tupO #[x1, x2]) → SrcAt h' c1 (k + 1) → SrcAt h' c2 (k + 1) → h'.get? s.heap.objs.size = some (tupO #[x1, x2]) → h'.objs.size = s.heap.objs.size + 1 →
      (∀ c o, c ≠ z → c ≠ TO → c ≠ c1.it → c ≠ c2.it → s.heap.get? c = some o → h'.get? c = some o) → Q (.ref s.heap.objs.size) { s with heap := h' }) :
    wpAny (model prog w) A (Builtin.«zip.__next__» ⟨[.ref z], []⟩) (fun fin s' => ∃ v, fin = .done (.ret v) ∧ Q v s') E s := by
  have D0 := D
  simp only [List.nodup_cons, List.mem_cons, List.not_mem_nil, or_false, not_or, List.nodup_nil, and_true, not_false_eq_true] at D0
  obtain ⟨⟨zTI, zTO, z1, z2⟩, ⟨TITO, TI1, TI2⟩, ⟨TO1, TO2⟩, i12⟩ := D0
  obtain ⟨l1z, l1TI, l1TO, l1i1, l1i2⟩ : c1.l ≠ z ∧ c1.l ≠ TI ∧ c1.l ≠ TO ∧ c1.l ≠ c1.it ∧ c1.l ≠ c2.it := by simpa using Lq1
  obtain ⟨l2z, l2TI, l2TO, l2i1, l2i2⟩ : c2.l ≠ z ∧ c2.l ≠ TI ∧ c2.l ≠ TO ∧ c2.l ≠ c1.it ∧ c2.l ≠ c2.it := by simpa using Lq2
  show wpAny (model prog w) A (field (.ref z) 2 >>= _) _ _ _
  refine wpAny_bind (wpAny_field hz rfl (x := Value.bool false) rfl ?_)
  show wpAny (model prog w) A (field (.ref z) 3 >>= _) _ _ _
  refine wpAny_bind (wpAny_field hz rfl (x := Value.ref TI) rfl ?_)
  refine wpAny_bind (wpAny_seqItems (a := TI) hTI rfl ?_)
  show wpAny (model prog w) A (Builtin.SmallTypes.ownedTupleIsFree (.ref z) >>= _) _ _ _
  refine wpAny_bind ?_ ; unfold Builtin.SmallTypes.ownedTupleIsFree
  refine wpAny_bind (wpAny_field hz rfl (x := Value.none) rfl (wpAny_pure ?_))
  simp only [if_true]
  refine wpAny_bind (wpAny_rule ?_)
  refine wpAny_bind (wpAny_field hz rfl (x := Value.ref TO) rfl ?_)
  refine wpAny_bind (wpAny_setField_rec hz (by simp) fun g0 zz0 s0 => ?_)
  replace zz0 : IsZip g0 z TI TO .ellipsis := zz0
  refine wpAny_bind ?_
  simp only [List.zipIdx_cons, List.zipIdx_nil, List.forIn_cons, List.forIn_nil]
  have t0 : g0.get? TO = some (tupO #[a1, a2]) := s0.extBut _ _ (Ne.symm zTO) hTO
  refine wpAny_bind (wpAny_bind (wpAny_onRaise ?_))
  show wpAny (model prog w) A (Builtin.SmallTypes.nextOf (.ref c1.it) >>= _) _ _ _
  refine wpAny_bind (src_item (h1.but s0.extBut (Ne.symm z1)) (q1.but s0.extBut l1z) e1 fun g1 u1 s1 => wpAny_pure ?_)
  have t1 : g1.get? TO = some (tupO #[a1, a2]) := s1.extBut _ _ TO1 t0
  refine wpAny_bind (wpAny_seqItems t1 rfl ?_)
  refine wpAny_bind (updTup t1 (by simp) fun g2 t2 s2 => ?_)
  replace t2 : g2.get? TO = some (tupO #[x1, a2]) := t2
  refine wpAny_bind (wpAny_letGo (wpAny_pure ?_))
  refine wpAny_bind (wpAny_bind (wpAny_onRaise ?_))
  show wpAny (model prog w) A (Builtin.SmallTypes.nextOf (.ref c2.it) >>= _) _ _ _
  refine wpAny_bind (src_item (((h2.but s0.extBut (Ne.symm z2)).but s1.extBut (Ne.symm i12)).but s2.extBut (Ne.symm TO2)) (((q2.but s0.extBut l2z).but s1.extBut l2i1).but s2.extBut l2TO) e2 fun g3 u2 s3 => wpAny_pure ?_)
  have t3 : g3.get? TO = some (tupO #[x1, a2]) := s3.extBut _ _ TO2 t2
  refine wpAny_bind (wpAny_seqItems t3 rfl ?_)
  refine wpAny_bind (updTup t3 (by simp) fun g4 t4 s4 => ?_)
  replace t4 : g4.get? TO = some (tupO #[x1, x2]) := t4
  refine wpAny_bind (wpAny_letGo (wpAny_pure (wpAny_pure ?_)))
  refine wpAny_bind (wpAny_seqItems t4 rfl (wpAny_bind (wpAny_newTuple ?_)))
  have hsz : g4.objs.size = s.heap.objs.size := by rw [s4.1, s3.1, s2.1, s1.1, s0.1]
  have zz : IsZip g4 z TI TO .ellipsis := (s4.extBut _ _ zTO (s3.extBut _ _ z2 (s2.extBut _ _ zTO (s1.extBut _ _ z1 zz0))))
  have kp : ∀ c o, c ≠ z → c ≠ TO → c ≠ c1.it → c ≠ c2.it → s.heap.get? c = some o → g4.get? c = some o := fun c o b1 b2 j1 j2 e => (s4.extBut _ _ b2 (s3.extBut _ _ j2 (s2.extBut _ _ b2 (s1.extBut _ _ j1 (s0.extBut _ _ b1 e)))))
  have v1 : SrcAt g4 c1 (k + 1) := (((u1.but s2.extBut (Ne.symm TO1)).but s3.extBut i12).but s4.extBut (Ne.symm TO1))
  have v2 : SrcAt g4 c2 (k + 1) := (u2.but s4.extBut (Ne.symm TO2))
  have zlt : z < g4.objs.size := Heap.lt_size zz
  show wpAny (model prog w) A (Builtin.SmallTypes.ownedTupleHandOut (.ref z) (.ref g4.objs.size) >>= _) _ _ _
  refine wpAny_bind ?_ ; unfold Builtin.SmallTypes.ownedTupleHandOut
  have za : IsZip (g4.push (tupO #[x1, x2])) z TI TO .ellipsis := Heap.get?_push_of_some _ zz
  refine wpAny_bind (wpAny_setField_rec za (by simp) fun ga zb sa => ?_)
  replace zb : IsZip ga z TI TO (rawInt g4.objs.size) := zb
  refine wpAny_setField_rec zb (by simp) fun gb zc sb => ?_
  replace zc : IsZip gb z TI TO (rawInt g4.objs.size) := zc
  have up : ∀ c o, c ≠ z → g4.get? c = some o → gb.get? c = some o := fun c o b1 e => sb.extBut _ _ b1 (sa.extBut _ _ b1 (Heap.get?_push_of_some _ e))
  have tn : gb.get? g4.objs.size = some (tupO #[x1, x2]) := sb.extBut _ _ (Nat.ne_of_gt zlt) (sa.extBut _ _ (Nat.ne_of_gt zlt) (Heap.get?_push_size _ rfl))
  have szb : gb.objs.size = g4.objs.size + 1 := by rw [sb.1, sa.1, Heap.size_push]
  rw [hsz] at zc tn szb
  refine wpAny_pure ⟨_, rfl, ?_⟩
  show Q (.ref g4.objs.size) _
  rw [hsz]
  exact hQ gb zc (up _ _ (Ne.symm zTO) t4) (v1.at fun o e => up _ o (Ne.symm z1) e) (v2.at fun o e => up _ o (Ne.symm z2) e) tn szb fun c o b1 b2 j1 j2 e => up c o b1 (kp c o b1 b2 j1 j2 e)
theorem zip2_end {z TI TO : Addr} {k : Nat} {c1 c2 : Src} { a1 a2 : Value} {Q : Fin → Shared → Prop} (hh : A.handled = none) (D : [z, TI, TO, c1.it, c2.it].Nodup) (Lq1 : c1.l ∉ [z, TI, TO, c1.it, c2.it]) (Lq2 : c2.l ∉ [z, TI, TO, c1.it, c2.it]) (hz : IsZip s.heap z TI TO .none) (hTI : s.heap.get? TI = some (tupO #[.ref c1.it, .ref c2.it])) (hTO : s.heap.get? TO = some (tupO #[a1, a2]))
    (h1 : SrcAt s.heap c1 k) (h2 : SrcAt s.heap c2 k) (q1 : SeqAt s.heap c1) (q2 : SeqAt s.heap c2) (hend : c1.xs[k]? = none ∨ c2.xs[k]? = none)
    (hE : ∀ h' e, (∀ c o, c ≠ z → c ≠ TO → c ≠ c1.it → c ≠ c2.it → s.heap.get? c = some o → h'.get? c = some o) → (∃ o, h'.get? e = some o ∧ o.cls = .type "StopIteration") → E (.ref e) { s with heap := h' }) :
    wpAny (model prog w) A (Builtin.«zip.__next__» ⟨[.ref z], []⟩) Q E s := by
  have D0 := D
  simp only [List.nodup_cons, List.mem_cons, List.not_mem_nil, or_false, not_or, List.nodup_nil, and_true, not_false_eq_true] at D0
  obtain ⟨⟨zTI, zTO, z1, z2⟩, ⟨TITO, TI1, TI2⟩, ⟨TO1, TO2⟩, i12⟩ := D0
  obtain ⟨l1z, l1TI, l1TO, l1i1, l1i2⟩ : c1.l ≠ z ∧ c1.l ≠ TI ∧ c1.l ≠ TO ∧ c1.l ≠ c1.it ∧ c1.l ≠ c2.it := by simpa using Lq1
  obtain ⟨l2z, l2TI, l2TO, l2i1, l2i2⟩ : c2.l ≠ z ∧ c2.l ≠ TI ∧ c2.l ≠ TO ∧ c2.l ≠ c1.it ∧ c2.l ≠ c2.it := by simpa using Lq2
  show wpAny (model prog w) A (field (.ref z) 2 >>= _) _ _ _
  refine wpAny_bind (wpAny_field hz rfl (x := Value.bool false) rfl ?_)
  show wpAny (model prog w) A (field (.ref z) 3 >>= _) _ _ _
  refine wpAny_bind (wpAny_field hz rfl (x := Value.ref TI) rfl ?_)
  refine wpAny_bind (wpAny_seqItems (a := TI) hTI rfl ?_)
  show wpAny (model prog w) A (Builtin.SmallTypes.ownedTupleIsFree (.ref z) >>= _) _ _ _
  refine wpAny_bind ?_ ; unfold Builtin.SmallTypes.ownedTupleIsFree
  refine wpAny_bind (wpAny_field hz rfl (x := Value.none) rfl (wpAny_pure ?_))
  simp only [if_true]
  refine wpAny_bind (wpAny_rule ?_)
  refine wpAny_bind (wpAny_field hz rfl (x := Value.ref TO) rfl ?_)
  refine wpAny_bind (wpAny_setField_rec hz (by simp) fun g0 zz0 s0 => ?_)
  replace zz0 : IsZip g0 z TI TO .ellipsis := zz0
  refine wpAny_bind ?_
  simp only [List.zipIdx_cons, List.zipIdx_nil, List.forIn_cons, List.forIn_nil]
  have t0 : g0.get? TO = some (tupO #[a1, a2]) := s0.extBut _ _ (Ne.symm zTO) hTO
  refine wpAny_bind (wpAny_bind (wpAny_onRaise ?_))
  show wpAny (model prog w) A (Builtin.SmallTypes.nextOf (.ref c1.it) >>= _) _ _ _
  cases e1 : c1.xs[k]? with
  | none =>
    refine wpAny_bind (src_end hh (h1.but s0.extBut (Ne.symm z1)) (q1.but s0.extBut l1z) e1 fun ga e sa he => ?_)
    obtain ⟨oe, hoe, hce⟩ := he
    have za : IsZip ga z TI TO .ellipsis := sa _ _ z1 zz0
    have ez : e ≠ z := fun y => by subst y; rw [za] at hoe; cases hoe; simp at hce
    exact wpAny_setField_rec za (by simp) fun gb _ sb => hE gb e (fun c o b1 b2 j1 j2 y => sb.extBut _ _ b1 (sa _ _ j1 (s0.extBut _ _ b1 y))) ⟨oe, sb.extBut _ _ ez hoe, hce⟩
  | some x1 =>
    refine wpAny_bind (src_item (h1.but s0.extBut (Ne.symm z1)) (q1.but s0.extBut l1z) e1 fun g1 u1 s1 => wpAny_pure ?_)
    have t1 : g1.get? TO = some (tupO #[a1, a2]) := s1.extBut _ _ TO1 t0
    refine wpAny_bind (wpAny_seqItems t1 rfl ?_)
    refine wpAny_bind (updTup t1 (by simp) fun g2 t2 s2 => ?_)
    replace t2 : g2.get? TO = some (tupO #[x1, a2]) := t2
    refine wpAny_bind (wpAny_letGo (wpAny_pure ?_))
    refine wpAny_bind (wpAny_bind (wpAny_onRaise ?_))
    show wpAny (model prog w) A (Builtin.SmallTypes.nextOf (.ref c2.it) >>= _) _ _ _
    cases e2 : c2.xs[k]? with
    | none =>
      refine wpAny_bind (src_end hh (((h2.but s0.extBut (Ne.symm z2)).but s1.extBut (Ne.symm i12)).but s2.extBut (Ne.symm TO2)) (((q2.but s0.extBut l2z).but s1.extBut l2i1).but s2.extBut l2TO) e2 fun ga e sa he => ?_)
      obtain ⟨oe, hoe, hce⟩ := he
      have za : IsZip ga z TI TO .ellipsis := sa _ _ z2 (s2.extBut _ _ zTO (s1.extBut _ _ z1 zz0))
      have ez : e ≠ z := fun y => by subst y; rw [za] at hoe; cases hoe; simp at hce
      exact wpAny_setField_rec za (by simp) fun gb _ sb => hE gb e (fun c o b1 b2 j1 j2 y => sb.extBut _ _ b1 (sa _ _ j2 (s2.extBut _ _ b2 (s1.extBut _ _ j1 (s0.extBut _ _ b1 y))))) ⟨oe, sb.extBut _ _ ez hoe, hce⟩
    | some x2 =>
      rcases hend with y | y
      · rw [e1] at y; cases y
      · rw [e2] at y; cases y
theorem zip3_item {z TI TO : Addr} {k : Nat} {c1 c2 c3 : Src} {x1 x2 x3 a1 a2 a3 : Value} {Q : Value → Shared → Prop} (D : [z, TI, TO, c1.it, c2.it, c3.it].Nodup) (Lq1 : c1.l ∉ [z, TI, TO, c1.it, c2.it, c3.it]) (Lq2 : c2.l ∉ [z, TI, TO, c1.it, c2.it, c3.it]) (Lq3 : c3.l ∉ [z, TI, TO, c1.it, c2.it, c3.it]) (hz : IsZip s.heap z TI TO .none) (hTI : s.heap.get? TI = some (tupO #[.ref c1.it, .ref c2.it, .ref c3.it])) (hTO : s.heap.get? TO = some (tupO #[a1, a2, a3]))
    (h1 : SrcAt s.heap c1 k) (h2 : SrcAt s.heap c2 k) (h3 : SrcAt s.heap c3 k) (q1 : SeqAt s.heap c1) (q2 : SeqAt s.heap c2) (q3 : SeqAt s.heap c3) (e1 : c1.xs[k]? = some x1) (e2 : c2.xs[k]? = some x2) (e3 : c3.xs[k]? = some x3)
    (hQ : ∀ h', IsZip h' z TI TO (rawInt s.heap.objs.size) → h'.get? TO = some (tupO #[x1, x2, x3]) → SrcAt h' c1 (k + 1) → SrcAt h' c2 (k + 1) → SrcAt h' c3 (k + 1) → h'.get? s.heap.objs.size = some (tupO #[x1, x2, x3]) → h'.objs.size = s.heap.objs.size + 1 →
      (∀ c o, c ≠ z → c ≠ TO → c ≠ c1.it → c ≠ c2.it → c ≠ c3.it → s.heap.get? c = some o → h'.get? c = some o) → Q (.ref s.heap.objs.size) { s with heap := h' }) :
    wpAny (model prog w) A (Builtin.«zip.__next__» ⟨[.ref z], []⟩) (fun fin s' => ∃ v, fin = .done (.ret v) ∧ Q v s') E s := by
  have D0 := D
  simp only [List.nodup_cons, List.mem_cons, List.not_mem_nil, or_false, not_or, List.nodup_nil, and_true, not_false_eq_true] at D0
  obtain ⟨⟨zTI, zTO, z1, z2, z3⟩, ⟨TITO, TI1, TI2, TI3⟩, ⟨TO1, TO2, TO3⟩, ⟨i12, i13⟩, i23⟩ := D0
  obtain ⟨l1z, l1TI, l1TO, l1i1, l1i2, l1i3⟩ : c1.l ≠ z ∧ c1.l ≠ TI ∧ c1.l ≠ TO ∧ c1.l ≠ c1.it ∧ c1.l ≠ c2.it ∧ c1.l ≠ c3.it := by simpa using Lq1
  obtain ⟨l2z, l2TI, l2TO, l2i1, l2i2, l2i3⟩ : c2.l ≠ z ∧ c2.l ≠ TI ∧ c2.l ≠ TO ∧ c2.l ≠ c1.it ∧ c2.l ≠ c2.it ∧ c2.l ≠ c3.it := by simpa using Lq2
  obtain ⟨l3z, l3TI, l3TO, l3i1, l3i2, l3i3⟩ : c3.l ≠ z ∧ c3.l ≠ TI ∧ c3.l ≠ TO ∧ c3.l ≠ c1.it ∧ c3.l ≠ c2.it ∧ c3.l ≠ c3.it := by simpa using Lq3
  show wpAny (model prog w) A (field (.ref z) 2 >>= _) _ _ _
  refine wpAny_bind (wpAny_field hz rfl (x := Value.bool false) rfl ?_)
  show wpAny (model prog w) A (field (.ref z) 3 >>= _) _ _ _
  refine wpAny_bind (wpAny_field hz rfl (x := Value.ref TI) rfl ?_)
  refine wpAny_bind (wpAny_seqItems (a := TI) hTI rfl ?_)
  show wpAny (model prog w) A (Builtin.SmallTypes.ownedTupleIsFree (.ref z) >>= _) _ _ _
  refine wpAny_bind ?_ ; unfold Builtin.SmallTypes.ownedTupleIsFree
  refine wpAny_bind (wpAny_field hz rfl (x := Value.none) rfl (wpAny_pure ?_))
  simp only [if_true]
  refine wpAny_bind (wpAny_rule ?_)
  refine wpAny_bind (wpAny_field hz rfl (x := Value.ref TO) rfl ?_)
  refine wpAny_bind (wpAny_setField_rec hz (by simp) fun g0 zz0 s0 => ?_)
  replace zz0 : IsZip g0 z TI TO .ellipsis := zz0
  refine wpAny_bind ?_
  simp only [List.zipIdx_cons, List.zipIdx_nil, List.forIn_cons, List.forIn_nil]
  have t0 : g0.get? TO = some (tupO #[a1, a2, a3]) := s0.extBut _ _ (Ne.symm zTO) hTO
  refine wpAny_bind (wpAny_bind (wpAny_onRaise ?_))
  show wpAny (model prog w) A (Builtin.SmallTypes.nextOf (.ref c1.it) >>= _) _ _ _
  refine wpAny_bind (src_item (h1.but s0.extBut (Ne.symm z1)) (q1.but s0.extBut l1z) e1 fun g1 u1 s1 => wpAny_pure ?_)
  have t1 : g1.get? TO = some (tupO #[a1, a2, a3]) := s1.extBut _ _ TO1 t0
  refine wpAny_bind (wpAny_seqItems t1 rfl ?_)
  refine wpAny_bind (updTup t1 (by simp) fun g2 t2 s2 => ?_)
  replace t2 : g2.get? TO = some (tupO #[x1, a2, a3]) := t2
  refine wpAny_bind (wpAny_letGo (wpAny_pure ?_))
  refine wpAny_bind (wpAny_bind (wpAny_onRaise ?_))
  show wpAny (model prog w) A (Builtin.SmallTypes.nextOf (.ref c2.it) >>= _) _ _ _
  refine wpAny_bind (src_item (((h2.but s0.extBut (Ne.symm z2)).but s1.extBut (Ne.symm i12)).but s2.extBut (Ne.symm TO2)) (((q2.but s0.extBut l2z).but s1.extBut l2i1).but s2.extBut l2TO) e2 fun g3 u2 s3 => wpAny_pure ?_)
  have t3 : g3.get? TO = some (tupO #[x1, a2, a3]) := s3.extBut _ _ TO2 t2
  refine wpAny_bind (wpAny_seqItems t3 rfl ?_)
  refine wpAny_bind (updTup t3 (by simp) fun g4 t4 s4 => ?_)
  replace t4 : g4.get? TO = some (tupO #[x1, x2, a3]) := t4
  refine wpAny_bind (wpAny_letGo (wpAny_pure ?_))
  refine wpAny_bind (wpAny_bind (wpAny_onRaise ?_))
  show wpAny (model prog w) A (Builtin.SmallTypes.nextOf (.ref c3.it) >>= _) _ _ _
  refine wpAny_bind (src_item (((((h3.but s0.extBut (Ne.symm z3)).but s1.extBut (Ne.symm i13)).but s2.extBut (Ne.symm TO3)).but s3.extBut (Ne.symm i23)).but s4.extBut (Ne.symm TO3)) (((((q3.but s0.extBut l3z).but s1.extBut l3i1).but s2.extBut l3TO).but s3.extBut l3i2).but s4.extBut l3TO) e3 fun g5 u3 s5 => wpAny_pure ?_)
  have t5 : g5.get? TO = some (tupO #[x1, x2, a3]) := s5.extBut _ _ TO3 t4
  refine wpAny_bind (wpAny_seqItems t5 rfl ?_)
  refine wpAny_bind (updTup t5 (by simp) fun g6 t6 s6 => ?_)
  replace t6 : g6.get? TO = some (tupO #[x1, x2, x3]) := t6
  refine wpAny_bind (wpAny_letGo (wpAny_pure (wpAny_pure ?_)))
  refine wpAny_bind (wpAny_seqItems t6 rfl (wpAny_bind (wpAny_newTuple ?_)))
  have hsz : g6.objs.size = s.heap.objs.size := by rw [s6.1, s5.1, s4.1, s3.1, s2.1, s1.1, s0.1]
  have zz : IsZip g6 z TI TO .ellipsis := (s6.extBut _ _ zTO (s5.extBut _ _ z3 (s4.extBut _ _ zTO (s3.extBut _ _ z2 (s2.extBut _ _ zTO (s1.extBut _ _ z1 zz0))))))
  have kp : ∀ c o, c ≠ z → c ≠ TO → c ≠ c1.it → c ≠ c2.it → c ≠ c3.it → s.heap.get? c = some o → g6.get? c = some o := fun c o b1 b2 j1 j2 j3 e => (s6.extBut _ _ b2 (s5.extBut _ _ j3 (s4.extBut _ _ b2 (s3.extBut _ _ j2 (s2.extBut _ _ b2 (s1.extBut _ _ j1 (s0.extBut _ _ b1 e)))))))
  have v1 : SrcAt g6 c1 (k + 1) := (((((u1.but s2.extBut (Ne.symm TO1)).but s3.extBut i12).but s4.extBut (Ne.symm TO1)).but s5.extBut i13).but s6.extBut (Ne.symm TO1))
  have v2 : SrcAt g6 c2 (k + 1) := (((u2.but s4.extBut (Ne.symm TO2)).but s5.extBut i23).but s6.extBut (Ne.symm TO2))
  have v3 : SrcAt g6 c3 (k + 1) := (u3.but s6.extBut (Ne.symm TO3))
  have zlt : z < g6.objs.size := Heap.lt_size zz
  show wpAny (model prog w) A (Builtin.SmallTypes.ownedTupleHandOut (.ref z) (.ref g6.objs.size) >>= _) _ _ _
  refine wpAny_bind ?_ ; unfold Builtin.SmallTypes.ownedTupleHandOut
  have za : IsZip (g6.push (tupO #[x1, x2, x3])) z TI TO .ellipsis := Heap.get?_push_of_some _ zz
  refine wpAny_bind (wpAny_setField_rec za (by simp) fun ga zb sa => ?_)
  replace zb : IsZip ga z TI TO (rawInt g6.objs.size) := zb
  refine wpAny_setField_rec zb (by simp) fun gb zc sb => ?_
  replace zc : IsZip gb z TI TO (rawInt g6.objs.size) := zc
  have up : ∀ c o, c ≠ z → g6.get? c = some o → gb.get? c = some o := fun c o b1 e => sb.extBut _ _ b1 (sa.extBut _ _ b1 (Heap.get?_push_of_some _ e))
  have tn : gb.get? g6.objs.size = some (tupO #[x1, x2, x3]) := sb.extBut _ _ (Nat.ne_of_gt zlt) (sa.extBut _ _ (Nat.ne_of_gt zlt) (Heap.get?_push_size _ rfl))
  have szb : gb.objs.size = g6.objs.size + 1 := by rw [sb.1, sa.1, Heap.size_push]
  rw [hsz] at zc tn szb
  refine wpAny_pure ⟨_, rfl, ?_⟩
  show Q (.ref g6.objs.size) _
  rw [hsz]
  exact hQ gb zc (up _ _ (Ne.symm zTO) t6) (v1.at fun o e => up _ o (Ne.symm z1) e) (v2.at fun o e => up _ o (Ne.symm z2) e) (v3.at fun o e => up _ o (Ne.symm z3) e) tn szb fun c o b1 b2 j1 j2 j3 e => up c o b1 (kp c o b1 b2 j1 j2 j3 e)
theorem zip3_end {z TI TO : Addr} {k : Nat} {c1 c2 c3 : Src} { a1 a2 a3 : Value} {Q : Fin → Shared → Prop} (hh : A.handled = none) (D : [z, TI, TO, c1.it, c2.it, c3.it].Nodup) (Lq1 : c1.l ∉ [z, TI, TO, c1.it, c2.it, c3.it]) (Lq2 : c2.l ∉ [z, TI, TO, c1.it, c2.it, c3.it]) (Lq3 : c3.l ∉ [z, TI, TO, c1.it, c2.it, c3.it]) (hz : IsZip s.heap z TI TO .none) (hTI : s.heap.get? TI = some (tupO #[.ref c1.it, .ref c2.it, .ref c3.it])) (hTO : s.heap.get? TO = some (tupO #[a1, a2, a3]))
    (h1 : SrcAt s.heap c1 k) (h2 : SrcAt s.heap c2 k) (h3 : SrcAt s.heap c3 k) (q1 : SeqAt s.heap c1) (q2 : SeqAt s.heap c2) (q3 : SeqAt s.heap c3) (hend : c1.xs[k]? = none ∨ c2.xs[k]? = none ∨ c3.xs[k]? = none)
    (hE : ∀ h' e, (∀ c o, c ≠ z → c ≠ TO → c ≠ c1.it → c ≠ c2.it → c ≠ c3.it → s.heap.get? c = some o → h'.get? c = some o) → (∃ o, h'.get? e = some o ∧ o.cls = .type "StopIteration") → E (.ref e) { s with heap := h' }) :
    wpAny (model prog w) A (Builtin.«zip.__next__» ⟨[.ref z], []⟩) Q E s := by
  have D0 := D
  simp only [List.nodup_cons, List.mem_cons, List.not_mem_nil, or_false, not_or, List.nodup_nil, and_true, not_false_eq_true] at D0
  obtain ⟨⟨zTI, zTO, z1, z2, z3⟩, ⟨TITO, TI1, TI2, TI3⟩, ⟨TO1, TO2, TO3⟩, ⟨i12, i13⟩, i23⟩ := D0
  obtain ⟨l1z, l1TI, l1TO, l1i1, l1i2, l1i3⟩ : c1.l ≠ z ∧ c1.l ≠ TI ∧ c1.l ≠ TO ∧ c1.l ≠ c1.it ∧ c1.l ≠ c2.it ∧ c1.l ≠ c3.it := by simpa using Lq1
  obtain ⟨l2z, l2TI, l2TO, l2i1, l2i2, l2i3⟩ : c2.l ≠ z ∧ c2.l ≠ TI ∧ c2.l ≠ TO ∧ c2.l ≠ c1.it ∧ c2.l ≠ c2.it ∧ c2.l ≠ c3.it := by simpa using Lq2
  obtain ⟨l3z, l3TI, l3TO, l3i1, l3i2, l3i3⟩ : c3.l ≠ z ∧ c3.l ≠ TI ∧ c3.l ≠ TO ∧ c3.l ≠ c1.it ∧ c3.l ≠ c2.it ∧ c3.l ≠ c3.it := by simpa using Lq3
  show wpAny (model prog w) A (field (.ref z) 2 >>= _) _ _ _
  refine wpAny_bind (wpAny_field hz rfl (x := Value.bool false) rfl ?_)
  show wpAny (model prog w) A (field (.ref z) 3 >>= _) _ _ _
  refine wpAny_bind (wpAny_field hz rfl (x := Value.ref TI) rfl ?_)
  refine wpAny_bind (wpAny_seqItems (a := TI) hTI rfl ?_)
  show wpAny (model prog w) A (Builtin.SmallTypes.ownedTupleIsFree (.ref z) >>= _) _ _ _
  refine wpAny_bind ?_ ; unfold Builtin.SmallTypes.ownedTupleIsFree
  refine wpAny_bind (wpAny_field hz rfl (x := Value.none) rfl (wpAny_pure ?_))
  simp only [if_true]
  refine wpAny_bind (wpAny_rule ?_)
  refine wpAny_bind (wpAny_field hz rfl (x := Value.ref TO) rfl ?_)
  refine wpAny_bind (wpAny_setField_rec hz (by simp) fun g0 zz0 s0 => ?_)
  replace zz0 : IsZip g0 z TI TO .ellipsis := zz0
  refine wpAny_bind ?_
  simp only [List.zipIdx_cons, List.zipIdx_nil, List.forIn_cons, List.forIn_nil]
  have t0 : g0.get? TO = some (tupO #[a1, a2, a3]) := s0.extBut _ _ (Ne.symm zTO) hTO
  refine wpAny_bind (wpAny_bind (wpAny_onRaise ?_))
  show wpAny (model prog w) A (Builtin.SmallTypes.nextOf (.ref c1.it) >>= _) _ _ _
  cases e1 : c1.xs[k]? with
  | none =>
    refine wpAny_bind (src_end hh (h1.but s0.extBut (Ne.symm z1)) (q1.but s0.extBut l1z) e1 fun ga e sa he => ?_)
    obtain ⟨oe, hoe, hce⟩ := he
    have za : IsZip ga z TI TO .ellipsis := sa _ _ z1 zz0
    have ez : e ≠ z := fun y => by subst y; rw [za] at hoe; cases hoe; simp at hce
    exact wpAny_setField_rec za (by simp) fun gb _ sb => hE gb e (fun c o b1 b2 j1 j2 j3 y => sb.extBut _ _ b1 (sa _ _ j1 (s0.extBut _ _ b1 y))) ⟨oe, sb.extBut _ _ ez hoe, hce⟩
  | some x1 =>
    refine wpAny_bind (src_item (h1.but s0.extBut (Ne.symm z1)) (q1.but s0.extBut l1z) e1 fun g1 u1 s1 => wpAny_pure ?_)
    have t1 : g1.get? TO = some (tupO #[a1, a2, a3]) := s1.extBut _ _ TO1 t0
    refine wpAny_bind (wpAny_seqItems t1 rfl ?_)
    refine wpAny_bind (updTup t1 (by simp) fun g2 t2 s2 => ?_)
    replace t2 : g2.get? TO = some (tupO #[x1, a2, a3]) := t2
    refine wpAny_bind (wpAny_letGo (wpAny_pure ?_))
    refine wpAny_bind (wpAny_bind (wpAny_onRaise ?_))
    show wpAny (model prog w) A (Builtin.SmallTypes.nextOf (.ref c2.it) >>= _) _ _ _
    cases e2 : c2.xs[k]? with
    | none =>
      refine wpAny_bind (src_end hh (((h2.but s0.extBut (Ne.symm z2)).but s1.extBut (Ne.symm i12)).but s2.extBut (Ne.symm TO2)) (((q2.but s0.extBut l2z).but s1.extBut l2i1).but s2.extBut l2TO) e2 fun ga e sa he => ?_)
      obtain ⟨oe, hoe, hce⟩ := he
      have za : IsZip ga z TI TO .ellipsis := sa _ _ z2 (s2.extBut _ _ zTO (s1.extBut _ _ z1 zz0))
      have ez : e ≠ z := fun y => by subst y; rw [za] at hoe; cases hoe; simp at hce
      exact wpAny_setField_rec za (by simp) fun gb _ sb => hE gb e (fun c o b1 b2 j1 j2 j3 y => sb.extBut _ _ b1 (sa _ _ j2 (s2.extBut _ _ b2 (s1.extBut _ _ j1 (s0.extBut _ _ b1 y))))) ⟨oe, sb.extBut _ _ ez hoe, hce⟩
    | some x2 =>
      refine wpAny_bind (src_item (((h2.but s0.extBut (Ne.symm z2)).but s1.extBut (Ne.symm i12)).but s2.extBut (Ne.symm TO2)) (((q2.but s0.extBut l2z).but s1.extBut l2i1).but s2.extBut l2TO) e2 fun g3 u2 s3 => wpAny_pure ?_)
      have t3 : g3.get? TO = some (tupO #[x1, a2, a3]) := s3.extBut _ _ TO2 t2
      refine wpAny_bind (wpAny_seqItems t3 rfl ?_)
      refine wpAny_bind (updTup t3 (by simp) fun g4 t4 s4 => ?_)
      replace t4 : g4.get? TO = some (tupO #[x1, x2, a3]) := t4
      refine wpAny_bind (wpAny_letGo (wpAny_pure ?_))
      refine wpAny_bind (wpAny_bind (wpAny_onRaise ?_))
      show wpAny (model prog w) A (Builtin.SmallTypes.nextOf (.ref c3.it) >>= _) _ _ _
      cases e3 : c3.xs[k]? with
      | none =>
        refine wpAny_bind (src_end hh (((((h3.but s0.extBut (Ne.symm z3)).but s1.extBut (Ne.symm i13)).but s2.extBut (Ne.symm TO3)).but s3.extBut (Ne.symm i23)).but s4.extBut (Ne.symm TO3)) (((((q3.but s0.extBut l3z).but s1.extBut l3i1).but s2.extBut l3TO).but s3.extBut l3i2).but s4.extBut l3TO) e3 fun ga e sa he => ?_)
        obtain ⟨oe, hoe, hce⟩ := he
        have za : IsZip ga z TI TO .ellipsis := sa _ _ z3 (s4.extBut _ _ zTO (s3.extBut _ _ z2 (s2.extBut _ _ zTO (s1.extBut _ _ z1 zz0))))
        have ez : e ≠ z := fun y => by subst y; rw [za] at hoe; cases hoe; simp at hce
        exact wpAny_setField_rec za (by simp) fun gb _ sb => hE gb e (fun c o b1 b2 j1 j2 j3 y => sb.extBut _ _ b1 (sa _ _ j3 (s4.extBut _ _ b2 (s3.extBut _ _ j2 (s2.extBut _ _ b2 (s1.extBut _ _ j1 (s0.extBut _ _ b1 y))))))) ⟨oe, sb.extBut _ _ ez hoe, hce⟩
      | some x3 =>
        rcases hend with y | y | y
        · rw [e1] at y; cases y
        · rw [e2] at y; cases y
        · rw [e3] at y; cases y
end
end Pd

/-! Pd44: zip of two or three, lists or tuples each: the turns, the call, the reading. -/
namespace Pd
open PySem PySem.Spec L2 PyProof.Rows
variable {K : PySem.W.Frag}
/-- a list (false) or a tuple (true) -/
def SqK (K : PySem.W.Frag) (H : Hp) (a : Addr × Bool) (xs : List V) : Prop := if a.2 then SqT K H a.1 xs else SqL K H a.1 xs
def SrcK (h : Heap) (it : Addr) (a : Addr × Bool) (k : Nat) : Prop := SrcAt h ⟨it, a.1, a.2, #[]⟩ k
theorem SrcAt.ob {h : Heap} {c : Src} {k : Nat} (u : SrcAt h c k) : ∃ o, h.get? c.it = some o ∧ ∀ v, o.data ≠ .cell v := by
  unfold SrcAt at u
  split at u
  · obtain ⟨o, e, _, d⟩ := u
    exact ⟨o, e, fun v q => by rw [d] at q; cases q⟩
  · obtain ⟨o, e, _, d⟩ := u
    exact ⟨o, e, fun v q => by rw [d] at q; cases q⟩
theorem SrcK.ob {h : Heap} {it : Addr} {a : Addr × Bool} {k : Nat} (u : SrcK h it a k) : ∃ o, h.get? it = some o ∧ ∀ v, o.data ≠ .cell v := SrcAt.ob u
theorem sqK_raw {X : Cx} {pins : List (Addr × Obj)} {σ : L2.St} {H : Hp} {s : Shared} (I : L2.Inv X pins σ H s) {a : Addr × Bool} {xs : List V} {it : Addr} (q : SqK X.K H a xs) : ∃ its : List Value, Vals xs its ∧ SeqAt s.heap ⟨it, a.1, a.2, its.toArray⟩ := by
  unfold SqK at q
  unfold SeqAt SeqAt'
  split at q
  · rename_i t
    obtain ⟨its, rv, p, _⟩ := I.tuple q
    exact ⟨its, rv, by simp only [t, if_true]; exact p⟩
  · rename_i t
    obtain ⟨its, rv, p, _⟩ := I.list q
    have t' : a.2 = false := by cases h : a.2 with | true => exact absurd h t | false => rfl
    exact ⟨its, rv, by simp only [t', Bool.false_eq_true, if_false]; exact p.isList⟩
theorem sqK_inj {X : Cx} {pins : List (Addr × Obj)} {σ : L2.St} {H : Hp} {s : Shared} (I : L2.Inv X pins σ H s) {a : Addr × Bool} {xs ys : List V} (q : SqK X.K H a xs) (q2 : SqK X.K H a ys) : xs = ys := by
  unfold SqK at q q2
  split at q
  · rename_i t
    rw [if_pos t] at q2
    exact I.tuple_inj q q2
  · rename_i t
    rw [if_neg t] at q2
    exact I.list_inj q q2
def itO (c : Src) : Obj := { cls := .type (if c.tup then "tuple_iterator" else "list_iterator"), data := .fields #[.ref c.l, .int 0 0] }
theorem itO_live (c : Src) : (itO c).isFreed = false := rfl
theorem srcK_new {h : Heap} {it : Addr} {c : Src} (e : h.get? it = some (itO c)) : SrcK h it (c.l, c.tup) 0 := by
  unfold SrcK SrcAt
  unfold itO at e
  cases t : c.tup with
  | true => rw [t] at e; exact ⟨_, e, rfl, rfl⟩
  | false => rw [t] at e; exact ⟨_, e, rfl, rfl⟩
theorem SeqAt'.push {h : Heap} {c : Src} (u : SeqAt' h c) (o : Obj) : SeqAt' (h.push o) c := by
  unfold SeqAt' at u ⊢
  split
  · rename_i q
    rw [if_pos q] at u
    exact u.push o
  · rename_i q
    rw [if_neg q] at u
    exact u.push o
section
variable {prog : Program} {w : World} {A : Around} {E : Value → Shared → Prop} {s : Shared}
theorem pyIter_src {c : Src} {Q : Value → Shared → Prop} (q : SeqAt s.heap c) (hQ : Q (.ref s.heap.objs.size) { s with heap := s.heap.push (itO c) }) : wpAny (model prog w) A (pyIter (.ref c.l)) Q E s := by
  unfold SeqAt SeqAt' at q
  unfold itO at hQ
  cases t : c.tup with
  | true =>
    rw [t] at q hQ
    exact wpAny_pyIter_tuple q hQ
  | false =>
    rw [t] at q hQ
    exact wpAny_pyIter_list q hQ
end
section
variable {prog : Program} {w : World} {A : Around} {E : Value → Shared → Prop} {s : Shared}
theorem zip2_next {z TI TO : Addr} {k : Nat} {c1 c2 : Src} {x1 x2 a1 a2 : Value} {Q : Option Value → Shared → Prop} (D : [z, TI, TO, c1.it, c2.it].Nodup) (Lq1 : c1.l ∉ [z, TI, TO, c1.it, c2.it]) (Lq2 : c2.l ∉ [z, TI, TO, c1.it, c2.it]) (hz : IsZip s.heap z TI TO .none) (hTI : s.heap.get? TI = some (tupO #[.ref c1.it, .ref c2.it])) (hTO : s.heap.get? TO = some (tupO #[a1, a2]))
    (h1 : SrcAt s.heap c1 k) (h2 : SrcAt s.heap c2 k) (q1 : SeqAt s.heap c1) (q2 : SeqAt s.heap c2) (e1 : c1.xs[k]? = some x1) (e2 : c2.xs[k]? = some x2)
    (hQ : ∀ h', IsZip h' z TI TO (rawInt s.heap.objs.size) → h'.get? TO = some (tupO #[x1, x2]) → SrcAt h' c1 (k + 1) → SrcAt h' c2 (k + 1) → h'.get? s.heap.objs.size = some (tupO #[x1, x2]) → h'.objs.size = s.heap.objs.size + 1 →
      (∀ c o, c ≠ z → c ≠ TO → c ≠ c1.it → c ≠ c2.it → s.heap.get? c = some o → h'.get? c = some o) → Q (some (.ref s.heap.objs.size)) { s with heap := h' }) :
    wpAny (model prog w) A (pyNext (.ref z)) Q E s := by
  have hT : s.TypeIs (.ref z) "zip" := ⟨_, hz, rfl⟩
  unfold pyNext
  exact wpAny_bind (wpAny_attempt (wpAny_callSpecial?_slot (name := Str.ofString "__next__") hT F.slot_zip_next (wpAny_call_entry F.slot_zip_next hT F.entry_zip_next (zip2_item D Lq1 Lq2 hz hTI hTO h1 h2 q1 q2 e1 e2 fun h' b0 b1 b2 b3 b4 b5 b6 => wpAny_pure (hQ h' b0 b1 b2 b3 b4 b5 b6)) (F.args_zip_next_1 _))))
theorem zip2_stop {z TI TO : Addr} {k : Nat} {c1 c2 : Src} { a1 a2 : Value} {Q : Option Value → Shared → Prop} (hh : A.handled = none) (D : [z, TI, TO, c1.it, c2.it].Nodup) (Lq1 : c1.l ∉ [z, TI, TO, c1.it, c2.it]) (Lq2 : c2.l ∉ [z, TI, TO, c1.it, c2.it]) (hz : IsZip s.heap z TI TO .none) (hTI : s.heap.get? TI = some (tupO #[.ref c1.it, .ref c2.it])) (hTO : s.heap.get? TO = some (tupO #[a1, a2]))
    (h1 : SrcAt s.heap c1 k) (h2 : SrcAt s.heap c2 k) (q1 : SeqAt s.heap c1) (q2 : SeqAt s.heap c2) (hend : c1.xs[k]? = none ∨ c2.xs[k]? = none)
    (hQ : ∀ h', (∀ c o, c ≠ z → c ≠ TO → c ≠ c1.it → c ≠ c2.it → s.heap.get? c = some o → h'.get? c = some o) → Q none { s with heap := h' }) :
    wpAny (model prog w) A (pyNext (.ref z)) Q E s := by
  have hT : s.TypeIs (.ref z) "zip" := ⟨_, hz, rfl⟩
  unfold pyNext
  refine wpAny_bind (wpAny_attempt (wpAny_callSpecial?_slot (name := Str.ofString "__next__") hT F.slot_zip_next (wpAny_call_entry F.slot_zip_next hT F.entry_zip_next (zip2_end hh D Lq1 Lq2 hz hTI hTO h1 h2 q1 q2 hend fun h' e hk he => ?_) (F.args_zip_next_1 _))))
  obtain ⟨o, ho, hc⟩ := he
  refine wpAny_bind (wpAny_isInstance (T := "StopIteration") (b := true) ⟨o, ho, hc⟩ isSubtype_stop ?_)
  exact wpAny_pure (hQ _ hk)
end
def Itz2A (K : PySem.W.Frag) (a1 : Addr × Bool) (a2 : Addr × Bool) : It :=
  ⟨fun i H => (∃ (xs : List V) (x : V), SqK K H a1 xs ∧ xs[i]? = some x) ∧ (∃ (xs : List V) (x : V), SqK K H a2 xs ∧ xs[i]? = some x),
    fun i H v H' => ∃ T x1 x2, v = .ref T ∧ H T = none ∧ H' = upd H T (.tup [x1, x2]) ∧ (∀ xs, SqK K H a1 xs → xs[i]? = some x1) ∧ (∀ xs, SqK K H a2 xs → xs[i]? = some x2),
    fun i H => (∃ xs : List V, SqK K H a1 xs) ∧ (∃ xs : List V, SqK K H a2 xs) ∧ ((∃ xs : List V, SqK K H a1 xs ∧ xs.length ≤ i) ∨ (∃ xs : List V, SqK K H a2 xs ∧ xs.length ≤ i))⟩
theorem turn_zip2 {P : Program} {w : World} {K : PySem.W.Frag} {elts : List Expr} {kk : Nat} {tpos : Pos} {a1 a2 : Addr × Bool} {z TI TO i1 i2 : Addr} (D : [z, TI, TO, i1, i2].Nodup) (Lq1 : a1.1 ∉ [z, TI, TO, i1, i2]) (Lq2 : a2.1 ∉ [z, TI, TO, i1, i2]) :
    Turn P w K (.Tuple elts kk tpos) (Itz2A K a1 a2) [z, TI, TO, i1, i2] z (fun i h => IsZip h z TI TO .none ∧ h.get? TI = some (tupO #[.ref i1, .ref i2]) ∧ (∃ y1 y2 : Value, h.get? TO = some (tupO #[y1, y2])) ∧ SrcK h i1 a1 i ∧ SrcK h i2 a2 i) where
  mem := by simp
  obj := fun i h st c hc => by
    obtain ⟨hz, hTI, ⟨y1, y2, hTO⟩, u1, u2⟩ := st
    have e' : c = z ∨ c = TI ∨ c = TO ∨ c = i1 ∨ c = i2 := by simpa using hc
    rcases e' with rfl | rfl | rfl | rfl | rfl
    · exact ⟨_, hz, fun v q => nomatch q⟩
    · exact ⟨_, hTI, fun v q => nomatch q⟩
    · exact ⟨_, hTO, fun v q => nomatch q⟩
    · exact u1.ob
    · exact u2.ob
  keep := fun i h h' st k => by
    obtain ⟨hz, hTI, ⟨y1, y2, hTO⟩, u1, u2⟩ := st
    exact ⟨k z (by simp) _ hz, k TI (by simp) _ hTI, ⟨y1, y2, k TO (by simp) _ hTO⟩, SrcAt.at u1 fun o q => k i1 (by simp) o q, SrcAt.at u2 fun o q => k i2 (by simp) o q⟩
  item := by
    intro X hP hw hK hc i pins s σ H E I hf st hg
    subst hP hw hK
    obtain ⟨hz, hTI, ⟨y1, y2, hTO⟩, u1, u2⟩ := st
    obtain ⟨⟨xs1, x1, q1, e1⟩, ⟨xs2, x2, q2, e2⟩⟩ := hg
    obtain ⟨its1, rv1, p1⟩ := sqK_raw I q1
    obtain ⟨w1, f1, r1⟩ := rv1.get e1
    obtain ⟨its2, rv2, p2⟩ := sqK_raw I q2
    obtain ⟨w2, f2, r2⟩ := rv2.get e2
    have hzl : z < s.heap.objs.size := Heap.lt_size hz
    have D' := D
    simp only [List.nodup_cons, List.mem_cons, List.not_mem_nil, or_false, not_or, List.nodup_nil, and_true, not_false_eq_true] at D'
    obtain ⟨⟨zTI, zTO, z1, z2⟩, ⟨TITO, TI1, TI2⟩, rest⟩ := D'
    refine zip2_next (c1 := ⟨i1, a1.1, a1.2, its1.toArray⟩) (c2 := ⟨i2, a2.1, a2.2, its2.toArray⟩) D Lq1 Lq2 hz hTI hTO u1 u2 p1 p2 (by simpa using f1) (by simpa using f2) fun h' z' TO' v1 v2 hT hsz hk => ?_
    refine ⟨_, rfl, wpAny_letOwnedTupleGo_zip (s := { s with heap := h' }) z' fun h2 zz2 sb => ?_⟩
    have hT2 : h2.get? s.heap.objs.size = some (tupO #[w1, w2]) := (sb.2 _ (Nat.ne_of_gt hzl)).trans hT
    have new : ObjOk X.prog X.w (upd H s.heap.objs.size (.tup [x1, x2])) h2 s.heap.objs.size (.tup [x1, x2]) :=
      ⟨by show 2 ≤ sizeLine; decide, [w1, w2], (.cons r1 (.cons r2 .nil)), ⟨_, hT2, rfl, _, rfl⟩⟩
    have I1 : L2.Inv X pins σ (upd H s.heap.objs.size (.tup [x1, x2])) { s with heap := h2 } :=
      I.turnedNew (t' := s.toks) (ch := [z, TI, TO, i1, i2]) (fun c o hb q => (sb.2 c (fun y => hb (by simp [y]))).trans (hk c o (fun y => hb (by simp [y])) (fun y => hb (by simp [y])) (fun y => hb (by simp [y])) (fun y => hb (by simp [y])) q)) hf (Nat.le_refl _) new
    refine ⟨.ref s.heap.objs.size, _, I1, rfl, ⟨_, x1, x2, rfl, I.hok.fresh (Nat.le_refl _), rfl, fun l hl => by rw [sqK_inj I hl q1]; exact e1, fun l hl => by rw [sqK_inj I hl q2]; exact e2⟩, ⟨zz2, ?_, ⟨w1, w2, ?_⟩, ?_, ?_⟩, fun c hcm => ?_⟩
    · exact (sb.2 _ (Ne.symm zTI)).trans (hk _ _ (Ne.symm zTI) TITO TI1 TI2 hTI)
    · exact (sb.2 _ (Ne.symm zTO)).trans TO'
    · exact SrcAt.at v1 fun o q => (sb.2 _ (Ne.symm z1)).trans q
    · exact SrcAt.at v2 fun o q => (sb.2 _ (Ne.symm z2)).trans q
    · have hlt : c < s.heap.objs.size := by
        have e' : c = z ∨ c = TI ∨ c = TO ∨ c = i1 ∨ c = i2 := by simpa using hcm
        rcases e' with y | y | y | y | y <;> rw [y]
        · exact hzl
        · exact Heap.lt_size hTI
        · exact Heap.lt_size hTO
        · obtain ⟨_, y, _⟩ := SrcAt.ob u1; exact Heap.lt_size y
        · obtain ⟨_, y, _⟩ := SrcAt.ob u2; exact Heap.lt_size y
      rw [upd_ne (Nat.ne_of_lt hlt)]
      exact (hf c hcm).1
  done := by
    intro X hP hw hK hc i pins s σ H E I hf st hg
    subst hP hw hK
    obtain ⟨hz, hTI, ⟨y1, y2, hTO⟩, u1, u2⟩ := st
    obtain ⟨⟨xs1, q1⟩, ⟨xs2, q2⟩, hend⟩ := hg
    obtain ⟨its1, rv1, p1⟩ := sqK_raw I q1
    obtain ⟨its2, rv2, p2⟩ := sqK_raw I q2
    have he : its1.toArray[i]? = none ∨ its2.toArray[i]? = none := by
      rcases hend with ⟨l, hl, y⟩ | ⟨l, hl, y⟩
      · have e0 : its1.toArray[i]? = none := by
          have e1 := sqK_inj I hl q1
          subst e1
          have e2 := rv1.length
          simp
          omega
        exact .inl e0
      · have e0 : its2.toArray[i]? = none := by
          have e1 := sqK_inj I hl q2
          subst e1
          have e2 := rv2.length
          simp
          omega
        exact .inr (e0)
    exact zip2_stop (c1 := ⟨i1, a1.1, a1.2, its1.toArray⟩) (c2 := ⟨i2, a2.1, a2.2, its2.toArray⟩) (I.ok.hd hc) D Lq1 Lq2 hz hTI hTO u1 u2 p1 p2 he fun h' hk => ⟨rfl, I.turnedL (t' := s.toks) (ch := [z, TI, TO, i1, i2]) (fun c o hb q => hk c o (fun y => hb (by simp [y])) (fun y => hb (by simp [y])) (fun y => hb (by simp [y])) (fun y => hb (by simp [y])) q) hf⟩
  self := fun A i s Q E st h => wpAny_pyIter_zip st.1 h
abbrev zh2_0 (h : Heap) (c1 c2 : Src) : Heap := h
abbrev zh2_1 (h : Heap) (c1 c2 : Src) : Heap := (zh2_0 h c1 c2).push (itO c1)
abbrev zh2_2 (h : Heap) (c1 c2 : Src) : Heap := (zh2_1 h c1 c2).push (itO c2)
abbrev zh2_3 (h : Heap) (c1 c2 : Src) : Heap := (zh2_2 h c1 c2).push { cls := .type "tuple", data := .seq #[.ref (zh2_0 h c1 c2).objs.size, .ref (zh2_1 h c1 c2).objs.size] }
abbrev zh2_4 (h : Heap) (c1 c2 : Src) : Heap := (zh2_3 h c1 c2).push { cls := .type "tuple", data := .seq #[.none, .none] }
abbrev zh2_5 (h : Heap) (c1 c2 : Src) : Heap := (zh2_4 h c1 c2).push { cls := .type "zip", data := .fields #[.none, .bool false, .bool false, .ref (zh2_2 h c1 c2).objs.size, .ref (zh2_3 h c1 c2).objs.size] }
theorem meets_zip2A (c1 c2 : Src) : Meets (Builtin.«zip.__new__» ⟨[.type "zip", .ref c1.l, .ref c2.l], []⟩) (fun _ R s => SeqAt s.heap c1 ∧ SeqAt s.heap c2 ∧ R (.ok (.ret (.ref (zh2_4 s.heap c1 c2).objs.size))) { s with heap := zh2_5 s.heap c1 c2 }) :=
  .of_wp fun prog w A R s h => by
    obtain ⟨hp, g, d, tk, os⟩ := s
    obtain ⟨l1, l2, h⟩ := h
    have hsub := sub_zip
    have m1 : SeqAt (Shared.heap ⟨zh2_0 hp c1 c2, g, d, tk, os⟩) c1 := l1
    have m2 : SeqAt (Shared.heap ⟨zh2_1 hp c1 c2, g, d, tk, os⟩) c2 := SeqAt'.push (l2) _
    wp_walk using pyIter_src m1, pyIter_src m2
    exact ⟨_, rfl, h⟩
theorem typeCall_zip2 (v1 v2 : Value) : checkTypeCall "zip" ⟨[v1, v2], []⟩ = pure () := by kernel_rfl
theorem newCall_zip2 (v1 v2 : Value) : checkBuiltinCall "zip.__new__" ⟨[.type "zip", v1, v2], []⟩ = pure () := by kernel_rfl
theorem init_zip2 (o v1 v2 : Value) : argsOk "object.__init__" ⟨[o, v1, v2], []⟩ := by
  unfold argsOk; rw [signature?_of (id := "object.__init__") (n := "__tini__".toList) (o := "tcejbo".toList) (by kernel_rfl) F.owner_object]; kernel_rfl
section
variable {prog : Program} {w : World} {A : Around} {E : Value → Shared → Prop} {s : Shared}
theorem call_zip2 {c1 c2 : Src} {Q : Value → Shared → Prop} (l1 : SeqAt s.heap c1) (l2 : SeqAt s.heap c2)
    (h : ∀ h', IsZip h' (s.heap.objs.size + 4) (s.heap.objs.size + 2) (s.heap.objs.size + 3) .none → h'.get? (s.heap.objs.size + 2) = some (tupO #[.ref s.heap.objs.size, .ref (s.heap.objs.size + 1)]) → h'.get? (s.heap.objs.size + 3) = some (tupO #[.none, .none]) → SrcK h' s.heap.objs.size (c1.l, c1.tup) 0 → SrcK h' (s.heap.objs.size + 1) (c2.l, c2.tup) 0 → (∀ c o, s.heap.get? c = some o → h'.get? c = some o) → Q (.ref (s.heap.objs.size + 4)) { s with heap := h' }) :
    wpAny (model prog w) A (call (.type "zip") [.ref c1.l, .ref c2.l]) Q E s := by
  refine callType_new F.called_zip (by decide) (typeCall_zip2 _ _ ) (newCall_zip2 _ _ ) (fun obj => init_zip2 obj _ _ ) F.entry_zip_new (meets_zip2A c1 c2) ⟨l1, l2, ?_⟩
  have z1 : (zh2_1 s.heap c1 c2).objs.size = s.heap.objs.size + 1 := by rw [Heap.size_push]
  have z2 : (zh2_2 s.heap c1 c2).objs.size = s.heap.objs.size + 2 := by rw [Heap.size_push, z1]
  have z3 : (zh2_3 s.heap c1 c2).objs.size = s.heap.objs.size + 3 := by rw [Heap.size_push, z2]
  have z4 : (zh2_4 s.heap c1 c2).objs.size = s.heap.objs.size + 4 := by rw [Heap.size_push, z3]
  have z5 : (zh2_5 s.heap c1 c2).objs.size = s.heap.objs.size + 5 := by rw [Heap.size_push, z4]
  have g0 : (zh2_5 s.heap c1 c2).get? (zh2_0 s.heap c1 c2).objs.size = some _ := Heap.get?_push_of_some _ (Heap.get?_push_of_some _ (Heap.get?_push_of_some _ (Heap.get?_push_of_some _ (Heap.get?_push_size _ (itO_live c1)))))
  have g1 : (zh2_5 s.heap c1 c2).get? (zh2_1 s.heap c1 c2).objs.size = some _ := Heap.get?_push_of_some _ (Heap.get?_push_of_some _ (Heap.get?_push_of_some _ (Heap.get?_push_size _ (itO_live c2))))
  have g2 : (zh2_5 s.heap c1 c2).get? (zh2_2 s.heap c1 c2).objs.size = some _ := Heap.get?_push_of_some _ (Heap.get?_push_of_some _ (Heap.get?_push_size _ rfl))
  have g3 : (zh2_5 s.heap c1 c2).get? (zh2_3 s.heap c1 c2).objs.size = some _ := Heap.get?_push_of_some _ (Heap.get?_push_size _ rfl)
  have g4 : (zh2_5 s.heap c1 c2).get? (zh2_4 s.heap c1 c2).objs.size = some _ := Heap.get?_push_size _ rfl
  show _ ∧ _
  rw [z2, z3, z4] at g4
  rw [z1, z2] at g2
  rw [z3] at g3
  rw [z1] at g1
  rw [z4]
  exact ⟨⟨_, g4, rfl⟩, h _ g4 g2 g3 (srcK_new g0) (srcK_new g1) fun c o x => Heap.get?_push_of_some _ (Heap.get?_push_of_some _ (Heap.get?_push_of_some _ (Heap.get?_push_of_some _ (Heap.get?_push_of_some _ (x)))))⟩
end
section
variable {prog : Program} {w : World} {A : Around} {E : Value → Shared → Prop} {s : Shared}
theorem zip3_next {z TI TO : Addr} {k : Nat} {c1 c2 c3 : Src} {x1 x2 x3 a1 a2 a3 : Value} {Q : Option Value → Shared → Prop} (D : [z, TI, TO, c1.it, c2.it, c3.it].Nodup) (Lq1 : c1.l ∉ [z, TI, TO, c1.it, c2.it, c3.it]) (Lq2 : c2.l ∉ [z, TI, TO, c1.it, c2.it, c3.it]) (Lq3 : c3.l ∉ [z, TI, TO, c1.it, c2.it, c3.it]) (hz : IsZip s.heap z TI TO .none) (hTI : s.heap.get? TI = some (tupO #[.ref c1.it, .ref c2.it, .ref c3.it])) (hTO : s.heap.get? TO = some (tupO #[a1, a2, a3]))
    (h1 : SrcAt s.heap c1 k) (h2 : SrcAt s.heap c2 k) (h3 : SrcAt s.heap c3 k) (q1 : SeqAt s.heap c1) (q2 : SeqAt s.heap c2) (q3 : SeqAt s.heap c3) (e1 : c1.xs[k]? = some x1) (e2 : c2.xs[k]? = some x2) (e3 : c3.xs[k]? = some x3)
    (hQ : ∀ h', IsZip h' z TI TO (rawInt s.heap.objs.size) → h'.get? TO = some (tupO #[x1, x2, x3]) → SrcAt h' c1 (k + 1) → SrcAt h' c2 (k + 1) → SrcAt h' c3 (k + 1) → h'.get? s.heap.objs.size = some (tupO #[x1, x2, x3]) → h'.objs.size = s.heap.objs.size + 1 →
      (∀ c o, c ≠ z → c ≠ TO → c ≠ c1.it → c ≠ c2.it → c ≠ c3.it → s.heap.get? c = some o → h'.get? c = some o) → Q (some (.ref s.heap.objs.size)) { s with heap := h' }) :
    wpAny (model prog w) A (pyNext (.ref z)) Q E s := by
  have hT : s.TypeIs (.ref z) "zip" := ⟨_, hz, rfl⟩
  unfold pyNext
  exact wpAny_bind (wpAny_attempt (wpAny_callSpecial?_slot (name := Str.ofString "__next__") hT F.slot_zip_next (wpAny_call_entry F.slot_zip_next hT F.entry_zip_next (zip3_item D Lq1 Lq2 Lq3 hz hTI hTO h1 h2 h3 q1 q2 q3 e1 e2 e3 fun h' b0 b1 b2 b3 b4 b5 b6 b7 => wpAny_pure (hQ h' b0 b1 b2 b3 b4 b5 b6 b7)) (F.args_zip_next_1 _))))
theorem zip3_stop {z TI TO : Addr} {k : Nat} {c1 c2 c3 : Src} { a1 a2 a3 : Value} {Q : Option Value → Shared → Prop} (hh : A.handled = none) (D : [z, TI, TO, c1.it, c2.it, c3.it].Nodup) (Lq1 : c1.l ∉ [z, TI, TO, c1.it, c2.it, c3.it]) (Lq2 : c2.l ∉ [z, TI, TO, c1.it, c2.it, c3.it]) (Lq3 : c3.l ∉ [z, TI, TO, c1.it, c2.it, c3.it]) (hz : IsZip s.heap z TI TO .none) (hTI : s.heap.get? TI = some (tupO #[.ref c1.it, .ref c2.it, .ref c3.it])) (hTO : s.heap.get? TO = some (tupO #[a1, a2, a3]))
    (h1 : SrcAt s.heap c1 k) (h2 : SrcAt s.heap c2 k) (h3 : SrcAt s.heap c3 k) (q1 : SeqAt s.heap c1) (q2 : SeqAt s.heap c2) (q3 : SeqAt s.heap c3) (hend : c1.xs[k]? = none ∨ c2.xs[k]? = none ∨ c3.xs[k]? = none)
    (hQ : ∀ h', (∀ c o, c ≠ z → c ≠ TO → c ≠ c1.it → c ≠ c2.it → c ≠ c3.it → s.heap.get? c = some o → h'.get? c = some o) → Q none { s with heap := h' }) :
    wpAny (model prog w) A (pyNext (.ref z)) Q E s := by
  have hT : s.TypeIs (.ref z) "zip" := ⟨_, hz, rfl⟩
  unfold pyNext
  refine wpAny_bind (wpAny_attempt (wpAny_callSpecial?_slot (name := Str.ofString "__next__") hT F.slot_zip_next (wpAny_call_entry F.slot_zip_next hT F.entry_zip_next (zip3_end hh D Lq1 Lq2 Lq3 hz hTI hTO h1 h2 h3 q1 q2 q3 hend fun h' e hk he => ?_) (F.args_zip_next_1 _))))
  obtain ⟨o, ho, hc⟩ := he
  refine wpAny_bind (wpAny_isInstance (T := "StopIteration") (b := true) ⟨o, ho, hc⟩ isSubtype_stop ?_)
  exact wpAny_pure (hQ _ hk)
end
def Itz3A (K : PySem.W.Frag) (a1 : Addr × Bool) (a2 : Addr × Bool) (a3 : Addr × Bool) : It :=
  ⟨fun i H => (∃ (xs : List V) (x : V), SqK K H a1 xs ∧ xs[i]? = some x) ∧ (∃ (xs : List V) (x : V), SqK K H a2 xs ∧ xs[i]? = some x) ∧ (∃ (xs : List V) (x : V), SqK K H a3 xs ∧ xs[i]? = some x),
    fun i H v H' => ∃ T x1 x2 x3, v = .ref T ∧ H T = none ∧ H' = upd H T (.tup [x1, x2, x3]) ∧ (∀ xs, SqK K H a1 xs → xs[i]? = some x1) ∧ (∀ xs, SqK K H a2 xs → xs[i]? = some x2) ∧ (∀ xs, SqK K H a3 xs → xs[i]? = some x3),
    fun i H => (∃ xs : List V, SqK K H a1 xs) ∧ (∃ xs : List V, SqK K H a2 xs) ∧ (∃ xs : List V, SqK K H a3 xs) ∧ ((∃ xs : List V, SqK K H a1 xs ∧ xs.length ≤ i) ∨ (∃ xs : List V, SqK K H a2 xs ∧ xs.length ≤ i) ∨ (∃ xs : List V, SqK K H a3 xs ∧ xs.length ≤ i))⟩
theorem turn_zip3 {P : Program} {w : World} {K : PySem.W.Frag} {elts : List Expr} {kk : Nat} {tpos : Pos} {a1 a2 a3 : Addr × Bool} {z TI TO i1 i2 i3 : Addr} (D : [z, TI, TO, i1, i2, i3].Nodup) (Lq1 : a1.1 ∉ [z, TI, TO, i1, i2, i3]) (Lq2 : a2.1 ∉ [z, TI, TO, i1, i2, i3]) (Lq3 : a3.1 ∉ [z, TI, TO, i1, i2, i3]) :
    Turn P w K (.Tuple elts kk tpos) (Itz3A K a1 a2 a3) [z, TI, TO, i1, i2, i3] z (fun i h => IsZip h z TI TO .none ∧ h.get? TI = some (tupO #[.ref i1, .ref i2, .ref i3]) ∧ (∃ y1 y2 y3 : Value, h.get? TO = some (tupO #[y1, y2, y3])) ∧ SrcK h i1 a1 i ∧ SrcK h i2 a2 i ∧ SrcK h i3 a3 i) where
  mem := by simp
  obj := fun i h st c hc => by
    obtain ⟨hz, hTI, ⟨y1, y2, y3, hTO⟩, u1, u2, u3⟩ := st
    have e' : c = z ∨ c = TI ∨ c = TO ∨ c = i1 ∨ c = i2 ∨ c = i3 := by simpa using hc
    rcases e' with rfl | rfl | rfl | rfl | rfl | rfl
    · exact ⟨_, hz, fun v q => nomatch q⟩
    · exact ⟨_, hTI, fun v q => nomatch q⟩
    · exact ⟨_, hTO, fun v q => nomatch q⟩
    · exact u1.ob
    · exact u2.ob
    · exact u3.ob
  keep := fun i h h' st k => by
    obtain ⟨hz, hTI, ⟨y1, y2, y3, hTO⟩, u1, u2, u3⟩ := st
    exact ⟨k z (by simp) _ hz, k TI (by simp) _ hTI, ⟨y1, y2, y3, k TO (by simp) _ hTO⟩, SrcAt.at u1 fun o q => k i1 (by simp) o q, SrcAt.at u2 fun o q => k i2 (by simp) o q, SrcAt.at u3 fun o q => k i3 (by simp) o q⟩
  item := by
    intro X hP hw hK hc i pins s σ H E I hf st hg
    subst hP hw hK
    obtain ⟨hz, hTI, ⟨y1, y2, y3, hTO⟩, u1, u2, u3⟩ := st
    obtain ⟨⟨xs1, x1, q1, e1⟩, ⟨xs2, x2, q2, e2⟩, ⟨xs3, x3, q3, e3⟩⟩ := hg
    obtain ⟨its1, rv1, p1⟩ := sqK_raw I q1
    obtain ⟨w1, f1, r1⟩ := rv1.get e1
    obtain ⟨its2, rv2, p2⟩ := sqK_raw I q2
    obtain ⟨w2, f2, r2⟩ := rv2.get e2
    obtain ⟨its3, rv3, p3⟩ := sqK_raw I q3
    obtain ⟨w3, f3, r3⟩ := rv3.get e3
    have hzl : z < s.heap.objs.size := Heap.lt_size hz
    have D' := D
    simp only [List.nodup_cons, List.mem_cons, List.not_mem_nil, or_false, not_or, List.nodup_nil, and_true, not_false_eq_true] at D'
    obtain ⟨⟨zTI, zTO, z1, z2, z3⟩, ⟨TITO, TI1, TI2, TI3⟩, rest⟩ := D'
    refine zip3_next (c1 := ⟨i1, a1.1, a1.2, its1.toArray⟩) (c2 := ⟨i2, a2.1, a2.2, its2.toArray⟩) (c3 := ⟨i3, a3.1, a3.2, its3.toArray⟩) D Lq1 Lq2 Lq3 hz hTI hTO u1 u2 u3 p1 p2 p3 (by simpa using f1) (by simpa using f2) (by simpa using f3) fun h' z' TO' v1 v2 v3 hT hsz hk => ?_
    refine ⟨_, rfl, wpAny_letOwnedTupleGo_zip (s := { s with heap := h' }) z' fun h2 zz2 sb => ?_⟩
    have hT2 : h2.get? s.heap.objs.size = some (tupO #[w1, w2, w3]) := (sb.2 _ (Nat.ne_of_gt hzl)).trans hT
    have new : ObjOk X.prog X.w (upd H s.heap.objs.size (.tup [x1, x2, x3])) h2 s.heap.objs.size (.tup [x1, x2, x3]) :=
      ⟨by show 3 ≤ sizeLine; decide, [w1, w2, w3], (.cons r1 (.cons r2 (.cons r3 .nil))), ⟨_, hT2, rfl, _, rfl⟩⟩
    have I1 : L2.Inv X pins σ (upd H s.heap.objs.size (.tup [x1, x2, x3])) { s with heap := h2 } :=
      I.turnedNew (t' := s.toks) (ch := [z, TI, TO, i1, i2, i3]) (fun c o hb q => (sb.2 c (fun y => hb (by simp [y]))).trans (hk c o (fun y => hb (by simp [y])) (fun y => hb (by simp [y])) (fun y => hb (by simp [y])) (fun y => hb (by simp [y])) (fun y => hb (by simp [y])) q)) hf (Nat.le_refl _) new
    refine ⟨.ref s.heap.objs.size, _, I1, rfl, ⟨_, x1, x2, x3, rfl, I.hok.fresh (Nat.le_refl _), rfl, fun l hl => by rw [sqK_inj I hl q1]; exact e1, fun l hl => by rw [sqK_inj I hl q2]; exact e2, fun l hl => by rw [sqK_inj I hl q3]; exact e3⟩, ⟨zz2, ?_, ⟨w1, w2, w3, ?_⟩, ?_, ?_, ?_⟩, fun c hcm => ?_⟩
    · exact (sb.2 _ (Ne.symm zTI)).trans (hk _ _ (Ne.symm zTI) TITO TI1 TI2 TI3 hTI)
    · exact (sb.2 _ (Ne.symm zTO)).trans TO'
    · exact SrcAt.at v1 fun o q => (sb.2 _ (Ne.symm z1)).trans q
    · exact SrcAt.at v2 fun o q => (sb.2 _ (Ne.symm z2)).trans q
    · exact SrcAt.at v3 fun o q => (sb.2 _ (Ne.symm z3)).trans q
    · have hlt : c < s.heap.objs.size := by
        have e' : c = z ∨ c = TI ∨ c = TO ∨ c = i1 ∨ c = i2 ∨ c = i3 := by simpa using hcm
        rcases e' with y | y | y | y | y | y <;> rw [y]
        · exact hzl
        · exact Heap.lt_size hTI
        · exact Heap.lt_size hTO
        · obtain ⟨_, y, _⟩ := SrcAt.ob u1; exact Heap.lt_size y
        · obtain ⟨_, y, _⟩ := SrcAt.ob u2; exact Heap.lt_size y
        · obtain ⟨_, y, _⟩ := SrcAt.ob u3; exact Heap.lt_size y
      rw [upd_ne (Nat.ne_of_lt hlt)]
      exact (hf c hcm).1
  done := by
    intro X hP hw hK hc i pins s σ H E I hf st hg
    subst hP hw hK
    obtain ⟨hz, hTI, ⟨y1, y2, y3, hTO⟩, u1, u2, u3⟩ := st
    obtain ⟨⟨xs1, q1⟩, ⟨xs2, q2⟩, ⟨xs3, q3⟩, hend⟩ := hg
    obtain ⟨its1, rv1, p1⟩ := sqK_raw I q1
    obtain ⟨its2, rv2, p2⟩ := sqK_raw I q2
    obtain ⟨its3, rv3, p3⟩ := sqK_raw I q3
    have he : its1.toArray[i]? = none ∨ its2.toArray[i]? = none ∨ its3.toArray[i]? = none := by
      rcases hend with ⟨l, hl, y⟩ | ⟨l, hl, y⟩ | ⟨l, hl, y⟩
      · have e0 : its1.toArray[i]? = none := by
          have e1 := sqK_inj I hl q1
          subst e1
          have e2 := rv1.length
          simp
          omega
        exact .inl e0
      · have e0 : its2.toArray[i]? = none := by
          have e1 := sqK_inj I hl q2
          subst e1
          have e2 := rv2.length
          simp
          omega
        exact .inr (.inl e0)
      · have e0 : its3.toArray[i]? = none := by
          have e1 := sqK_inj I hl q3
          subst e1
          have e2 := rv3.length
          simp
          omega
        exact .inr (.inr (e0))
    exact zip3_stop (c1 := ⟨i1, a1.1, a1.2, its1.toArray⟩) (c2 := ⟨i2, a2.1, a2.2, its2.toArray⟩) (c3 := ⟨i3, a3.1, a3.2, its3.toArray⟩) (I.ok.hd hc) D Lq1 Lq2 Lq3 hz hTI hTO u1 u2 u3 p1 p2 p3 he fun h' hk => ⟨rfl, I.turnedL (t' := s.toks) (ch := [z, TI, TO, i1, i2, i3]) (fun c o hb q => hk c o (fun y => hb (by simp [y])) (fun y => hb (by simp [y])) (fun y => hb (by simp [y])) (fun y => hb (by simp [y])) (fun y => hb (by simp [y])) q) hf⟩
  self := fun A i s Q E st h => wpAny_pyIter_zip st.1 h
abbrev zh3_0 (h : Heap) (c1 c2 c3 : Src) : Heap := h
abbrev zh3_1 (h : Heap) (c1 c2 c3 : Src) : Heap := (zh3_0 h c1 c2 c3).push (itO c1)
abbrev zh3_2 (h : Heap) (c1 c2 c3 : Src) : Heap := (zh3_1 h c1 c2 c3).push (itO c2)
abbrev zh3_3 (h : Heap) (c1 c2 c3 : Src) : Heap := (zh3_2 h c1 c2 c3).push (itO c3)
abbrev zh3_4 (h : Heap) (c1 c2 c3 : Src) : Heap := (zh3_3 h c1 c2 c3).push { cls := .type "tuple", data := .seq #[.ref (zh3_0 h c1 c2 c3).objs.size, .ref (zh3_1 h c1 c2 c3).objs.size, .ref (zh3_2 h c1 c2 c3).objs.size] }
abbrev zh3_5 (h : Heap) (c1 c2 c3 : Src) : Heap := (zh3_4 h c1 c2 c3).push { cls := .type "tuple", data := .seq #[.none, .none, .none] }
abbrev zh3_6 (h : Heap) (c1 c2 c3 : Src) : Heap := (zh3_5 h c1 c2 c3).push { cls := .type "zip", data := .fields #[.none, .bool false, .bool false, .ref (zh3_3 h c1 c2 c3).objs.size, .ref (zh3_4 h c1 c2 c3).objs.size] }
theorem meets_zip3A (c1 c2 c3 : Src) : Meets (Builtin.«zip.__new__» ⟨[.type "zip", .ref c1.l, .ref c2.l, .ref c3.l], []⟩) (fun _ R s => SeqAt s.heap c1 ∧ SeqAt s.heap c2 ∧ SeqAt s.heap c3 ∧ R (.ok (.ret (.ref (zh3_5 s.heap c1 c2 c3).objs.size))) { s with heap := zh3_6 s.heap c1 c2 c3 }) :=
  .of_wp fun prog w A R s h => by
    obtain ⟨hp, g, d, tk, os⟩ := s
    obtain ⟨l1, l2, l3, h⟩ := h
    have hsub := sub_zip
    have m1 : SeqAt (Shared.heap ⟨zh3_0 hp c1 c2 c3, g, d, tk, os⟩) c1 := l1
    have m2 : SeqAt (Shared.heap ⟨zh3_1 hp c1 c2 c3, g, d, tk, os⟩) c2 := SeqAt'.push (l2) _
    have m3 : SeqAt (Shared.heap ⟨zh3_2 hp c1 c2 c3, g, d, tk, os⟩) c3 := SeqAt'.push (SeqAt'.push (l3) _) _
    wp_walk using pyIter_src m1, pyIter_src m2, pyIter_src m3
    exact ⟨_, rfl, h⟩
theorem typeCall_zip3 (v1 v2 v3 : Value) : checkTypeCall "zip" ⟨[v1, v2, v3], []⟩ = pure () := by kernel_rfl
theorem newCall_zip3 (v1 v2 v3 : Value) : checkBuiltinCall "zip.__new__" ⟨[.type "zip", v1, v2, v3], []⟩ = pure () := by kernel_rfl
theorem init_zip3 (o v1 v2 v3 : Value) : argsOk "object.__init__" ⟨[o, v1, v2, v3], []⟩ := by
  unfold argsOk; rw [signature?_of (id := "object.__init__") (n := "__tini__".toList) (o := "tcejbo".toList) (by kernel_rfl) F.owner_object]; kernel_rfl
section
variable {prog : Program} {w : World} {A : Around} {E : Value → Shared → Prop} {s : Shared}
theorem call_zip3 {c1 c2 c3 : Src} {Q : Value → Shared → Prop} (l1 : SeqAt s.heap c1) (l2 : SeqAt s.heap c2) (l3 : SeqAt s.heap c3)
    (h : ∀ h', IsZip h' (s.heap.objs.size + 5) (s.heap.objs.size + 3) (s.heap.objs.size + 4) .none → h'.get? (s.heap.objs.size + 3) = some (tupO #[.ref s.heap.objs.size, .ref (s.heap.objs.size + 1), .ref (s.heap.objs.size + 2)]) → h'.get? (s.heap.objs.size + 4) = some (tupO #[.none, .none, .none]) → SrcK h' s.heap.objs.size (c1.l, c1.tup) 0 → SrcK h' (s.heap.objs.size + 1) (c2.l, c2.tup) 0 → SrcK h' (s.heap.objs.size + 2) (c3.l, c3.tup) 0 → (∀ c o, s.heap.get? c = some o → h'.get? c = some o) → Q (.ref (s.heap.objs.size + 5)) { s with heap := h' }) :
    wpAny (model prog w) A (call (.type "zip") [.ref c1.l, .ref c2.l, .ref c3.l]) Q E s := by
  refine callType_new F.called_zip (by decide) (typeCall_zip3 _ _ _ ) (newCall_zip3 _ _ _ ) (fun obj => init_zip3 obj _ _ _ ) F.entry_zip_new (meets_zip3A c1 c2 c3) ⟨l1, l2, l3, ?_⟩
  have z1 : (zh3_1 s.heap c1 c2 c3).objs.size = s.heap.objs.size + 1 := by rw [Heap.size_push]
  have z2 : (zh3_2 s.heap c1 c2 c3).objs.size = s.heap.objs.size + 2 := by rw [Heap.size_push, z1]
  have z3 : (zh3_3 s.heap c1 c2 c3).objs.size = s.heap.objs.size + 3 := by rw [Heap.size_push, z2]
  have z4 : (zh3_4 s.heap c1 c2 c3).objs.size = s.heap.objs.size + 4 := by rw [Heap.size_push, z3]
  have z5 : (zh3_5 s.heap c1 c2 c3).objs.size = s.heap.objs.size + 5 := by rw [Heap.size_push, z4]
  have z6 : (zh3_6 s.heap c1 c2 c3).objs.size = s.heap.objs.size + 6 := by rw [Heap.size_push, z5]
  have g0 : (zh3_6 s.heap c1 c2 c3).get? (zh3_0 s.heap c1 c2 c3).objs.size = some _ := Heap.get?_push_of_some _ (Heap.get?_push_of_some _ (Heap.get?_push_of_some _ (Heap.get?_push_of_some _ (Heap.get?_push_of_some _ (Heap.get?_push_size _ (itO_live c1))))))
  have g1 : (zh3_6 s.heap c1 c2 c3).get? (zh3_1 s.heap c1 c2 c3).objs.size = some _ := Heap.get?_push_of_some _ (Heap.get?_push_of_some _ (Heap.get?_push_of_some _ (Heap.get?_push_of_some _ (Heap.get?_push_size _ (itO_live c2)))))
  have g2 : (zh3_6 s.heap c1 c2 c3).get? (zh3_2 s.heap c1 c2 c3).objs.size = some _ := Heap.get?_push_of_some _ (Heap.get?_push_of_some _ (Heap.get?_push_of_some _ (Heap.get?_push_size _ (itO_live c3))))
  have g3 : (zh3_6 s.heap c1 c2 c3).get? (zh3_3 s.heap c1 c2 c3).objs.size = some _ := Heap.get?_push_of_some _ (Heap.get?_push_of_some _ (Heap.get?_push_size _ rfl))
  have g4 : (zh3_6 s.heap c1 c2 c3).get? (zh3_4 s.heap c1 c2 c3).objs.size = some _ := Heap.get?_push_of_some _ (Heap.get?_push_size _ rfl)
  have g5 : (zh3_6 s.heap c1 c2 c3).get? (zh3_5 s.heap c1 c2 c3).objs.size = some _ := Heap.get?_push_size _ rfl
  show _ ∧ _
  rw [z3, z4, z5] at g5
  rw [z1, z2, z3] at g3
  rw [z4] at g4
  rw [z1] at g1
  rw [z2] at g2
  rw [z5]
  exact ⟨⟨_, g5, rfl⟩, h _ g5 g3 g4 (srcK_new g0) (srcK_new g1) (srcK_new g2) fun c o x => Heap.get?_push_of_some _ (Heap.get?_push_of_some _ (Heap.get?_push_of_some _ (Heap.get?_push_of_some _ (Heap.get?_push_of_some _ (Heap.get?_push_of_some _ (x))))))⟩
end
/-! ### as readings -/
/-- a list or a tuple, its items -/
def seqAD : D → Option (List D)
  | .lst ds => some ds
  | .tup ds => some ds
  | .pt ds => some ds
  | _ => none
theorem SeqAt'.lt {h : Heap} {c : Src} (u : SeqAt' h c) : c.l < h.objs.size := by
  unfold SeqAt' at u
  split at u
  · obtain ⟨o, e, _⟩ := u
    exact Heap.lt_size e
  · obtain ⟨o, e, _⟩ := u
    exact Heap.lt_size e
theorem nAddr {a b : Nat} (h : a ≠ b) : (a : Addr) ≠ b := h
theorem seqA_rep {G : Hp} {v : V} {d : D} {ds : List D} (h : Rep K G v d) (q : seqAD d = some ds) : ∃ (a : Addr × Bool) (ws : List V), v = .ref a.1 ∧ (∀ {H : Hp}, Sub G H → SqK K H a ws) ∧ RepL K G ws ds := by
  cases h with
  | tup h r => cases q; exact ⟨(_, true), _, rfl, fun s => .inl (s.rd (.inl h)), r⟩
  | pt h _ r => cases q; exact ⟨(_, true), _, rfl, fun s => .inl (s.rd (.inr ⟨_, h⟩)), r⟩
  | lst h r => cases q; exact ⟨(_, false), _, rfl, fun s => .inl (s.rd (.inl h)), r⟩
  | _ => cases q

def zip2L : List D → List D → List D
  | d1 :: l1, d2 :: l2 => .tup [d1, d2] :: zip2L l1 l2
  | _, _ => []
def zip2A : List D → Option (List D)
  | [x1, x2] => (seqAD x1).bind fun l1 => (seqAD x2).bind fun l2 => some (zip2L l1 l2)
  | _ => none
theorem zip2L_get : ∀ {l1 l2 : List D} {i : Nat} {d : D}, (zip2L l1 l2)[i]? = some d → ∃ d1 d2, d = .tup [d1, d2] ∧ l1[i]? = some d1 ∧ l2[i]? = some d2
  | [], _, _, _, h => by simp [zip2L] at h
  | _ :: _, [], _, _, h => by simp [zip2L] at h
  | d1 :: l1, d2 :: l2, 0, d, h => by
    simp only [zip2L, List.getElem?_cons_zero, Option.some.injEq] at h
    exact ⟨d1, d2, h.symm, rfl, rfl⟩
  | d1 :: l1, d2 :: l2, i + 1, d, h => by
    simp only [zip2L, List.getElem?_cons_succ] at h
    obtain ⟨e1, e2, e, g1, g2⟩ := zip2L_get h
    exact ⟨e1, e2, e, by simpa using g1, by simpa using g2⟩
theorem zip2L_len : ∀ (l1 l2 : List D), l1.length ≤ (zip2L l1 l2).length ∨ l2.length ≤ (zip2L l1 l2).length
  | [], _ => .inl (Nat.zero_le _)
  | _ :: _, [] => .inr (Nat.zero_le _)
  | d1 :: l1, d2 :: l2 => by
    rcases zip2L_len l1 l2 with h | h
    · exact .inl (by simp only [zip2L, List.length_cons]; omega)
    · exact .inr ((by simp only [zip2L, List.length_cons]; omega))
theorem itz2_d {a1 a2 : Addr × Bool} {G : Hp} {v1 v2 : List V} {d1 d2 : List D} (h1 : ∀ {H}, Sub G H → SqK K H a1 v1) (r1 : RepL K G v1 d1) (h2 : ∀ {H}, Sub G H → SqK K H a2 v2) (r2 : RepL K G v2 d2) : ItD K (Itz2A K a1 a2) G (zip2L d1 d2) := fun H' s => by
  refine ⟨fun i d e => ?_, ⟨_, h1 s⟩, ⟨_, h2 s⟩, ?_⟩
  · obtain ⟨e1, e2, rfl, g1, g2⟩ := zip2L_get e
    obtain ⟨w1, f1, p1⟩ := r1.get g1
    obtain ⟨w2, f2, p2⟩ := r2.get g2
    refine ⟨⟨⟨_, w1, h1 s, f1⟩, ⟨_, w2, h2 s, f2⟩⟩, fun w H2 ⟨T, x1, x2, ew, nT, eH, k1, k2⟩ G2 s1 s2 => ?_⟩
    have y1 := k1 _ (h1 s)
    rw [f1] at y1
    cases y1
    have y2 := k2 _ (h2 s)
    rw [f2] at y2
    cases y2
    subst ew eH
    have g := Grow.laid (o := HO.tup [w1, w2]) s2 nT
    exact ⟨_, g, .tup upd_same (.cons ((p1.mono s1).mono g.gg) (.cons ((p2.mono s1).mono g.gg) .nil))⟩
  · rcases zip2L_len d1 d2 with h | h
    · exact .inl ⟨_, h1 s, by rw [r1.length]; exact h⟩
    · exact .inr (⟨_, h2 s, by rw [r2.length]; exact h⟩)
def iZip2 (K : PySem.W.Frag) (ta : TA) : TI := fun σ H R => ta σ H fun vs H1 => ∃ a1 a2 v1 v2, vs = [.ref a1.1, .ref a2.1] ∧ SqK K H1 a1 v1 ∧ SqK K H1 a2 v2 ∧ R (Itz2A K a1 a2) H1
theorem pi_zip2 {X : Cx} {m1 m2 : Expr} {ta : TA} {p pos tpos : Pos} {elts : List Expr} {kk : Nat} (hg : Gl X "zip") (hm : X.mg "zip" = none) (ha : PA X [m1, m2] ta)
    (hs : starEach [m1, m2] X.env = (false, eval m1 X.env) :: starEach [m2] X.env := by rfl) (hpl : (backTo pos (starEach [m2] X.env)).any (·.1) = false := by rfl) :
    PI X (.Tuple elts kk tpos) (.Call (.Name "zip" p) [m1, m2] [] pos) (iZip2 X.K ta) := by
  refine ⟨fun pins s σ H R I h => ?_⟩
  refine Call_ (ld_blt I hg hm PyProof.Rows.boot_zip (PyProof.Rows.callWith_type1 (thn (ha.run pos pins s σ H _ I h) fun us s1 ⟨vs, H1, I1, rv, q⟩ => ?_) hs hpl))
  obtain ⟨a1, a2, v1, v2, rfl, q1, q2, q⟩ := q
  have eu : us = [.ref a1.1, .ref a2.1] := by
    cases rv with
    | cons z1 rv =>
      cases z1
      cases rv with
      | cons z2 rv =>
        cases z2
        cases rv
        rfl
  subst eu
  obtain ⟨its1, rv1, p1⟩ := sqK_raw (it := s1.heap.objs.size) I1 q1
  obtain ⟨its2, rv2, p2⟩ := sqK_raw (it := s1.heap.objs.size + 1) I1 q2
  have fresh : ∀ c, c ∈ [s1.heap.objs.size + 4, s1.heap.objs.size + 2, s1.heap.objs.size + 3, s1.heap.objs.size, s1.heap.objs.size + 1] → FpOk X pins H1 c := fun c hcm => by
    have hle : s1.heap.objs.size ≤ c := by
      simp only [List.mem_cons, List.not_mem_nil, or_false] at hcm
      rcases hcm with z | z | z | z | z <;> rw [z] <;> first | exact Nat.le_refl _ | exact Nat.le_add_right _ _
    exact I1.fpOk hle (I1.hok.fresh hle)
  have D : ([s1.heap.objs.size + 4, s1.heap.objs.size + 2, s1.heap.objs.size + 3, s1.heap.objs.size, s1.heap.objs.size + 1] : List Addr).Nodup := by
    simp only [List.nodup_cons, List.mem_cons, List.not_mem_nil, or_false, not_or, List.nodup_nil, and_true, not_false_eq_true]
    refine ⟨⟨?_, ?_, ?_, ?_⟩, ⟨?_, ?_, ?_⟩, ⟨?_, ?_⟩, ?_⟩ <;> (try refine nAddr ?_) <;> omega
  have Lq1 : a1.1 ∉ [s1.heap.objs.size + 4, s1.heap.objs.size + 2, s1.heap.objs.size + 3, s1.heap.objs.size, s1.heap.objs.size + 1] := by
    have lt : (show Nat from a1.1) < (show Nat from s1.heap.objs.size) := SeqAt'.lt p1
    simp only [List.mem_cons, List.not_mem_nil, or_false, not_or]
    exact ⟨nAddr (Nat.ne_of_lt (Nat.lt_of_lt_of_le lt (by first | exact Nat.le_refl _ | exact Nat.le_add_right _ _))), nAddr (Nat.ne_of_lt (Nat.lt_of_lt_of_le lt (by first | exact Nat.le_refl _ | exact Nat.le_add_right _ _))), nAddr (Nat.ne_of_lt (Nat.lt_of_lt_of_le lt (by first | exact Nat.le_refl _ | exact Nat.le_add_right _ _))), nAddr (Nat.ne_of_lt (Nat.lt_of_lt_of_le lt (by first | exact Nat.le_refl _ | exact Nat.le_add_right _ _))), nAddr (Nat.ne_of_lt (Nat.lt_of_lt_of_le lt (by first | exact Nat.le_refl _ | exact Nat.le_add_right _ _)))⟩
  have Lq2 : a2.1 ∉ [s1.heap.objs.size + 4, s1.heap.objs.size + 2, s1.heap.objs.size + 3, s1.heap.objs.size, s1.heap.objs.size + 1] := by
    have lt : (show Nat from a2.1) < (show Nat from s1.heap.objs.size) := SeqAt'.lt p2
    simp only [List.mem_cons, List.not_mem_nil, or_false, not_or]
    exact ⟨nAddr (Nat.ne_of_lt (Nat.lt_of_lt_of_le lt (by first | exact Nat.le_refl _ | exact Nat.le_add_right _ _))), nAddr (Nat.ne_of_lt (Nat.lt_of_lt_of_le lt (by first | exact Nat.le_refl _ | exact Nat.le_add_right _ _))), nAddr (Nat.ne_of_lt (Nat.lt_of_lt_of_le lt (by first | exact Nat.le_refl _ | exact Nat.le_add_right _ _))), nAddr (Nat.ne_of_lt (Nat.lt_of_lt_of_le lt (by first | exact Nat.le_refl _ | exact Nat.le_add_right _ _))), nAddr (Nat.ne_of_lt (Nat.lt_of_lt_of_le lt (by first | exact Nat.le_refl _ | exact Nat.le_add_right _ _)))⟩
  refine call_zip2 p1 p2 fun h' hz hTI hTO y1 y2 hk => wpAny_pyIter_zip hz ?_
  have I2 : L2.Inv X pins σ H1 { s1 with heap := h' } := I1.kept (t' := s1.toks) hk
  exact ⟨_, [s1.heap.objs.size + 4, s1.heap.objs.size + 2, s1.heap.objs.size + 3, s1.heap.objs.size, s1.heap.objs.size + 1], _, _, H1, rfl, I2, turn_zip2 D Lq1 Lq2, ⟨hz, hTI, ⟨_, _, hTO⟩, y1, y2⟩, fresh, q⟩
section
variable {X : Cx} {W : WN}
theorem di_zip2A {m1 m2 : Expr} {f : Ev → R (List D)} {p pos tpos : Pos} {elts : List Expr} {kk : Nat} (hm : X.mg "zip" = none) (ha : PA X [m1, m2] (taOf K W f)) (hK : X.K = K := by rfl) (hg : Gl X "zip" := by rfl)
    (hs : starEach [m1, m2] X.env = (false, eval m1 X.env) :: starEach [m2] X.env := by rfl) (hpl : (backTo pos (starEach [m2] X.env)).any (·.1) = false := by rfl) :
    PI X (.Tuple elts kk tpos) (.Call (.Name "zip" p) [m1, m2] [] pos) (tiOf K true W fun ρ => (f ρ).bind fun d => opt (zip2A d)) := pi_imp (pi_zip2 hg hm ha hs hpl) fun σ H Q h => by
  subst hK
  refine ti_args (r := fun vs H1 Q => ∃ a1 a2 v1 v2, vs = [.ref a1.1, .ref a2.1] ∧ SqK X.K H1 a1 v1 ∧ SqK X.K H1 a2 v2 ∧ Q (Itz2A X.K a1 a2) H1) (fun G H vs ds its Q sub r e m => ?_) h
  unfold zip2A at e
  split at e
  · rename_i x1 x2
    cases e1 : seqAD x1 with
    | none => simp [e1] at e
    | some l1 =>
      cases e2 : seqAD x2 with
      | none => simp [e1, e2] at e
      | some l2 =>
        simp only [e1, e2, Option.bind_some, Option.some.injEq] at e
        subst e
        cases r with
        | cons r1 rr =>
          cases rr with
          | cons r2 rr =>
            cases rr
            obtain ⟨a1, w1, rfl, h1, k1⟩ := seqA_rep r1 e1
            obtain ⟨a2, w2, rfl, h2, k2⟩ := seqA_rep r2 e2
            exact ⟨a1, a2, w1, w2, rfl, h1 sub, h2 sub, m _ G H (.refl sub) (itz2_d h1 k1 h2 k2)⟩
  · cases e
end
def zip3L : List D → List D → List D → List D
  | d1 :: l1, d2 :: l2, d3 :: l3 => .tup [d1, d2, d3] :: zip3L l1 l2 l3
  | _, _, _ => []
def zip3A : List D → Option (List D)
  | [x1, x2, x3] => (seqAD x1).bind fun l1 => (seqAD x2).bind fun l2 => (seqAD x3).bind fun l3 => some (zip3L l1 l2 l3)
  | _ => none
theorem zip3L_get : ∀ {l1 l2 l3 : List D} {i : Nat} {d : D}, (zip3L l1 l2 l3)[i]? = some d → ∃ d1 d2 d3, d = .tup [d1, d2, d3] ∧ l1[i]? = some d1 ∧ l2[i]? = some d2 ∧ l3[i]? = some d3
  | [], _, _, _, _, h => by simp [zip3L] at h
  | _ :: _, [], _, _, _, h => by simp [zip3L] at h
  | _ :: _, _ :: _, [], _, _, h => by simp [zip3L] at h
  | d1 :: l1, d2 :: l2, d3 :: l3, 0, d, h => by
    simp only [zip3L, List.getElem?_cons_zero, Option.some.injEq] at h
    exact ⟨d1, d2, d3, h.symm, rfl, rfl, rfl⟩
  | d1 :: l1, d2 :: l2, d3 :: l3, i + 1, d, h => by
    simp only [zip3L, List.getElem?_cons_succ] at h
    obtain ⟨e1, e2, e3, e, g1, g2, g3⟩ := zip3L_get h
    exact ⟨e1, e2, e3, e, by simpa using g1, by simpa using g2, by simpa using g3⟩
theorem zip3L_len : ∀ (l1 l2 l3 : List D), l1.length ≤ (zip3L l1 l2 l3).length ∨ l2.length ≤ (zip3L l1 l2 l3).length ∨ l3.length ≤ (zip3L l1 l2 l3).length
  | [], _, _ => .inl (Nat.zero_le _)
  | _ :: _, [], _ => .inr (.inl (Nat.zero_le _))
  | _ :: _, _ :: _, [] => .inr (.inr (Nat.zero_le _))
  | d1 :: l1, d2 :: l2, d3 :: l3 => by
    rcases zip3L_len l1 l2 l3 with h | h | h
    · exact .inl (by simp only [zip3L, List.length_cons]; omega)
    · exact .inr (.inl (by simp only [zip3L, List.length_cons]; omega))
    · exact .inr (.inr ((by simp only [zip3L, List.length_cons]; omega)))
theorem itz3_d {a1 a2 a3 : Addr × Bool} {G : Hp} {v1 v2 v3 : List V} {d1 d2 d3 : List D} (h1 : ∀ {H}, Sub G H → SqK K H a1 v1) (r1 : RepL K G v1 d1) (h2 : ∀ {H}, Sub G H → SqK K H a2 v2) (r2 : RepL K G v2 d2) (h3 : ∀ {H}, Sub G H → SqK K H a3 v3) (r3 : RepL K G v3 d3) : ItD K (Itz3A K a1 a2 a3) G (zip3L d1 d2 d3) := fun H' s => by
  refine ⟨fun i d e => ?_, ⟨_, h1 s⟩, ⟨_, h2 s⟩, ⟨_, h3 s⟩, ?_⟩
  · obtain ⟨e1, e2, e3, rfl, g1, g2, g3⟩ := zip3L_get e
    obtain ⟨w1, f1, p1⟩ := r1.get g1
    obtain ⟨w2, f2, p2⟩ := r2.get g2
    obtain ⟨w3, f3, p3⟩ := r3.get g3
    refine ⟨⟨⟨_, w1, h1 s, f1⟩, ⟨_, w2, h2 s, f2⟩, ⟨_, w3, h3 s, f3⟩⟩, fun w H2 ⟨T, x1, x2, x3, ew, nT, eH, k1, k2, k3⟩ G2 s1 s2 => ?_⟩
    have y1 := k1 _ (h1 s)
    rw [f1] at y1
    cases y1
    have y2 := k2 _ (h2 s)
    rw [f2] at y2
    cases y2
    have y3 := k3 _ (h3 s)
    rw [f3] at y3
    cases y3
    subst ew eH
    have g := Grow.laid (o := HO.tup [w1, w2, w3]) s2 nT
    exact ⟨_, g, .tup upd_same (.cons ((p1.mono s1).mono g.gg) (.cons ((p2.mono s1).mono g.gg) (.cons ((p3.mono s1).mono g.gg) .nil)))⟩
  · rcases zip3L_len d1 d2 d3 with h | h | h
    · exact .inl ⟨_, h1 s, by rw [r1.length]; exact h⟩
    · exact .inr (.inl ⟨_, h2 s, by rw [r2.length]; exact h⟩)
    · exact .inr (.inr (⟨_, h3 s, by rw [r3.length]; exact h⟩))
def iZip3 (K : PySem.W.Frag) (ta : TA) : TI := fun σ H R => ta σ H fun vs H1 => ∃ a1 a2 a3 v1 v2 v3, vs = [.ref a1.1, .ref a2.1, .ref a3.1] ∧ SqK K H1 a1 v1 ∧ SqK K H1 a2 v2 ∧ SqK K H1 a3 v3 ∧ R (Itz3A K a1 a2 a3) H1
theorem pi_zip3 {X : Cx} {m1 m2 m3 : Expr} {ta : TA} {p pos tpos : Pos} {elts : List Expr} {kk : Nat} (hg : Gl X "zip") (hm : X.mg "zip" = none) (ha : PA X [m1, m2, m3] ta)
    (hs : starEach [m1, m2, m3] X.env = (false, eval m1 X.env) :: starEach [m2, m3] X.env := by rfl) (hpl : (backTo pos (starEach [m2, m3] X.env)).any (·.1) = false := by rfl) :
    PI X (.Tuple elts kk tpos) (.Call (.Name "zip" p) [m1, m2, m3] [] pos) (iZip3 X.K ta) := by
  refine ⟨fun pins s σ H R I h => ?_⟩
  refine Call_ (ld_blt I hg hm PyProof.Rows.boot_zip (PyProof.Rows.callWith_type1 (thn (ha.run pos pins s σ H _ I h) fun us s1 ⟨vs, H1, I1, rv, q⟩ => ?_) hs hpl))
  obtain ⟨a1, a2, a3, v1, v2, v3, rfl, q1, q2, q3, q⟩ := q
  have eu : us = [.ref a1.1, .ref a2.1, .ref a3.1] := by
    cases rv with
    | cons z1 rv =>
      cases z1
      cases rv with
      | cons z2 rv =>
        cases z2
        cases rv with
        | cons z3 rv =>
          cases z3
          cases rv
          rfl
  subst eu
  obtain ⟨its1, rv1, p1⟩ := sqK_raw (it := s1.heap.objs.size) I1 q1
  obtain ⟨its2, rv2, p2⟩ := sqK_raw (it := s1.heap.objs.size + 1) I1 q2
  obtain ⟨its3, rv3, p3⟩ := sqK_raw (it := s1.heap.objs.size + 2) I1 q3
  have fresh : ∀ c, c ∈ [s1.heap.objs.size + 5, s1.heap.objs.size + 3, s1.heap.objs.size + 4, s1.heap.objs.size, s1.heap.objs.size + 1, s1.heap.objs.size + 2] → FpOk X pins H1 c := fun c hcm => by
    have hle : s1.heap.objs.size ≤ c := by
      simp only [List.mem_cons, List.not_mem_nil, or_false] at hcm
      rcases hcm with z | z | z | z | z | z <;> rw [z] <;> first | exact Nat.le_refl _ | exact Nat.le_add_right _ _
    exact I1.fpOk hle (I1.hok.fresh hle)
  have D : ([s1.heap.objs.size + 5, s1.heap.objs.size + 3, s1.heap.objs.size + 4, s1.heap.objs.size, s1.heap.objs.size + 1, s1.heap.objs.size + 2] : List Addr).Nodup := by
    simp only [List.nodup_cons, List.mem_cons, List.not_mem_nil, or_false, not_or, List.nodup_nil, and_true, not_false_eq_true]
    refine ⟨⟨?_, ?_, ?_, ?_, ?_⟩, ⟨?_, ?_, ?_, ?_⟩, ⟨?_, ?_, ?_⟩, ⟨?_, ?_⟩, ?_⟩ <;> (try refine nAddr ?_) <;> omega
  have Lq1 : a1.1 ∉ [s1.heap.objs.size + 5, s1.heap.objs.size + 3, s1.heap.objs.size + 4, s1.heap.objs.size, s1.heap.objs.size + 1, s1.heap.objs.size + 2] := by
    have lt : (show Nat from a1.1) < (show Nat from s1.heap.objs.size) := SeqAt'.lt p1
    simp only [List.mem_cons, List.not_mem_nil, or_false, not_or]
    exact ⟨nAddr (Nat.ne_of_lt (Nat.lt_of_lt_of_le lt (by first | exact Nat.le_refl _ | exact Nat.le_add_right _ _))), nAddr (Nat.ne_of_lt (Nat.lt_of_lt_of_le lt (by first | exact Nat.le_refl _ | exact Nat.le_add_right _ _))), nAddr (Nat.ne_of_lt (Nat.lt_of_lt_of_le lt (by first | exact Nat.le_refl _ | exact Nat.le_add_right _ _))), nAddr (Nat.ne_of_lt (Nat.lt_of_lt_of_le lt (by first | exact Nat.le_refl _ | exact Nat.le_add_right _ _))), nAddr (Nat.ne_of_lt (Nat.lt_of_lt_of_le lt (by first | exact Nat.le_refl _ | exact Nat.le_add_right _ _))), nAddr (Nat.ne_of_lt (Nat.lt_of_lt_of_le lt (by first | exact Nat.le_refl _ | exact Nat.le_add_right _ _)))⟩
  have Lq2 : a2.1 ∉ [s1.heap.objs.size + 5, s1.heap.objs.size + 3, s1.heap.objs.size + 4, s1.heap.objs.size, s1.heap.objs.size + 1, s1.heap.objs.size + 2] := by
    have lt : (show Nat from a2.1) < (show Nat from s1.heap.objs.size) := SeqAt'.lt p2
    simp only [List.mem_cons, List.not_mem_nil, or_false, not_or]
    exact ⟨nAddr (Nat.ne_of_lt (Nat.lt_of_lt_of_le lt (by first | exact Nat.le_refl _ | exact Nat.le_add_right _ _))), nAddr (Nat.ne_of_lt (Nat.lt_of_lt_of_le lt (by first | exact Nat.le_refl _ | exact Nat.le_add_right _ _))), nAddr (Nat.ne_of_lt (Nat.lt_of_lt_of_le lt (by first | exact Nat.le_refl _ | exact Nat.le_add_right _ _))), nAddr (Nat.ne_of_lt (Nat.lt_of_lt_of_le lt (by first | exact Nat.le_refl _ | exact Nat.le_add_right _ _))), nAddr (Nat.ne_of_lt (Nat.lt_of_lt_of_le lt (by first | exact Nat.le_refl _ | exact Nat.le_add_right _ _))), nAddr (Nat.ne_of_lt (Nat.lt_of_lt_of_le lt (by first | exact Nat.le_refl _ | exact Nat.le_add_right _ _)))⟩
  have Lq3 : a3.1 ∉ [s1.heap.objs.size + 5, s1.heap.objs.size + 3, s1.heap.objs.size + 4, s1.heap.objs.size, s1.heap.objs.size + 1, s1.heap.objs.size + 2] := by
    have lt : (show Nat from a3.1) < (show Nat from s1.heap.objs.size) := SeqAt'.lt p3
    simp only [List.mem_cons, List.not_mem_nil, or_false, not_or]
    exact ⟨nAddr (Nat.ne_of_lt (Nat.lt_of_lt_of_le lt (by first | exact Nat.le_refl _ | exact Nat.le_add_right _ _))), nAddr (Nat.ne_of_lt (Nat.lt_of_lt_of_le lt (by first | exact Nat.le_refl _ | exact Nat.le_add_right _ _))), nAddr (Nat.ne_of_lt (Nat.lt_of_lt_of_le lt (by first | exact Nat.le_refl _ | exact Nat.le_add_right _ _))), nAddr (Nat.ne_of_lt (Nat.lt_of_lt_of_le lt (by first | exact Nat.le_refl _ | exact Nat.le_add_right _ _))), nAddr (Nat.ne_of_lt (Nat.lt_of_lt_of_le lt (by first | exact Nat.le_refl _ | exact Nat.le_add_right _ _))), nAddr (Nat.ne_of_lt (Nat.lt_of_lt_of_le lt (by first | exact Nat.le_refl _ | exact Nat.le_add_right _ _)))⟩
  refine call_zip3 p1 p2 p3 fun h' hz hTI hTO y1 y2 y3 hk => wpAny_pyIter_zip hz ?_
  have I2 : L2.Inv X pins σ H1 { s1 with heap := h' } := I1.kept (t' := s1.toks) hk
  exact ⟨_, [s1.heap.objs.size + 5, s1.heap.objs.size + 3, s1.heap.objs.size + 4, s1.heap.objs.size, s1.heap.objs.size + 1, s1.heap.objs.size + 2], _, _, H1, rfl, I2, turn_zip3 D Lq1 Lq2 Lq3, ⟨hz, hTI, ⟨_, _, _, hTO⟩, y1, y2, y3⟩, fresh, q⟩
section
variable {X : Cx} {W : WN}
theorem di_zip3A {m1 m2 m3 : Expr} {f : Ev → R (List D)} {p pos tpos : Pos} {elts : List Expr} {kk : Nat} (hm : X.mg "zip" = none) (ha : PA X [m1, m2, m3] (taOf K W f)) (hK : X.K = K := by rfl) (hg : Gl X "zip" := by rfl)
    (hs : starEach [m1, m2, m3] X.env = (false, eval m1 X.env) :: starEach [m2, m3] X.env := by rfl) (hpl : (backTo pos (starEach [m2, m3] X.env)).any (·.1) = false := by rfl) :
    PI X (.Tuple elts kk tpos) (.Call (.Name "zip" p) [m1, m2, m3] [] pos) (tiOf K true W fun ρ => (f ρ).bind fun d => opt (zip3A d)) := pi_imp (pi_zip3 hg hm ha hs hpl) fun σ H Q h => by
  subst hK
  refine ti_args (r := fun vs H1 Q => ∃ a1 a2 a3 v1 v2 v3, vs = [.ref a1.1, .ref a2.1, .ref a3.1] ∧ SqK X.K H1 a1 v1 ∧ SqK X.K H1 a2 v2 ∧ SqK X.K H1 a3 v3 ∧ Q (Itz3A X.K a1 a2 a3) H1) (fun G H vs ds its Q sub r e m => ?_) h
  unfold zip3A at e
  split at e
  · rename_i x1 x2 x3
    cases e1 : seqAD x1 with
    | none => simp [e1] at e
    | some l1 =>
      cases e2 : seqAD x2 with
      | none => simp [e1, e2] at e
      | some l2 =>
        cases e3 : seqAD x3 with
        | none => simp [e1, e2, e3] at e
        | some l3 =>
          simp only [e1, e2, e3, Option.bind_some, Option.some.injEq] at e
          subst e
          cases r with
          | cons r1 rr =>
            cases rr with
            | cons r2 rr =>
              cases rr with
              | cons r3 rr =>
                cases rr
                obtain ⟨a1, w1, rfl, h1, k1⟩ := seqA_rep r1 e1
                obtain ⟨a2, w2, rfl, h2, k2⟩ := seqA_rep r2 e2
                obtain ⟨a3, w3, rfl, h3, k3⟩ := seqA_rep r3 e3
                exact ⟨a1, a2, a3, w1, w2, w3, rfl, h1 sub, h2 sub, h3 sub, m _ G H (.refl sub) (itz3_d h1 k1 h2 k2 h3 k3)⟩
  · cases e
end
end Pd

/-! Pd45: try: ..; except W as e: kept = e; and what stands behind it. Behind it the exception is still known (pinned), which the kit's rule for the clause does not tell. -/
namespace Pd
open PySem PySem.Spec L2 PyProof.Rows
section
variable {X : Cx} {pins : List (Addr × Obj)} {σ : L2.St} {H : Hp} {s : Shared} {a : Addr} {oe : Obj}
/-- the context behind such a clause -/
abbrev keptCx (X : Cx) (l : List (Addr × Obj)) : Cx := X.tr l fun _ _ => False
/-- from the suite's state to the kept one, from there to the plain one: the pins alone differ -/
theorem kept_of_suite {l : List (Addr × Obj)} (ok : X.Ok) (J : Inv (X.suite a l) [] σ H s) : Inv (keptCx X l) [] σ H s := { ok := ok.toTry _ _, os := J.os, bare := J.bare, base := J.base, loc := J.loc, cell := J.cell, free := J.free, freeC := J.freeC, pin := J.pin, hok := J.hok, len := J.len }
theorem plain_of_kept {p : Addr × Obj} (ok : X.Ok) (J : Inv (keptCx X (p :: (X.pn ++ pins))) [] σ H s) : Inv X pins σ H s := { ok := ok, os := J.os, bare := J.bare, base := J.base, loc := J.loc, cell := J.cell, free := J.free, freeC := J.freeC, pin := fun q hq => J.pin q (by rw [List.append_nil]; exact .tail _ hq), hok := J.hok, len := J.len }
theorem sp_of_kept {p : Addr × Obj} {E : Ends} {fl : Flow} (ok : X.Ok) (h : SP (keptCx X (p :: (X.pn ++ pins))) [] E fl s) : SP X pins E fl s := by
  cases fl
  case ret u => obtain ⟨v, σ', H', J, r⟩ := h; exact ⟨v, σ', H', plain_of_kept ok J, r⟩
  all_goals (obtain ⟨σ', H', J, r⟩ := h; exact ⟨σ', H', plain_of_kept ok J, r⟩)
/-- a record is no frame -/
theorem off_frames {B h : Heap} {us : Array Value} (hf : X.env.frame = some X.env.locals) (ff : h.FunFrames B (X.env :: X.outer)) (ha : h.get? a = some oe) (hd : oe.data = .fields us) : a ≠ X.env.locals ∧ a ∉ X.fs := by
  have no : ∀ env ∈ X.env :: X.outer, env.frame ≠ some a := fun env hm e => by
    obtain ⟨_, o, ho, hn⟩ := ff.mem (List.mem_filterMap.mpr ⟨env, hm, e⟩)
    cases ha.symm.trans ho
    exact hn us hd
  refine ⟨fun e => no _ (.head _) (by rw [hf, e]), fun hm => ?_⟩
  obtain ⟨env, h1, h2⟩ := List.mem_filterMap.mp hm
  exact no env (.tail _ h1) h2
end
/-- what is wished of the body's exception: the clause takes it, and what stands behind goes on with it -/
def keptWish (K : PySem.W.Frag) (c : Value) (i ik : Nat) (go : Addr → Value → Option Addr → TS) (E : Ends) : WX := fun cls d σ H =>
  PySem.W.exmOne K cls c = some true ∧ ∀ a, H a = none → go a cls d E (((σ.set i (some (.ref a))).set ik (some (.ref a))).set i none) H
section
variable {X : Cx} {x n kn : Str} {c : Value} {i ik : Nat} {body rest : List Stmt} {np p1 p2 p3 pos pos' : Pos} {tb : WX → TS} {go : Addr → Value → Option Addr → TS} {t0 : TS}
/-- the one flow that matters: where nothing is left over, the rest is run -/
def RestP (X : Cx) (rest : List Stmt) (pins : List (Addr × Obj)) (E : Ends) : Flow → Shared → Prop
  | .next, s => wpAny (model X.prog X.w) X.A (execs rest X.env) (SP X pins E) X.xe s
  | fl, s => SP X pins E fl s
theorem clause_keeps {B : Heap} {pins : List (Addr × Obj)} {σ : L2.St} {H : Hp} {s : Shared} {a : Addr} {cls : Value} {d : Option Addr} {E : Ends} (hf : X.env.frame = some X.env.locals) (hN : X.N.Nodup) (hi : X.N[i]? = some n) (hik : X.N[ik]? = some kn) (hln : X.env.kindOf n = some .local) (hlk : X.env.kindOf kn = some .local)
    (hc : Names X x c) (d1 : (n == ("__debug__" : Str)) = false) (d2 : (n == ("__classdict__" : Str)) = false)
    (hgo : ∀ (a : Addr) (oe : Obj) (cls : Value) (d : Option Addr) (l : List (Addr × Obj)), Zc cls d oe → (∃ us, oe.data = .fields us) → PSs (keptCx X ((a, oe) :: l)) rest (go a cls d))
    (J : Inv X pins σ H s) (fly : HandSPX.FlyingZ B (X.env :: X.outer) a (Zc cls d) s.heap) (na : H a = none) (land : ∀ h', B.StaysIn h' → s.heap.UpToSlots h' → Inv X pins σ H { s with heap := h' }) (w : keptWish X.K c i ik go E cls d σ H) :
    wpAny (model X.prog X.w) X.A (handleBy (.ref a) X.env [.ExceptHandler (some (.Name x np)) (some n) [.Assign [.Name kn p1] (.Name n p2) p3] pos']) (RestP X rest pins E) X.xe s := by
  obtain ⟨wm, wg⟩ := w
  obtain ⟨o1, us1, g1, z1, e1⟩ := fly.there
  obtain ⟨aL, aF⟩ := off_frames hf fly.2.2.1 g1 e1
  have J1 := J.suite g1 e1 na aL aF
  have looks : PySem.W.Looks (model X.prog X.w) s.heap (typeOf (.ref a)) cls := fun _ _ _ _ k q => wpAny_typeOf_ref (k _ _ g1) (by rw [z1.1]; exact q)
  have asks := PySem.W.exm_one (M := model X.prog X.w) J.kIn looks wm
  refine wpAny_handleBy_cons (codeAny_handlers_test ?_) (fun z => nomatch z)
  have name : ∀ {Q E' : Value → Shared → Prop}, Q c s → wpAny (model X.prog X.w) (X.A.mark (some (.ref a))) (eval (.Name x np) X.env) Q E' s := by
    intro Q E' q
    rcases hc with ⟨h1, h2, h3 | ⟨h3, h4, h5⟩⟩
    · exact ld_glob J1 h1 h3 q h2
    · exact ld_blt J1 h1 h3 h4 q h5 h2
  refine name (asks.here (codeAny_handlers_suite_as (HandSPX.lands_againZ fly fun h' fly' up' => ?_)))
  have J2 : Inv X pins σ H { s with heap := h' } := land h' fly'.1 up'
  obtain ⟨o2, us2, g2, z2, e2⟩ := fly'.there
  have J3 := J2.suite g2 e2 na aL aF
  refine store_ok (X := X.suite a ((a, o2) :: (X.pn ++ pins))) (v := .ref a) J3 hN hi (.inl hln) rfl (fun s4 J4 => ?_) (.inr hln)
  have here : (σ.set i (some (V.ref a)))[i]? = some (some (.ref a)) := by
    have l1 : σ.length = X.N.length := J.len
    exact List.getElem?_set_self (by rw [l1]; exact (List.getElem?_eq_some_iff.mp hi).1)
  have asg := pss_one (ps_set (X := X.suite a ((a, o2) :: (X.pn ++ pins))) (pos := p3) (pos' := p1) hN hik (.inl hlk) (pe_var (pos := p2) (i := i) hi (.inl hln) d1 d2) (by rfl) (.inr hlk))
  let E1 : Ends := { nx := fun σ' H' => σ' = (σ.set i (some (.ref a))).set ik (some (.ref a)) ∧ H' = H, rt := fun _ _ => False, bk := fun _ _ => False, ct := fun _ _ => False }
  refine wpAny_mono (asg.run [] s4 _ H E1 J4 ⟨_, here, rfl, rfl⟩) (fun fl s5 q => ?_) fun _ _ z => z.elim
  match fl, q with
  | .next, ⟨_, _, J5, h1, h2⟩ =>
    subst h1 h2
    refine gone_ok (X := keptCx X ((a, o2) :: (X.pn ++ pins))) (kept_of_suite J.ok J5) hN hi hln fun s6 J6 => ?_
    exact wpAny_mono ((hgo a o2 cls d (X.pn ++ pins) z2 ⟨_, e2⟩).run [] s6 _ _ E J6 (wg a na)) (fun fl s7 q => sp_of_kept J.ok q) fun _ _ z => z.elim
  | .ret _, ⟨_, _, _, _, _, z⟩ => exact z.elim
  | .brk, ⟨_, _, _, z⟩ => exact z.elim
  | .cont, ⟨_, _, _, z⟩ => exact z.elim
theorem pss_try_kept (hs : X.stack = X.env :: X.outer) (hf : X.env.frame = some X.env.locals) (hN : X.N.Nodup) (hi : X.N[i]? = some n) (hik : X.N[ik]? = some kn) (hln : X.env.kindOf n = some .local) (hlk : X.env.kindOf kn = some .local)
    (hc : Names X x c) (d1 : (n == ("__debug__" : Str)) = false) (d2 : (n == ("__classdict__" : Str)) = false)
    (hb : ∀ (W : WX) (pn : List (Addr × Obj)) (xe : Value → Shared → Prop), L2.Takes (X.tr pn xe) W → PassesOwn (model X.prog X.w) X.A X.env xe → PSs (X.tr pn xe) body (tb W)) (h0 : PSs X rest t0)
    (hgo : ∀ (a : Addr) (oe : Obj) (cls : Value) (d : Option Addr) (l : List (Addr × Obj)), Zc cls d oe → (∃ us, oe.data = .fields us) → PSs (keptCx X ((a, oe) :: l)) rest (go a cls d)) :
    PSs X (.Try body [.ExceptHandler (some (.Name x np)) (some n) [.Assign [.Name kn p1] (.Name n p2) p3] pos'] [] [] pos :: rest) (fun E σ H => tb (keptWish X.K c i ik go E) { E with nx := t0 E } σ H) := by
  refine ⟨fun pins s σ H E I h => wpAny_execs_cons (wpAny_mono (Q := RestP X rest pins E) (wpAny_Try_except (wpAny_mono ((hb _ (X.pn ++ pins) _ (fun u s1 w => ?_) PassesOwn.looking).run [] s σ H _ (I.toTry _) h) (fun fl s1 q => ?_) fun _ _ z => z)) (fun fl s1 q => ?_) fun _ _ z => z)⟩
  · obtain ⟨a, B, s0, l, σ1, H1, cls, d, rfl, J, nb, up, sky, na, os, ag, w⟩ := w
    have J1 := J.ofTry I.ok
    rw [show (X.tr (X.pn ++ pins) _).stack = X.env :: X.outer from hs] at sky
    refine Sky.land Zc.steady (by rw [I.ok.frames, hs]) hf sky fun h' fly up' => ?_
    have up2 := up.trans up'
    exact clause_keeps hf hN hi hik hln hlk hc d1 d2 hgo (J1.landed nb fly.1 up2 os ag) fly na (fun h2 st u2 => J1.landed nb st (up2.trans u2) os ag) w
  · match fl, q with
    | .next, ⟨_, _, J, q⟩ => exact wpAny_execs_nil (h0.run pins s1 _ _ E (J.ofTry I.ok) q)
    | .ret _, ⟨v, _, _, J, r⟩ => exact ⟨v, _, _, J.ofTry I.ok, r⟩
    | .brk, ⟨_, _, J, r⟩ => exact ⟨_, _, J.ofTry I.ok, r⟩
    | .cont, ⟨_, _, J, r⟩ => exact ⟨_, _, J.ofTry I.ok, r⟩
  · cases fl <;> exact q
end
end Pd

/-! Pd46: what is done is told, or the word of its refusal (the exception kept): the reading. -/
namespace Pd
open PySem PySem.Spec L2 PyProof.Rows
variable {K : PySem.W.Frag}
/-- what is known of the def that names a kept exception -/
structure WordOk (P : Program) (w : World) (K : PySem.W.Frag) (mg : Str → Option Value) (base : Heap) (k : Nat) (x cs : Str) (txt : Str → Option Str) : Prop where
  ex : ∃ (CS fn : Addr) (fd : FuncData) (ps : List Str), mg cs = some (.ref CS) ∧ mg x = some (.ref fn) ∧ PySem.W.keepIn K (.ref fn) = true ∧ L2.Binds K fd ps [] ∧ ps.length = 1 ∧
    ∀ c t, txt c = some t → ∀ C, mg c = some (.ref C) → PySem.W.exmOne K (.ref C) (.ref CS) = some true ∧ FnX P w K mg base k fn fd ps (spName K C t)
/-- the body's end, or the word of its exception -/
def sTryK (txt : Str → Option Str) (fb fr : Ev → O) : Ev → O := fun ρ => match fb ρ with
  | .nx ρ' => fr ρ'
  | .exc c _ => match txt c with
    | some t => .ret false (.str t)
    | none => .bad
  | _ => .bad
section
variable {X : Cx} {W : WN}
theorem dss_tryK {kn an n cs nm : Str} {i ik k k1 : Nat} {body : List Stmt} {txt : Str → Option Str} {fb fr : Ev → O} {np p1 p2 p3 p4 p5 p6 p7 p8 p9 p10 p11 p12 p13 p14 p15 : Pos} {j : Nat}
    (O : WordOk X.prog X.w X.K X.mg X.base k1 nm cs txt) (hk1 : k1 ≤ k) (hr : Room k X.A) (hs : X.stack = X.env :: X.outer) (hf : X.env.frame = some X.env.locals) (hN : X.N.Nodup) (hi : X.N[i]? = some n) (hik : X.N[ik]? = some kn) (hne : ik ≠ i)
    (hln : X.env.kindOf n = some .local) (hlk : X.env.kindOf kn = some .local) (hgc : Gl X cs) (hgn : X.env.scope.names.lookup nm = some .globalImplicit) (tk : Tk X W) (hK : X.K = K)
    (hb : ∀ (W' : WN) (pn : List (Addr × Obj)) (xe : Value → Shared → Prop), Tk (X.tr pn xe) W' → PassesOwn (model X.prog X.w) X.A X.env xe → PSs (X.tr pn xe) body (tsOf K W' fb))
    (h0 : PSs X [.If (.Compare (.Name kn p1) [.Is] [.Constant .none j p2] p3) [.Return (some (.Name an p4)) p5] [] p6, .Return (some (.Call (.Name nm p7) [.Name kn p8] [] p9)) p10] (tsOf K W fr))
    (d1 : (cs == ("__debug__" : Str)) = false := by decide) (d2 : (nm == ("__debug__" : Str)) = false := by decide) (d3 : (n == ("__debug__" : Str)) = false := by decide) (d4 : (n == ("__classdict__" : Str)) = false := by decide) (d5 : (kn == ("__debug__" : Str)) = false := by decide) (d6 : (kn == ("__classdict__" : Str)) = false := by decide) :
    PSs X [.Try body [.ExceptHandler (some (.Name cs np)) (some n) [.Assign [.Name kn p11] (.Name n p12) p13] p14] [] [] p15,
      .If (.Compare (.Name kn p1) [.Is] [.Constant .none j p2] p3) [.Return (some (.Name an p4)) p5] [] p6, .Return (some (.Call (.Name nm p7) [.Name kn p8] [] p9)) p10] (tsOf K W (sTryK txt fb fr)) := by
  subst hK
  obtain ⟨CS, fn, fd, ps, hcs, hnm, hkn, hbn, hl1, hx⟩ := O.ex
  let go : Addr → Value → Option Addr → TS := fun a cls d E σ H => (∃ σ0 : L2.St, σ = (σ0.set ik (some (.ref a))).set i none) ∧ ∃ DD t, cls = .ref DD ∧ d = none ∧ FnX X.prog X.w X.K X.mg X.base k1 fn fd ps (spName X.K DD t) ∧ ∃ G, Sub G H ∧ MarkOk X.K G ∧ ∀ G' H'', Grow G H G' H'' → E.rt (.str t) H''
  refine pss_imp (pss_try_kept (c := .ref CS) (go := go) (tb := fun Wb E σ H => ∃ W' : WN, (∀ c C σ H, X.mg c = some (.ref C) → W' c σ H → Wb (.ref C) none σ H) ∧ tsOf X.K W' fb E σ H) hs hf hN hi hik hln hlk ⟨hgc, d1, .inl hcs⟩ d3 d4 (fun Wb pn xe tkb hp => ?_) h0 (fun a oe cls d l hz hf' => ?_)) fun E σ H ⟨B, G, ρ, S, m⟩ => ?_
  · refine ⟨fun pins s' σ H' D I h' => ?_⟩
    obtain ⟨W', hW, h''⟩ := h'
    exact (hb W' pn xe ⟨Wb, tkb, fun c C σ H h1 h2 => hW c C σ H h1 h2⟩ hp).run pins s' σ H' D I h''
  · refine ⟨fun pins s' σ H' D I h' => ?_⟩
    obtain ⟨⟨σ0, hs0⟩, DD, t, rfl, rfl, F, G, sub, mk, q⟩ := h'
    have hsk : σ[ik]? = some (some (V.ref a)) := by
      have l1 : σ.length = X.N.length := I.len
      have l2 : ik < X.N.length := (List.getElem?_eq_some_iff.mp hik).1
      rw [hs0] at l1 ⊢
      rw [List.length_set, List.length_set] at l1
      rw [List.getElem?_set_ne (Ne.symm hne)]
      exact List.getElem?_set_self (by omega)
    have c1 := pt_cmp (pos := p3) (pc_isN (X := keptCx X ((a, oe) :: l)) (j := j) (pos' := p2) (pe_var (pos := p1) (i := ik) hik (.inl hlk) d5 d6))
    have call := pe_callX (X := keptCx X ((a, oe) :: l)) (p := (a, oe)) (x := nm) (q := p7) (pos := p9) F (L2H.roomH_of (hr.mono hk1)) (List.mem_cons_self ..) hgn hnm hkn hbn
      (pa_cons (pe_var (pos := p8) (i := ik) hik (.inl hlk) d5 d6) pa_nil rfl) d2 rfl rfl
    have bad : PSs (keptCx X ((a, oe) :: l)) [.Return (some (.Name an p4)) p5] (fun _ _ _ => False) := ⟨fun _ _ _ _ _ _ z => z.elim⟩
    have all := pss_cons (ps_if (pos := p6) c1 bad pss_nil) (pss_one (ps_ret (pos := p10) call))
    exact all.run pins s' σ H' D I ⟨.ref a, hsk, false, rfl, .ref a, hsk, by rw [hl1]; rfl, rfl, hz, hf', G, sub, mk, q⟩
  · refine ⟨fun c σ' H' => ∀ C, X.mg c = some (.ref C) → keptWish X.K (.ref CS) i ik go E (.ref C) none σ' H', fun c C σ' H' h1 h2 => h2 C h1, B, G, ρ, S, ?_⟩
    unfold sTryK at m
    cases q : fb ρ with
    | nx ρ' =>
      rw [q] at m
      exact fun G' σ' H' S' s' => ⟨B, G', ρ', S', OutP.later s' m⟩
    | exc c ρ' =>
      rw [q] at m
      simp only at m
      intro G' σ' H' S' s' C hC
      cases qt : txt c with
      | none => rw [qt] at m; exact m.elim
      | some t =>
        rw [qt] at m
        obtain ⟨x1, x2⟩ := hx c t qt C hC
        exact ⟨x1, fun a ha => ⟨⟨_, rfl⟩, C, t, rfl, rfl, x2, G', S'.st.sub, S'.st.mkd, fun G'' H'' g => m (.str t) G'' H'' (S'.gr.trans g) (.str t)⟩⟩
    | ret o d => rw [q] at m; exact m.elim
    | retS d ρ' => rw [q] at m; exact m.elim
    | brk ρ' => rw [q] at m; exact m.elim
    | ct ρ' => rw [q] at m; exact m.elim
    | bad => rw [q] at m; exact m.elim
end
end Pd

/-! Pd47: min(a, b) of alike data of any depth. -/
namespace Pd
open PySem PySem.Spec L2 PySem.W PyProof.Rows
variable {K : PySem.W.Frag}
section
variable {prog : Program} {w : World} {A : Around} {E : Value → Shared → Prop} {s : Shared}
theorem min_pair {a b : Value} {p q : PyData} {as : List Addr} {Q : Value → Shared → Prop} (hh : A.handled = none) (hr : ReadsAll s.heap [a, b] [p, q] as) (al : AlikeAll [p, q]) (hu : A.units + 1 + PyData.depthAll [p, q] < cLine)
    (h : ∀ h' tk, (∀ c o, s.heap.get? c = some o → h'.get? c = some o) → Q (if dataLt q p then b else a) { s with heap := h', toks := tk }) : wpAny (model prog w) A (call (.builtin "min") [a, b]) Q E s :=
  call_function_tree F.kind_min F.plain_min F.entry_min (F.args_min2 a b) (by
    have nm : ((toString "min" : String) ++ (toString ".loop" : String)) = "min.loop" := by decide
    let s1 : Shared := { s with heap := s.heap.push { cls := .type "tuple", data := .seq #[a, b] } }
    have tup : s1.heap.IsTuple s.heap.objs.size #[a, b] := ⟨_, Heap.get?_push_size _ rfl, rfl, 0, rfl⟩
    have k1 : ∀ c o, s.heap.get? c = some o → s1.heap.get? c = some o := fun c o e => Heap.get?_push_of_some _ e
    have r1 : ReadsAll s1.heap (#[a, b] : Array Value).toList [p, q] as := ReadsAll.keeps k1 hr
    show wpAny _ _ (Builtin.Builtins.bindParams _ _ _ _ >>= _) _ _ _
    refine wpAny_bind (wpAny_of_eq (show _ = pure [none, none] from rfl) ?_)
    show wpAny _ A.in1 (newTuple [a, b] >>= _) _ _ s
    refine wpAny_bind (wpAny_newObj_type ?_)
    show wpAny _ A.in1 (pyIter (.ref s.heap.objs.size) >>= _) _ _ s1
    refine wpAny_bind (iter_tupleW (s := s1) hh tup fun s2 e W st below off k2 => ?_)
    show wpAny _ A.in1 (newList [] >>= _) _ _ s2
    refine wpAny_bind (wpAny_newObj_type ?_)
    rw [nm]
    have free : s2.heap.objs.size ∉ [s1.heap.objs.size, s.heap.objs.size] := fun z => absurd (below _ z) (Nat.lt_irrefl _)
    have cmp := cmpIn_lt (prog := prog) (w := w) (A := A.in1) r1 al hu
    refine wpAny_pure ⟨plainId_quiet F.plain_min_loop _, codeAny_min_loop_firstH W s1.heap off _ cmp s2.heap.objs.size free (fresh_in k2) _ (Nat.succ_pos 1) (fun c o z => Heap.get?_push_of_some _ (k2 c o z)) (W.frame 0 s2 _ s2.toks st (Nat.le_refl _) fun c _ o z => Heap.get?_push_of_some _ z) (Heap.get?_push_size _ rfl) fun v s3 hP hm => ?_⟩
    obtain ⟨h', tk, rfl, hk⟩ := moved_old e rfl (Moved.drop_new (tk := s2.toks) hm (Nat.le_refl _))
    have res := h h' tk fun c o z => hk c o (k1 c o z)
    have ev : v = if dataLt q p then b else a := by
      cases z : dataLt q p <;> simp [argBest, z] at hP <;> simp [hP]
    rw [ev]
    exact res)
end
section
variable {X : Cx}
def rMin2X (K : PySem.W.Frag) : List V → Hp → VK → Prop := fun vs H Q => ∃ (x y : V) (p q : PyData), vs = [x, y] ∧ Dp K H x p ∧ Dp K H y q ∧ AlikeAll [p, q] ∧ PyData.depthAll [p, q] ≤ 40 ∧ Q (if dataLt q p then y else x) H
theorem cr_min2X (hc : X.calm = true) (hu : X.A.units + 64 < cLine) : CallR X (.builtin "min") (rMin2X X.K) := by
  intro pins s σ H vs us Q I r h
  obtain ⟨x, y, p, q, rfl, hx, hy, al, dp, w⟩ := h
  obtain ⟨u, v, rfl, ru, rv⟩ := vals2 r
  obtain ⟨as, r1⟩ := Dp.reads I p x u hx ru
  obtain ⟨bs, r2⟩ := Dp.reads I q y v hy rv
  refine min_pair (I.ok.hd hc) (p := p) (q := q) (.cons r1 (.cons r2 .nil)) al (by omega) fun h' tk hk => ⟨_, H, I.kept hk, ?_, w⟩
  by_cases z : dataLt q p = true
  · rw [if_pos z, if_pos z]; exact rv
  · rw [if_neg z, if_neg z]; exact ru
end
def min2LD : List D → Option D
  | [d, e] => if ordOk [d, e] then some (if dataLt (toPy e) (toPy d) then e else d) else none
  | _ => none
section
variable {X : Cx}
theorem do_min2L {k : Nat} (hr : Room k X.A) (hc : X.calm = true := by rfl) (hK : X.K = K := by rfl) : CallR X (.builtin "min") (rCn K .v min2LD) := crn_of fun G H xs ds r Q sub w q m => by
  subst hK
  unfold min2LD at q
  split at q
  · rename_i d e
    split at q
    · rename_i hz
      cases q
      obtain ⟨x, y, rfl, h1, h2⟩ := repl_two w
      have ok := ordOk_ok hz
      have al := ordOk_al hz
      have dp := depth_all ok
      simp only [toPys] at al dp
      simp only [List.all_cons, List.all_nil, Bool.and_true, Bool.and_eq_true] at ok
      refine ⟨_, cr_min2X hc hr.units, x, y, toPy d, toPy e, rfl, rep_dp sub d 14 x ok.1 h1, rep_dp sub e 14 y ok.2 h2, al, by omega, ?_⟩
      by_cases z : dataLt (toPy e) (toPy d) = true
      · rw [if_pos z]; exact m y G H (.refl sub) (by rw [if_pos z]; exact h2)
      · rw [if_neg z]; exact m x G H (.refl sub) (by rw [if_neg z]; exact h1)
    · cases q
  · cases q
end
end Pd

/-! Pd48: a list many times over, as a thing of one's own. -/
namespace Pd
open PySem PySem.Spec L2
variable {K : PySem.W.Frag}
def rOw (K : PySem.W.Frag) (g : D → D → Option D) : R2 := fun x y H Q => ∃ G d e, Sub G H ∧ WRep K G H x d ∧ WRep K G H y e ∧ ResK K .o G H Q (g d e)
def repLD : D → D → Option D
  | .lst xs, .int k => if decide (0 ≤ k ∧ k ≤ 1000) && decide (xs.length ≤ 1000) then some (.lst (List.replicate k.toNat xs).flatten) else none
  | _, _ => none
section
variable {X : Cx} {W : WN} {a b : Expr} {fa fb : Ev → R D} {pos : Pos}
theorem do_repO (hK : X.K = K := by rfl) : OpR X (binaryOp .Mult) (rOw K repLD) := by
  subst hK
  rintro pins s σ H x y v u Q I rx ry ⟨G, d, e, sub, wx, wy, m⟩
  cases q : repLD d e with
  | none => rw [q] at m; exact m.elim
  | some r =>
    rw [q] at m
    unfold repLD at q
    split at q
    · rename_i xs k
      split at q
      · rename_i hz
        cases q
        rw [Bool.and_eq_true, decide_eq_true_eq, decide_eq_true_eq] at hz
        obtain ⟨p, vs, rfl, ha, ra⟩ := wrep_lst sub wx
        refine op_rep pins s σ H (.ref p) y v u Q I rx ry ⟨p, k, vs, rfl, wrep_int wy, ha, by omega, by omega, ?_, fun l hl => res_own sub m hl (ra.rep _)⟩
        have h1 : k.toNat ≤ 1000 := by omega
        have h2 := Nat.mul_le_mul hz.2 h1
        rw [ra.length, sizeLine_eq]
        omega
      · cases q
    · cases q
theorem de_binO {op : Operator} {g : D → D → Option D} (ho : OpR X (binaryOp op) (rOw K g)) (ha : PE X a (exOf K .w W fa)) (hb : PE X b (exOf K .w W fb)) : PE X (.BinOp a op b pos) (exOf K .o W (eOp g fa fb)) :=
  pe_imp (pe_op ho ha hb) fun σ H Q h => ex2 (K := K) (k := .o) (fa := fa) (fb := fb) (g := g) (r := rOw K g) (fun G H x y d e Q sub wx wy m => ⟨G, d, e, sub, wx, wy, m⟩) h
end
end Pd

namespace Pd.L
open PySem PySem.Spec L2 Pd
def topS (i : Nat) : Stmt := PySem.Challenge.pw_buttonplans_k10_whole_ways.main.body.getD i (.Pass ⟨0, 0, 0, 0⟩)
structure Tx (K : PySem.W.Frag) (mg : Str → Option Value) : Prop where
  b_ValueError : mg "ValueError" = none
  b_all : mg "all" = none
  b_bool : mg "bool" = none
  b_enumerate : mg "enumerate" = none
  b_int : mg "int" = none
  b_isinstance : mg "isinstance" = none
  b_len : mg "len" = none
  b_list : mg "list" = none
  b_min : mg "min" = none
  b_range : mg "range" = none
  b_set : mg "set" = none
  b_sorted : mg "sorted" = none
  b_str : mg "str" = none
  b_tuple : mg "tuple" = none
  g_LONGEST : ∃ t, mg "LONGEST" = some (.int 6 t)
  g_MOST_BUTTONS : ∃ t, mg "MOST_BUTTONS" = some (.int 3 t)
  g_MOST_MODES : ∃ t, mg "MOST_MODES" = some (.int 6 t)
  g_SMALL : ∃ t, mg "SMALL" = some (.str "abcdefghijklmnopqrstuvwxyz" t)
  x_NoMode : ExcK K mg "NoMode"
  x_NoPlan : ExcK K mg "NoPlan"
section
variable {P : Program} {w : World} {K : PySem.W.Frag} {mg : Str → Option Value} {base : Heap}
abbrev st__law_cell : Stmt := topS 31
def dn__law_cell : Ev → O := (sSeq (sIf (cCmp ltD (eVarW 1) (e1 lenD (eVarW 0)))
  (sRet false (eOp ixD (eVarW 0) (eVarW 1)))
  sNext)
  (sSeq (sIf (cCmp eqD (eVarW 0) (eLst aNil))
  (sRet false (eC (.int 0)))
  sNext)
  (sRet false (eOp addD (eOp mulD (eOp ixD (eVarW 0) (eOp modD (eVarW 1) (e1 lenD (eVarW 0)))) (eC (.int 31))) (eVarW 1)))))
def F__law_cell : List D → R RetD := callF 2 2 dn__law_cell
theorem sc__law_cell : FnScope ["_law_script", "_law_k"] ["_law_script", "_law_k"] (defScope st__law_cell) := ⟨rfl, rfl, rfl, by decide +kernel, rfl, by decide +kernel, by decide +kernel⟩
theorem ok__law_cell {f : Addr} {fd : FuncData} (T : Tx K mg)  (F : Fun K "_law_cell" "_law_cell" st__law_cell f fd) : FnOk P w K mg base (L2.CX P w) 1 f fd ["_law_script", "_law_k"] (spOf K mg 2 F__law_cell) :=
  fn_ok (N := ["_law_script", "_law_k"]) F sc__law_cell (by decide) fun cdv A outer s H E hr hp tk => by
  have S := sc__law_cell
  exact ((ds_cons (ds_if (dt_cmp do_lt (dvW 1) (dvw (de_cb1 do_len T.b_len PySem.boot_len (dvW 0)))) (ds_one (ds_ret false (de_ix hr (dvW 0) (dvW 1)))) ds_nil)
  (ds_cons (ds_if (dt_cmp (do_eq hr) (dvW 0) (dow (de_lst da_nil))) (ds_one (ds_ret false dint)) ds_nil)
  (ds_one (ds_ret false (de_bin do_add (dvw (de_bin do_mul (dvw (de_ix hr (dvW 0) (dvw (de_bin do_mod (dvW 1) (dvw (de_cb1 do_len T.b_len PySem.boot_len (dvW 0))))))) (dvw dint))) (dvW 1)))))))
abbrev st__law_pick : Stmt := topS 32
def dn__law_pick : Ev → O := (sSeq (sSet false 3 (eOp modD (eOp mulD (eOp addD (eCall F__law_cell (aCons (eVar 0) (aCons (eVar 1) aNil))) (eOp mulD (eC (.int 6151)) (eOp addD (eVarW 1) (eC (.int 1))))) (eC (.int 40692))) (eC (.int 2147483399))))
  (sRet false (eOp modD (eOp modD (eOp addD (eOp mulD (eVarW 3) (eVarW 3)) (eOp fdivD (eVarW 3) (eC (.int 31)))) (eC (.int 2147483629))) (eVarW 2))))
def F__law_pick : List D → R RetD := callF 3 4 dn__law_pick
theorem sc__law_pick : FnScope ["_law_script", "_law_k", "_law_many", "_law_drawn"] ["_law_script", "_law_k", "_law_many"] (defScope st__law_pick) := ⟨rfl, rfl, rfl, by decide +kernel, rfl, by decide +kernel, by decide +kernel⟩
theorem ok__law_pick {f : Addr} {fd : FuncData} (T : Tx K mg) (G__law_cell : DefOk P w K mg base 1 "_law_cell" 2 F__law_cell) (F : Fun K "_law_pick" "_law_pick" st__law_pick f fd) : FnOk P w K mg base (L2.CX P w) 2 f fd ["_law_script", "_law_k", "_law_many"] (spOf K mg 3 F__law_pick) :=
  fn_ok (N := ["_law_script", "_law_k", "_law_many", "_law_drawn"]) F sc__law_pick (by decide) fun cdv A outer s H E hr hp tk => by
  have S := sc__law_pick
  exact ((ds_cons (ds_set false (i := 3) S.nd rfl (Or.inl rfl) (de_bin do_mod (dvw (de_bin do_mul (dvw (de_bin do_add (dvw (de_callK false G__law_cell rfl (hr.mono (by decide)) tk (da_cons (dv 0) (da_cons (dv 1) da_nil)))) (dvw (de_bin do_mul (dvw dint) (dvw (de_bin do_add (dvW 1) (dvw dint))))))) (dvw dint))) (dvw dint)))
  (ds_one (ds_ret false (de_bin do_mod (dvw (de_bin do_mod (dvw (de_bin do_add (dvw (de_bin do_mul (dvW 3) (dvW 3))) (dvw (de_bin do_fdiv (dvW 3) (dvw dint))))) (dvw dint))) (dvW 2))))))
abbrev st__law_plan : Stmt := topS 34
def dn__law_plan_l1 : Ev → O := (sSeq (sSet false 10 (eOp addD (eOp addD (eOp addD (eVarW 1) (eC (.int 10))) (eOp mulD (eC (.int 8)) (eVarW 7))) (eOp mulD (eC (.int 2)) (eVarW 9))))
  (sApp 8 (eTup (aCons (eCall F__law_pick (aCons (eVar 0) (aCons (eVar 10) (aCons (eVar 3) aNil)))) (aCons (eOp ixD (eVarW 5) (eCall F__law_pick (aCons (eVar 0) (aCons (eOp addD (eVarW 10) (eC (.int 1))) (aCons (e1 lenD (eVarW 5)) aNil))))) aNil)))))
def dn__law_plan_l2 : Ev → O := (sSeq (sSet true 8 (eLst aNil))
  (sSeq (sFor (.nm 9) (fun ρ => ((aCons (eVar 4) aNil) ρ).bind fun d => opt (range1D d))
  dn__law_plan_l1)
  (sApp 6 (e1 tupD (eVarW 8)))))
def dn__law_plan : Ev → O := (sSeq (sPar false false 3 4 (eOp addD (eC (.int 1)) (eCall F__law_pick (aCons (eVar 0) (aCons (eVar 1) (aCons (eVar 2) aNil))))) (eOp addD (eC (.int 1)) (eCall F__law_pick (aCons (eVar 0) (aCons (eOp addD (eVarW 1) (eC (.int 1))) (aCons (eC (.int 3)) aNil))))))
  (sSeq (sSet false 5 (eOp ixD (eLst (aCons (eLst (aCons (eC (.str "lap")) (aCons (eC (.str "")) aNil))) (aCons (eLst (aCons (eC (.str "go")) (aCons (eC (.str "")) (aCons (eC (.str "set")) aNil)))) (aCons (eLst (aCons (eC (.str "x")) (aCons (eC (.str "lamp")) (aCons (eC (.str "go")) (aCons (eC (.str "")) (aCons (eC (.str "abcdef")) aNil)))))) aNil)))) (eCall F__law_pick (aCons (eVar 0) (aCons (eOp addD (eVarW 1) (eC (.int 2))) (aCons (eC (.int 3)) aNil))))))
  (sSeq (sSet true 6 (eLst aNil))
  (sSeq (sFor (.nm 7) (fun ρ => ((aCons (eVar 3) aNil) ρ).bind fun d => opt (range1D d))
  dn__law_plan_l2)
  (sRet false (e1 tupD (eVarW 6)))))))
def F__law_plan : List D → R RetD := callF 3 11 dn__law_plan
theorem sc__law_plan : FnScope ["_law_script", "_law_at", "_law_most", "_law_many", "_law_buttons", "_law_pool", "_law_made", "_law_mode", "_law_row_here", "_law_button", "_law_here"] ["_law_script", "_law_at", "_law_most"] (defScope st__law_plan) := ⟨rfl, rfl, rfl, by decide +kernel, rfl, by decide +kernel, by decide +kernel⟩
theorem ok__law_plan {f : Addr} {fd : FuncData} (T : Tx K mg) (G__law_pick : DefOk P w K mg base 2 "_law_pick" 3 F__law_pick) (F : Fun K "_law_plan" "_law_plan" st__law_plan f fd) : FnOk P w K mg base (L2.CX P w) 3 f fd ["_law_script", "_law_at", "_law_most"] (spOf K mg 3 F__law_plan) :=
  fn_ok (N := ["_law_script", "_law_at", "_law_most", "_law_many", "_law_buttons", "_law_pool", "_law_made", "_law_mode", "_law_row_here", "_law_button", "_law_here"]) F sc__law_plan (by decide) fun cdv A outer s H E hr hp tk => by
  have S := sc__law_plan
  exact ((ds_cons (ds_par false false (i := 3) (j := 4) rfl S.nd rfl rfl (by decide) rfl rfl (de_bin do_add (dvw dint) (dvw (de_callK false G__law_pick rfl (hr.mono (by decide)) tk (da_cons (dv 0) (da_cons (dv 1) (da_cons (dv 2) da_nil)))))) (de_bin do_add (dvw dint) (dvw (de_callK false G__law_pick rfl (hr.mono (by decide)) tk (da_cons (dv 0) (da_cons (de_bin do_add (dvW 1) (dvw dint)) (da_cons dint da_nil)))))))
  (ds_cons (ds_set false (i := 5) S.nd rfl (Or.inl rfl) (de_ix hr (dow (de_lst (da_cons (dov (de_lst (da_cons dstr (da_cons dstr da_nil)))) (da_cons (dov (de_lst (da_cons dstr (da_cons dstr (da_cons dstr da_nil))))) (da_cons (dov (de_lst (da_cons dstr (da_cons dstr (da_cons dstr (da_cons dstr (da_cons dstr da_nil))))))) da_nil))))) (dvw (de_callK false G__law_pick rfl (hr.mono (by decide)) tk (da_cons (dv 0) (da_cons (de_bin do_add (dvW 1) (dvw dint)) (da_cons dint da_nil)))))))
  (ds_cons (ds_set true (i := 6) S.nd rfl (Or.inl rfl) (de_lst da_nil))
  (ds_cons (ds_for hp rfl (di_range1 T.b_range (da_cons (dv 3) da_nil)) (dg_nm (i := 7) S.nd rfl (Or.inl rfl)) (ds_cons (ds_set true (i := 8) S.nd rfl (Or.inl rfl) (de_lst da_nil))
  (ds_cons (ds_for hp rfl (di_range1 T.b_range (da_cons (dv 4) da_nil)) (dg_nm (i := 9) S.nd rfl (Or.inl rfl)) (ds_cons (ds_set false (i := 10) S.nd rfl (Or.inl rfl) (de_bin do_add (dvw (de_bin do_add (dvw (de_bin do_add (dvW 1) (dvw dint))) (dvw (de_bin do_mul (dvw dint) (dvW 7))))) (dvw (de_bin do_mul (dvw dint) (dvW 9)))))
  (ds_one (ds_app 8 (de_tup (da_cons (de_callK false G__law_pick rfl (hr.mono (by decide)) tk (da_cons (dv 0) (da_cons (dv 10) (da_cons (dv 3) da_nil)))) (da_cons (de_ix hr (dvW 5) (dvw (de_callK false G__law_pick rfl (hr.mono (by decide)) tk (da_cons (dv 0) (da_cons (de_bin do_add (dvW 10) (dvw dint)) (da_cons (de_cb1 do_len T.b_len PySem.boot_len (dvW 5)) da_nil)))))) da_nil)))))))
  (ds_one (ds_app 6 (de_ct1 do_tuple T.b_tuple PyProof.Rows.boot_tuple (dvW 8)))))))
  (ds_one (ds_ret false (de_ct1 do_tuple T.b_tuple PyProof.Rows.boot_tuple (dvW 6)))))))))
abbrev st__law_rows : Stmt := topS 37
def dn__law_rows_l1 : Ev → O := (sSeq (sSet false 6 (eOp ixD (eOp ixD (eOp ixD (eVarW 0) (eVarW 4)) (eVarW 5)) (eC (.int 0))))
  (sIf (cCmp isntD (eOp ixD (eVarW 2) (eVarW 4)) (eC .non))
  (sSeq (sSet false 7 (eTup (aCons (eOp addD (eOp ixD (eOp ixD (eVarW 2) (eVarW 4)) (eC (.int 0))) (eC (.int 1))) (aCons (eOp addD (eOp ixD (eOp ixD (eVarW 2) (eVarW 4)) (eC (.int 1))) (eLst (aCons (eVar 5) aNil))) aNil))))
  (sPutL 2 (eVarW 6) (eIf (cOr (cCmp isD (eOp ixD (eVarW 2) (eVarW 6)) (eC .non)) (cCmp ltXD (eVarW 7) (eOp ixD (eVarW 2) (eVarW 6)))) (eVar 7) (eOp ixD (eVarW 2) (eVarW 6)))))
  sNext))
def dn__law_rows_l2 : Ev → O := (sFor (.nm 5) (fun ρ => ((aCons (e1 lenD (eOp ixD (eVarW 0) (eC (.int 0)))) aNil) ρ).bind fun d => opt (range1D d))
  dn__law_rows_l1)
def dn__law_rows_l3 : Ev → O := (sFor (.nm 4) (fun ρ => ((aCons (e1 lenD (eVarW 0)) aNil) ρ).bind fun d => opt (range1D d))
  dn__law_rows_l2)
def dn__law_rows_e1 : Ev → R D := (eIf (cCmp isntD (eVarW 8) (eC .non)) (eOp ixD (eVarW 8) (eC (.int 1))) (eC .non))
def dn__law_rows : Ev → O := (sSeq (sSet true 2 (eOp repLD (eLst (aCons (eC .non) aNil)) (e1 lenD (eVarW 0))))
  (sSeq (sPutL 2 (eVarW 1) (eTup (aCons (eC (.int 0)) (aCons (eLst aNil) aNil))))
  (sSeq (sFor (.nm 3) (fun ρ => ((aCons (e1 lenD (eVarW 0)) aNil) ρ).bind fun d => opt (range1D d))
  dn__law_rows_l3)
  (sRet true (eLc [8] (.nm 8) (fun ρ => ((eVarW 2) ρ).bind fun d => opt (itemsD d)) cYes dn__law_rows_e1)))))
def F__law_rows : List D → R RetD := callF 2 9 dn__law_rows
theorem sc__law_rows : FnScope ["_law_plan_here", "_law_mode", "_law_found", "_law_again", "_law_here", "_law_button", "_law_goal", "_law_more", "_law_pair"] ["_law_plan_here", "_law_mode"] (defScope st__law_rows) := ⟨rfl, rfl, rfl, by decide +kernel, rfl, by decide +kernel, by decide +kernel⟩
theorem ok__law_rows {f : Addr} {fd : FuncData} (T : Tx K mg)  (F : Fun K "_law_rows" "_law_rows" st__law_rows f fd) : FnOk P w K mg base (L2.CX P w) 1 f fd ["_law_plan_here", "_law_mode"] (spOf K mg 2 F__law_rows) :=
  fn_ok (N := ["_law_plan_here", "_law_mode", "_law_found", "_law_again", "_law_here", "_law_button", "_law_goal", "_law_more", "_law_pair"]) F sc__law_rows (by decide) fun cdv A outer s H E hr hp tk => by
  have S := sc__law_rows
  exact ((ds_cons (ds_set true (i := 2) S.nd rfl (Or.inl rfl) (de_binO do_repO (dow (de_lst (da_cons dnon da_nil))) (dvw (de_cb1 do_len T.b_len PySem.boot_len (dvW 0)))))
  (ds_cons (ds_putL 2 (de_tup (da_cons dint (da_cons (dov (de_lst da_nil)) da_nil))) (dvW 1))
  (ds_cons (ds_for hp rfl (di_range1 T.b_range (da_cons (de_cb1 do_len T.b_len PySem.boot_len (dvW 0)) da_nil)) (dg_nm (i := 3) S.nd rfl (Or.inl rfl)) (ds_one (ds_for hp rfl (di_range1 T.b_range (da_cons (de_cb1 do_len T.b_len PySem.boot_len (dvW 0)) da_nil)) (dg_nm (i := 4) S.nd rfl (Or.inl rfl)) (ds_one (ds_for hp rfl (di_range1 T.b_range (da_cons (de_cb1 do_len T.b_len PySem.boot_len (dvw (de_ix hr (dvW 0) (dvw dint)))) da_nil)) (dg_nm (i := 5) S.nd rfl (Or.inl rfl)) (ds_cons (ds_set false (i := 6) S.nd rfl (Or.inl rfl) (de_ix hr (dvw (de_ix hr (dvw (de_ix hr (dvW 0) (dvW 4))) (dvW 5))) (dvw dint)))
  (ds_one (ds_if (dt_cmp do_isnt (dvw (de_ix hr (dvW 2) (dvW 4))) (dvw dnon)) (ds_cons (ds_set false (i := 7) S.nd rfl (Or.inl rfl) (de_tup (da_cons (de_bin do_add (dvw (de_ix hr (dvw (de_ix hr (dvW 2) (dvW 4))) (dvw dint))) (dvw dint)) (da_cons (de_bin do_add (dvw (de_ix hr (dvw (de_ix hr (dvW 2) (dvW 4))) (dvw dint))) (dow (de_lst (da_cons (dv 5) da_nil)))) da_nil))))
  (ds_one (ds_putL 2 (de_if (PW.pt (dw_or (dt_cmp do_is (dvw (de_ix hr (dvW 2) (dvW 6))) (dvw dnon)) (dw_or1 (dt_cmp (do_ltX hr) (dvW 7) (dvw (de_ix hr (dvW 2) (dvW 6))))))) (dv 7) (de_ix hr (dvW 2) (dvW 6))) (dvW 6)))) ds_nil))))))))
  (ds_one (ds_ret true (de_lc rfl S.nd (di_anyw (dvW 2)) (blkOk_by (own := [("_law_pair", 8)]) (by kernel_rfl)) (fun _ _ _ _ _ => (dg_nm (i := 8) S.nd rfl (Or.inl rfl))) (fun _ _ _ _ _ => dts_nil) (fun _ _ _ _ _ => (de_if (dt_cmp do_isnt (dvW 8) (dvw dnon)) (de_ix hr (dvW 8) (dvw dint)) dnon)))))))))
abbrev st_is_whole : Stmt := topS 14
def dn_is_whole : Ev → O := (sRet false (vAnd (eIsi [.int] (eVarW 0)) (vAnd (vNot (eIsi [.bool] (eVarW 0))) (eChain leD leD (eVarW 1) (eVarW 0) (eVarW 2)))))
def F_is_whole : List D → R RetD := callF 3 3 dn_is_whole
theorem sc_is_whole : FnScope ["thing", "low", "high"] ["thing", "low", "high"] (defScope st_is_whole) := ⟨rfl, rfl, rfl, by decide +kernel, rfl, by decide +kernel, by decide +kernel⟩
theorem ok_is_whole {f : Addr} {fd : FuncData} (T : Tx K mg)  (F : Fun K "is_whole" "is_whole" st_is_whole f fd) : FnOk P w K mg base (L2.CX P w) 1 f fd ["thing", "low", "high"] (spOf K mg 3 F_is_whole) :=
  fn_ok (N := ["thing", "low", "high"]) F sc_is_whole (by decide) fun cdv A outer s H E hr hp tk => by
  have S := sc_is_whole
  exact ((ds_one (ds_ret false (de_and (de_isi .int (dvW 0) (dty T.b_int PyProof.Rows.boot_int) T.b_isinstance) (de_and (de_not (dvw (de_isi .bool (dvW 0) (dty T.b_bool PyProof.Rows.boot_bool) T.b_isinstance))) (de_one (de_chain do_le do_le (dvW 1) (dvW 0) (dvW 2))))))))
abbrev st_is_deed : Stmt := topS 15
def dn_is_deed_e1 : Ev → R D := (eCmp inD (eVarW 1) (eC (.str "abcdefghijklmnopqrstuvwxyz")))
def dn_is_deed : Ev → O := (sRet false (vAnd (eIsi [.str] (eVarW 0)) (vAnd (eCmp leD (e1 lenD (eVarW 0)) (eC (.int 6))) (e1 allD (eLc [1] (.nm 1) (fun ρ => ((eVarW 0) ρ).bind fun d => opt (itemsD d)) cYes dn_is_deed_e1)))))
def F_is_deed : List D → R RetD := callF 1 2 dn_is_deed
theorem sc_is_deed : FnScope ["thing", "sign"] ["thing"] (defScope st_is_deed) := ⟨rfl, rfl, rfl, by decide +kernel, rfl, by decide +kernel, by decide +kernel⟩
theorem ok_is_deed {f : Addr} {fd : FuncData} (T : Tx K mg)  (F : Fun K "is_deed" "is_deed" st_is_deed f fd) : FnOk P w K mg base (L2.CX P w) 1 f fd ["thing"] (spOf K mg 1 F_is_deed) :=
  fn_ok (N := ["thing", "sign"]) F sc_is_deed (by decide) fun cdv A outer s H E hr hp tk => by
  have S := sc_is_deed
  exact ((ds_one (ds_ret false (de_and (de_isi .str (dvW 0) (dty T.b_str PyProof.Rows.boot_str) T.b_isinstance) (de_and (de_cmp do_le (dvw (de_cb1 do_len T.b_len PySem.boot_len (dvW 0))) (dvw (dgi T.g_LONGEST))) (de_one (de_cb1 do_all T.b_all (by decide +kernel) (dow (de_lc rfl S.nd (di_anyw (dvW 0)) (blkOk_by (own := [("sign", 1)]) (by kernel_rfl)) (fun _ _ _ _ _ => (dg_nm (i := 1) S.nd rfl (Or.inl rfl))) (fun _ _ _ _ _ => dts_nil) (fun _ _ _ _ _ => (de_cmp (do_in hr) (dvW 1) (dvw (dgs T.g_SMALL)))))))))))))
abbrev st_is_step : Stmt := topS 16
def dn_is_step : Ev → O := (sSeq (sIf (cOr (cNot (cVal (eIsi [.tuple] (eVarW 0)))) (cCmp neD (e1 lenD (eVarW 0)) (eC (.int 2))))
  (sRet false (eC (.bl false)))
  sNext)
  (sRet false (vAnd (eCall F_is_whole (aCons (eOp ixD (eVarW 0) (eC (.int 0))) (aCons (eC (.int 0)) (aCons (eOp subD (eVarW 1) (eC (.int 1))) aNil)))) (eCall F_is_deed (aCons (eOp ixD (eVarW 0) (eC (.int 1))) aNil)))))
def F_is_step : List D → R RetD := callF 2 2 dn_is_step
theorem sc_is_step : FnScope ["thing", "many"] ["thing", "many"] (defScope st_is_step) := ⟨rfl, rfl, rfl, by decide +kernel, rfl, by decide +kernel, by decide +kernel⟩
theorem ok_is_step {f : Addr} {fd : FuncData} (T : Tx K mg) (G_is_deed : DefOk P w K mg base 1 "is_deed" 1 F_is_deed) (G_is_whole : DefOk P w K mg base 1 "is_whole" 3 F_is_whole) (F : Fun K "is_step" "is_step" st_is_step f fd) : FnOk P w K mg base (L2.CX P w) 2 f fd ["thing", "many"] (spOf K mg 2 F_is_step) :=
  fn_ok (N := ["thing", "many"]) F sc_is_step (by decide) fun cdv A outer s H E hr hp tk => by
  have S := sc_is_step
  exact ((ds_cons (ds_if (PW.pt (dw_or (dt_not (dt_val (dvw (de_isi .tuple (dvW 0) (dty T.b_tuple PyProof.Rows.boot_tuple) T.b_isinstance)))) (dw_or1 (dt_cmp (do_ne hr) (dvw (de_cb1 do_len T.b_len PySem.boot_len (dvW 0))) (dvw dint))))) (ds_one (ds_ret false dbl)) ds_nil)
  (ds_one (ds_ret false (de_and (de_callK false G_is_whole rfl (hr.mono (by decide)) tk (da_cons (de_ix hr (dvW 0) (dvw dint)) (da_cons dint (da_cons (de_bin do_sub (dvW 1) (dvw dint)) da_nil)))) (de_one (de_callK false G_is_deed rfl (hr.mono (by decide)) tk (da_cons (de_ix hr (dvW 0) (dvw dint)) da_nil))))))))
abbrev st_is_plan : Stmt := topS 17
def dn_is_plan_e1 : Ev → R D := (eCall F_is_step (aCons (eVar 2) (aCons (e1 lenD (eVarW 0)) aNil)))
def dn_is_plan_l1 : Ev → O := (sSeq (sIf (cOr (cNot (cVal (eIsi [.tuple] (eVarW 1)))) (cOr (cNot (cChain leD leD (eC (.int 1)) (e1 lenD (eVarW 1)) (eC (.int 3)))) (cCmp neD (e1 lenD (eVarW 1)) (e1 lenD (eOp ixD (eVarW 0) (eC (.int 0)))))))
  (sRet false (eC (.bl false)))
  sNext)
  (sIf (cNot (cVal (e1 allD (eLc [2] (.nm 2) (fun ρ => ((eVarW 1) ρ).bind fun d => opt (itemsD d)) cYes dn_is_plan_e1))))
  (sRet false (eC (.bl false)))
  sNext))
def dn_is_plan : Ev → O := (sSeq (sIf (cOr (cNot (cVal (eIsi [.tuple] (eVarW 0)))) (cNot (cChain leD leD (eC (.int 1)) (e1 lenD (eVarW 0)) (eC (.int 6)))))
  (sRet false (eC (.bl false)))
  sNext)
  (sSeq (sFor (.nm 1) (fun ρ => ((eVar 0) ρ).bind fun d => opt (itemsD d))
  dn_is_plan_l1)
  (sRet false (eC (.bl true)))))
def F_is_plan : List D → R RetD := callF 1 3 dn_is_plan
theorem sc_is_plan : FnScope ["thing", "mode", "one"] ["thing"] (defScope st_is_plan) := ⟨rfl, rfl, rfl, by decide +kernel, rfl, by decide +kernel, by decide +kernel⟩
theorem ok_is_plan {f : Addr} {fd : FuncData} (T : Tx K mg) (G_is_step : DefOk P w K mg base 2 "is_step" 2 F_is_step) (F : Fun K "is_plan" "is_plan" st_is_plan f fd) : FnOk P w K mg base (L2.CX P w) 3 f fd ["thing"] (spOf K mg 1 F_is_plan) :=
  fn_ok (N := ["thing", "mode", "one"]) F sc_is_plan (by decide) fun cdv A outer s H E hr hp tk => by
  have S := sc_is_plan
  exact ((ds_cons (ds_if (PW.pt (dw_or (dt_not (dt_val (dvw (de_isi .tuple (dvW 0) (dty T.b_tuple PyProof.Rows.boot_tuple) T.b_isinstance)))) (dw_or1 (dt_not (dt_chain do_le do_le (dvw dint) (dvw (de_cb1 do_len T.b_len PySem.boot_len (dvW 0))) (dvw (dgi T.g_MOST_MODES))))))) (ds_one (ds_ret false dbl)) ds_nil)
  (ds_cons (ds_for hp rfl (di_any (dv 0)) (dg_nm (i := 1) S.nd rfl (Or.inl rfl)) (ds_cons (ds_if (PW.pt (dw_or (dt_not (dt_val (dvw (de_isi .tuple (dvW 1) (dty T.b_tuple PyProof.Rows.boot_tuple) T.b_isinstance)))) (dw_or (dt_not (dt_chain do_le do_le (dvw dint) (dvw (de_cb1 do_len T.b_len PySem.boot_len (dvW 1))) (dvw (dgi T.g_MOST_BUTTONS)))) (dw_or1 (dt_cmp (do_ne hr) (dvw (de_cb1 do_len T.b_len PySem.boot_len (dvW 1))) (dvw (de_cb1 do_len T.b_len PySem.boot_len (dvw (de_ix hr (dvW 0) (dvw dint)))))))))) (ds_one (ds_ret false dbl)) ds_nil)
  (ds_one (ds_if (dt_not (dt_val (dvw (de_cb1 do_all T.b_all (by decide +kernel) (dow (de_lc rfl S.nd (di_anyw (dvW 1)) (blkOk_by (own := [("one", 2)]) (by kernel_rfl)) (fun _ _ _ _ _ => (dg_nm (i := 2) S.nd rfl (Or.inl rfl))) (fun _ _ _ _ _ => dts_nil) (fun _ _ _ _ _ => (de_callK false G_is_step rfl (hr.mono (by decide)) tk0 (da_cons (dv 2) (da_cons (de_cb1 do_len T.b_len PySem.boot_len (dvW 0)) da_nil)))))))))) (ds_one (ds_ret false dbl)) ds_nil))))
  (ds_one (ds_ret false dbl)))))
abbrev st_look_plan : Stmt := topS 18
def dn_look_plan : Ev → O := (sIf (cNot (cVal (eCall F_is_plan (aCons (eVar 0) aNil))))
  (sRaise "NoPlan")
  sNext)
def F_look_plan : List D → R RetD := callF 1 1 dn_look_plan
theorem sc_look_plan : FnScope ["plan"] ["plan"] (defScope st_look_plan) := ⟨rfl, rfl, rfl, by decide +kernel, rfl, by decide +kernel, by decide +kernel⟩
theorem ok_look_plan {f : Addr} {fd : FuncData} (T : Tx K mg) (G_is_plan : DefOk P w K mg base 3 "is_plan" 1 F_is_plan) (F : Fun K "look_plan" "look_plan" st_look_plan f fd) : FnOk P w K mg base (L2.CX P w) 4 f fd ["plan"] (spOf K mg 1 F_look_plan) :=
  fn_ok (N := ["plan"]) F sc_look_plan (by decide) fun cdv A outer s H E hr hp tk => by
  have S := sc_look_plan
  exact ((ds_one (ds_if (dt_not (dt_val (dvw (de_callK false G_is_plan rfl (hr.mono (by decide)) tk (da_cons (dv 0) da_nil))))) (ds_one (ds_raise T.x_NoPlan tk)) ds_nil)))
abbrev st_rows_from : Stmt := topS 21
def dn_rows_from_l1 : Ev → O := (sIf (cCmp ninD (eVarW 6) (eVarW 2))
  (sSeq (sPutD 2 (eVarW 6) (eOp addD (eOp ixD (eVarW 2) (eVarW 4)) (eLst (aCons (eVar 5) aNil))))
  (sApp 3 (eVar 6)))
  sNext)
def dn_rows_from_w1 : Ev → R Bool := (cCmp neD (eVarW 3) (eLst aNil))
def dn_rows_from_l2 : Ev → O := (sSeq (sPopAt 4 3 0)
  (sFor (.tp [(.nm 5), (.tp [(.nm 6), (.nm 7)])]) (fun ρ => ((aCons (eOp ixD (eVarW 0) (eVarW 4)) aNil) ρ).bind fun d => opt (enumAD d))
  dn_rows_from_l1))
def dn_rows_from : Ev → O := (sSeq (sSet true 2 (eDisp1 false (eVarW 1) (eLst aNil)))
  (sSeq (sSet true 3 (eLst (aCons (eVar 1) aNil)))
  (sSeq (sWhile 100000 dn_rows_from_w1
  dn_rows_from_l2)
  (sRetO 2))))
def F_rows_from : List D → R RetD := callF 2 8 dn_rows_from
theorem sc_rows_from : FnScope ["plan", "mode", "found", "left", "here", "button", "goal", "deed"] ["plan", "mode"] (defScope st_rows_from) := ⟨rfl, rfl, rfl, by decide +kernel, rfl, by decide +kernel, by decide +kernel⟩
theorem ok_rows_from {f : Addr} {fd : FuncData} (T : Tx K mg)  (F : Fun K "rows_from" "rows_from" st_rows_from f fd) : FnOk P w K mg base (L2.CX P w) 1 f fd ["plan", "mode"] (spOf K mg 2 F_rows_from) :=
  fn_ok (N := ["plan", "mode", "found", "left", "here", "button", "goal", "deed"]) F sc_rows_from (by decide) fun cdv A outer s H E hr hp tk => by
  have S := sc_rows_from
  exact ((ds_cons (ds_set true (i := 2) S.nd rfl (Or.inl rfl) (de_disp1 false hr (dvW 1) (dov (de_lst da_nil))))
  (ds_cons (ds_set true (i := 3) S.nd rfl (Or.inl rfl) (de_lst (da_cons (dv 1) da_nil)))
  (ds_cons (ds_while 100000 hp (dt_cmp (do_ne hr) (dvW 3) (dow (de_lst da_nil))) (ds_cons (ds_popAt 4 3 S.nd rfl (Or.inl rfl))
  (ds_one (ds_for hp rfl (di_enumA T.b_enumerate (da_cons (de_ix hr (dvW 0) (dvW 4)) da_nil)) (dg_tp rfl rfl (dgs_cons (dg_nm (i := 5) S.nd rfl (Or.inl rfl)) (dgs_cons (dg_tp rfl rfl (dgs_cons (dg_nm (i := 6) S.nd rfl (Or.inl rfl)) (dgs_cons (dg_nm (i := 7) S.nd rfl (Or.inl rfl)) dgs_nil))) dgs_nil))) (ds_one (ds_if (dt_cmp (do_nin hr) (dvW 6) (dvW 2)) (ds_cons (ds_putD 2 hr (de_bin do_add (dvw (de_ix hr (dvW 2) (dvW 4))) (dow (de_lst (da_cons (dv 5) da_nil)))) (dvW 6))
  (ds_one (ds_app 3 (dv 6)))) ds_nil))))))
  (ds_one (ds_retO 2))))))
abbrev st_met : Stmt := topS 26
def dn_met : Ev → O := (sSeq (sDrop (eCall F_look_plan (aCons (eVar 0) aNil)))
  (sRet true (e1 sortedD (e1 listD (eCall F_rows_from (aCons (eVar 0) (aCons (eC (.int 0)) aNil)))))))
def F_met : List D → R RetD := callF 1 1 dn_met
theorem sc_met : FnScope ["plan"] ["plan"] (defScope st_met) := ⟨rfl, rfl, rfl, by decide +kernel, rfl, by decide +kernel, by decide +kernel⟩
theorem ok_met {f : Addr} {fd : FuncData} (T : Tx K mg) (G_look_plan : DefOk P w K mg base 4 "look_plan" 1 F_look_plan) (G_rows_from : DefOk P w K mg base 1 "rows_from" 2 F_rows_from) (F : Fun K "met" "met" st_met f fd) : FnOk P w K mg base (L2.CX P w) 5 f fd ["plan"] (spOf K mg 1 F_met) :=
  fn_ok (N := ["plan"]) F sc_met (by decide) fun cdv A outer s H E hr hp tk => by
  have S := sc_met
  exact ((ds_cons (ds_drop (de_callK false G_look_plan rfl (hr.mono (by decide)) tk (da_cons (dv 0) da_nil)))
  (ds_one (ds_ret true (de_cb1 do_sorted T.b_sorted PyProof.Rows.boot_sorted (dow (de_ct1 do_list T.b_list PyProof.Rows.boot_list (dvw (de_callK false G_rows_from rfl (hr.mono (by decide)) tk (da_cons (dv 0) (da_cons dint da_nil)))))))))))
abbrev st_way_between : Stmt := topS 22
def dn_way_between : Ev → O := (sRet false (eGet1 (eCall F_rows_from (aCons (eVar 0) (aCons (eVar 1) aNil))) (eVarW 2)))
def F_way_between : List D → R RetD := callF 3 3 dn_way_between
theorem sc_way_between : FnScope ["plan", "mode", "goal"] ["plan", "mode", "goal"] (defScope st_way_between) := ⟨rfl, rfl, rfl, by decide +kernel, rfl, by decide +kernel, by decide +kernel⟩
theorem ok_way_between {f : Addr} {fd : FuncData} (T : Tx K mg) (G_rows_from : DefOk P w K mg base 1 "rows_from" 2 F_rows_from) (F : Fun K "way_between" "way_between" st_way_between f fd) : FnOk P w K mg base (L2.CX P w) 2 f fd ["plan", "mode", "goal"] (spOf K mg 3 F_way_between) :=
  fn_ok (N := ["plan", "mode", "goal"]) F sc_way_between (by decide) fun cdv A outer s H E hr hp tk => by
  have S := sc_way_between
  exact ((ds_one (ds_ret false (de_get1 hr (dvw (de_callK false G_rows_from rfl (hr.mono (by decide)) tk (da_cons (dv 0) (da_cons (dv 1) da_nil)))) (dvW 2)))))
abbrev st_stranded : Stmt := topS 27
def dn_stranded_q1 : Ev → R Bool := (cCmp isD (eCall F_way_between (aCons (eVar 0) (aCons (eVar 1) (aCons (eC (.int 0)) aNil)))) (eC .non))
def dn_stranded_e1 : Ev → R D := (eVar 1)
def dn_stranded : Ev → O := (sRet true (eLc [1] (.nm 1) (fun ρ => ((eCall F_met (aCons (eVar 0) aNil)) ρ).bind fun d => opt (itemsD d)) dn_stranded_q1 dn_stranded_e1))
def F_stranded : List D → R RetD := callF 1 2 dn_stranded
theorem sc_stranded : FnScope ["plan", "mode"] ["plan"] (defScope st_stranded) := ⟨rfl, rfl, rfl, by decide +kernel, rfl, by decide +kernel, by decide +kernel⟩
theorem ok_stranded {f : Addr} {fd : FuncData} (T : Tx K mg) (G_met : DefOk P w K mg base 5 "met" 1 F_met) (G_way_between : DefOk P w K mg base 2 "way_between" 3 F_way_between) (F : Fun K "stranded" "stranded" st_stranded f fd) : FnOk P w K mg base (L2.CX P w) 6 f fd ["plan"] (spOf K mg 1 F_stranded) :=
  fn_ok (N := ["plan", "mode"]) F sc_stranded (by decide) fun cdv A outer s H E hr hp tk => by
  have S := sc_stranded
  exact ((ds_one (ds_ret true (de_lc rfl S.nd (di_anyw (dvw (de_callK false G_met rfl (hr.mono (by decide)) tk (da_cons (dv 0) da_nil)))) (blkOk_by (own := [("mode", 1)]) (by kernel_rfl)) (fun _ _ _ _ _ => (dg_nm (i := 1) S.nd rfl (Or.inl rfl))) (fun _ _ _ _ _ => (dts_one (dt_cmp do_is (dvw (de_callK false G_way_between rfl (hr.mono (by decide)) tk0 (da_cons (dv 0) (da_cons (dv 1) (da_cons dint da_nil))))) (dvw dnon)))) (fun _ _ _ _ _ => (dv 1))))))
abbrev st_deeds_of : Stmt := topS 29
def dn_deeds_of_l1 : Ev → O := (sIf (cCmp neD (eVarW 4) (eC (.str "")))
  (sPutD 1 (eVarW 4) (eC (.bl true)))
  sNext)
def dn_deeds_of_l2 : Ev → O := (sFor (.tp [(.nm 3), (.nm 4)]) (fun ρ => ((eOp ixD (eVarW 0) (eVarW 2)) ρ).bind fun d => opt (itemsD d))
  dn_deeds_of_l1)
def dn_deeds_of : Ev → O := (sSeq (sSet true 1 (eC (.dct false [])))
  (sSeq (sFor (.nm 2) (fun ρ => ((eCall F_met (aCons (eVar 0) aNil)) ρ).bind fun d => opt (itemsD d))
  dn_deeds_of_l2)
  (sRet true (e1 sortedAD (e1 listD (eVarW 1))))))
def F_deeds_of : List D → R RetD := callF 1 5 dn_deeds_of
theorem sc_deeds_of : FnScope ["plan", "found", "mode", "goal", "deed"] ["plan"] (defScope st_deeds_of) := ⟨rfl, rfl, rfl, by decide +kernel, rfl, by decide +kernel, by decide +kernel⟩
theorem ok_deeds_of {f : Addr} {fd : FuncData} (T : Tx K mg) (G_met : DefOk P w K mg base 5 "met" 1 F_met) (F : Fun K "deeds_of" "deeds_of" st_deeds_of f fd) : FnOk P w K mg base (L2.CX P w) 6 f fd ["plan"] (spOf K mg 1 F_deeds_of) :=
  fn_ok (N := ["plan", "found", "mode", "goal", "deed"]) F sc_deeds_of (by decide) fun cdv A outer s H E hr hp tk => by
  have S := sc_deeds_of
  exact ((ds_cons (ds_set true (i := 1) S.nd rfl (Or.inl rfl) de_dnewK)
  (ds_cons (ds_for hp rfl (di_any (de_callK false G_met rfl (hr.mono (by decide)) tk (da_cons (dv 0) da_nil))) (dg_nm (i := 2) S.nd rfl (Or.inl rfl)) (ds_one (ds_for hp rfl (di_any (de_ix hr (dvW 0) (dvW 2))) (dg_tp rfl rfl (dgs_cons (dg_nm (i := 3) S.nd rfl (Or.inl rfl)) (dgs_cons (dg_nm (i := 4) S.nd rfl (Or.inl rfl)) dgs_nil))) (ds_one (ds_if (dt_cmp (do_ne hr) (dvW 4) (dvw dstr)) (ds_one (ds_putD 1 hr dbl (dvW 4))) ds_nil)))))
  (ds_one (ds_ret true (de_cb1 (do_sortA hr) T.b_sorted PyProof.Rows.boot_sorted (dow (de_ct1 do_list T.b_list PyProof.Rows.boot_list (dvW 1)))))))))
abbrev st_needless : Stmt := topS 28
def dn_needless_q1 : Ev → R Bool := (cCmp ninD (eVarW 2) (eVarW 1))
def dn_needless_e1 : Ev → R D := (eVar 2)
def dn_needless : Ev → O := (sSeq (sSet false 1 (eCall F_met (aCons (eVar 0) aNil)))
  (sRet true (eLc [2] (.nm 2) (fun ρ => ((aCons (e1 lenD (eVarW 0)) aNil) ρ).bind fun d => opt (range1D d)) dn_needless_q1 dn_needless_e1)))
def F_needless : List D → R RetD := callF 1 3 dn_needless
theorem sc_needless : FnScope ["plan", "some", "mode"] ["plan"] (defScope st_needless) := ⟨rfl, rfl, rfl, by decide +kernel, rfl, by decide +kernel, by decide +kernel⟩
theorem ok_needless {f : Addr} {fd : FuncData} (T : Tx K mg) (G_met : DefOk P w K mg base 5 "met" 1 F_met) (F : Fun K "needless" "needless" st_needless f fd) : FnOk P w K mg base (L2.CX P w) 6 f fd ["plan"] (spOf K mg 1 F_needless) :=
  fn_ok (N := ["plan", "some", "mode"]) F sc_needless (by decide) fun cdv A outer s H E hr hp tk => by
  have S := sc_needless
  exact ((ds_cons (ds_set false (i := 1) S.nd rfl (Or.inr rfl) (de_callK false G_met rfl (hr.mono (by decide)) tk (da_cons (dv 0) da_nil)))
  (ds_one (ds_ret true (de_lc rfl S.nd (di_weak (di_range1 T.b_range (da_cons (de_cb1 do_len T.b_len PySem.boot_len (dvW 0)) da_nil))) (blkOk_by (own := [("mode", 2)]) (by kernel_rfl)) (fun _ _ _ _ _ => (dg_nm (i := 2) S.nd rfl (Or.inl rfl))) (fun _ _ _ _ _ => (dts_one (dt_cmp (do_nin hr) (dvW 2) (dvW 1)))) (fun _ _ _ _ _ => (dv 2)))))))
abbrev st__law_word : Stmt := topS 33
abbrev names10 : List Str := ["NoBack", "NoMode", "NoPlan", "NoPress", "NoTells", "NoText", "NoWants"]
def dn__law_word (a : Addr) (c : Str) : Ev → O := (sSeq (sSet true 1 (eLst (aCons (eIsP 0 a (decide (c = "NoBack"))) (aCons (eIsP 0 a (decide (c = "NoMode"))) (aCons (eIsP 0 a (decide (c = "NoPlan"))) (aCons (eIsP 0 a (decide (c = "NoPress"))) aNil))))))
  (sSeq (sExt 1 (eLst (aCons (eIsP 0 a (decide (c = "NoTells"))) (aCons (eIsP 0 a (decide (c = "NoText"))) (aCons (eIsP 0 a (decide (c = "NoWants"))) aNil)))))
  (sSeq (sIf (cOr (cCmp neD (eCnt (eVarW 1) (eC (.bl true))) (eC (.int 1))) (cOr (cNot (cVal (eIsP 0 a true))) (cNot (cVal (eIsP 0 a true)))))
  (sRet false (eC (.str "wrong")))
  sNext)
  (sRet false (eOp ixD (eLst (aCons (eC (.str "no back")) (aCons (eC (.str "no mode")) (aCons (eC (.str "no plan")) (aCons (eC (.str "no press")) (aCons (eC (.str "no tells")) (aCons (eC (.str "no text")) (aCons (eC (.str "no wants")) aNil)))))))) (eIdx (eVarW 1) (eC (.bl true))))))))
theorem sc__law_word : FnScope ["_law_kept", "_law_kinds"] ["_law_kept"] (defScope st__law_word) := ⟨rfl, rfl, rfl, by decide +kernel, rfl, by decide +kernel, by decide +kernel⟩
theorem ok__law_word {f : Addr} {fd : FuncData} {D : Addr} {c t : Str} (T : Tx K mg) (x : XName K mg names10 c D) (we : ∃ A, mg "WatchError" = some (.ref A) ∧ PySem.W.kitOne K (.ref D) (.ref A) = some true) (hb : ∀ a : Addr, dn__law_word a c (SV.val (.fn (.ref a)) :: List.replicate 1 .no) = .ret false (.str t)) (F : Fun K "_law_word" "_law_word" st__law_word f fd) : FnX P w K mg base 1 f fd ["_law_kept"] (spName K D t) :=
  name_ok (N := ["_law_kept", "_law_kinds"]) (b := fun a => dn__law_word a c) F sc__law_word (by decide) hb fun cdv A outer s H p hr hz hf => by
  have S := sc__law_word
  obtain ⟨A_NoBack, g_NoBack, k_NoBack⟩ := x.own "NoBack" (by decide)
  obtain ⟨A_NoMode, g_NoMode, k_NoMode⟩ := x.own "NoMode" (by decide)
  obtain ⟨A_NoPlan, g_NoPlan, k_NoPlan⟩ := x.own "NoPlan" (by decide)
  obtain ⟨A_NoPress, g_NoPress, k_NoPress⟩ := x.own "NoPress" (by decide)
  obtain ⟨A_NoTells, g_NoTells, k_NoTells⟩ := x.own "NoTells" (by decide)
  obtain ⟨A_NoText, g_NoText, k_NoText⟩ := x.own "NoText" (by decide)
  obtain ⟨A_NoWants, g_NoWants, k_NoWants⟩ := x.own "NoWants" (by decide)
  obtain ⟨A_WE, g_WE, k_WE⟩ := we
  exact ((ds_cons (ds_set true (i := 1) S.nd rfl (Or.inl rfl) (de_lst (da_cons (de_isP (i := 0) rfl (Or.inl rfl) x.C (List.mem_cons_self ..) hz hf T.b_isinstance (pe_glob (v := .ref A_NoBack) (by rfl) g_NoBack rfl) (fun u h => h) k_NoBack) (da_cons (de_isP (i := 0) rfl (Or.inl rfl) x.C (List.mem_cons_self ..) hz hf T.b_isinstance (pe_glob (v := .ref A_NoMode) (by rfl) g_NoMode rfl) (fun u h => h) k_NoMode) (da_cons (de_isP (i := 0) rfl (Or.inl rfl) x.C (List.mem_cons_self ..) hz hf T.b_isinstance (pe_glob (v := .ref A_NoPlan) (by rfl) g_NoPlan rfl) (fun u h => h) k_NoPlan) (da_cons (de_isP (i := 0) rfl (Or.inl rfl) x.C (List.mem_cons_self ..) hz hf T.b_isinstance (pe_glob (v := .ref A_NoPress) (by rfl) g_NoPress rfl) (fun u h => h) k_NoPress) da_nil))))))
  (ds_cons (ds_ext 1 (dow (de_lst (da_cons (de_isP (i := 0) rfl (Or.inl rfl) x.C (List.mem_cons_self ..) hz hf T.b_isinstance (pe_glob (v := .ref A_NoTells) (by rfl) g_NoTells rfl) (fun u h => h) k_NoTells) (da_cons (de_isP (i := 0) rfl (Or.inl rfl) x.C (List.mem_cons_self ..) hz hf T.b_isinstance (pe_glob (v := .ref A_NoText) (by rfl) g_NoText rfl) (fun u h => h) k_NoText) (da_cons (de_isP (i := 0) rfl (Or.inl rfl) x.C (List.mem_cons_self ..) hz hf T.b_isinstance (pe_glob (v := .ref A_NoWants) (by rfl) g_NoWants rfl) (fun u h => h) k_NoWants) da_nil))))))
  (ds_cons (ds_if (PW.pt (dw_or (dt_cmp (do_neU (un64H hr)) (dvw (de_count (un65H hr) (dvW 1) (dvw dbl))) (dvw dint)) (dw_or (dt_not (dt_val (dvw (de_isP (i := 0) rfl (Or.inl rfl) x.C (List.mem_cons_self ..) hz hf T.b_isinstance (pe_bltn (v := .ty "ValueError") (by rfl) T.b_ValueError (by decide +kernel) rfl) (fun u h => h) x.ve)))) (dw_or1 (dt_not (dt_val (dvw (de_isP (i := 0) rfl (Or.inl rfl) x.C (List.mem_cons_self ..) hz hf T.b_isinstance (pe_glob (v := .ref A_WE) (by rfl) g_WE rfl) (fun u h => h) k_WE)))))))) (ds_one (ds_ret false dstr)) ds_nil)
  (ds_one (ds_ret false (de_ixU (un64H hr) (dow (de_lst (da_cons dstr (da_cons dstr (da_cons dstr (da_cons dstr (da_cons dstr (da_cons dstr (da_cons dstr da_nil))))))))) (dvw (de_index (un65H hr) (dvW 1) (dvw dbl))))))))))
theorem hb_NoMode : ∀ a : Addr, dn__law_word a "NoMode" (SV.val (.fn (.ref a)) :: List.replicate 1 .no) = .ret false (.str "no mode") := fun a => by
  have e : ∀ b l, eIsP 0 a b (SV.val (.fn (.ref a)) :: l) = .ok (.bl b) := fun b l => eIsP_self rfl
  simp [List.replicate, dn__law_word, R.bind, R.out, opt, sSeq, sSet, sb, sRet, sRetO, sIf, sDrop, sNext, sBrk, sCt, frz, sFrz, sAsg, sPar, sFor, sApp, sExt, ownL, tgSet, tgSets, eVar, eVarW, eC, e1, en, aNil, aCons, eOp, eCmp, cCmp, eChain, cChain, cVal, cNot, cAnd, cOr, eIf, vAnd, vOr, vNot, eTup, eLst, eCall, eCallO, eLc, wipeE, cYes, callF, atI_zero, atI_one, atI_lit, atI_nat', atI_m1, szOk, small64, atI_two, atI_three, sRaise, eIsi_of, isi_non, isi_bl, isi_int, isi_str, isi_tup, isi_lst, isD1, lenD_lst, lenD_tup, lenD_scr, ixD_lst, ixD_tup, ixD_scr, addD_ii, addD_ll, addD_tt, subD_ii, ltD_ii, leD_ii, gtD_ii, geD_ii, mulD_ii, listD_l, listD_t, tupD_l, tupD_t, negD_i, itemsD_l, itemsD_t, itemsD_s, e, eCnt, eIdx]
  kernel_rfl
theorem hb_NoPlan : ∀ a : Addr, dn__law_word a "NoPlan" (SV.val (.fn (.ref a)) :: List.replicate 1 .no) = .ret false (.str "no plan") := fun a => by
  have e : ∀ b l, eIsP 0 a b (SV.val (.fn (.ref a)) :: l) = .ok (.bl b) := fun b l => eIsP_self rfl
  simp [List.replicate, dn__law_word, R.bind, R.out, opt, sSeq, sSet, sb, sRet, sRetO, sIf, sDrop, sNext, sBrk, sCt, frz, sFrz, sAsg, sPar, sFor, sApp, sExt, ownL, tgSet, tgSets, eVar, eVarW, eC, e1, en, aNil, aCons, eOp, eCmp, cCmp, eChain, cChain, cVal, cNot, cAnd, cOr, eIf, vAnd, vOr, vNot, eTup, eLst, eCall, eCallO, eLc, wipeE, cYes, callF, atI_zero, atI_one, atI_lit, atI_nat', atI_m1, szOk, small64, atI_two, atI_three, sRaise, eIsi_of, isi_non, isi_bl, isi_int, isi_str, isi_tup, isi_lst, isD1, lenD_lst, lenD_tup, lenD_scr, ixD_lst, ixD_tup, ixD_scr, addD_ii, addD_ll, addD_tt, subD_ii, ltD_ii, leD_ii, gtD_ii, geD_ii, mulD_ii, listD_l, listD_t, tupD_l, tupD_t, negD_i, itemsD_l, itemsD_t, itemsD_s, e, eCnt, eIdx]
  kernel_rfl
abbrev st_look_mode : Stmt := topS 19
def dn_look_mode : Ev → O := (sIf (cNot (cVal (eCall F_is_whole (aCons (eVar 1) (aCons (eC (.int 0)) (aCons (eOp subD (e1 lenD (eVarW 0)) (eC (.int 1))) aNil))))))
  (sRaise "NoMode")
  sNext)
def F_look_mode : List D → R RetD := callF 2 2 dn_look_mode
theorem sc_look_mode : FnScope ["plan", "mode"] ["plan", "mode"] (defScope st_look_mode) := ⟨rfl, rfl, rfl, by decide +kernel, rfl, by decide +kernel, by decide +kernel⟩
theorem ok_look_mode {f : Addr} {fd : FuncData} (T : Tx K mg) (G_is_whole : DefOk P w K mg base 1 "is_whole" 3 F_is_whole) (F : Fun K "look_mode" "look_mode" st_look_mode f fd) : FnOk P w K mg base (L2.CX P w) 2 f fd ["plan", "mode"] (spOf K mg 2 F_look_mode) :=
  fn_ok (N := ["plan", "mode"]) F sc_look_mode (by decide) fun cdv A outer s H E hr hp tk => by
  have S := sc_look_mode
  exact ((ds_one (ds_if (dt_not (dt_val (dvw (de_callK false G_is_whole rfl (hr.mono (by decide)) tk (da_cons (dv 1) (da_cons dint (da_cons (de_bin do_sub (dvw (de_cb1 do_len T.b_len PySem.boot_len (dvW 0))) (dvw dint)) da_nil))))))) (ds_one (ds_raise T.x_NoMode tk)) ds_nil)))
abbrev st_way_to : Stmt := topS 23
def dn_way_to : Ev → O := (sSeq (sDrop (eCall F_look_plan (aCons (eVar 0) aNil)))
  (sSeq (sDrop (eCall F_look_mode (aCons (eVar 0) (aCons (eVar 1) aNil))))
  (sSeq (sDrop (eCall F_look_mode (aCons (eVar 0) (aCons (eVar 2) aNil))))
  (sRet false (eCall F_way_between (aCons (eVar 0) (aCons (eVar 1) (aCons (eVar 2) aNil))))))))
def F_way_to : List D → R RetD := callF 3 3 dn_way_to
theorem sc_way_to : FnScope ["plan", "mode", "goal"] ["plan", "mode", "goal"] (defScope st_way_to) := ⟨rfl, rfl, rfl, by decide +kernel, rfl, by decide +kernel, by decide +kernel⟩
theorem ok_way_to {f : Addr} {fd : FuncData} (T : Tx K mg) (G_look_mode : DefOk P w K mg base 2 "look_mode" 2 F_look_mode) (G_look_plan : DefOk P w K mg base 4 "look_plan" 1 F_look_plan) (G_way_between : DefOk P w K mg base 2 "way_between" 3 F_way_between) (F : Fun K "way_to" "way_to" st_way_to f fd) : FnOk P w K mg base (L2.CX P w) 5 f fd ["plan", "mode", "goal"] (spOf K mg 3 F_way_to) :=
  fn_ok (N := ["plan", "mode", "goal"]) F sc_way_to (by decide) fun cdv A outer s H E hr hp tk => by
  have S := sc_way_to
  exact ((ds_cons (ds_drop (de_callK false G_look_plan rfl (hr.mono (by decide)) tk (da_cons (dv 0) da_nil)))
  (ds_cons (ds_drop (de_callK false G_look_mode rfl (hr.mono (by decide)) tk (da_cons (dv 0) (da_cons (dv 1) da_nil))))
  (ds_cons (ds_drop (de_callK false G_look_mode rfl (hr.mono (by decide)) tk (da_cons (dv 0) (da_cons (dv 2) da_nil))))
  (ds_one (ds_ret false (de_callK false G_way_between rfl (hr.mono (by decide)) tk (da_cons (dv 0) (da_cons (dv 1) (da_cons (dv 2) da_nil))))))))))
abbrev st_way_for : Stmt := topS 24
def dn_way_for_l1 : Ev → O := (sIf (cAnd (cCmp eqD (eVarW 8) (eVarW 2)) (cCmp neD (eVarW 8) (eC (.str ""))))
  (sApp 4 (eTup (aCons (e1 lenD (eOp ixD (eVarW 3) (eVarW 5))) (aCons (eOp addD (eOp ixD (eVarW 3) (eVarW 5)) (eLst (aCons (eVar 6) aNil))) aNil))))
  sNext)
def dn_way_for_l2 : Ev → O := (sFor (.tp [(.nm 6), (.tp [(.nm 7), (.nm 8)])]) (fun ρ => ((aCons (eOp ixD (eVarW 0) (eVarW 5)) aNil) ρ).bind fun d => opt (enumAD d))
  dn_way_for_l1)
def dn_way_for : Ev → O := (sSeq (sSet true 3 (eCallO F_rows_from (aCons (eVar 0) (aCons (eVar 1) aNil))))
  (sSeq (sSet true 4 (eLst aNil))
  (sSeq (sLk 3 (sFor (.nm 5) (fun ρ => ((eVar 3) ρ).bind fun d => opt (keysLD d))
  dn_way_for_l2))
  (sRet false (eIf (cCmp neD (eVarW 4) (eLst aNil)) (eOp ixD (e1 minLD (eVarW 4)) (eC (.int 1))) (eC .non))))))
def F_way_for : List D → R RetD := callF 3 9 dn_way_for
theorem sc_way_for : FnScope ["plan", "mode", "deed", "rows", "some", "here", "button", "goal", "done"] ["plan", "mode", "deed"] (defScope st_way_for) := ⟨rfl, rfl, rfl, by decide +kernel, rfl, by decide +kernel, by decide +kernel⟩
theorem ok_way_for {f : Addr} {fd : FuncData} (T : Tx K mg) (G_rows_from : DefOk P w K mg base 1 "rows_from" 2 F_rows_from) (F : Fun K "way_for" "way_for" st_way_for f fd) : FnOk P w K mg base (L2.CX P w) 2 f fd ["plan", "mode", "deed"] (spOf K mg 3 F_way_for) :=
  fn_ok (N := ["plan", "mode", "deed", "rows", "some", "here", "button", "goal", "done"]) F sc_way_for (by decide) fun cdv A outer s H E hr hp tk => by
  have S := sc_way_for
  exact ((ds_cons (ds_set true (i := 3) S.nd rfl (Or.inl rfl) (de_callK true G_rows_from rfl (hr.mono (by decide)) tk (da_cons (dv 0) (da_cons (dv 1) da_nil))))
  (ds_cons (ds_set true (i := 4) S.nd rfl (Or.inl rfl) (de_lst da_nil))
  (ds_cons (ds_lk 3 (ds_for hp rfl (di_keysL (dv 3)) (dg_nm (i := 5) S.nd rfl (Or.inl rfl)) (ds_one (ds_for hp rfl (di_enumA T.b_enumerate (da_cons (de_ix hr (dvW 0) (dvW 5)) da_nil)) (dg_tp rfl rfl (dgs_cons (dg_nm (i := 6) S.nd rfl (Or.inl rfl)) (dgs_cons (dg_tp rfl rfl (dgs_cons (dg_nm (i := 7) S.nd rfl (Or.inl rfl)) (dgs_cons (dg_nm (i := 8) S.nd rfl (Or.inl rfl)) dgs_nil))) dgs_nil))) (ds_one (ds_if (PW.pt (dw_and (dt_cmp (do_eq hr) (dvW 8) (dvW 2)) (dw_and1 (dt_cmp (do_ne hr) (dvW 8) (dvw dstr))))) (ds_one (ds_app 4 (de_tup (da_cons (de_cb1 do_len T.b_len PySem.boot_len (dvw (de_ix hr (dvW 3) (dvW 5)))) (da_cons (de_bin do_add (dvw (de_ix hr (dvW 3) (dvW 5))) (dow (de_lst (da_cons (dv 6) da_nil)))) da_nil))))) ds_nil))))))
  (ds_one (ds_ret false (de_if (dt_cmp (do_ne hr) (dvW 4) (dow (de_lst da_nil))) (de_ix hr (dvw (de_cb1 (do_minL hr) T.b_min (by decide +kernel) (dvW 4))) (dvw dint)) dnon)))))))
abbrev st_way_to_deed : Stmt := topS 25
def dn_way_to_deed : Ev → O := (sSeq (sDrop (eCall F_look_plan (aCons (eVar 0) aNil)))
  (sSeq (sDrop (eCall F_look_mode (aCons (eVar 0) (aCons (eVar 1) aNil))))
  (sRet false (eIf (cVal (eCall F_is_deed (aCons (eVar 2) aNil))) (eCall F_way_for (aCons (eVar 0) (aCons (eVar 1) (aCons (eVar 2) aNil)))) (eC .non)))))
def F_way_to_deed : List D → R RetD := callF 3 3 dn_way_to_deed
theorem sc_way_to_deed : FnScope ["plan", "mode", "deed"] ["plan", "mode", "deed"] (defScope st_way_to_deed) := ⟨rfl, rfl, rfl, by decide +kernel, rfl, by decide +kernel, by decide +kernel⟩
theorem ok_way_to_deed {f : Addr} {fd : FuncData} (T : Tx K mg) (G_is_deed : DefOk P w K mg base 1 "is_deed" 1 F_is_deed) (G_look_mode : DefOk P w K mg base 2 "look_mode" 2 F_look_mode) (G_look_plan : DefOk P w K mg base 4 "look_plan" 1 F_look_plan) (G_way_for : DefOk P w K mg base 2 "way_for" 3 F_way_for) (F : Fun K "way_to_deed" "way_to_deed" st_way_to_deed f fd) : FnOk P w K mg base (L2.CX P w) 5 f fd ["plan", "mode", "deed"] (spOf K mg 3 F_way_to_deed) :=
  fn_ok (N := ["plan", "mode", "deed"]) F sc_way_to_deed (by decide) fun cdv A outer s H E hr hp tk => by
  have S := sc_way_to_deed
  exact ((ds_cons (ds_drop (de_callK false G_look_plan rfl (hr.mono (by decide)) tk (da_cons (dv 0) da_nil)))
  (ds_cons (ds_drop (de_callK false G_look_mode rfl (hr.mono (by decide)) tk (da_cons (dv 0) (da_cons (dv 1) da_nil))))
  (ds_one (ds_ret false (de_if (dt_val (dvw (de_callK false G_is_deed rfl (hr.mono (by decide)) tk (da_cons (dv 2) da_nil)))) (de_callK false G_way_for rfl (hr.mono (by decide)) tk (da_cons (dv 0) (da_cons (dv 1) (da_cons (dv 2) da_nil)))) dnon))))))
abbrev st__law_do : Stmt := topS 38
def txtN (c : Str) : Option Str := if c = "NoMode" then some "no mode" else if c = "NoPlan" then some "no plan" else none
def dn__law_do : Ev → O := (sSeq (sSet false 4 (eC .non))
  (sSeq (sSet false 5 (eC .non))
  (sTryK txtN (sSet false 5 (eIf (cCmp eqD (eVarW 0) (eC (.int 0))) (eCall F_way_to (aCons (eVar 1) (aCons (eVar 2) (aCons (eVar 3) aNil)))) (eCall F_way_to_deed (aCons (eVar 1) (aCons (eVar 2) (aCons (eVar 3) aNil))))))
  (sSeq (sIf (cCmp isD (eVarW 4) (eC .non))
  (sRet false (eVar 5))
  sNext) sBad))))
def F__law_do : List D → R RetD := callF 4 7 dn__law_do
theorem sc__law_do : FnScope ["_law_what", "_law_plan_here", "_law_mode", "_law_goal", "_law_kept", "_law_answer", "e"] ["_law_what", "_law_plan_here", "_law_mode", "_law_goal"] (defScope st__law_do) := ⟨rfl, rfl, rfl, by decide +kernel, rfl, by decide +kernel, by decide +kernel⟩
theorem ok__law_do {f : Addr} {fd : FuncData} (T : Tx K mg) (G_way_to : DefOk P w K mg base 5 "way_to" 3 F_way_to) (G_way_to_deed : DefOk P w K mg base 5 "way_to_deed" 3 F_way_to_deed) (Wd : WordOk P w K mg base 1 "_law_word" "WatchError" txtN) (F : Fun K "_law_do" "_law_do" st__law_do f fd) : FnOk P w K mg base (L2.CX P w) 6 f fd ["_law_what", "_law_plan_here", "_law_mode", "_law_goal"] (spOf K mg 4 F__law_do) :=
  fn_ok (N := ["_law_what", "_law_plan_here", "_law_mode", "_law_goal", "_law_kept", "_law_answer", "e"]) F sc__law_do (by decide) fun cdv A outer s H E hr hp tk => by
  have S := sc__law_do
  exact ((ds_cons (ds_set false (i := 4) S.nd rfl (Or.inl rfl) dnon)
  (ds_cons (ds_set false (i := 5) S.nd rfl (Or.inl rfl) dnon)
  (dss_tryK (i := 6) (ik := 4) (k1 := 1) Wd (by decide) hr rfl rfl S.nd rfl rfl (by decide) rfl rfl rfl rfl tk rfl (fun W' pn xe tk hp => (ds_one (ds_set false (i := 5) S.nd rfl (Or.inl rfl) (de_if (dt_cmp (do_eq hr) (dvW 0) (dvw dint)) (de_callK false G_way_to rfl (hr.mono (by decide)) tk (da_cons (dv 1) (da_cons (dv 2) (da_cons (dv 3) da_nil)))) (de_callK false G_way_to_deed rfl (hr.mono (by decide)) tk (da_cons (dv 1) (da_cons (dv 2) (da_cons (dv 3) da_nil)))))))) (ds_cons (ds_if (dt_cmp do_is (dvW 4) (dvw dnon)) (ds_one (ds_ret false (dv 5))) ds_nil) (ds_one ds_bad))))))
abbrev st_law : Stmt := topS 39
def dn_law_e1 : Ev → R D := (eCall F__law_rows (aCons (eVar 1) (aCons (eVar 3) aNil)))
def dn_law_l1 : Ev → O := (sIf (cCmp neD (eCall F__law_do (aCons (eC (.int 0)) (aCons (eVar 1) (aCons (eVar 3) (aCons (eVar 4) aNil))))) (eOp ixD (eOp ixD (eVarW 2) (eVarW 3)) (eVarW 4)))
  (sRet false (eC (.bl false)))
  sNext)
def dn_law_l2 : Ev → O := (sIf (cAnd (cCmp isntD (eOp ixD (eOp ixD (eVarW 2) (eVarW 3)) (eVarW 7)) (eC .non)) (cAnd (cCmp eqD (eOp ixD (eVarW 9) (eC (.int 1))) (eVarW 5)) (cCmp neD (eVarW 5) (eC (.str "")))))
  (sSeq (sSet false 10 (eOp addD (eOp ixD (eOp ixD (eVarW 2) (eVarW 3)) (eVarW 7)) (eLst (aCons (eVar 8) aNil))))
  (sSet false 6 (eIf (cCmp isD (eVarW 6) (eC .non)) (eTup (aCons (e1 lenD (eVarW 10)) (aCons (eVar 10) aNil))) (en min2LD (aCons (eVar 6) (aCons (eTup (aCons (e1 lenD (eVarW 10)) (aCons (eVar 10) aNil))) aNil))))))
  sNext)
def dn_law_l3 : Ev → O := (sFor (.tp [(.nm 8), (.nm 9)]) (fun ρ => ((aCons (eOp ixD (eVarW 1) (eVarW 7)) aNil) ρ).bind fun d => opt (enumAD d))
  dn_law_l2)
def dn_law_l4 : Ev → O := (sSeq (sSet false 6 (eC .non))
  (sSeq (sFor (.nm 7) (fun ρ => ((aCons (e1 lenD (eVarW 1)) aNil) ρ).bind fun d => opt (range1D d))
  dn_law_l3)
  (sIf (cCmp neD (eCall F__law_do (aCons (eC (.int 1)) (aCons (eVar 1) (aCons (eVar 3) (aCons (eVar 5) aNil))))) (eIf (cCmp isntD (eVarW 6) (eC .non)) (eOp ixD (eVarW 6) (eC (.int 1))) (eC .non)))
  (sRet false (eC (.bl false)))
  sNext)))
def dn_law_l5 : Ev → O := (sSeq (sFor (.nm 4) (fun ρ => ((aCons (e1 lenD (eVarW 1)) aNil) ρ).bind fun d => opt (range1D d))
  dn_law_l1)
  (sFor (.nm 5) (fun ρ => ((eTup (aCons (eC (.str "lap")) (aCons (eC (.str "go")) (aCons (eC (.str "x")) (aCons (eC (.str "abcdef")) (aCons (eC (.str "none")) (aCons (eC (.str "")) aNil))))))) ρ).bind fun d => opt (itemsD d))
  dn_law_l4))
def dn_law_q1 : Ev → R Bool := (cCmp isntD (eOp ixD (eOp ixD (eVarW 2) (eC (.int 0))) (eVarW 3)) (eC .non))
def dn_law_e2 : Ev → R D := (eVar 3)
def dn_law_q2 : Ev → R Bool := (cCmp ninD (eVarW 3) (eVarW 11))
def dn_law_e3 : Ev → R D := (eVar 3)
def dn_law_q3 : Ev → R Bool := (cCmp isD (eOp ixD (eOp ixD (eVarW 2) (eVarW 3)) (eC (.int 0))) (eC .non))
def dn_law_e4 : Ev → R D := (eVar 3)
def dn_law_q4 : Ev → R Bool := (cCmp neD (eVarW 5) (eC (.str "")))
def dn_law_e5 : Ev → R D := (eVar 5)
def dn_law_l6 : Ev → O := (sExt 13 (eLc [4, 5] (.tp [(.nm 4), (.nm 5)]) (fun ρ => ((eOp ixD (eVarW 1) (eVarW 3)) ρ).bind fun d => opt (itemsD d)) dn_law_q4 dn_law_e5))
def dn_law_l7 : Ev → O := (sIf (cCmp neD (eLst (aCons (eCall F__law_do (aCons (eC (.int 0)) (aCons (eVar 1) (aCons (eVar 14) (aCons (eC (.int 0)) aNil))))) (aCons (eCall F__law_do (aCons (eC (.int 0)) (aCons (eVar 1) (aCons (eC (.int 0)) (aCons (eVar 14) aNil))))) (aCons (eCall F__law_do (aCons (eC (.int 1)) (aCons (eVar 1) (aCons (eVar 14) (aCons (eC (.str "go")) aNil))))) aNil)))) (eOp mulD (eLst (aCons (eC (.str "no mode")) aNil)) (eC (.int 3))))
  (sRet false (eC (.bl false)))
  sNext)
def dn_law_e6 : Ev → R D := (eCall F__law_do (aCons (eC (.int 1)) (aCons (eVar 1) (aCons (eC (.int 0)) (aCons (eVar 5) aNil)))))
def dn_law : Ev → O := (sSeq (sSet false 1 (eCall F__law_plan (aCons (eVar 0) (aCons (eC (.int 10)) (aCons (eC (.int 6)) aNil)))))
  (sSeq (sSet false 2 (eLc [3] (.nm 3) (fun ρ => ((aCons (e1 lenD (eVarW 1)) aNil) ρ).bind fun d => opt (range1D d)) cYes dn_law_e1))
  (sSeq (sFor (.nm 3) (fun ρ => ((aCons (e1 lenD (eVarW 1)) aNil) ρ).bind fun d => opt (range1D d))
  dn_law_l5)
  (sSeq (sSet false 11 (eLc [3] (.nm 3) (fun ρ => ((aCons (e1 lenD (eVarW 1)) aNil) ρ).bind fun d => opt (range1D d)) dn_law_q1 dn_law_e2))
  (sSeq (sSet false 12 (eLc [3] (.nm 3) (fun ρ => ((aCons (e1 lenD (eVarW 1)) aNil) ρ).bind fun d => opt (range1D d)) dn_law_q2 dn_law_e3))
  (sSeq (sIf (cOr (cCmp neD (eCall F_met (aCons (eVar 1) aNil)) (eVarW 11)) (cCmp neD (eCall F_needless (aCons (eVar 1) aNil)) (eVarW 12)))
  (sRet false (eC (.bl false)))
  sNext)
  (sSeq (sIf (cCmp neD (eCall F_stranded (aCons (eVar 1) aNil)) (eLc [3] (.nm 3) (fun ρ => ((eVarW 11) ρ).bind fun d => opt (itemsD d)) dn_law_q3 dn_law_e4))
  (sRet false (eC (.bl false)))
  sNext)
  (sSeq (sSet true 13 (eLst aNil))
  (sSeq (sFor (.nm 3) (fun ρ => ((eVar 11) ρ).bind fun d => opt (itemsD d))
  dn_law_l6)
  (sSeq (sIf (cCmp neD (eCall F_deeds_of (aCons (eVar 1) aNil)) (e1 sortedSetTD (eVarW 13)))
  (sRet false (eC (.bl false)))
  sNext)
  (sSeq (sFor (.nm 14) (fun ρ => ((eTup (aCons (e1 lenD (eVarW 1)) (aCons (e1 negD (eC (.int 1))) (aCons (eC .non) (aCons (eC (.bl true)) (aCons (eC (.str "0")) aNil)))))) ρ).bind fun d => opt (itemsD d))
  dn_law_l7)
  (sRet false (eCmp eqD (eLc [5] (.nm 5) (fun ρ => ((eTup (aCons (eC (.str "A")) (aCons (eC (.str "abcdefg")) (aCons (eC .non) (aCons (eC (.int 5)) (aCons (eTup (aCons (eC (.str "go")) aNil)) aNil)))))) ρ).bind fun d => opt (itemsD d)) cYes dn_law_e6) (eOp mulD (eLst (aCons (eC .non) aNil)) (eC (.int 5))))))))))))))))
def F_law : List D → R RetD := callF 1 15 dn_law
theorem sc_law : FnScope ["_law_script", "_law_plan_here", "_law_every", "_law_mode", "_law_goal", "_law_deed", "_law_best", "_law_here", "_law_button", "_law_step", "_law_row_here", "_law_some", "_law_rest", "_law_deeds", "_law_bad"] ["_law_script"] (defScope st_law) := ⟨rfl, rfl, rfl, by decide +kernel, rfl, by decide +kernel, by decide +kernel⟩
theorem ok_law {f : Addr} {fd : FuncData} (T : Tx K mg) (G__law_do : DefOk P w K mg base 6 "_law_do" 4 F__law_do) (G__law_plan : DefOk P w K mg base 3 "_law_plan" 3 F__law_plan) (G__law_rows : DefOk P w K mg base 1 "_law_rows" 2 F__law_rows) (G_deeds_of : DefOk P w K mg base 6 "deeds_of" 1 F_deeds_of) (G_met : DefOk P w K mg base 5 "met" 1 F_met) (G_needless : DefOk P w K mg base 6 "needless" 1 F_needless) (G_stranded : DefOk P w K mg base 6 "stranded" 1 F_stranded) (F : Fun K "law" "law" st_law f fd) : FnOk P w K mg base (L2.CX P w) 7 f fd ["_law_script"] (spOf K mg 1 F_law) :=
  fn_ok (N := ["_law_script", "_law_plan_here", "_law_every", "_law_mode", "_law_goal", "_law_deed", "_law_best", "_law_here", "_law_button", "_law_step", "_law_row_here", "_law_some", "_law_rest", "_law_deeds", "_law_bad"]) F sc_law (by decide) fun cdv A outer s H E hr hp tk => by
  have S := sc_law
  exact ((ds_cons (ds_set false (i := 1) S.nd rfl (Or.inr rfl) (de_callK false G__law_plan rfl (hr.mono (by decide)) tk (da_cons (dv 0) (da_cons dint (da_cons dint da_nil)))))
  (ds_cons (ds_set false (i := 2) S.nd rfl (Or.inr rfl) (dov (de_lc rfl S.nd (di_weak (di_range1 T.b_range (da_cons (de_cb1 do_len T.b_len PySem.boot_len (dvW 1)) da_nil))) (blkOk_by (own := [("_law_mode", 3)]) (by kernel_rfl)) (fun _ _ _ _ _ => (dg_nm (i := 3) S.nd rfl (Or.inl rfl))) (fun _ _ _ _ _ => dts_nil) (fun _ _ _ _ _ => (de_callK false G__law_rows rfl (hr.mono (by decide)) tk0 (da_cons (dv 1) (da_cons (dv 3) da_nil)))))))
  (ds_cons (ds_for hp rfl (di_range1 T.b_range (da_cons (de_cb1 do_len T.b_len PySem.boot_len (dvW 1)) da_nil)) (dg_nm (i := 3) S.nd rfl (Or.inl rfl)) (ds_cons (ds_for hp rfl (di_range1 T.b_range (da_cons (de_cb1 do_len T.b_len PySem.boot_len (dvW 1)) da_nil)) (dg_nm (i := 4) S.nd rfl (Or.inl rfl)) (ds_one (ds_if (dt_cmp (do_ne hr) (dvw (de_callK false G__law_do rfl (hr.mono (by decide)) tk (da_cons dint (da_cons (dv 1) (da_cons (dv 3) (da_cons (dv 4) da_nil)))))) (dvw (de_ix hr (dvw (de_ix hr (dvW 2) (dvW 3))) (dvW 4)))) (ds_one (ds_ret false dbl)) ds_nil)))
  (ds_one (ds_for hp rfl (di_any (de_tup (da_cons dstr (da_cons dstr (da_cons dstr (da_cons dstr (da_cons dstr (da_cons dstr da_nil)))))))) (dg_nm (i := 5) S.nd rfl (Or.inl rfl)) (ds_cons (ds_set false (i := 6) S.nd rfl (Or.inl rfl) dnon)
  (ds_cons (ds_for hp rfl (di_range1 T.b_range (da_cons (de_cb1 do_len T.b_len PySem.boot_len (dvW 1)) da_nil)) (dg_nm (i := 7) S.nd rfl (Or.inl rfl)) (ds_one (ds_for hp rfl (di_enumA T.b_enumerate (da_cons (de_ix hr (dvW 1) (dvW 7)) da_nil)) (dg_tp rfl rfl (dgs_cons (dg_nm (i := 8) S.nd rfl (Or.inl rfl)) (dgs_cons (dg_nm (i := 9) S.nd rfl (Or.inl rfl)) dgs_nil))) (ds_one (ds_if (PW.pt (dw_and (dt_cmp do_isnt (dvw (de_ix hr (dvw (de_ix hr (dvW 2) (dvW 3))) (dvW 7))) (dvw dnon)) (dw_and (dt_cmp (do_eq hr) (dvw (de_ix hr (dvW 9) (dvw dint))) (dvW 5)) (dw_and1 (dt_cmp (do_ne hr) (dvW 5) (dvw dstr)))))) (ds_cons (ds_set false (i := 10) S.nd rfl (Or.inl rfl) (de_bin do_add (dvw (de_ix hr (dvw (de_ix hr (dvW 2) (dvW 3))) (dvW 7))) (dow (de_lst (da_cons (dv 8) da_nil)))))
  (ds_one (ds_set false (i := 6) S.nd rfl (Or.inl rfl) (de_if (dt_cmp do_is (dvW 6) (dvw dnon)) (de_tup (da_cons (de_cb1 do_len T.b_len PySem.boot_len (dvW 10)) (da_cons (dv 10) da_nil))) (de_cbn (do_min2L hr) T.b_min (by decide +kernel) (da_cons (dv 6) (da_cons (de_tup (da_cons (de_cb1 do_len T.b_len PySem.boot_len (dvW 10)) (da_cons (dv 10) da_nil))) da_nil))))))) ds_nil)))))
  (ds_one (ds_if (dt_cmp (do_ne hr) (dvw (de_callK false G__law_do rfl (hr.mono (by decide)) tk (da_cons dint (da_cons (dv 1) (da_cons (dv 3) (da_cons (dv 5) da_nil)))))) (de_if (dt_cmp do_isnt (dvW 6) (dvw dnon)) (dvw (de_ix hr (dvW 6) (dvw dint))) (dvw dnon))) (ds_one (ds_ret false dbl)) ds_nil))))))))
  (ds_cons (ds_set false (i := 11) S.nd rfl (Or.inr rfl) (dov (de_lc rfl S.nd (di_weak (di_range1 T.b_range (da_cons (de_cb1 do_len T.b_len PySem.boot_len (dvW 1)) da_nil))) (blkOk_by (own := [("_law_mode", 3)]) (by kernel_rfl)) (fun _ _ _ _ _ => (dg_nm (i := 3) S.nd rfl (Or.inl rfl))) (fun _ _ _ _ _ => (dts_one (dt_cmp do_isnt (dvw (de_ix hr (dvw (de_ix hr (dvW 2) (dvw dint))) (dvW 3))) (dvw dnon)))) (fun _ _ _ _ _ => (dv 3)))))
  (ds_cons (ds_setLc false (i := 12) rfl S.nd rfl rfl (sw_true rfl rfl rfl (by kernel_rfl)) (di_weak (di_range1 T.b_range (da_cons (de_cb1 do_len T.b_len PySem.boot_len (dvW 1)) da_nil))) (blkOk_by (own := [("_law_mode", 3)]) (by kernel_rfl)) (fun _ _ _ _ _ => (dg_nm (i := 3) S.nd rfl (Or.inl rfl))) (fun _ _ _ _ _ => (dts_one (dt_cmp (do_nin hr) (dvW 3) (dvW 11)))) (fun _ _ _ _ _ => (dv 3)))
  (ds_cons (ds_if (PW.pt (dw_or (dt_cmp (do_ne hr) (dvw (de_callK false G_met rfl (hr.mono (by decide)) tk (da_cons (dv 1) da_nil))) (dvW 11)) (dw_or1 (dt_cmp (do_ne hr) (dvw (de_callK false G_needless rfl (hr.mono (by decide)) tk (da_cons (dv 1) da_nil))) (dvW 12))))) (ds_one (ds_ret false dbl)) ds_nil)
  (ds_cons (ds_if (dt_cmp (do_ne hr) (dvw (de_callK false G_stranded rfl (hr.mono (by decide)) tk (da_cons (dv 1) da_nil))) (dow (de_lc rfl S.nd (di_anyw (dvW 11)) (blkOk_by (own := [("_law_mode", 3)]) (by kernel_rfl)) (fun _ _ _ _ _ => (dg_nm (i := 3) S.nd rfl (Or.inl rfl))) (fun _ _ _ _ _ => (dts_one (dt_cmp do_is (dvw (de_ix hr (dvw (de_ix hr (dvW 2) (dvW 3))) (dvw dint))) (dvw dnon)))) (fun _ _ _ _ _ => (dv 3))))) (ds_one (ds_ret false dbl)) ds_nil)
  (ds_cons (ds_set true (i := 13) S.nd rfl (Or.inl rfl) (de_lst da_nil))
  (ds_cons (ds_for hp rfl (di_any (dv 11)) (dg_nm (i := 3) S.nd rfl (Or.inl rfl)) (ds_one (ds_ext 13 (dow (de_lc rfl S.nd (di_anyw (dvw (de_ix hr (dvW 1) (dvW 3)))) (blkOk_by (own := [("_law_goal", 4), ("_law_deed", 5)]) (by kernel_rfl)) (fun _ _ _ _ _ => (dg_tp rfl rfl (dgs_cons (dg_nm (i := 4) S.nd rfl (Or.inl rfl)) (dgs_cons (dg_nm (i := 5) S.nd rfl (Or.inl rfl)) dgs_nil)))) (fun _ _ _ _ _ => (dts_one (dt_cmp (do_ne hr) (dvW 5) (dvw dstr)))) (fun _ _ _ _ _ => (dv 5)))))))
  (ds_cons (ds_if (dt_cmp (do_ne hr) (dvw (de_callK false G_deeds_of rfl (hr.mono (by decide)) tk (da_cons (dv 1) da_nil))) (dow (de_sortedSetT hr T.b_sorted T.b_set (dvW 13)))) (ds_one (ds_ret false dbl)) ds_nil)
  (ds_cons (ds_for hp rfl (di_any (de_tup (da_cons (de_cb1 do_len T.b_len PySem.boot_len (dvW 1)) (da_cons (de_neg (dvw dint)) (da_cons dnon (da_cons dbl (da_cons dstr da_nil))))))) (dg_nm (i := 14) S.nd rfl (Or.inl rfl)) (ds_one (ds_if (dt_cmp (do_ne hr) (dow (de_lst (da_cons (de_callK false G__law_do rfl (hr.mono (by decide)) tk (da_cons dint (da_cons (dv 1) (da_cons (dv 14) (da_cons dint da_nil))))) (da_cons (de_callK false G__law_do rfl (hr.mono (by decide)) tk (da_cons dint (da_cons (dv 1) (da_cons dint (da_cons (dv 14) da_nil))))) (da_cons (de_callK false G__law_do rfl (hr.mono (by decide)) tk (da_cons dint (da_cons (dv 1) (da_cons (dv 14) (da_cons dstr da_nil))))) da_nil))))) (dvw (de_bin do_mul (dow (de_lst (da_cons dstr da_nil))) (dvw dint)))) (ds_one (ds_ret false dbl)) ds_nil)))
  (ds_one (ds_ret false (de_cmp (do_eq hr) (dow (de_lc rfl S.nd (di_anyw (dvw (de_tup (da_cons dstr (da_cons dstr (da_cons dnon (da_cons dint (da_cons (de_tup (da_cons dstr da_nil)) da_nil)))))))) (blkOk_by (own := [("_law_deed", 5)]) (by kernel_rfl)) (fun _ _ _ _ _ => (dg_nm (i := 5) S.nd rfl (Or.inl rfl))) (fun _ _ _ _ _ => dts_nil) (fun _ _ _ _ _ => (de_callK false G__law_do rfl (hr.mono (by decide)) tk0 (da_cons dint (da_cons (dv 1) (da_cons dint (da_cons (dv 5) da_nil)))))))) (dvw (de_bin do_mul (dow (de_lst (da_cons dnon da_nil))) (dvw dint))))))))))))))))))
end

/-! ### what the script gives -/
def cellI (ns : List Int) (k : Int) : Int := if k < ns.length then (ns[k.toNat]?).getD 0 else if ns = [] then 0 else (ns[(k % ns.length).toNat]?).getD 0 * 31 + k
def drawnI (ns : List Int) (k : Int) : Int := (cellI ns k + 6151 * (k + 1)) * 40692 % 2147483399
def pickI (ns : List Int) (k m : Int) : Int := (drawnI ns k * drawnI ns k + drawnI ns k / 31) % 2147483629 % m
theorem pick_nn (ns : List Int) (k : Int) {m : Int} (h : 0 < m) : 0 ≤ pickI ns k m := Int.emod_nonneg _ (by omega)
theorem pick_lt (ns : List Int) (k : Int) {m : Int} (h : 0 < m) : pickI ns k m < m := Int.emod_lt_of_pos _ h
theorem F_cell {ns : List Int} {k : Int} (hk : 0 ≤ k) : F__law_cell [.scr ns, .int k] = .ok (false, .int (cellI ns k)) := by
  obtain ⟨n, rfl⟩ := Int.eq_ofNat_of_zero_le hk
  have h0 : ¬ (n : Int) < 0 := by omega
  cases ns with
  | nil => simp [F__law_cell, dn__law_cell, R.bind, R.out, opt, sSeq, sSet, sb, sRet, sRetO, sIf, sDrop, sNext, sBrk, sCt, frz, sFrz, sAsg, sPar, sFor, sApp, sExt, ownL, tgSet, tgSets, eVar, eVarW, eC, e1, en, aNil, aCons, eOp, eCmp, cCmp, eChain, cChain, cVal, cNot, cAnd, cOr, eIf, vAnd, vOr, vNot, eTup, eLst, eCall, eCallO, eLc, wipeE, cYes, callF, atI_zero, atI_one, atI_lit, atI_nat', atI_m1, szOk, small64, atI_two, atI_three, sRaise, eIsi_of, isi_non, isi_bl, isi_int, isi_str, isi_tup, isi_lst, isD1, lenD_lst, lenD_tup, lenD_scr, ixD_lst, ixD_tup, ixD_scr, addD_ii, addD_ll, addD_tt, subD_ii, ltD_ii, leD_ii, gtD_ii, geD_ii, mulD_ii, listD_l, listD_t, tupD_l, tupD_t, negD_i, itemsD_l, itemsD_t, itemsD_s, h0, eqD, cellI]
  | cons a l =>
    generalize hL : (a :: l) = L
    have hne : L ≠ [] := by rw [← hL]; simp
    have hp : 0 < L.length := by rw [← hL]; simp
    have he : L.isEmpty = false := by rw [← hL]; rfl
    by_cases h : n < L.length
    · have h2 : (n : Int) < L.length := by omega
      simp [F__law_cell, dn__law_cell, R.bind, R.out, opt, sSeq, sSet, sb, sRet, sRetO, sIf, sDrop, sNext, sBrk, sCt, frz, sFrz, sAsg, sPar, sFor, sApp, sExt, ownL, tgSet, tgSets, eVar, eVarW, eC, e1, en, aNil, aCons, eOp, eCmp, cCmp, eChain, cChain, cVal, cNot, cAnd, cOr, eIf, vAnd, vOr, vNot, eTup, eLst, eCall, eCallO, eLc, wipeE, cYes, callF, atI_zero, atI_one, atI_lit, atI_nat', atI_m1, szOk, small64, atI_two, atI_three, sRaise, eIsi_of, isi_non, isi_bl, isi_int, isi_str, isi_tup, isi_lst, isD1, lenD_lst, lenD_tup, lenD_scr, ixD_lst, ixD_tup, ixD_scr, addD_ii, addD_ll, addD_tt, subD_ii, ltD_ii, leD_ii, gtD_ii, geD_ii, mulD_ii, listD_l, listD_t, tupD_l, tupD_t, negD_i, itemsD_l, itemsD_t, itemsD_s, cellI, h, h2]
    · have h2 : ¬ (n : Int) < L.length := by omega
      have h3 : ((n : Int) % (L.length : Int)) = ((n % L.length : Nat) : Int) := by simp
      have h4 : n % L.length < L.length := Nat.mod_lt _ hp
      have h5 : (0 : Int) < L.length := by omega
      have h6 : atI L ((n : Int) % L.length) = some L[n % L.length] := by rw [atI_of h3]; simp [h4]
      have h7 : ((n : Int) % (L.length : Int)).toNat = n % L.length := by rw [h3]; exact Int.toNat_natCast _
      simp [F__law_cell, dn__law_cell, R.bind, R.out, opt, sSeq, sSet, sb, sRet, sRetO, sIf, sDrop, sNext, sBrk, sCt, frz, sFrz, sAsg, sPar, sFor, sApp, sExt, ownL, tgSet, tgSets, eVar, eVarW, eC, e1, en, aNil, aCons, eOp, eCmp, cCmp, eChain, cChain, cVal, cNot, cAnd, cOr, eIf, vAnd, vOr, vNot, eTup, eLst, eCall, eCallO, eLc, wipeE, cYes, callF, atI_zero, atI_one, atI_lit, atI_nat', atI_m1, szOk, small64, atI_two, atI_three, sRaise, eIsi_of, isi_non, isi_bl, isi_int, isi_str, isi_tup, isi_lst, isD1, lenD_lst, lenD_tup, lenD_scr, ixD_lst, ixD_tup, ixD_scr, addD_ii, addD_ll, addD_tt, subD_ii, ltD_ii, leD_ii, gtD_ii, geD_ii, mulD_ii, listD_l, listD_t, tupD_l, tupD_t, negD_i, itemsD_l, itemsD_t, itemsD_s, cellI, eqD, he, modD, h5, h6, h2, hne, h, h7, h4, hp]
theorem F_pick {ns : List Int} {k m : Int} (hk : 0 ≤ k) (hm : 0 < m) : F__law_pick [.scr ns, .int k, .int m] = .ok (false, .int (pickI ns k m)) := by
  have h1 : 0 ≤ drawnI ns k := Int.emod_nonneg _ (by omega)
  have h2 : drawnI ns k < 2147483399 := Int.emod_lt_of_pos _ (by omega)
  have h3 : (drawnI ns k).natAbs < 18446744073709551616 := by omega
  have e : (cellI ns k + 6151 * (k + 1)) * 40692 % 2147483399 = drawnI ns k := rfl
  simp [F__law_pick, dn__law_pick, R.bind, R.out, opt, sSeq, sSet, sb, sRet, sRetO, sIf, sDrop, sNext, sBrk, sCt, frz, sFrz, sAsg, sPar, sFor, sApp, sExt, ownL, tgSet, tgSets, eVar, eVarW, eC, e1, en, aNil, aCons, eOp, eCmp, cCmp, eChain, cChain, cVal, cNot, cAnd, cOr, eIf, vAnd, vOr, vNot, eTup, eLst, eCall, eCallO, eLc, wipeE, cYes, callF, atI_zero, atI_one, atI_lit, atI_nat', atI_m1, szOk, small64, atI_two, atI_three, sRaise, eIsi_of, isi_non, isi_bl, isi_int, isi_str, isi_tup, isi_lst, isD1, lenD_lst, lenD_tup, lenD_scr, ixD_lst, ixD_tup, ixD_scr, addD_ii, addD_ll, addD_tt, subD_ii, ltD_ii, leD_ii, gtD_ii, geD_ii, mulD_ii, listD_l, listD_t, tupD_l, tupD_t, negD_i, itemsD_l, itemsD_t, itemsD_s, F_cell hk, fdivD, modD, hm, e, h3, pickI]
def pickN (ns : List Int) (k : Int) (m : Nat) : Nat := (pickI ns k m).toNat
theorem pickN_lt (ns : List Int) (k : Int) {m : Nat} (h : 0 < m) : pickN ns k m < m := by
  have a := pick_nn ns k (m := m) (by omega)
  have b := pick_lt ns k (m := m) (by omega)
  unfold pickN
  omega
theorem F_pickN {ns : List Int} {k i : Int} {m : Nat} (hk : 0 ≤ k) (hi : i = (m : Int)) (hm : 0 < m) : F__law_pick [.scr ns, .int k, .int i] = .ok (false, .int (pickN ns k m : Nat)) := by
  subst hi
  have a := pick_nn ns k (m := m) (by omega)
  rw [F_pick hk (by omega)]
  unfold pickN
  rw [Int.toNat_of_nonneg a]

/-! ### plans -/
abbrev St0 := Nat × Str
abbrev Mo := List St0
abbrev Pl := List Mo
def stepD (s : St0) : D := .tup [.int s.1, .str s.2]
def modeD (m : Mo) : D := .tup (m.map stepD)
def planD (p : Pl) : D := .tup (p.map modeD)
def deeds7 : List Str := ["lap", "", "go", "set", "x", "lamp", "abcdef"]
/-- a plan with k buttons -/
structure Wf (p : Pl) (k : Nat) : Prop where
  l1 : 1 ≤ p.length
  l6 : p.length ≤ 6
  k1 : 1 ≤ k
  k3 : k ≤ 3
  row : ∀ m ∈ p, m.length = k
  goal : ∀ m ∈ p, ∀ s ∈ m, s.1 < p.length
  deed : ∀ m ∈ p, ∀ s ∈ m, s.2 ∈ deeds7
theorem plan_in {ns : List Int} {at_ many mode : Int} {pl : List Str} {x2 x4 x6 v9 v10 : SV} (ha : 0 ≤ at_) (hm : 0 < many) (hmo : 0 ≤ mode) (hp : pl ≠ []) (hp2 : pl.length ≤ 100) (b : Nat) (hb : b ≤ 100) :
    ∃ (row : Mo) (v9' v10' : SV), loopF (.nm 9) dn__law_plan_l1 ((List.range b).map fun i => .int (i : Nat)) [.val (.scr ns), .val (.int at_), x2, .val (.int many), x4, .val (.lst (pl.map D.str)), x6, .val (.int mode), .own (.lst []), v9, v10] =
      .nx [.val (.scr ns), .val (.int at_), x2, .val (.int many), x4, .val (.lst (pl.map D.str)), x6, .val (.int mode), .own (.lst (row.map stepD)), v9', v10'] ∧ row.length = b ∧ ∀ s ∈ row, (s.1 : Int) < many ∧ s.2 ∈ pl := by
  have key := loopF_inv (t := .nm 9) (b := dn__law_plan_l1) (d := fun i : Nat => D.int (i : Nat)) (ρ := [.val (.scr ns), .val (.int at_), x2, .val (.int many), x4, .val (.lst (pl.map D.str)), x6, .val (.int mode), .own (.lst []), v9, v10])
    (fun pre ρ => ∃ (row : Mo) (v9 v10 : SV), ρ = [.val (.scr ns), .val (.int at_), x2, .val (.int many), x4, .val (.lst (pl.map D.str)), x6, .val (.int mode), .own (.lst (row.map stepD)), v9, v10] ∧ row.length = pre.length ∧ ∀ s ∈ row, (s.1 : Int) < many ∧ s.2 ∈ pl) (List.range b)
    ⟨[], v9, v10, rfl, rfl, fun _ h => nomatch h⟩ (by
    rintro pre x post ρ hx ⟨row, v9, v10, rfl, hl, hs⟩
    obtain ⟨w1, w2⟩ := range_split hx
    have q1 : (0 : Int) ≤ at_ + 10 + 8 * mode + 2 * (x : Int) := by omega
    have q2 : (0 : Int) ≤ at_ + 10 + 8 * mode + 2 * (x : Int) + 1 := by omega
    have q3 : (0 : Int) < (pl.length : Int) := by
      have := List.length_pos_iff.mpr hp
      omega
    obtain ⟨g, hg⟩ := Int.eq_ofNat_of_zero_le (pick_nn ns (at_ + 10 + 8 * mode + 2 * (x : Int)) hm)
    obtain ⟨k, hk⟩ := Int.eq_ofNat_of_zero_le (pick_nn ns (at_ + 10 + 8 * mode + 2 * (x : Int) + 1) q3)
    have g1 := pick_lt ns (at_ + 10 + 8 * mode + 2 * (x : Int)) hm
    have k1 := pick_lt ns (at_ + 10 + 8 * mode + 2 * (x : Int) + 1) q3
    rw [hg] at g1
    rw [hk] at k1
    have k2 : k < pl.length := by omega
    have z : row.length + 1 ≤ 16777216 := by omega
    refine ⟨_, [.val (.scr ns), .val (.int at_), x2, .val (.int many), x4, .val (.lst (pl.map D.str)), x6, .val (.int mode), .own (.lst ((row ++ [(g, pl[k])]).map stepD)), .val (.int (x : Nat)), .val (.int (at_ + 10 + 8 * mode + 2 * (x : Int)))], rfl, .inl ?_, row ++ [(g, pl[k])], _, _, rfl, by simp [hl], fun s hs' => ?_⟩
    · simp [dn__law_plan_l1, R.bind, R.out, opt, sSeq, sSet, sb, sRet, sRetO, sIf, sDrop, sNext, sBrk, sCt, frz, sFrz, sAsg, sPar, sFor, sApp, sExt, ownL, tgSet, tgSets, eVar, eVarW, eC, e1, en, aNil, aCons, eOp, eCmp, cCmp, eChain, cChain, cVal, cNot, cAnd, cOr, eIf, vAnd, vOr, vNot, eTup, eLst, eCall, eCallO, eLc, wipeE, cYes, callF, atI_zero, atI_one, atI_lit, atI_nat', atI_m1, szOk, small64, atI_two, atI_three, sRaise, eIsi_of, isi_non, isi_bl, isi_int, isi_str, isi_tup, isi_lst, isD1, lenD_lst, lenD_tup, lenD_scr, ixD_lst, ixD_tup, ixD_scr, addD_ii, addD_ll, addD_tt, subD_ii, ltD_ii, leD_ii, gtD_ii, geD_ii, mulD_ii, listD_l, listD_t, tupD_l, tupD_t, negD_i, itemsD_l, itemsD_t, itemsD_s, F_pick q1 hm, F_pick q2 q3, hg, hk, k2, z, stepD]
    · rcases List.mem_append.mp hs' with h | h
      · exact hs s h
      · rw [List.mem_singleton.mp h]
        exact ⟨g1, List.getElem_mem _⟩)
  obtain ⟨ρ', e, row, v9', v10', rfl, h1, h2⟩ := key
  exact ⟨row, v9', v10', e, by simpa using h1, h2⟩
theorem plan_out {ns : List Int} {at_ many bu : Int} {pl : List Str} {x2 v7 v8 v9 v10 : SV} (ha : 0 ≤ at_) (hm : 0 < many) (hb : 0 ≤ bu) (hb2 : bu ≤ 100) (hp : pl ≠ []) (hp2 : pl.length ≤ 100) (b : Nat) (hb : b ≤ 100) :
    ∃ (p : Pl) (v7' v8' v9' v10' : SV), loopF (.nm 7) dn__law_plan_l2 ((List.range b).map fun i => .int (i : Nat)) [.val (.scr ns), .val (.int at_), x2, .val (.int many), .val (.int bu), .val (.lst (pl.map D.str)), .own (.lst []), v7, v8, v9, v10] =
      .nx [.val (.scr ns), .val (.int at_), x2, .val (.int many), .val (.int bu), .val (.lst (pl.map D.str)), .own (.lst (p.map modeD)), v7', v8', v9', v10'] ∧ p.length = b ∧ ∀ m ∈ p, (m.length : Int) = bu ∧ ∀ s ∈ m, (s.1 : Int) < many ∧ s.2 ∈ pl := by
  have key := loopF_inv (t := .nm 7) (b := dn__law_plan_l2) (d := fun i : Nat => D.int (i : Nat)) (ρ := [.val (.scr ns), .val (.int at_), x2, .val (.int many), .val (.int bu), .val (.lst (pl.map D.str)), .own (.lst []), v7, v8, v9, v10])
    (fun pre ρ => ∃ (p : Pl) (v7 v8 v9 v10 : SV), ρ = [.val (.scr ns), .val (.int at_), x2, .val (.int many), .val (.int bu), .val (.lst (pl.map D.str)), .own (.lst (p.map modeD)), v7, v8, v9, v10] ∧ p.length = pre.length ∧ ∀ m ∈ p, (m.length : Int) = bu ∧ ∀ s ∈ m, (s.1 : Int) < many ∧ s.2 ∈ pl) (List.range b)
    ⟨[], v7, v8, v9, v10, rfl, rfl, fun _ h => nomatch h⟩ (by
    rintro pre x post ρ hx ⟨p, v7, v8, v9, v10, rfl, hl, hs⟩
    obtain ⟨w1, w2⟩ := range_split hx
    obtain ⟨n, rfl⟩ := Int.eq_ofNat_of_zero_le ‹0 ≤ bu›
    obtain ⟨row, u9, u10, e, h1, h2⟩ := plan_in (ns := ns) (at_ := at_) (many := many) (mode := (x : Int)) (pl := pl) (x2 := x2) (x4 := .val (.int n)) (x6 := .own (.lst (p.map modeD))) (v9 := v9) (v10 := v10) ha hm (by omega) hp hp2 n (by omega)
    have z : p.length + 1 ≤ 16777216 := by omega
    have z2 := range1D_nat (n := n) (by omega)
    refine ⟨_, [.val (.scr ns), .val (.int at_), x2, .val (.int many), .val (.int n), .val (.lst (pl.map D.str)), .own (.lst ((p ++ [row]).map modeD)), .val (.int (x : Nat)), .own (.lst (row.map stepD)), u9, u10], rfl, .inl ?_, p ++ [row], _, _, _, _, rfl, by simp [hl], fun m hm' => ?_⟩
    · simp [dn__law_plan_l2, R.bind, R.out, opt, sSeq, sSet, sb, sRet, sRetO, sIf, sDrop, sNext, sBrk, sCt, frz, sFrz, sAsg, sPar, sFor, sApp, sExt, ownL, tgSet, tgSets, eVar, eVarW, eC, e1, en, aNil, aCons, eOp, eCmp, cCmp, eChain, cChain, cVal, cNot, cAnd, cOr, eIf, vAnd, vOr, vNot, eTup, eLst, eCall, eCallO, eLc, wipeE, cYes, callF, atI_zero, atI_one, atI_lit, atI_nat', atI_m1, szOk, small64, atI_two, atI_three, sRaise, eIsi_of, isi_non, isi_bl, isi_int, isi_str, isi_tup, isi_lst, isD1, lenD_lst, lenD_tup, lenD_scr, ixD_lst, ixD_tup, ixD_scr, addD_ii, addD_ll, addD_tt, subD_ii, ltD_ii, leD_ii, gtD_ii, geD_ii, mulD_ii, listD_l, listD_t, tupD_l, tupD_t, negD_i, itemsD_l, itemsD_t, itemsD_s, z, z2, e, modeD]
    · rcases List.mem_append.mp hm' with h | h
      · exact hs m h
      · rw [List.mem_singleton.mp h]
        exact ⟨by rw [h1], h2⟩)
  obtain ⟨ρ', e, p, v7', v8', v9', v10', rfl, h1, h2⟩ := key
  exact ⟨p, v7', v8', v9', v10', e, by simpa using h1, h2⟩
def pool (t : Int) : List Str := if t = 0 then ["lap", ""] else if t = 1 then ["go", "", "set"] else ["x", "lamp", "go", "", "abcdef"]
theorem F_plan {ns : List Int} {at_ most : Int} (ha : 0 ≤ at_) (h1 : 1 ≤ most) (h6 : most ≤ 6) : ∃ p k, F__law_plan [.scr ns, .int at_, .int most] = .ok (false, planD p) ∧ Wf p k ∧ (p.length : Int) ≤ most := by
  obtain ⟨m, hm⟩ := Int.eq_ofNat_of_zero_le (pick_nn ns at_ (show (0 : Int) < most by omega))
  obtain ⟨k, hk⟩ := Int.eq_ofNat_of_zero_le (pick_nn ns (at_ + 1) (show (0 : Int) < 3 by omega))
  obtain ⟨t, ht⟩ := Int.eq_ofNat_of_zero_le (pick_nn ns (at_ + 2) (show (0 : Int) < 3 by omega))
  have m1 := pick_lt ns at_ (show (0 : Int) < most by omega)
  have k1 := pick_lt ns (at_ + 1) (show (0 : Int) < 3 by omega)
  have t1 := pick_lt ns (at_ + 2) (show (0 : Int) < 3 by omega)
  rw [hm] at m1
  rw [hk] at k1
  rw [ht] at t1
  have pn : pool t ≠ [] := by unfold pool; split <;> (try split) <;> simp
  have pl2 : (pool t).length ≤ 100 := by unfold pool; split <;> (try split) <;> simp
  have pd : ∀ s ∈ pool t, s ∈ deeds7 := by unfold pool deeds7; split <;> (try split) <;> simp <;> decide
  obtain ⟨p, v7, v8, v9, v10, e, q1, q2⟩ := plan_out (ns := ns) (at_ := at_) (many := 1 + (m : Int)) (bu := 1 + (k : Int)) (pl := pool t) (x2 := .val (.int most)) (v7 := .no) (v8 := .no) (v9 := .no) (v10 := .no) ha (by omega) (by omega) (by omega) pn pl2 (1 + m) (by omega)
  have f1 := F_pick (ns := ns) ha (show (0 : Int) < most by omega)
  have f2 := F_pick (ns := ns) (k := at_ + 1) (by omega) (show (0 : Int) < 3 by omega)
  have f3 := F_pick (ns := ns) (k := at_ + 2) (by omega) (show (0 : Int) < 3 by omega)
  rw [hm] at f1
  rw [hk] at f2
  rw [ht] at f3
  have z1 := range1D_of (i := 1 + (m : Int)) (n := 1 + m) (by omega) (by omega)
  refine ⟨p, 1 + k, ?_, ⟨by omega, by omega, by omega, by omega, fun r hr => ?_, fun r hr s hs => ?_, fun r hr s hs => ?_⟩, by omega⟩
  · have tt : t = 0 ∨ t = 1 ∨ t = 2 := by omega
    rcases tt with rfl | rfl | rfl <;> simp [pool] at e <;> simp [F__law_plan, dn__law_plan, R.bind, R.out, opt, sSeq, sSet, sb, sRet, sRetO, sIf, sDrop, sNext, sBrk, sCt, frz, sFrz, sAsg, sPar, sFor, sApp, sExt, ownL, tgSet, tgSets, eVar, eVarW, eC, e1, en, aNil, aCons, eOp, eCmp, cCmp, eChain, cChain, cVal, cNot, cAnd, cOr, eIf, vAnd, vOr, vNot, eTup, eLst, eCall, eCallO, eLc, wipeE, cYes, callF, atI_zero, atI_one, atI_lit, atI_nat', atI_m1, szOk, small64, atI_two, atI_three, sRaise, eIsi_of, isi_non, isi_bl, isi_int, isi_str, isi_tup, isi_lst, isD1, lenD_lst, lenD_tup, lenD_scr, ixD_lst, ixD_tup, ixD_scr, addD_ii, addD_ll, addD_tt, subD_ii, ltD_ii, leD_ii, gtD_ii, geD_ii, mulD_ii, listD_l, listD_t, tupD_l, tupD_t, negD_i, itemsD_l, itemsD_t, itemsD_s, sPar, f1, f2, f3, z1, e, planD]
  · have := (q2 r hr).1; omega
  · have := ((q2 r hr).2 s hs).1; omega
  · exact pd _ ((q2 r hr).2 s hs).2

/-! ### the looks -/
def mo (p : Pl) (m : Nat) : Mo := p[m]?.getD []
def stepOf (p : Pl) (m b : Nat) : St0 := (mo p m)[b]?.getD (0, "")
def rowD (r : List Nat) : List D := r.map fun b => .int (b : Nat)
theorem mo_mem {p : Pl} {m : Nat} (h : m < p.length) : mo p m ∈ p := by
  unfold mo
  rw [List.getElem?_eq_getElem h]
  exact List.getElem_mem _
theorem Wf.moLen {p : Pl} {k m : Nat} (w : Wf p k) (h : m < p.length) : (mo p m).length = k := w.row _ (mo_mem h)
theorem Wf.mem {p : Pl} {k m b : Nat} (w : Wf p k) (h : m < p.length) (hb : b < k) : stepOf p m b ∈ mo p m := by
  unfold stepOf
  have hb' : b < (mo p m).length := by rw [w.moLen h]; exact hb
  rw [List.getElem?_eq_getElem hb']
  exact List.getElem_mem _
theorem Wf.go {p : Pl} {k m b : Nat} (w : Wf p k) (h : m < p.length) (hb : b < k) : (stepOf p m b).1 < p.length := w.goal _ (mo_mem h) _ (w.mem h hb)
theorem Wf.dd {p : Pl} {k m b : Nat} (w : Wf p k) (h : m < p.length) (hb : b < k) : (stepOf p m b).2 ∈ deeds7 := w.deed _ (mo_mem h) _ (w.mem h hb)
theorem ix_plan {p : Pl} {m : Nat} (h : m < p.length) : ixD (planD p) (.int (m : Nat)) = some (modeD (mo p m)) := by
  simp [ixD, planD, atI_nat', h, mo]
theorem ix_plan0 {p : Pl} (h : 1 ≤ p.length) : ixD (planD p) (.int 0) = some (modeD (mo p 0)) := ix_plan (m := 0) (by omega)
theorem ix_mode {p : Pl} {k m b : Nat} (w : Wf p k) (h : m < p.length) (hb : b < k) : ixD (modeD (mo p m)) (.int (b : Nat)) = some (stepD (stepOf p m b)) := by
  have hb' : b < (mo p m).length := by rw [w.moLen h]; exact hb
  simp [ixD, modeD, atI_nat', hb', stepOf]
theorem ix_st0 (s : St0) : ixD (stepD s) (.int 0) = some (.int s.1) := by simp [ixD, stepD, atI_zero]
theorem ix_st1 (s : St0) : ixD (stepD s) (.int 1) = some (.str s.2) := by simp [ixD, stepD, atI_one]
theorem len_plan (p : Pl) : lenD (planD p) = some (.int p.length) := by simp [lenD, planD]
theorem len_mode (m : Mo) : lenD (modeD m) = some (.int m.length) := by simp [lenD, modeD]
theorem len_step (s : St0) : lenD (stepD s) = some (.int 2) := by simp [lenD, stepD]
theorem F_whole {i a b : Int} : F_is_whole [.int i, .int a, .int b] = .ok (false, .bl (decide (a ≤ i) && decide (i ≤ b))) := by
  by_cases h : a ≤ i
  · simp [F_is_whole, dn_is_whole, R.bind, R.out, opt, sSeq, sSet, sb, sRet, sRetO, sIf, sDrop, sNext, sBrk, sCt, frz, sFrz, sAsg, sPar, sFor, sApp, sExt, ownL, tgSet, tgSets, eVar, eVarW, eC, e1, en, aNil, aCons, eOp, eCmp, cCmp, eChain, cChain, cVal, cNot, cAnd, cOr, eIf, vAnd, vOr, vNot, eTup, eLst, eCall, eCallO, eLc, wipeE, cYes, callF, atI_zero, atI_one, atI_lit, atI_nat', atI_m1, szOk, small64, atI_two, atI_three, sRaise, eIsi_of, isi_non, isi_bl, isi_int, isi_str, isi_tup, isi_lst, isD1, lenD_lst, lenD_tup, lenD_scr, ixD_lst, ixD_tup, ixD_scr, addD_ii, addD_ll, addD_tt, subD_ii, ltD_ii, leD_ii, gtD_ii, geD_ii, mulD_ii, listD_l, listD_t, tupD_l, tupD_t, negD_i, itemsD_l, itemsD_t, itemsD_s, h]
  · simp [F_is_whole, dn_is_whole, R.bind, R.out, opt, sSeq, sSet, sb, sRet, sRetO, sIf, sDrop, sNext, sBrk, sCt, frz, sFrz, sAsg, sPar, sFor, sApp, sExt, ownL, tgSet, tgSets, eVar, eVarW, eC, e1, en, aNil, aCons, eOp, eCmp, cCmp, eChain, cChain, cVal, cNot, cAnd, cOr, eIf, vAnd, vOr, vNot, eTup, eLst, eCall, eCallO, eLc, wipeE, cYes, callF, atI_zero, atI_one, atI_lit, atI_nat', atI_m1, szOk, small64, atI_two, atI_three, sRaise, eIsi_of, isi_non, isi_bl, isi_int, isi_str, isi_tup, isi_lst, isD1, lenD_lst, lenD_tup, lenD_scr, ixD_lst, ixD_tup, ixD_scr, addD_ii, addD_ll, addD_tt, subD_ii, ltD_ii, leD_ii, gtD_ii, geD_ii, mulD_ii, listD_l, listD_t, tupD_l, tupD_t, negD_i, itemsD_l, itemsD_t, itemsD_s, h]
theorem F_deed {x : Str} (h : x ∈ deeds7) : F_is_deed [.str x] = .ok (false, .bl true) := by
  simp only [deeds7, List.mem_cons, List.not_mem_nil, or_false] at h
  rcases h with rfl | rfl | rfl | rfl | rfl | rfl | rfl <;> rfl
theorem F_step {s : St0} {n : Nat} (h : s.1 < n) (hd : s.2 ∈ deeds7) : F_is_step [stepD s, .int (n : Nat)] = .ok (false, .bl true) := by
  have h1 : (0 : Int) ≤ s.1 := by omega
  have h2 : (s.1 : Int) ≤ (n : Int) - 1 := by omega
  have q : neD (.int 2) (.int 2) = some false := rfl
  have t : isiD [.tuple] (stepD s) = .ok (.bl true) := rfl
  simp [F_is_step, dn_is_step, R.bind, R.out, opt, sSeq, sSet, sb, sRet, sRetO, sIf, sDrop, sNext, sBrk, sCt, frz, sFrz, sAsg, sPar, sFor, sApp, sExt, ownL, tgSet, tgSets, eVar, eVarW, eC, e1, en, aNil, aCons, eOp, eCmp, cCmp, eChain, cChain, cVal, cNot, cAnd, cOr, eIf, vAnd, vOr, vNot, eTup, eLst, eCall, eCallO, eLc, wipeE, cYes, callF, atI_zero, atI_one, atI_lit, atI_nat', atI_m1, szOk, small64, atI_two, atI_three, sRaise, eIsi_of, isi_non, isi_bl, isi_int, isi_str, isi_tup, isi_lst, isD1, lenD_lst, lenD_tup, lenD_scr, ixD_lst, ixD_tup, ixD_scr, addD_ii, addD_ll, addD_tt, subD_ii, ltD_ii, leD_ii, gtD_ii, geD_ii, mulD_ii, listD_l, listD_t, tupD_l, tupD_t, negD_i, itemsD_l, itemsD_t, itemsD_s, len_step, ix_st0, ix_st1, F_whole, F_deed hd, h1, h2, q, t]

theorem plan_loop {p : Pl} {k : Nat} (w : Wf p k) : ∀ (q : List Mo) (v1 v2 : SV), (∀ m ∈ q, m ∈ p) → ∃ v1', loopF (.nm 1) dn_is_plan_l1 (q.map modeD) [.val (planD p), v1, v2] = .nx [.val (planD p), v1', v2]
  | [], v1, v2, _ => ⟨v1, rfl⟩
  | m :: q, v1, v2, h => by
    obtain ⟨v1', e⟩ := plan_loop w q (.val (modeD m)) v2 fun x hx => h x (List.mem_cons_of_mem _ hx)
    refine ⟨v1', ?_⟩
    have hm := h m (by simp)
    have l1 := w.row m hm
    have l2 := w.moLen (m := 0) (by have := w.l1; omega)
    have c1 := w.k1
    have c3 := w.k3
    have lc := lcF_all (t := .nm 2) (f := dn_is_plan_e1) (ρ := [.val (planD p), .val (modeD m), .no]) (d := stepD) (g := fun _ => .bl true) (xs := m) fun s hs => ⟨_, rfl, by
      simp [dn_is_plan_e1, R.bind, R.out, opt, sSeq, sSet, sb, sRet, sRetO, sIf, sDrop, sNext, sBrk, sCt, frz, sFrz, sAsg, sPar, sFor, sApp, sExt, ownL, tgSet, tgSets, eVar, eVarW, eC, e1, en, aNil, aCons, eOp, eCmp, cCmp, eChain, cChain, cVal, cNot, cAnd, cOr, eIf, vAnd, vOr, vNot, eTup, eLst, eCall, eCallO, eLc, wipeE, cYes, callF, atI_zero, atI_one, atI_lit, atI_nat', atI_m1, szOk, small64, atI_two, atI_three, sRaise, eIsi_of, isi_non, isi_bl, isi_int, isi_str, isi_tup, isi_lst, isD1, lenD_lst, lenD_tup, lenD_scr, ixD_lst, ixD_tup, ixD_scr, addD_ii, addD_ll, addD_tt, subD_ii, ltD_ii, leD_ii, gtD_ii, geD_ii, mulD_ii, listD_l, listD_t, tupD_l, tupD_t, negD_i, itemsD_l, itemsD_t, itemsD_s, len_plan, F_step (w.goal m hm s hs) (w.deed m hm s hs)]⟩
    have it : itemsD (modeD m) = some (m.map stepD) := rfl
    have t : isiD [.tuple] (modeD m) = .ok (.bl true) := rfl
    have a1 : (1 : Int) ≤ k := by omega
    have a2 : (k : Int) ≤ 3 := by omega
    have a3 : k ≤ 16777216 := by omega
    have q : neD (.int (k : Int)) (.int (k : Int)) = some false := by rw [neD_of (eqD_of rfl rfl)]; simp [eqv]
    have al := all_true m
    have hb : dn_is_plan_l1 [.val (planD p), .val (modeD m), v2] = .nx [.val (planD p), .val (modeD m), v2] := by
      simp [dn_is_plan_l1, R.bind, R.out, opt, sSeq, sSet, sb, sRet, sRetO, sIf, sDrop, sNext, sBrk, sCt, frz, sFrz, sAsg, sPar, sFor, sApp, sExt, ownL, tgSet, tgSets, eVar, eVarW, eC, e1, en, aNil, aCons, eOp, eCmp, cCmp, eChain, cChain, cVal, cNot, cAnd, cOr, eIf, vAnd, vOr, vNot, eTup, eLst, eCall, eCallO, eLc, wipeE, cYes, callF, atI_zero, atI_one, atI_lit, atI_nat', atI_m1, szOk, small64, atI_two, atI_three, sRaise, eIsi_of, isi_non, isi_bl, isi_int, isi_str, isi_tup, isi_lst, isD1, lenD_lst, lenD_tup, lenD_scr, ixD_lst, ixD_tup, ixD_scr, addD_ii, addD_ll, addD_tt, subD_ii, ltD_ii, leD_ii, gtD_ii, geD_ii, mulD_ii, listD_l, listD_t, tupD_l, tupD_t, negD_i, itemsD_l, itemsD_t, itemsD_s, len_mode, l1, ix_plan0 w.l1, l2, t, it, lc, al, a1, a2, a3, q]
    rw [List.map_cons, loopF_cons rfl hb]
    exact e
theorem F_isplan {p : Pl} {k : Nat} (w : Wf p k) : F_is_plan [planD p] = .ok (false, .bl true) := by
  obtain ⟨v1, e⟩ := plan_loop w p .no .no fun _ h => h
  have t : isiD [.tuple] (planD p) = .ok (.bl true) := rfl
  have it : itemsD (planD p) = some (p.map modeD) := rfl
  have l1 := w.l1
  have l6 := w.l6
  have a1 : (1 : Int) ≤ p.length := by omega
  have a2 : (p.length : Int) ≤ 6 := by omega
  simp [F_is_plan, dn_is_plan, R.bind, R.out, opt, sSeq, sSet, sb, sRet, sRetO, sIf, sDrop, sNext, sBrk, sCt, frz, sFrz, sAsg, sPar, sFor, sApp, sExt, ownL, tgSet, tgSets, eVar, eVarW, eC, e1, en, aNil, aCons, eOp, eCmp, cCmp, eChain, cChain, cVal, cNot, cAnd, cOr, eIf, vAnd, vOr, vNot, eTup, eLst, eCall, eCallO, eLc, wipeE, cYes, callF, atI_zero, atI_one, atI_lit, atI_nat', atI_m1, szOk, small64, atI_two, atI_three, sRaise, eIsi_of, isi_non, isi_bl, isi_int, isi_str, isi_tup, isi_lst, isD1, lenD_lst, lenD_tup, lenD_scr, ixD_lst, ixD_tup, ixD_scr, addD_ii, addD_ll, addD_tt, subD_ii, ltD_ii, leD_ii, gtD_ii, geD_ii, mulD_ii, listD_l, listD_t, tupD_l, tupD_t, negD_i, itemsD_l, itemsD_t, itemsD_s, len_plan, t, it, e, a1, a2]
theorem F_lookplan {p : Pl} {k : Nat} (w : Wf p k) : F_look_plan [planD p] = .ok (false, .non) := by
  simp [F_look_plan, dn_look_plan, R.bind, R.out, opt, sSeq, sSet, sb, sRet, sRetO, sIf, sDrop, sNext, sBrk, sCt, frz, sFrz, sAsg, sPar, sFor, sApp, sExt, ownL, tgSet, tgSets, eVar, eVarW, eC, e1, en, aNil, aCons, eOp, eCmp, cCmp, eChain, cChain, cVal, cNot, cAnd, cOr, eIf, vAnd, vOr, vNot, eTup, eLst, eCall, eCallO, eLc, wipeE, cYes, callF, atI_zero, atI_one, atI_lit, atI_nat', atI_m1, szOk, small64, atI_two, atI_three, sRaise, eIsi_of, isi_non, isi_bl, isi_int, isi_str, isi_tup, isi_lst, isD1, lenD_lst, lenD_tup, lenD_scr, ixD_lst, ixD_tup, ixD_scr, addD_ii, addD_ll, addD_tt, subD_ii, ltD_ii, leD_ii, gtD_ii, geD_ii, mulD_ii, listD_l, listD_t, tupD_l, tupD_t, negD_i, itemsD_l, itemsD_t, itemsD_s, F_isplan w]

/-! ### equal to itself -/
theorem eqv_refl : ∀ (n : Nat) (d : D), okD n d = true → eqv d d = true := by
  intro n
  induction n with
  | zero => intro d h; cases d <;> simp [okD] at h <;> simp [eqv]
  | succ n ih =>
    have all : ∀ ds : List D, ds.all (okD n) = true → eqvs ds ds = true := by
      intro ds
      induction ds with
      | nil => intro _; simp [eqvs]
      | cons a l ihl =>
        intro h
        simp only [List.all_cons, Bool.and_eq_true] at h
        simp [eqvs, ih a h.1, ihl h.2]
    intro d h
    cases d with
    | tup ds => rw [okD_t] at h; rw [eqv]; exact all ds h
    | lst ds => rw [okD_l] at h; rw [eqv]; exact all ds h
    | _ => simp [okD] at h <;> simp [eqv]
theorem ne_self {d : D} (h : okD 16 d = true) : neD d d = some false := by
  rw [neD_of (eqD_of h h), eqv_refl 16 d h]
  rfl
theorem eq_self' {d : D} (h : okD 16 d = true) : eqD d d = some true := by rw [eqD_of h h, eqv_refl 16 d h]
theorem dd_ok : ∀ x ∈ deeds7, PyData.strOk x = true := by decide +kernel
theorem ok_mode {p : Pl} {k : Nat} {m : Mo} (n : Nat) (w : Wf p k) (hm : m ∈ p) : okD (n + 2) (modeD m) = true := by
  unfold modeD
  rw [okD_t, List.all_eq_true]
  intro x hx
  obtain ⟨s, hs, rfl⟩ := List.mem_map.mp hx
  unfold stepD
  rw [okD_t]
  have := dd_ok _ (w.deed m hm s hs)
  cases n <;> simp [okD, this]
theorem ok_plan {p : Pl} {k : Nat} (n : Nat) (w : Wf p k) : okD (n + 3) (planD p) = true := by
  unfold planD
  rw [okD_t, List.all_eq_true]
  intro x hx
  obtain ⟨m, hm, rfl⟩ := List.mem_map.mp hx
  exact ok_mode n w hm
/-- a slot that holds no own thing -/
def ov : Option D → SV
  | none => .no
  | some d => .val d
@[simp] theorem ov_some (d : D) : ov (some d) = .val d := rfl
@[simp] theorem ov_none : ov none = .no := rfl
@[simp] theorem setGV_ov (Ω : List Ob) (o : Option D) : setGV Ω (ov o) = ov o := by cases o <;> rfl

def natsD (l : List Nat) : List D := l.map fun b => .int (b : Nat)

/-! ### rows by length, then as they rise -/
def lexL : List Nat → List Nat → Bool
  | [], [] => false
  | [], _ :: _ => true
  | _ :: _, [] => false
  | a :: l, b :: m => decide (a < b) || (decide (a = b) && lexL l m)
theorem lexL_irr : ∀ a, lexL a a = false
  | [] => rfl
  | a :: l => by simp [lexL, lexL_irr l]
theorem lexL_trans : ∀ {a b c : List Nat}, lexL a b = true → lexL b c = true → lexL a c = true
  | [], [], _, h, _ => by simp [lexL] at h
  | [], _ :: _, [], _, h => by simp [lexL] at h
  | [], _ :: _, _ :: _, _, _ => rfl
  | _ :: _, [], _, h, _ => by simp [lexL] at h
  | _ :: _, _ :: _, [], _, h => by simp [lexL] at h
  | a :: l, b :: m, c :: n, h1, h2 => by
    simp only [lexL, Bool.or_eq_true, decide_eq_true_eq, Bool.and_eq_true] at h1 h2 ⊢
    rcases h1 with h1 | ⟨h1, h3⟩ <;> rcases h2 with h2 | ⟨h2, h4⟩
    · left; omega
    · left; omega
    · left; omega
    · right; exact ⟨by omega, lexL_trans h3 h4⟩
theorem lexL_tri : ∀ a b : List Nat, lexL a b = true ∨ a = b ∨ lexL b a = true
  | [], [] => .inr (.inl rfl)
  | [], _ :: _ => .inl rfl
  | _ :: _, [] => .inr (.inr rfl)
  | a :: l, b :: m => by
    simp only [lexL, Bool.or_eq_true, decide_eq_true_eq, Bool.and_eq_true, List.cons.injEq]
    rcases Nat.lt_trichotomy a b with h | h | h
    · exact .inl (.inl h)
    · rcases lexL_tri l m with q | q | q
      · exact .inl (.inr ⟨h, q⟩)
      · exact .inr (.inl ⟨h, q⟩)
      · exact .inr (.inr (.inr ⟨h.symm, q⟩))
    · exact .inr (.inr (.inl h))
def slt (a b : List Nat) : Bool := decide (a.length < b.length) || (decide (a.length = b.length) && lexL a b)
theorem slt_iff {a b : List Nat} : slt a b = true ↔ a.length < b.length ∨ a.length = b.length ∧ lexL a b = true := by
  simp [slt]
theorem slt_irr (a : List Nat) : slt a a = false := by simp [slt, lexL_irr]
theorem slt_trans {a b c : List Nat} (h1 : slt a b = true) (h2 : slt b c = true) : slt a c = true := by
  rw [slt_iff] at *
  rcases h1 with h1 | ⟨h1, h3⟩ <;> rcases h2 with h2 | ⟨h2, h4⟩
  · left; omega
  · left; omega
  · left; omega
  · right; exact ⟨by omega, lexL_trans h3 h4⟩
theorem slt_tri (a b : List Nat) : slt a b = true ∨ a = b ∨ slt b a = true := by
  rw [slt_iff, slt_iff]
  rcases Nat.lt_trichotomy a.length b.length with h | h | h
  · exact .inl (.inl h)
  · rcases lexL_tri a b with q | q | q
    · exact .inl (.inr ⟨h, q⟩)
    · exact .inr (.inl q)
    · exact .inr (.inr (.inr ⟨h.symm, q⟩))
  · exact .inr (.inr (.inl h))
theorem slt_asym {a b : List Nat} (h : slt a b = true) (h2 : slt b a = true) : False := by
  have := slt_trans h h2
  rw [slt_irr] at this
  cases this
theorem lexL_snoc : ∀ {a b : List Nat} {x y : Nat}, a.length = b.length → lexL a b = true → lexL (a ++ [x]) (b ++ [y]) = true
  | [], [], _, _, _, h => by simp [lexL] at h
  | [], _ :: _, _, _, h, _ => by simp at h
  | _ :: _, [], _, _, h, _ => by simp at h
  | a :: l, b :: m, x, y, h, h2 => by
    simp only [List.cons_append, lexL, Bool.or_eq_true, decide_eq_true_eq, Bool.and_eq_true] at h2 ⊢
    rcases h2 with h2 | ⟨h2, h3⟩
    · exact .inl h2
    · exact .inr ⟨h2, lexL_snoc (by simpa using h) h3⟩
theorem lexL_last : ∀ {a : List Nat} {x y : Nat}, x < y → lexL (a ++ [x]) (a ++ [y]) = true
  | [], x, y, h => by simp [lexL, h]
  | a :: l, x, y, h => by simp [lexL, lexL_last h]
theorem slt_snoc {a b : List Nat} {x y : Nat} (h : slt a b = true) : slt (a ++ [x]) (b ++ [y]) = true := by
  rw [slt_iff] at *
  simp only [List.length_append, List.length_singleton]
  rcases h with h | ⟨h1, h2⟩
  · left; omega
  · right; exact ⟨by omega, lexL_snoc h1 h2⟩
theorem slt_last {a : List Nat} {x y : Nat} (h : x < y) : slt (a ++ [x]) (a ++ [y]) = true := by
  rw [slt_iff]
  right
  exact ⟨by simp, lexL_last h⟩
theorem slt_grow {a : List Nat} {x : Nat} : slt a (a ++ [x]) = true := by
  rw [slt_iff]
  left
  simp
def sle (a b : List Nat) : Prop := slt b a = false
theorem sle_refl (a : List Nat) : sle a a := slt_irr a
theorem sle_of_slt {a b : List Nat} (h : slt a b = true) : sle a b := by
  unfold sle
  cases q : slt b a with
  | false => rfl
  | true => exact (slt_asym h q).elim
theorem sle_iff {a b : List Nat} : sle a b ↔ a = b ∨ slt a b = true := by
  constructor
  · intro h
    rcases slt_tri a b with q | q | q
    · exact .inr q
    · exact .inl q
    · unfold sle at h
      rw [q] at h
      cases h
  · rintro (rfl | h)
    · exact sle_refl _
    · exact sle_of_slt h
theorem sle_trans {a b c : List Nat} (h1 : sle a b) (h2 : sle b c) : sle a c := by
  rw [sle_iff] at *
  rcases h1 with rfl | h1 <;> rcases h2 with rfl | h2
  · exact .inl rfl
  · exact .inr h2
  · exact .inr h1
  · exact .inr (slt_trans h1 h2)
theorem sle_len {a b : List Nat} (h : sle a b) : a.length ≤ b.length := by
  rw [sle_iff] at h
  rcases h with rfl | h
  · omega
  · rw [slt_iff] at h
    omega
theorem sle_snoc {a b : List Nat} {x : Nat} (h : sle a b) : sle (a ++ [x]) (b ++ [x]) := by
  rw [sle_iff] at *
  rcases h with rfl | h
  · exact .inl rfl
  · exact .inr (slt_snoc h)
theorem sle_antisymm {a b : List Nat} (h1 : sle a b) (h2 : sle b a) : a = b := by
  rw [sle_iff] at h1
  rcases h1 with h | h
  · exact h
  · unfold sle at h2
    rw [h] at h2
    cases h2
theorem slt_of_sle {a b c : List Nat} (h1 : sle a b) (h2 : slt b c = true) : slt a c = true := by
  rw [sle_iff] at h1
  rcases h1 with rfl | h1
  · exact h2
  · exact slt_trans h1 h2
/-! ### going on by the shortest rows, over any nodes -/
section
variable {α : Type} [DecidableEq α]
def runA (nx : α → Nat → α) (a : α) (r : List Nat) : α := r.foldl nx a
theorem runA_snoc (nx : α → Nat → α) (a : α) (r : List Nat) (b : Nat) : runA nx a (r ++ [b]) = nx (runA nx a r) b := by simp [runA]
theorem runA_app (nx : α → Nat → α) (a : α) (r s : List Nat) : runA nx a (r ++ s) = runA nx (runA nx a r) s := by simp [runA]
def add1 (nx : α → Nat → α) (x : α × List Nat) (b : Nat) (F : List (α × List Nat)) : List (α × List Nat) := if nx x.1 b ∈ F.map (·.1) then F else F ++ [(nx x.1 b, x.2 ++ [b])]
def addB (nx : α → Nat → α) (x : α × List Nat) : List Nat → List (α × List Nat) → List (α × List Nat)
  | [], F => F
  | b :: bs, F => addB nx x bs (add1 nx x b F)
def bfsN (nx : α → Nat → α) (k : Nat) : Nat → Nat → List (α × List Nat) → List (α × List Nat)
  | 0, _, F => F
  | n + 1, i, F => match F[i]? with
    | none => F
    | some x => bfsN nx k n (i + 1) (addB nx x (List.range k) F)
structure BI (nx : α → Nat → α) (k : Nat) (a : α) (F : List (α × List Nat)) (i b : Nat) : Prop where
  root : F[0]? = some (a, [])
  nd : (F.map (·.1)).Nodup
  ok : ∀ e ∈ F, (∀ c ∈ e.2, c < k) ∧ runA nx a e.2 = e.1
  done : ∀ (j c : Nat) e, F[j]? = some e → (j < i ∨ j = i ∧ c < b) → c < k → ∃ r, (nx e.1 c, r) ∈ F ∧ sle r (e.2 ++ [c])
  srt : F.Pairwise fun x y => slt x.2 y.2 = true
  top : ∀ e f, e ∈ F → F[i]? = some f → slt e.2 (f.2 ++ [b]) = true
  lens : ∀ (j : Nat) e, F[j]? = some e → e.2.length ≤ j
variable {nx : α → Nat → α} {k : Nat} {a : α} {F : List (α × List Nat)} {i b : Nat}
theorem BI.start : BI nx k a [(a, [])] 0 0 := ⟨rfl, by simp, fun e he => by
    rw [List.mem_singleton.mp he]
    exact ⟨by simp, rfl⟩, fun j c e h z => by omega, by simp, fun e f he hf => by
    rw [List.mem_singleton.mp he]
    cases hf
    exact slt_grow, fun j e h => by
    cases j with
    | zero => cases h; exact Nat.le_refl _
    | succ j => simp at h⟩
theorem get_app {β : Type} {l t : List β} {j : Nat} {e : β} (h : l[j]? = some e) : (l ++ t)[j]? = some e := by
  rw [List.getElem?_append_left (List.getElem?_eq_some_iff.mp h).1]
  exact h
theorem get_snoc {β : Type} {l : List β} {x e : β} {j : Nat} (h : (l ++ [x])[j]? = some e) : l[j]? = some e ∨ j = l.length ∧ e = x := by
  by_cases q : j < l.length
  · rw [List.getElem?_append_left q] at h
    exact .inl h
  · rw [List.getElem?_append_right (by omega)] at h
    have q2 : j - l.length = 0 := by
      have := (List.getElem?_eq_some_iff.mp h).1
      simp at this
      omega
    rw [q2] at h
    cases h
    exact .inr ⟨by omega, rfl⟩
theorem BI.step {x : α × List Nat} (I : BI nx k a F i b) (hx : F[i]? = some x) (hb : b < k) : BI nx k a (add1 nx x b F) i (b + 1) ∧ (add1 nx x b F)[i]? = some x := by
  have hi := (List.getElem?_eq_some_iff.mp hx).1
  have hm : x ∈ F := List.mem_of_getElem? hx
  unfold add1
  split
  · rename_i hin
    refine ⟨⟨I.root, I.nd, I.ok, fun j c e h z hc => ?_, I.srt, fun e f he hf => ?_, I.lens⟩, hx⟩
    · by_cases q : j < i ∨ j = i ∧ c < b
      · exact I.done j c e h q hc
      · have q1 : j = i ∧ c = b := by omega
        obtain ⟨rfl, rfl⟩ := q1
        rw [hx] at h
        cases h
        obtain ⟨y, hy, ey⟩ := List.mem_map.mp hin
        exact ⟨y.2, by rw [← ey]; exact hy, sle_of_slt (I.top y x hy hx)⟩
    · rw [hx] at hf
      cases hf
      exact slt_trans (I.top e x he hx) (slt_last (Nat.lt_succ_self b))
  · rename_i hin
    have hx' : (F ++ [(nx x.1 b, x.2 ++ [b])])[i]? = some x := get_app hx
    refine ⟨⟨get_app I.root, ?_, fun e he => ?_, fun j c e h z hc => ?_, ?_, fun e f he hf => ?_, fun j e h => ?_⟩, hx'⟩
    · rw [List.map_append]
      refine List.nodup_append.mpr ⟨I.nd, by simp, fun y hy z hz e => hin ?_⟩
      simp only [List.map_cons, List.map_nil, List.mem_singleton] at hz
      rw [← hz, ← e]
      exact hy
    · rcases List.mem_append.mp he with he | he
      · exact I.ok e he
      · rw [List.mem_singleton.mp he]
        obtain ⟨h1, h2⟩ := I.ok x hm
        refine ⟨fun c hc => ?_, by rw [runA_snoc, h2]⟩
        rcases List.mem_append.mp hc with hc | hc
        · exact h1 c hc
        · rw [List.mem_singleton.mp hc]; exact hb
    · rcases get_snoc h with h' | ⟨rfl, rfl⟩
      · by_cases q : j < i ∨ j = i ∧ c < b
        · obtain ⟨r, h1, h2⟩ := I.done j c e h' q hc
          exact ⟨r, List.mem_append_left _ h1, h2⟩
        · have q1 : j = i ∧ c = b := by omega
          obtain ⟨rfl, rfl⟩ := q1
          rw [hx] at h'
          cases h'
          exact ⟨_, List.mem_append_right _ (List.mem_singleton.mpr rfl), sle_refl _⟩
      · omega
    · rw [List.pairwise_append]
      refine ⟨I.srt, by simp, fun y hy z hz => ?_⟩
      rw [List.mem_singleton.mp hz]
      exact I.top y x hy hx
    · rw [hx'] at hf
      cases hf
      rcases List.mem_append.mp he with he | he
      · exact slt_trans (I.top e x he hx) (slt_last (Nat.lt_succ_self b))
      · rw [List.mem_singleton.mp he]
        exact slt_last (Nat.lt_succ_self b)
    · rcases get_snoc h with h | ⟨rfl, rfl⟩
      · exact I.lens j e h
      · have := I.lens i x hx
        simp only [List.length_append, List.length_singleton]
        omega
theorem BI.row {x : α × List Nat} : ∀ (c b : Nat) {F : List (α × List Nat)}, BI nx k a F i b → F[i]? = some x → b + c = k → BI nx k a (addB nx x (List.range' b c) F) i k ∧ (addB nx x (List.range' b c) F)[i]? = some x
  | 0, b, F, I, hx, h => by
    have : b = k := by omega
    subst this
    exact ⟨I, hx⟩
  | c + 1, b, F, I, hx, h => by
    obtain ⟨I', hx'⟩ := I.step hx (by omega)
    rw [List.range'_succ, addB]
    exact BI.row c (b + 1) I' hx' (by omega)
theorem BI.next {x : α × List Nat} (I : BI nx k a F i k) (hx : F[i]? = some x) : BI nx k a F (i + 1) 0 := by
  refine ⟨I.root, I.nd, I.ok, fun j c e h z hc => I.done j c e h (by omega) hc, I.srt, fun e f he hf => ?_, I.lens⟩
  have h1 := I.top e x he hx
  have h2 : slt x.2 f.2 = true := by
    have hl := (List.getElem?_eq_some_iff.mp hf).1
    have := List.pairwise_iff_getElem.mp I.srt i (i + 1) (by omega) hl (by omega)
    rw [(List.getElem?_eq_some_iff.mp hx).2, (List.getElem?_eq_some_iff.mp hf).2] at this
    exact this
  exact slt_trans h1 (slt_snoc h2)
/-- all that is met -/
structure Bfs (nx : α → Nat → α) (k : Nat) (a : α) (F : List (α × List Nat)) : Prop where
  root : F[0]? = some (a, [])
  nd : (F.map (·.1)).Nodup
  ok : ∀ e ∈ F, (∀ c ∈ e.2, c < k) ∧ runA nx a e.2 = e.1
  done : ∀ e ∈ F, ∀ c < k, ∃ r, (nx e.1 c, r) ∈ F ∧ sle r (e.2 ++ [c])
  srt : F.Pairwise fun x y => slt x.2 y.2 = true
  lens : ∀ (j : Nat) e, F[j]? = some e → e.2.length ≤ j
theorem nodup_sub {β : Type} [DecidableEq β] : ∀ (l u : List β), l.Nodup → (∀ x ∈ l, x ∈ u) → l.length ≤ u.length
  | [], _, _, _ => Nat.zero_le _
  | x :: l, u, hn, h => by
    rw [List.nodup_cons] at hn
    have h1 := h x (.head _)
    have a := nodup_sub l (u.erase x) hn.2 fun y hy => by
      have hne : y ≠ x := fun e => hn.1 (by rw [← e]; exact hy)
      exact (List.mem_erase_of_ne hne).mpr (h y (.tail _ hy))
    rw [List.length_erase_of_mem h1] at a
    have b := List.length_pos_of_mem h1
    simp only [List.length_cons]
    omega
theorem BI.len {u : List α} (I : BI nx k a F i b) (hu : ∀ r, (∀ c ∈ r, c < k) → runA nx a r ∈ u) : F.length ≤ u.length := by
  have := nodup_sub (F.map (·.1)) u I.nd fun x hx => by
    obtain ⟨e, he, rfl⟩ := List.mem_map.mp hx
    obtain ⟨h1, h2⟩ := I.ok e he
    rw [← h2]
    exact hu _ h1
  simpa using this
theorem bfsN_ok {u : List α} (hu : ∀ r, (∀ c ∈ r, c < k) → runA nx a r ∈ u) : ∀ (n i : Nat) (F : List (α × List Nat)), BI nx k a F i 0 → i ≤ F.length → u.length < i + n → Bfs nx k a (bfsN nx k n i F)
  | 0, i, F, I, hi, h => by
    have := I.len hu
    omega
  | n + 1, i, F, I, hi, h => by
    rw [bfsN]
    cases q : F[i]? with
    | none =>
      have hl := List.getElem?_eq_none_iff.mp q
      show Bfs nx k a F
      refine ⟨I.root, I.nd, I.ok, fun e he c hc => ?_, I.srt, I.lens⟩
      obtain ⟨j, hj⟩ := List.mem_iff_getElem?.mp he
      exact I.done j c e hj (.inl (by have := (List.getElem?_eq_some_iff.mp hj).1; omega)) hc
    | some x =>
      obtain ⟨I', hx⟩ := BI.row k 0 I q (by omega)
      rw [← List.range_eq_range'] at I' hx
      have := (List.getElem?_eq_some_iff.mp hx).1
      exact bfsN_ok hu n (i + 1) _ (I'.next hx) (by omega) (by omega)
theorem bfs_ok {u : List α} (hu : ∀ r, (∀ c ∈ r, c < k) → runA nx a r ∈ u) {n : Nat} (hn : u.length < n) : Bfs nx k a (bfsN nx k n 0 [(a, [])]) := bfsN_ok hu n 0 _ .start (by simp) (by omega)
theorem Bfs.least (B : Bfs nx k a F) : ∀ (n : Nat) (r : List Nat), r.length = n → (∀ c ∈ r, c < k) → ∃ s, (runA nx a r, s) ∈ F ∧ sle s r
  | 0, r, hl, _ => by
    have : r = [] := List.eq_nil_of_length_eq_zero hl
    subst this
    exact ⟨[], List.mem_of_getElem? B.root, sle_refl _⟩
  | n + 1, r, hl, hr => by
    obtain ⟨r', b, rfl⟩ : ∃ r' b, r = r' ++ [b] := by
      rcases List.eq_nil_or_concat r with h | ⟨r', b, h⟩
      · rw [h] at hl; cases hl
      · exact ⟨r', b, by rw [h]; simp⟩
    have hl' : r'.length = n := by simpa using hl
    obtain ⟨s, h1, h2⟩ := B.least n r' hl' fun c hc => hr c (List.mem_append_left _ hc)
    obtain ⟨t, h3, h4⟩ := B.done _ h1 b (hr b (by simp))
    exact ⟨t, by rw [runA_snoc]; exact h3, sle_trans h4 (sle_snoc h2)⟩
theorem Bfs.min (B : Bfs nx k a F) {r : List Nat} (hr : ∀ c ∈ r, c < k) : ∃ s, (runA nx a r, s) ∈ F ∧ sle s r := B.least _ r rfl hr
theorem Bfs.one (B : Bfs nx k a F) {x : α} {r s : List Nat} (h1 : (x, r) ∈ F) (h2 : (x, s) ∈ F) : r = s := by
  have nd := B.nd
  obtain ⟨i, hi⟩ := List.mem_iff_getElem?.mp h1
  obtain ⟨j, hj⟩ := List.mem_iff_getElem?.mp h2
  have a1 : (F.map (·.1))[i]? = some x := by rw [List.getElem?_map, hi]; rfl
  have a2 : (F.map (·.1))[j]? = some x := by rw [List.getElem?_map, hj]; rfl
  have e : i = j := (List.getElem?_inj (List.getElem?_eq_some_iff.mp a1).1 nd).mp (a1.trans a2.symm)
  subst e
  rw [hi] at hj
  exact congrArg Prod.snd (Option.some.inj hj)
/-- a row told is the first of all that lead there -/
theorem Bfs.first (B : Bfs nx k a F) {x : α} {r s : List Nat} (h : (x, r) ∈ F) (hs : ∀ c ∈ s, c < k) (e : runA nx a s = x) : sle r s := by
  obtain ⟨t, h1, h2⟩ := B.min hs
  rw [e] at h1
  rw [B.one h h1]
  exact h2
theorem Bfs.len {u : List α} (B : Bfs nx k a F) (hu : ∀ r, (∀ c ∈ r, c < k) → runA nx a r ∈ u) : F.length ≤ u.length := by
  have := nodup_sub (F.map (·.1)) u B.nd fun x hx => by
    obtain ⟨e, he, rfl⟩ := List.mem_map.mp hx
    obtain ⟨h1, h2⟩ := B.ok e he
    rw [← h2]
    exact hu _ h1
  simpa using this
end

/-! ### the shortest rows of a plan -/
def nxP (p : Pl) (m b : Nat) : Nat := (stepOf p m b).1
abbrev Rf := List (Nat × List Nat)
def rfE (e : Nat × List Nat) : D × D := (.int (e.1 : Nat), .lst (rowD e.2))
def rfD (F : Rf) : List (D × D) := F.map rfE
def rowsOf (p : Pl) (k m : Nat) : Rf := bfsN (nxP p) k (p.length + 1) 0 [(m, [])]
theorem runP_lt {p : Pl} {k : Nat} (w : Wf p k) : ∀ {r : List Nat} {m : Nat}, m < p.length → (∀ b ∈ r, b < k) → runA (nxP p) m r < p.length
  | [], m, h, _ => h
  | b :: r, m, h, hr => runP_lt w (r := r) (m := nxP p m b) (w.go h (hr b (.head _))) fun c hc => hr c (.tail _ hc)
theorem runP_u {p : Pl} {k m : Nat} (w : Wf p k) (hm : m < p.length) : ∀ r, (∀ c ∈ r, c < k) → runA (nxP p) m r ∈ List.range p.length := fun r hr => List.mem_range.mpr (runP_lt w hm hr)
theorem rows_bfs {p : Pl} {k m : Nat} (w : Wf p k) (hm : m < p.length) : Bfs (nxP p) k m (rowsOf p k m) := bfs_ok (runP_u w hm) (by rw [List.length_range]; omega)
theorem rf_eq (g : Nat) : ((fun kv : D × D => eqv kv.1 (.int (g : Nat))) ∘ rfE) = fun e : Nat × List Nat => e.1 == g := by
  funext e
  simp only [Function.comp, rfE, eqv]
  rw [Bool.eq_iff_iff]
  simp
  omega
theorem val_rf (F : Rf) (g : Nat) : valD (rfD F) (.int (g : Nat)) = (F.find? fun e => e.1 == g).map fun e => .lst (rowD e.2) := by
  unfold valD rfD
  rw [List.find?_map, rf_eq]
  cases F.find? fun e => e.1 == g <;> rfl
theorem find_mem {F : Rf} {g : Nat} (h : g ∈ F.map (·.1)) : ∃ r, F.find? (fun e => e.1 == g) = some (g, r) ∧ (g, r) ∈ F := by
  cases q : F.find? fun e => e.1 == g with
  | none =>
    obtain ⟨e, he, rfl⟩ := List.mem_map.mp h
    have := List.find?_eq_none.mp q e he
    simp at this
  | some e =>
    have h1 := List.find?_some q
    have h2 := List.mem_of_find?_eq_some q
    have h3 : e.1 = g := by simpa using h1
    exact ⟨e.2, by rw [← h3], by rw [← h3]; exact h2⟩
theorem find_none {F : Rf} {g : Nat} (h : ¬ g ∈ F.map (·.1)) : F.find? (fun e => e.1 == g) = none := by
  rw [List.find?_eq_none]
  intro e he q
  exact h (List.mem_map.mpr ⟨e, he, by simpa using q⟩)
theorem in_rf (F : Rf) (g : Nat) : inD (.int (g : Nat)) (.dct false (rfD F)) = some (decide (g ∈ F.map (·.1))) := by
  have e0 : inD (.int (g : Nat)) (.dct false (rfD F)) = if okKey false (.int (g : Nat)) = true then some (valD (rfD F) (.int (g : Nat))).isSome else none := rfl
  rw [e0, if_pos (show okKey false (.int (g : Nat)) = true from rfl), val_rf]
  by_cases h : g ∈ F.map (·.1)
  · obtain ⟨r, h1, _⟩ := find_mem h
    rw [h1, decide_eq_true h]
    rfl
  · rw [find_none h, decide_eq_false h]
    rfl
theorem ix_rf {F : Rf} {x : Nat × List Nat} (hn : (F.map (·.1)).Nodup) (h : x ∈ F) : ixD (.dct false (rfD F)) (.int (x.1 : Nat)) = some (.lst (rowD x.2)) ∧ ixD (.ldc false (rfD F)) (.int (x.1 : Nat)) = some (.lst (rowD x.2)) := by
  have hm : x.1 ∈ F.map (·.1) := List.mem_map.mpr ⟨x, h, rfl⟩
  obtain ⟨r, h1, h2⟩ := find_mem hm
  have er : r = x.2 := by
    obtain ⟨i, hi⟩ := List.mem_iff_getElem?.mp h
    obtain ⟨j, hj⟩ := List.mem_iff_getElem?.mp h2
    have a1 : (F.map (·.1))[i]? = some x.1 := by rw [List.getElem?_map, hi]; rfl
    have a2 : (F.map (·.1))[j]? = some x.1 := by rw [List.getElem?_map, hj]; rfl
    have e : i = j := (List.getElem?_inj (List.getElem?_eq_some_iff.mp a1).1 hn).mp (a1.trans a2.symm)
    subst e
    rw [hi] at hj
    exact (congrArg Prod.snd (Option.some.inj hj)).symm
  have v : valD (rfD F) (.int (x.1 : Nat)) = some (.lst (rowD x.2)) := by rw [val_rf, h1, er]; rfl
  have ok : okKey false (.int (x.1 : Nat)) = true := rfl
  exact ⟨by simp [ixD, ok, v], by simp [ixD, ok, v]⟩
theorem put_rf {F : Rf} {g : Nat} {r : List Nat} (h : ¬ g ∈ F.map (·.1)) : putD (rfD F) (.int (g : Nat)) (.lst (rowD r)) = rfD (F ++ [(g, r)]) := by
  unfold putD
  have : (rfD F).any (fun kv => eqv kv.1 (.int (g : Nat))) = false := by
    unfold rfD
    rw [List.any_map, rf_eq, List.any_eq_false]
    intro e he q
    exact h (List.mem_map.mpr ⟨e, he, by simpa using q⟩)
  rw [if_neg (by rw [this]; exact Bool.false_ne_true)]
  unfold rfD
  rw [List.map_append]
  rfl
theorem neD_nats (l : List Nat) : neD (.lst (natsD l)) (.lst []) = some (decide (l ≠ [])) := by
  have e : natsD l = (l.map fun n : Nat => (n : Int)).map D.int := by simp [natsD]
  have z := eqD_ints (l.map fun n : Nat => (n : Int)) []
  simp only [List.map_nil] at z
  rw [e, neD_of z]
  cases l <;> simp
theorem mo_drop {p : Pl} {k m b : Nat} (w : Wf p k) (hm : m < p.length) (hb : b < k) : (mo p m).drop b = stepOf p m b :: (mo p m).drop (b + 1) := by
  have hl : b < (mo p m).length := by rw [w.moLen hm]; exact hb
  rw [List.drop_eq_getElem_cons hl]
  congr 1
  unfold stepOf
  rw [List.getElem?_eq_getElem hl]
  rfl
theorem natsD_app (a b : List Nat) : natsD (a ++ b) = natsD a ++ natsD b := by simp [natsD]
theorem rows_in {p : Pl} {k m i : Nat} (w : Wf p k) (hm : m < p.length) {v1 : SV} {x : Nat × List Nat} : ∀ (c b : Nat) (F : Rf) (v5 v6 v7 : SV), BI (nxP p) k m F i b → F[i]? = some x → b + c = k →
    ∃ u5 u6 u7, loopF (.tp [.nm 5, .tp [.nm 6, .nm 7]]) dn_rows_from_l1 (enumF b (((mo p x.1).drop b).map stepD)) [.val (planD p), v1, .own (.dct false (rfD F)), .own (.lst (natsD ((F.map (·.1)).drop (i + 1)))), .val (.int (x.1 : Nat)), v5, v6, v7] =
      .nx [.val (planD p), v1, .own (.dct false (rfD (addB (nxP p) x (List.range' b c) F))), .own (.lst (natsD (((addB (nxP p) x (List.range' b c) F).map (·.1)).drop (i + 1)))), .val (.int (x.1 : Nat)), u5, u6, u7]
  | 0, b, F, v5, v6, v7, I, hx, h => by
    have hxm := List.mem_of_getElem? hx
    obtain ⟨h1, h2⟩ := I.ok x hxm
    have hx1 : x.1 < p.length := by rw [← h2]; exact runP_lt w hm h1
    have : (mo p x.1).drop b = [] := List.drop_eq_nil_of_le (by rw [w.moLen hx1]; omega)
    rw [this]
    exact ⟨v5, v6, v7, rfl⟩
  | c + 1, b, F, v5, v6, v7, I, hx, h => by
    have hxm := List.mem_of_getElem? hx
    obtain ⟨h1, h2⟩ := I.ok x hxm
    have hx1 : x.1 < p.length := by rw [← h2]; exact runP_lt w hm h1
    have hb : b < k := by omega
    obtain ⟨I', hx'⟩ := I.step hx hb
    have hF := I.len (runP_u w hm)
    rw [List.length_range] at hF
    have l6 := w.l6
    have hr := I.lens i x hx
    have hi := (List.getElem?_eq_some_iff.mp hx).1
    obtain ⟨u5, u6, u7, e⟩ := rows_in w hm (v1 := v1) c (b + 1) (add1 (nxP p) x b F) (.val (.int (b : Nat))) (.val (.int ((stepOf p x.1 b).1 : Nat))) (.val (.str (stepOf p x.1 b).2)) I' hx' (by omega)
    refine ⟨u5, u6, u7, ?_⟩
    rw [List.range'_succ, addB, mo_drop w hx1 hb, List.map_cons, enumF]
    have hset : tgSet (.tp [.nm 5, .tp [.nm 6, .nm 7]]) (.tup [.int (b : Nat), stepD (stepOf p x.1 b)]) [.val (planD p), v1, .own (.dct false (rfD F)), .own (.lst (natsD ((F.map (·.1)).drop (i + 1)))), .val (.int (x.1 : Nat)), v5, v6, v7] =
      some [.val (planD p), v1, .own (.dct false (rfD F)), .own (.lst (natsD ((F.map (·.1)).drop (i + 1)))), .val (.int (x.1 : Nat)), .val (.int (b : Nat)), .val (.int ((stepOf p x.1 b).1 : Nat)), .val (.str (stepOf p x.1 b).2)] := rfl
    have hbody : dn_rows_from_l1 [.val (planD p), v1, .own (.dct false (rfD F)), .own (.lst (natsD ((F.map (·.1)).drop (i + 1)))), .val (.int (x.1 : Nat)), .val (.int (b : Nat)), .val (.int ((stepOf p x.1 b).1 : Nat)), .val (.str (stepOf p x.1 b).2)] =
        .nx [.val (planD p), v1, .own (.dct false (rfD (add1 (nxP p) x b F))), .own (.lst (natsD (((add1 (nxP p) x b F).map (·.1)).drop (i + 1)))), .val (.int (x.1 : Nat)), .val (.int (b : Nat)), .val (.int ((stepOf p x.1 b).1 : Nat)), .val (.str (stepOf p x.1 b).2)] := by
      have inF := in_rf F (stepOf p x.1 b).1
      unfold add1
      by_cases hin : nxP p x.1 b ∈ F.map (·.1)
      · rw [if_pos hin]
        have n1 : ninD (.int ((stepOf p x.1 b).1 : Nat)) (.dct false (rfD F)) = some false := by unfold ninD; rw [inF, decide_eq_true (show (stepOf p x.1 b).1 ∈ F.map (·.1) from hin)]; rfl
        generalize rfD F = M at n1 ⊢
        simp [dn_rows_from_l1, R.bind, R.out, opt, sSeq, sSet, sb, sRet, sRetO, sIf, sDrop, sNext, sBrk, sCt, frz, sFrz, sAsg, sPar, sFor, sApp, sExt, ownL, tgSet, tgSets, eVar, eVarW, eC, e1, en, aNil, aCons, eOp, eCmp, cCmp, eChain, cChain, cVal, cNot, cAnd, cOr, eIf, vAnd, vOr, vNot, eTup, eLst, eCall, eCallO, eLc, wipeE, cYes, callF, atI_zero, atI_one, atI_lit, atI_nat', atI_m1, szOk, small64, atI_two, atI_three, sRaise, eIsi_of, isi_non, isi_bl, isi_int, isi_str, isi_tup, isi_lst, isD1, lenD_lst, lenD_tup, lenD_scr, ixD_lst, ixD_tup, ixD_scr, addD_ii, addD_ll, addD_tt, subD_ii, ltD_ii, leD_ii, gtD_ii, geD_ii, mulD_ii, listD_l, listD_t, tupD_l, tupD_t, negD_i, itemsD_l, itemsD_t, itemsD_s, n1]
      · rw [if_neg hin]
        have n1 : ninD (.int ((stepOf p x.1 b).1 : Nat)) (.dct false (rfD F)) = some true := by unfold ninD; rw [inF, decide_eq_false (show ¬ (stepOf p x.1 b).1 ∈ F.map (·.1) from hin)]; rfl
        have pu := put_rf (r := x.2 ++ [b]) hin
        have ix := (ix_rf I.nd hxm).1
        have z1 : (rfD F).length + 1 ≤ 16777216 := by unfold rfD; rw [List.length_map]; omega
        have ra : addD (.lst (rowD x.2)) (.lst [.int (b : Nat)]) = some (.lst (rowD (x.2 ++ [b]))) := by
          have z : szOk (x.2.length + 1) = true := szOk_of (by omega)
          simp [addD, z, rowD]
        have dr : natsD (((F ++ [(nxP p x.1 b, x.2 ++ [b])]).map (·.1)).drop (i + 1)) = natsD ((F.map (·.1)).drop (i + 1)) ++ [.int (nxP p x.1 b : Nat)] := by
          rw [List.map_append, List.drop_append_of_le_length (by rw [List.length_map]; omega), natsD_app]
          rfl
        have z2 : (natsD ((F.map (·.1)).drop (i + 1))).length + 1 ≤ 16777216 := by unfold natsD; rw [List.length_map, List.length_drop, List.length_map]; omega
        have kk : okKey false (.int (nxP p x.1 b : Nat)) = true := rfl
        rw [dr]
        have en : (stepOf p x.1 b).1 = nxP p x.1 b := rfl
        rw [en] at n1 ⊢
        generalize nxP p x.1 b = g at n1 pu kk ⊢
        generalize rfD (F ++ [(g, x.2 ++ [b])]) = M2 at pu ⊢
        generalize rfD F = M at n1 pu ix z1 ⊢
        generalize natsD ((F.map (·.1)).drop (i + 1)) = L at z2 ⊢
        simp [dn_rows_from_l1, R.bind, R.out, opt, sSeq, sSet, sb, sRet, sRetO, sIf, sDrop, sNext, sBrk, sCt, frz, sFrz, sAsg, sPar, sFor, sApp, sExt, ownL, tgSet, tgSets, eVar, eVarW, eC, e1, en, aNil, aCons, eOp, eCmp, cCmp, eChain, cChain, cVal, cNot, cAnd, cOr, eIf, vAnd, vOr, vNot, eTup, eLst, eCall, eCallO, eLc, wipeE, cYes, callF, atI_zero, atI_one, atI_lit, atI_nat', atI_m1, szOk, small64, atI_two, atI_three, sRaise, eIsi_of, isi_non, isi_bl, isi_int, isi_str, isi_tup, isi_lst, isD1, lenD_lst, lenD_tup, lenD_scr, ixD_lst, ixD_tup, ixD_scr, addD_ii, addD_ll, addD_tt, subD_ii, ltD_ii, leD_ii, gtD_ii, geD_ii, mulD_ii, listD_l, listD_t, tupD_l, tupD_t, negD_i, itemsD_l, itemsD_t, itemsD_s, sPutD, ownM, n1, ix, ra, kk, z1, pu, z2]
    rw [loopF_cons hset hbody]
    exact e
theorem rows_while {p : Pl} {k m : Nat} (w : Wf p k) (hm : m < p.length) {v1 : SV} : ∀ (n i fuel : Nat) (F : Rf) (v4 v5 v6 v7 : SV), BI (nxP p) k m F i 0 → i ≤ F.length → p.length < i + n → n ≤ fuel →
    ∃ u4 u5 u6 u7, loopW dn_rows_from_w1 dn_rows_from_l2 fuel [.val (planD p), v1, .own (.dct false (rfD F)), .own (.lst (natsD ((F.map (·.1)).drop i))), v4, v5, v6, v7] =
      .nx [.val (planD p), v1, .own (.dct false (rfD (bfsN (nxP p) k n i F))), .own (.lst []), u4, u5, u6, u7]
  | 0, i, fuel, F, v4, v5, v6, v7, I, hi, h, hf => by
    have hF := I.len (runP_u w hm)
    rw [List.length_range] at hF
    omega
  | n + 1, i, 0, F, v4, v5, v6, v7, I, hi, h, hf => by omega
  | n + 1, i, fuel + 1, F, v4, v5, v6, v7, I, hi, h, hf => by
    have ne := neD_nats ((F.map (·.1)).drop i)
    rw [loopW, bfsN]
    cases q : F[i]? with
    | none =>
      have hl := List.getElem?_eq_none_iff.mp q
      have : (F.map (·.1)).drop i = [] := List.drop_eq_nil_of_le (by rw [List.length_map]; exact hl)
      rw [this] at ne ⊢
      have n0 : natsD [] = [] := rfl
      rw [n0] at ne ⊢
      simp only [ne_eq, not_true_eq_false, decide_false] at ne
      refine ⟨v4, v5, v6, v7, ?_⟩
      simp [dn_rows_from_w1, R.bind, R.out, opt, sSeq, sSet, sb, sRet, sRetO, sIf, sDrop, sNext, sBrk, sCt, frz, sFrz, sAsg, sPar, sFor, sApp, sExt, ownL, tgSet, tgSets, eVar, eVarW, eC, e1, en, aNil, aCons, eOp, eCmp, cCmp, eChain, cChain, cVal, cNot, cAnd, cOr, eIf, vAnd, vOr, vNot, eTup, eLst, eCall, eCallO, eLc, wipeE, cYes, callF, atI_zero, atI_one, atI_lit, atI_nat', atI_m1, szOk, small64, atI_two, atI_three, sRaise, eIsi_of, isi_non, isi_bl, isi_int, isi_str, isi_tup, isi_lst, isD1, lenD_lst, lenD_tup, lenD_scr, ixD_lst, ixD_tup, ixD_scr, addD_ii, addD_ll, addD_tt, subD_ii, ltD_ii, leD_ii, gtD_ii, geD_ii, mulD_ii, listD_l, listD_t, tupD_l, tupD_t, negD_i, itemsD_l, itemsD_t, itemsD_s, ne]
    | some x =>
      have hi' := (List.getElem?_eq_some_iff.mp q).1
      have hxm := List.mem_of_getElem? q
      obtain ⟨h1, h2⟩ := I.ok x hxm
      have hx1 : x.1 < p.length := by rw [← h2]; exact runP_lt w hm h1
      have hd : (F.map (·.1)).drop i = x.1 :: (F.map (·.1)).drop (i + 1) := by
        rw [List.drop_eq_getElem_cons (by rw [List.length_map]; exact hi')]
        congr 1
        rw [List.getElem_map, (List.getElem?_eq_some_iff.mp q).2]
      rw [hd] at ne ⊢
      simp only [ne_eq, reduceCtorEq, not_false_eq_true, decide_true] at ne
      obtain ⟨u5, u6, u7, e⟩ := rows_in w hm (v1 := v1) k 0 F v5 v6 v7 I q (by omega)
      obtain ⟨I', hx⟩ := BI.row k 0 I q (by omega)
      have hlen := (List.getElem?_eq_some_iff.mp hx).1
      rw [← List.range_eq_range'] at e I' hx hlen
      obtain ⟨w4, w5, w6, w7, e2⟩ := rows_while w hm (v1 := v1) n (i + 1) fuel (addB (nxP p) x (List.range k) F) (.val (.int (x.1 : Nat))) u5 u6 u7 (I'.next hx) hlen (by omega) (by omega)
      refine ⟨w4, w5, w6, w7, ?_⟩
      rw [List.drop_zero] at e
      have en : enumAD [modeD (mo p x.1)] = some (enumF 0 ((mo p x.1).map stepD)) := rfl
      have hw : dn_rows_from_w1 [.val (planD p), v1, .own (.dct false (rfD F)), .own (.lst (natsD (x.1 :: (F.map (·.1)).drop (i + 1)))), v4, v5, v6, v7] = .ok true := by
        generalize rfD F = M
        generalize natsD (x.1 :: (F.map (·.1)).drop (i + 1)) = L at ne
        simp [dn_rows_from_w1, R.bind, R.out, opt, sSeq, sSet, sb, sRet, sRetO, sIf, sDrop, sNext, sBrk, sCt, frz, sFrz, sAsg, sPar, sFor, sApp, sExt, ownL, tgSet, tgSets, eVar, eVarW, eC, e1, en, aNil, aCons, eOp, eCmp, cCmp, eChain, cChain, cVal, cNot, cAnd, cOr, eIf, vAnd, vOr, vNot, eTup, eLst, eCall, eCallO, eLc, wipeE, cYes, callF, atI_zero, atI_one, atI_lit, atI_nat', atI_m1, szOk, small64, atI_two, atI_three, sRaise, eIsi_of, isi_non, isi_bl, isi_int, isi_str, isi_tup, isi_lst, isD1, lenD_lst, lenD_tup, lenD_scr, ixD_lst, ixD_tup, ixD_scr, addD_ii, addD_ll, addD_tt, subD_ii, ltD_ii, leD_ii, gtD_ii, geD_ii, mulD_ii, listD_l, listD_t, tupD_l, tupD_t, negD_i, itemsD_l, itemsD_t, itemsD_s, ne]
      have hbody : dn_rows_from_l2 [.val (planD p), v1, .own (.dct false (rfD F)), .own (.lst (natsD (x.1 :: (F.map (·.1)).drop (i + 1)))), v4, v5, v6, v7] =
          .nx [.val (planD p), v1, .own (.dct false (rfD (addB (nxP p) x (List.range k) F))), .own (.lst (natsD (((addB (nxP p) x (List.range k) F).map (·.1)).drop (i + 1)))), .val (.int (x.1 : Nat)), u5, u6, u7] := by
        have nc : natsD (x.1 :: (F.map (·.1)).drop (i + 1)) = .int (x.1 : Nat) :: natsD ((F.map (·.1)).drop (i + 1)) := rfl
        rw [nc]
        have ixn : ∀ n : Nat, ixN (n + 1) 0 = some 0 := fun n => by
          unfold ixN
          rw [if_pos (by omega), if_pos (by omega)]
          rfl
        generalize rfD (addB (nxP p) x (List.range k) F) = M2 at e ⊢
        generalize natsD (((addB (nxP p) x (List.range k) F).map (·.1)).drop (i + 1)) = L2 at e ⊢
        generalize rfD F = M at e ⊢
        generalize natsD ((F.map (·.1)).drop (i + 1)) = L at e ⊢
        simp [dn_rows_from_l2, R.bind, R.out, opt, sSeq, sSet, sb, sRet, sRetO, sIf, sDrop, sNext, sBrk, sCt, frz, sFrz, sAsg, sPar, sFor, sApp, sExt, ownL, tgSet, tgSets, eVar, eVarW, eC, e1, en, aNil, aCons, eOp, eCmp, cCmp, eChain, cChain, cVal, cNot, cAnd, cOr, eIf, vAnd, vOr, vNot, eTup, eLst, eCall, eCallO, eLc, wipeE, cYes, callF, atI_zero, atI_one, atI_lit, atI_nat', atI_m1, szOk, small64, atI_two, atI_three, sRaise, eIsi_of, isi_non, isi_bl, isi_int, isi_str, isi_tup, isi_lst, isD1, lenD_lst, lenD_tup, lenD_scr, ixD_lst, ixD_tup, ixD_scr, addD_ii, addD_ll, addD_tt, subD_ii, ltD_ii, leD_ii, gtD_ii, geD_ii, mulD_ii, listD_l, listD_t, tupD_l, tupD_t, negD_i, itemsD_l, itemsD_t, itemsD_s, sPopAt, ixn, ix_plan hx1, en, e]
      rw [hw]
      simp only [R.out_ok, if_true, hbody]
      exact e2
theorem F_rowsfrom {p : Pl} {k m : Nat} (w : Wf p k) (hm : m < p.length) : F_rows_from [planD p, .int (m : Nat)] = .ok (true, .dct false (rfD (rowsOf p k m))) := by
  obtain ⟨u4, u5, u6, u7, e⟩ := rows_while w hm (v1 := .val (.int (m : Nat))) (p.length + 1) 0 100000 [(m, [])] .no .no .no .no .start (by simp) (by omega) (by have := w.l6; omega)
  have h0 : natsD ((([(m, [])] : Rf).map (·.1)).drop 0) = [.int (m : Nat)] := rfl
  have h1 : rfD [(m, [])] = [(.int (m : Nat), .lst [])] := rfl
  rw [h0, h1] at e
  have kk : okKey false (.int (m : Nat)) = true := rfl
  have e' : loopW dn_rows_from_w1 dn_rows_from_l2 100000 [.val (planD p), .val (.int (m : Nat)), .own (.dct false [(.int (m : Nat), .lst [])]), .own (.lst [.int (m : Nat)]), .no, .no, .no, .no] = .nx [.val (planD p), .val (.int (m : Nat)), .own (.dct false (rfD (rowsOf p k m))), .own (.lst []), u4, u5, u6, u7] := e
  generalize rfD (rowsOf p k m) = M at e' ⊢
  simp [F_rows_from, dn_rows_from, R.bind, R.out, opt, sSeq, sSet, sb, sRet, sRetO, sIf, sDrop, sNext, sBrk, sCt, frz, sFrz, sAsg, sPar, sFor, sApp, sExt, ownL, tgSet, tgSets, eVar, eVarW, eC, e1, en, aNil, aCons, eOp, eCmp, cCmp, eChain, cChain, cVal, cNot, cAnd, cOr, eIf, vAnd, vOr, vNot, eTup, eLst, eCall, eCallO, eLc, wipeE, cYes, callF, atI_zero, atI_one, atI_lit, atI_nat', atI_m1, szOk, small64, atI_two, atI_three, sRaise, eIsi_of, isi_non, isi_bl, isi_int, isi_str, isi_tup, isi_lst, isD1, lenD_lst, lenD_tup, lenD_scr, ixD_lst, ixD_tup, ixD_scr, addD_ii, addD_ll, addD_tt, subD_ii, ltD_ii, leD_ii, gtD_ii, geD_ii, mulD_ii, listD_l, listD_t, tupD_l, tupD_t, negD_i, itemsD_l, itemsD_t, itemsD_s, eDisp1, kk, sWhile, e']
/-! ### ways -/
def wayOf (p : Pl) (k m g : Nat) : Option (List Nat) := ((rowsOf p k m).find? fun e => e.1 == g).map (·.2)
def wayD : Option (List Nat) → D
  | none => .non
  | some r => .lst (rowD r)
theorem way_some {p : Pl} {k m g : Nat} {r : List Nat} (w : Wf p k) (hm : m < p.length) (h : wayOf p k m g = some r) : (g, r) ∈ rowsOf p k m ∧ (∀ c ∈ r, c < k) ∧ runA (nxP p) m r = g ∧ r.length < p.length := by
  have B := rows_bfs w hm
  unfold wayOf at h
  cases q : (rowsOf p k m).find? fun e => e.1 == g with
  | none => rw [q] at h; cases h
  | some e =>
    rw [q] at h
    simp only [Option.map_some, Option.some.injEq] at h
    subst h
    have h1 : e.1 = g := by simpa using List.find?_some q
    have h2 := List.mem_of_find?_eq_some q
    obtain ⟨h3, h4⟩ := B.ok e h2
    obtain ⟨j, hj⟩ := List.mem_iff_getElem?.mp h2
    have h5 := B.lens j e hj
    have h6 := (List.getElem?_eq_some_iff.mp hj).1
    have h7 := B.len (runP_u w hm)
    rw [List.length_range] at h7
    exact ⟨by rw [← h1]; exact h2, h3, by rw [h4, h1], by omega⟩
theorem way_none {p : Pl} {k m g : Nat} (w : Wf p k) (hm : m < p.length) (h : wayOf p k m g = none) : ¬ g ∈ (rowsOf p k m).map (·.1) := by
  intro hin
  obtain ⟨r, h1, _⟩ := find_mem hin
  unfold wayOf at h
  rw [h1] at h
  cases h
theorem way_in {p : Pl} {k m g : Nat} (h : g ∈ (rowsOf p k m).map (·.1)) : ∃ r, wayOf p k m g = some r := by
  obtain ⟨r, h1, _⟩ := find_mem h
  exact ⟨r, by unfold wayOf; rw [h1]; rfl⟩
theorem F_waybetween {p : Pl} {k m g : Nat} (w : Wf p k) (hm : m < p.length) : F_way_between [planD p, .int (m : Nat), .int (g : Nat)] = .ok (false, wayD (wayOf p k m g)) := by
  have v := val_rf (rowsOf p k m) g
  have kk : okKey false (.int (g : Nat)) = true := rfl
  have e : (valD (rfD (rowsOf p k m)) (.int (g : Nat))).getD .non = wayD (wayOf p k m g) := by
    rw [v]
    unfold wayOf
    cases (rowsOf p k m).find? fun e => e.1 == g <;> rfl
  have fr := F_rowsfrom w hm
  generalize rfD (rowsOf p k m) = M at e fr
  simp [F_way_between, dn_way_between, R.bind, R.out, opt, sSeq, sSet, sb, sRet, sRetO, sIf, sDrop, sNext, sBrk, sCt, frz, sFrz, sAsg, sPar, sFor, sApp, sExt, ownL, tgSet, tgSets, eVar, eVarW, eC, e1, en, aNil, aCons, eOp, eCmp, cCmp, eChain, cChain, cVal, cNot, cAnd, cOr, eIf, vAnd, vOr, vNot, eTup, eLst, eCall, eCallO, eLc, wipeE, cYes, callF, atI_zero, atI_one, atI_lit, atI_nat', atI_m1, szOk, small64, atI_two, atI_three, sRaise, eIsi_of, isi_non, isi_bl, isi_int, isi_str, isi_tup, isi_lst, isD1, lenD_lst, lenD_tup, lenD_scr, ixD_lst, ixD_tup, ixD_scr, addD_ii, addD_ll, addD_tt, subD_ii, ltD_ii, leD_ii, gtD_ii, geD_ii, mulD_ii, listD_l, listD_t, tupD_l, tupD_t, negD_i, itemsD_l, itemsD_t, itemsD_s, fr, eGet1, kk, e]

theorem F_lookmode_ok {p : Pl} {m : Nat} (h : m < p.length) : F_look_mode [planD p, .int m] = .ok (false, .non) := by
  have a1 : (m : Int) ≤ (p.length : Int) - 1 := by omega
  simp [F_look_mode, dn_look_mode, R.bind, R.out, opt, sSeq, sSet, sb, sRet, sRetO, sIf, sDrop, sNext, sBrk, sCt, frz, sFrz, sAsg, sPar, sFor, sApp, sExt, ownL, tgSet, tgSets, eVar, eVarW, eC, e1, en, aNil, aCons, eOp, eCmp, cCmp, eChain, cChain, cVal, cNot, cAnd, cOr, eIf, vAnd, vOr, vNot, eTup, eLst, eCall, eCallO, eLc, wipeE, cYes, callF, atI_zero, atI_one, atI_lit, atI_nat', atI_m1, szOk, small64, atI_two, atI_three, sRaise, eIsi_of, isi_non, isi_bl, isi_int, isi_str, isi_tup, isi_lst, isD1, lenD_lst, lenD_tup, lenD_scr, ixD_lst, ixD_tup, ixD_scr, addD_ii, addD_ll, addD_tt, subD_ii, ltD_ii, leD_ii, gtD_ii, geD_ii, mulD_ii, listD_l, listD_t, tupD_l, tupD_t, negD_i, itemsD_l, itemsD_t, itemsD_s, len_plan, F_whole, a1]
theorem F_lookmode_bad {p : Pl} {x : D} (h : F_is_whole [x, .int 0, .int ((p.length : Int) - 1)] = .ok (false, .bl false)) : F_look_mode [planD p, x] = .exc "NoMode" := by
  simp [F_look_mode, dn_look_mode, R.bind, R.out, opt, sSeq, sSet, sb, sRet, sRetO, sIf, sDrop, sNext, sBrk, sCt, frz, sFrz, sAsg, sPar, sFor, sApp, sExt, ownL, tgSet, tgSets, eVar, eVarW, eC, e1, en, aNil, aCons, eOp, eCmp, cCmp, eChain, cChain, cVal, cNot, cAnd, cOr, eIf, vAnd, vOr, vNot, eTup, eLst, eCall, eCallO, eLc, wipeE, cYes, callF, atI_zero, atI_one, atI_lit, atI_nat', atI_m1, szOk, small64, atI_two, atI_three, sRaise, eIsi_of, isi_non, isi_bl, isi_int, isi_str, isi_tup, isi_lst, isD1, lenD_lst, lenD_tup, lenD_scr, ixD_lst, ixD_tup, ixD_scr, addD_ii, addD_ll, addD_tt, subD_ii, ltD_ii, leD_ii, gtD_ii, geD_ii, mulD_ii, listD_l, listD_t, tupD_l, tupD_t, negD_i, itemsD_l, itemsD_t, itemsD_s, len_plan, h]
theorem F_wayto {p : Pl} {k m g : Nat} (w : Wf p k) (hm : m < p.length) (hg : g < p.length) : F_way_to [planD p, .int (m : Nat), .int (g : Nat)] = .ok (false, wayD (wayOf p k m g)) := by
  simp [F_way_to, dn_way_to, R.bind, R.out, opt, sSeq, sSet, sb, sRet, sRetO, sIf, sDrop, sNext, sBrk, sCt, frz, sFrz, sAsg, sPar, sFor, sApp, sExt, ownL, tgSet, tgSets, eVar, eVarW, eC, e1, en, aNil, aCons, eOp, eCmp, cCmp, eChain, cChain, cVal, cNot, cAnd, cOr, eIf, vAnd, vOr, vNot, eTup, eLst, eCall, eCallO, eLc, wipeE, cYes, callF, atI_zero, atI_one, atI_lit, atI_nat', atI_m1, szOk, small64, atI_two, atI_three, sRaise, eIsi_of, isi_non, isi_bl, isi_int, isi_str, isi_tup, isi_lst, isD1, lenD_lst, lenD_tup, lenD_scr, ixD_lst, ixD_tup, ixD_scr, addD_ii, addD_ll, addD_tt, subD_ii, ltD_ii, leD_ii, gtD_ii, geD_ii, mulD_ii, listD_l, listD_t, tupD_l, tupD_t, negD_i, itemsD_l, itemsD_t, itemsD_s, F_lookplan w, F_lookmode_ok hm, F_lookmode_ok hg, F_waybetween w hm]

/-! ### the shortest rows to a deed -/
/-- the rows that do it last, as they are found -/
def cands (p : Pl) (k m : Nat) (d : Str) : List (List Nat) := (rowsOf p k m).flatMap fun e => ((List.range' 0 k).filter fun b => decide ((stepOf p e.1 b).2 = d)).map fun b => e.2 ++ [b]
def minR (r : List Nat) (rs : List (List Nat)) : List Nat := rs.foldl (fun a y => if slt y a then y else a) r
def dwayOf (p : Pl) (k m : Nat) (d : Str) : Option (List Nat) := match cands p k m d with
  | [] => none
  | r :: rs => some (minR r rs)
theorem minR_mem : ∀ (rs : List (List Nat)) (r : List Nat), minR r rs ∈ r :: rs
  | [], r => List.mem_singleton.mpr rfl
  | y :: rs, r => by
    have ih := minR_mem rs (if slt y r then y else r)
    unfold minR at ih ⊢
    rw [List.foldl_cons]
    rcases List.mem_cons.mp ih with h | h
    · rw [h]
      split
      · exact .tail _ (.head _)
      · exact .head _
    · exact .tail _ (.tail _ h)
theorem minR_le : ∀ (rs : List (List Nat)) (r : List Nat), sle (minR r rs) r ∧ ∀ s ∈ rs, sle (minR r rs) s
  | [], r => ⟨sle_refl _, fun _ h => nomatch h⟩
  | y :: rs, r => by
    obtain ⟨h1, h2⟩ := minR_le rs (if slt y r then y else r)
    have e : minR r (y :: rs) = minR (if slt y r then y else r) rs := by unfold minR; rw [List.foldl_cons]
    rw [e]
    have a1 : sle (if slt y r then y else r) r := by
      split
      · exact sle_of_slt ‹_›
      · exact sle_refl _
    have a2 : sle (if slt y r then y else r) y := by
      split
      · exact sle_refl _
      · rename_i h
        unfold sle
        exact Bool.eq_false_iff.mpr h
    refine ⟨sle_trans h1 a1, fun s hs => ?_⟩
    rcases List.mem_cons.mp hs with rfl | hs
    · exact sle_trans h1 a2
    · exact h2 s hs
theorem cands_mem {p : Pl} {k m : Nat} {d : Str} {r : List Nat} : r ∈ cands p k m d ↔ ∃ e ∈ rowsOf p k m, ∃ b < k, (stepOf p e.1 b).2 = d ∧ r = e.2 ++ [b] := by
  unfold cands
  rw [List.mem_flatMap]
  constructor
  · rintro ⟨e, he, h⟩
    obtain ⟨b, hb, rfl⟩ := List.mem_map.mp h
    obtain ⟨h1, h2⟩ := List.mem_filter.mp hb
    exact ⟨e, he, b, by rw [List.mem_range'_1] at h1; omega, by simpa using h2, rfl⟩
  · rintro ⟨e, he, b, hb, h1, rfl⟩
    exact ⟨e, he, List.mem_map.mpr ⟨b, List.mem_filter.mpr ⟨by rw [List.mem_range'_1]; omega, by simpa using h1⟩, rfl⟩⟩
/-- a row told for a deed: it does it last, and no earlier one does -/
theorem dway_some {p : Pl} {k m : Nat} {d : Str} {r : List Nat} (w : Wf p k) (hm : m < p.length) (h : dwayOf p k m d = some r) :
    (∃ s b, r = s ++ [b] ∧ (∀ c ∈ s, c < k) ∧ b < k ∧ s.length < p.length ∧ (stepOf p (runA (nxP p) m s) b).2 = d) ∧ ∀ t c, (∀ x ∈ t, x < k) → c < k → (stepOf p (runA (nxP p) m t) c).2 = d → sle r (t ++ [c]) := by
  have B := rows_bfs w hm
  have hr : r ∈ cands p k m d ∧ ∀ s ∈ cands p k m d, sle r s := by
    unfold dwayOf at h
    split at h
    · cases h
    · rename_i r0 rs q
      cases h
      rw [q]
      refine ⟨minR_mem rs r0, fun s hs => ?_⟩
      obtain ⟨a1, a2⟩ := minR_le rs r0
      rcases List.mem_cons.mp hs with rfl | hs
      · exact a1
      · exact a2 s hs
  obtain ⟨e, he, b, hb, h1, rfl⟩ := cands_mem.mp hr.1
  obtain ⟨h2, h3⟩ := B.ok e he
  refine ⟨⟨e.2, b, rfl, h2, hb, ?_, by rw [h3]; exact h1⟩, fun t c ht hc hd => ?_⟩
  · obtain ⟨j, hj⟩ := List.mem_iff_getElem?.mp he
    have h5 := B.lens j e hj
    have h6 := (List.getElem?_eq_some_iff.mp hj).1
    have h7 := B.len (runP_u w hm)
    rw [List.length_range] at h7
    omega
  · obtain ⟨s, h4, h5⟩ := B.min ht
    have h6 := hr.2 (s ++ [c]) (cands_mem.mpr ⟨_, h4, c, hc, hd, rfl⟩)
    exact sle_trans h6 (sle_snoc h5)
theorem dway_none {p : Pl} {k m : Nat} {d : Str} (w : Wf p k) (hm : m < p.length) (h : dwayOf p k m d = none) {t : List Nat} {c : Nat} (ht : ∀ x ∈ t, x < k) (hc : c < k) : (stepOf p (runA (nxP p) m t) c).2 ≠ d := fun hd => by
  have B := rows_bfs w hm
  unfold dwayOf at h
  split at h
  · rename_i q
    obtain ⟨s, h4, h5⟩ := B.min ht
    have h6 : s ++ [c] ∈ cands p k m d := cands_mem.mpr ⟨_, h4, c, hc, hd, rfl⟩
    rw [q] at h6
    cases h6
  · cases h
/-! ### the code -/
def cdD (r : List Nat) : D := .tup [.int ((r.length - 1 : Nat) : Int), .lst (rowD r)]
theorem ints_lt : ∀ a b : List Nat, decide ((a.map fun n : Nat => (n : Int)) < b.map fun n : Nat => (n : Int)) = lexL a b
  | [], [] => by simp [lexL]
  | [], _ :: _ => by simp [lexL]
  | _ :: _, [] => by simp [lexL]
  | a :: l, b :: m => by
    have ih := ints_lt l m
    simp only [List.map_cons, List.cons_lt_cons_iff, lexL]
    rw [← ih]
    have z : decide ((a : Int) = (b : Int)) = decide (a = b) := by rw [decide_eq_decide]; omega
    simp [z]
theorem eqv_rows (a b : List Nat) : eqv (.lst (rowD a)) (.lst (rowD b)) = decide (a = b) := by
  have ha : rowD a = (a.map fun n : Nat => (n : Int)).map D.int := by simp [rowD]
  have hb : rowD b = (b.map fun n : Nat => (n : Int)).map D.int := by simp [rowD]
  rw [eqv, ha, hb, eqv_ints]
  congr 1
  rw [eq_iff_iff]
  constructor
  · intro e
    have := congrArg (List.map Int.toNat) e
    simpa [Function.comp_def] using this
  · rintro rfl; rfl
theorem toPys_row (a : List Nat) : toPys (rowD a) = (a.map fun n : Nat => (n : Int)).map PyData.int := by
  rw [toPys_map, rowD]
  simp [toPy]
theorem alike_row (a b : List Nat) : PySem.W.alikeAll (toPys (rowD a)) (toPys (rowD b)) = true := by
  rw [toPys_row, toPys_row]
  exact PySem.W.alike_ints _ _
theorem lt_cd {a b : List Nat} (ha : a ≠ []) (hb : b ≠ []) : PySem.W.dataLt (toPy (cdD a)) (toPy (cdD b)) = slt a b := by
  have h1 : 1 ≤ a.length := List.length_pos_iff.mpr ha
  have h2 : 1 ≤ b.length := List.length_pos_iff.mpr hb
  simp only [cdD, toPy, toPys]
  rw [PySem.W.dataLt_pair (by simp [PySem.W.alike]) (by rw [PySem.W.alike]; exact alike_row a b)]
  have e1' : PyData.eqv (.int ((a.length - 1 : Nat) : Int)) (.int ((b.length - 1 : Nat) : Int)) = decide (a.length = b.length) := by
    simp only [PyData.eqv]
    rw [Bool.eq_iff_iff]
    simp
    omega
  have e2' : PyData.eqv (.list (toPys (rowD a))) (.list (toPys (rowD b))) = decide (a = b) := by
    have := eqv_py (.lst (rowD a)) (.lst (rowD b)) 1 1 (by rw [okD_l, rowD]; simp [okD]) (by rw [okD_l, rowD]; simp [okD])
    simp only [toPy] at this
    rw [this, eqv_rows]
  have e3 : PySem.W.dataLt (.list (toPys (rowD a))) (.list (toPys (rowD b))) = lexL a b := by
    rw [PySem.W.dataLt_list]
    show PySem.W.rowLt (toPys (rowD a)) (toPys (rowD b)) = _
    rw [toPys_row, toPys_row, PySem.W.dataLt_ints, ints_lt]
  rw [e1', e2', e3, PySem.W.dataLt_int]
  unfold slt
  by_cases h : a.length = b.length
  · rw [if_pos (by simpa using h)]
    have n1 : ¬ a.length < b.length := by omega
    by_cases h3 : a = b
    · subst h3
      simp [lexL_irr]
    · simp [h3, h]
  · rw [if_neg (by simpa using h)]
    have : (((a.length - 1 : Nat) : Int) < ((b.length - 1 : Nat) : Int)) ↔ a.length < b.length := by omega
    simp [h, this]
theorem minF_cd : ∀ (rs : List (List Nat)) (r : List Nat), r ≠ [] → (∀ s ∈ rs, s ≠ []) → minF (cdD r) (rs.map cdD) = cdD (minR r rs)
  | [], r, _, _ => rfl
  | y :: rs, r, hr, h => by
    have hy := h y (.head _)
    have e := lt_cd hy hr
    have e1' : minF (cdD r) ((y :: rs).map cdD) = minF (if slt y r then cdD y else cdD r) (rs.map cdD) := by
      unfold minF
      rw [List.map_cons, List.foldl_cons, e]
    have e2' : minR r (y :: rs) = minR (if slt y r then y else r) rs := by unfold minR; rw [List.foldl_cons]
    have e3 : (if slt y r then cdD y else cdD r) = cdD (if slt y r then y else r) := by split <;> rfl
    rw [e1', e2', e3]
    refine minF_cd rs _ ?_ fun s hs => h s (.tail _ hs)
    split
    · exact hy
    · exact hr
theorem ordOk_cd (rs : List (List Nat)) : ordOk (rs.map cdD) = true := by
  unfold ordOk
  rw [Bool.and_eq_true, Bool.and_eq_true]
  refine ⟨⟨?_, ?_⟩, ?_⟩ <;> rw [List.all_eq_true] <;> intro x hx <;> obtain ⟨r, _, rfl⟩ := List.mem_map.mp hx
  · unfold cdD
    simp [okD, rowD]
  · rw [List.all_eq_true]
    intro y hy
    obtain ⟨s, _, rfl⟩ := List.mem_map.mp hy
    simp only [cdD, toPy, toPys, PySem.W.alike, PySem.W.alikeAll, Bool.true_and, Bool.and_true]
    exact alike_row r s
  · rfl
theorem cands_ne {p : Pl} {k m : Nat} {d : Str} : ∀ r ∈ cands p k m d, r ≠ [] := fun r hr => by
  obtain ⟨e, _, b, _, _, rfl⟩ := cands_mem.mp hr
  simp
theorem min_cands {p : Pl} {k m : Nat} {d : Str} {r : List Nat} (h : dwayOf p k m d = some r) : minLD (.lst ((cands p k m d).map cdD)) = some (cdD r) := by
  unfold dwayOf at h
  split at h
  · cases h
  · rename_i r0 rs q
    cases h
    have ne := cands_ne (p := p) (k := k) (m := m) (d := d)
    rw [q] at ne
    have ok := ordOk_cd (r0 :: rs)
    rw [q, List.map_cons]
    rw [List.map_cons] at ok
    unfold minLD
    simp only
    rw [if_pos ok, minF_cd rs r0 (ne _ (.head _)) fun s hs => ne s (.tail _ hs)]
theorem okk_str {x : Str} (h : PyData.strOk x = true) : okD 16 (.str x) = true := h
theorem eqD_str {x y : Str} (hx : PyData.strOk x = true) (hy : PyData.strOk y = true) : eqD (.str x) (.str y) = some (decide (x = y)) := by
  rw [eqD_of (okk_str hx) (okk_str hy)]
  simp only [eqv]
  congr 1
theorem dd_ok7 : ∀ x ∈ deeds7, PyData.strOk x = true := by decide +kernel
theorem dway_in {p : Pl} {k : Nat} {d : Str} (w : Wf p k) (hd : PyData.strOk d = true) (hde : d ≠ "") {v1 : SV} {F : Rf} {e : Nat × List Nat} (he : e ∈ F) (hn : (F.map (·.1)).Nodup) (hm : e.1 < p.length) (hl : e.2.length ≤ 100) : ∀ (c b : Nat) (acc : List (List Nat)) (v6 v7 v8 : SV), b + c = k → acc.length + c ≤ 1000 →
    ∃ u6 u7 u8, loopF (.tp [.nm 6, .tp [.nm 7, .nm 8]]) dn_way_for_l1 (enumF b (((mo p e.1).drop b).map stepD)) [.val (planD p), v1, .val (.str d), .val (.ldc false (rfD F)), .own (.lst (acc.map cdD)), .val (.int (e.1 : Nat)), v6, v7, v8] =
      .nx [.val (planD p), v1, .val (.str d), .val (.ldc false (rfD F)), .own (.lst ((acc ++ ((List.range' b c).filter fun b => decide ((stepOf p e.1 b).2 = d)).map fun b => e.2 ++ [b]).map cdD)), .val (.int (e.1 : Nat)), u6, u7, u8]
  | 0, b, acc, v6, v7, v8, h, _ => by
    have : (mo p e.1).drop b = [] := List.drop_eq_nil_of_le (by rw [w.moLen hm]; omega)
    rw [this]
    exact ⟨v6, v7, v8, by simp [enumF, loopF]⟩
  | c + 1, b, acc, v6, v7, v8, h, hz => by
    have hb : b < k := by omega
    have ix := (ix_rf hn he).2
    have q1 := eqD_str (dd_ok7 _ (w.dd hm hb)) hd
    have q2 : neD (.str (stepOf p e.1 b).2) (.str "") = some (!decide ((stepOf p e.1 b).2 = "")) := by rw [neD_of (eqD_str (dd_ok7 _ (w.dd hm hb)) (by decide +kernel))]
    rw [mo_drop w hm hb, List.map_cons, enumF, List.range'_succ, List.filter_cons]
    have hset : tgSet (.tp [.nm 6, .tp [.nm 7, .nm 8]]) (.tup [.int (b : Nat), stepD (stepOf p e.1 b)]) [.val (planD p), v1, .val (.str d), .val (.ldc false (rfD F)), .own (.lst (acc.map cdD)), .val (.int (e.1 : Nat)), v6, v7, v8] =
      some [.val (planD p), v1, .val (.str d), .val (.ldc false (rfD F)), .own (.lst (acc.map cdD)), .val (.int (e.1 : Nat)), .val (.int (b : Nat)), .val (.int ((stepOf p e.1 b).1 : Nat)), .val (.str (stepOf p e.1 b).2)] := rfl
    by_cases hdd : (stepOf p e.1 b).2 = d
    · obtain ⟨u6, u7, u8, e'⟩ := dway_in w hd hde (v1 := v1) he hn hm hl c (b + 1) (acc ++ [e.2 ++ [b]]) (.val (.int (b : Nat))) (.val (.int ((stepOf p e.1 b).1 : Nat))) (.val (.str (stepOf p e.1 b).2)) (by omega) (by simp; omega)
      refine ⟨u6, u7, u8, ?_⟩
      rw [if_pos (by simpa using hdd)]
      have ra : addD (.lst (rowD e.2)) (.lst [.int (b : Nat)]) = some (.lst (rowD (e.2 ++ [b]))) := by
        have z : szOk (e.2.length + 1) = true := szOk_of (by omega)
        simp [addD, z, rowD]
      have le : lenD (.lst (rowD e.2)) = some (.int (e.2.length : Nat)) := by simp [lenD, rowD]
      have cd : (.tup [.int (e.2.length : Nat), .lst (rowD (e.2 ++ [b]))] : D) = cdD (e.2 ++ [b]) := by simp [cdD]
      have am : (acc ++ [e.2 ++ [b]]).map cdD = acc.map cdD ++ [cdD (e.2 ++ [b])] := by simp
      have z : (acc.map cdD).length + 1 ≤ 16777216 := by rw [List.length_map]; omega
      have hbody : dn_way_for_l1 [.val (planD p), v1, .val (.str d), .val (.ldc false (rfD F)), .own (.lst (acc.map cdD)), .val (.int (e.1 : Nat)), .val (.int (b : Nat)), .val (.int ((stepOf p e.1 b).1 : Nat)), .val (.str (stepOf p e.1 b).2)] =
          .nx [.val (planD p), v1, .val (.str d), .val (.ldc false (rfD F)), .own (.lst ((acc ++ [e.2 ++ [b]]).map cdD)), .val (.int (e.1 : Nat)), .val (.int (b : Nat)), .val (.int ((stepOf p e.1 b).1 : Nat)), .val (.str (stepOf p e.1 b).2)] := by
        rw [am]
        rw [hdd] at q1 q2 ⊢
        generalize acc.map cdD = A at z ⊢
        generalize rfD F = M at ix ⊢
        simp [dn_way_for_l1, R.bind, R.out, opt, sSeq, sSet, sb, sRet, sRetO, sIf, sDrop, sNext, sBrk, sCt, frz, sFrz, sAsg, sPar, sFor, sApp, sExt, ownL, tgSet, tgSets, eVar, eVarW, eC, e1, en, aNil, aCons, eOp, eCmp, cCmp, eChain, cChain, cVal, cNot, cAnd, cOr, eIf, vAnd, vOr, vNot, eTup, eLst, eCall, eCallO, eLc, wipeE, cYes, callF, atI_zero, atI_one, atI_lit, atI_nat', atI_m1, szOk, small64, atI_two, atI_three, sRaise, eIsi_of, isi_non, isi_bl, isi_int, isi_str, isi_tup, isi_lst, isD1, lenD_lst, lenD_tup, lenD_scr, ixD_lst, ixD_tup, ixD_scr, addD_ii, addD_ll, addD_tt, subD_ii, ltD_ii, leD_ii, gtD_ii, geD_ii, mulD_ii, listD_l, listD_t, tupD_l, tupD_t, negD_i, itemsD_l, itemsD_t, itemsD_s, q1, q2, hde, ix, ra, le, cd, z]
      rw [loopF_cons hset hbody]
      rw [e']
      simp
    · obtain ⟨u6, u7, u8, e'⟩ := dway_in w hd hde (v1 := v1) he hn hm hl c (b + 1) acc (.val (.int (b : Nat))) (.val (.int ((stepOf p e.1 b).1 : Nat))) (.val (.str (stepOf p e.1 b).2)) (by omega) (by omega)
      refine ⟨u6, u7, u8, ?_⟩
      rw [if_neg (by simpa using hdd)]
      have hbody : dn_way_for_l1 [.val (planD p), v1, .val (.str d), .val (.ldc false (rfD F)), .own (.lst (acc.map cdD)), .val (.int (e.1 : Nat)), .val (.int (b : Nat)), .val (.int ((stepOf p e.1 b).1 : Nat)), .val (.str (stepOf p e.1 b).2)] =
          .nx [.val (planD p), v1, .val (.str d), .val (.ldc false (rfD F)), .own (.lst (acc.map cdD)), .val (.int (e.1 : Nat)), .val (.int (b : Nat)), .val (.int ((stepOf p e.1 b).1 : Nat)), .val (.str (stepOf p e.1 b).2)] := by
        generalize acc.map cdD = A
        generalize rfD F = M at ix ⊢
        simp [dn_way_for_l1, R.bind, R.out, opt, sSeq, sSet, sb, sRet, sRetO, sIf, sDrop, sNext, sBrk, sCt, frz, sFrz, sAsg, sPar, sFor, sApp, sExt, ownL, tgSet, tgSets, eVar, eVarW, eC, e1, en, aNil, aCons, eOp, eCmp, cCmp, eChain, cChain, cVal, cNot, cAnd, cOr, eIf, vAnd, vOr, vNot, eTup, eLst, eCall, eCallO, eLc, wipeE, cYes, callF, atI_zero, atI_one, atI_lit, atI_nat', atI_m1, szOk, small64, atI_two, atI_three, sRaise, eIsi_of, isi_non, isi_bl, isi_int, isi_str, isi_tup, isi_lst, isD1, lenD_lst, lenD_tup, lenD_scr, ixD_lst, ixD_tup, ixD_scr, addD_ii, addD_ll, addD_tt, subD_ii, ltD_ii, leD_ii, gtD_ii, geD_ii, mulD_ii, listD_l, listD_t, tupD_l, tupD_t, negD_i, itemsD_l, itemsD_t, itemsD_s, q1, hdd]
      rw [loopF_cons hset hbody]
      exact e'
theorem dway_out {p : Pl} {k m : Nat} {d : Str} (w : Wf p k) (hm : m < p.length) (hd : PyData.strOk d = true) (hde : d ≠ "") {v1 : SV} : ∀ (T : Rf) (acc : List (List Nat)) (v5 v6 v7 v8 : SV), (∀ e ∈ T, e ∈ rowsOf p k m) → acc.length + T.length * 3 ≤ 900 →
    ∃ u5 u6 u7 u8, loopF (.nm 5) dn_way_for_l2 (T.map fun e => .int (e.1 : Nat)) [.val (planD p), v1, .val (.str d), .val (.ldc false (rfD (rowsOf p k m))), .own (.lst (acc.map cdD)), v5, v6, v7, v8] =
      .nx [.val (planD p), v1, .val (.str d), .val (.ldc false (rfD (rowsOf p k m))), .own (.lst ((acc ++ T.flatMap fun e => ((List.range' 0 k).filter fun b => decide ((stepOf p e.1 b).2 = d)).map fun b => e.2 ++ [b]).map cdD)), u5, u6, u7, u8]
  | [], acc, v5, v6, v7, v8, _, _ => ⟨v5, v6, v7, v8, by simp [loopF]⟩
  | e :: T, acc, v5, v6, v7, v8, hT, hz => by
    simp only [List.length_cons] at hz
    have B := rows_bfs w hm
    have he := hT e (.head _)
    obtain ⟨h1, h2⟩ := B.ok e he
    have hx1 : e.1 < p.length := by rw [← h2]; exact runP_lt w hm h1
    have k3 := w.k3
    have l6 := w.l6
    have hl : e.2.length ≤ 100 := by
      obtain ⟨j, hj⟩ := List.mem_iff_getElem?.mp he
      have h5 := B.lens j e hj
      have h6 := (List.getElem?_eq_some_iff.mp hj).1
      have h7 := B.len (runP_u w hm)
      rw [List.length_range] at h7
      omega
    obtain ⟨u6, u7, u8, q⟩ := dway_in w hd hde (v1 := v1) he B.nd hx1 hl k 0 acc v6 v7 v8 (by omega) (by omega)
    rw [List.drop_zero] at q
    have len : (((List.range' 0 k).filter fun b => decide ((stepOf p e.1 b).2 = d)).map fun b => e.2 ++ [b]).length ≤ 3 := by
      rw [List.length_map]
      have := List.length_filter_le (fun b => decide ((stepOf p e.1 b).2 = d)) (List.range' 0 k)
      rw [List.length_range'] at this
      omega
    generalize hN : (((List.range' 0 k).filter fun b => decide ((stepOf p e.1 b).2 = d)).map fun b => e.2 ++ [b]) = N at q len
    obtain ⟨x5, x6, x7, x8, q2⟩ := dway_out w hm hd hde (v1 := v1) T (acc ++ N) (.val (.int (e.1 : Nat))) u6 u7 u8 (fun y hy => hT y (.tail _ hy)) (by rw [List.length_append]; omega)
    refine ⟨x5, x6, x7, x8, ?_⟩
    have en : enumAD [modeD (mo p e.1)] = some (enumF 0 ((mo p e.1).map stepD)) := rfl
    have hbody : dn_way_for_l2 [.val (planD p), v1, .val (.str d), .val (.ldc false (rfD (rowsOf p k m))), .own (.lst (acc.map cdD)), .val (.int (e.1 : Nat)), v6, v7, v8] =
        .nx [.val (planD p), v1, .val (.str d), .val (.ldc false (rfD (rowsOf p k m))), .own (.lst ((acc ++ N).map cdD)), .val (.int (e.1 : Nat)), u6, u7, u8] := by
      generalize (acc ++ N).map cdD = A2 at q ⊢
      generalize acc.map cdD = A at q ⊢
      generalize rfD (rowsOf p k m) = M at q ⊢
      simp [dn_way_for_l2, R.bind, R.out, opt, sSeq, sSet, sb, sRet, sRetO, sIf, sDrop, sNext, sBrk, sCt, frz, sFrz, sAsg, sPar, sFor, sApp, sExt, ownL, tgSet, tgSets, eVar, eVarW, eC, e1, en, aNil, aCons, eOp, eCmp, cCmp, eChain, cChain, cVal, cNot, cAnd, cOr, eIf, vAnd, vOr, vNot, eTup, eLst, eCall, eCallO, eLc, wipeE, cYes, callF, atI_zero, atI_one, atI_lit, atI_nat', atI_m1, szOk, small64, atI_two, atI_three, sRaise, eIsi_of, isi_non, isi_bl, isi_int, isi_str, isi_tup, isi_lst, isD1, lenD_lst, lenD_tup, lenD_scr, ixD_lst, ixD_tup, ixD_scr, addD_ii, addD_ll, addD_tt, subD_ii, ltD_ii, leD_ii, gtD_ii, geD_ii, mulD_ii, listD_l, listD_t, tupD_l, tupD_t, negD_i, itemsD_l, itemsD_t, itemsD_s, ix_plan hx1, en, q]
    rw [List.map_cons, loopF_cons rfl hbody, q2, List.flatMap_cons, hN, List.append_assoc]
theorem keys_rf (F : Rf) : keysLD (.ldc false (rfD F)) = some (F.map fun e => .int (e.1 : Nat)) := by
  show some ((F.map rfE).map (·.1)) = _
  rw [List.map_map]
  rfl
theorem F_wayfor {p : Pl} {k m : Nat} {d : Str} (w : Wf p k) (hm : m < p.length) (hd : PyData.strOk d = true) (hde : d ≠ "") : F_way_for [planD p, .int (m : Nat), .str d] = .ok (false, wayD (dwayOf p k m d)) := by
  have B := rows_bfs w hm
  have h7 := B.len (runP_u w hm)
  rw [List.length_range] at h7
  have l6 := w.l6
  obtain ⟨u5, u6, u7, u8, e⟩ := dway_out w hm hd hde (v1 := .val (.int (m : Nat))) (rowsOf p k m) [] .no .no .no .no (fun _ h => h) (by simp; omega)
  simp only [List.nil_append, List.map_nil] at e
  have ec : ((rowsOf p k m).flatMap fun e => ((List.range' 0 k).filter fun b => decide ((stepOf p e.1 b).2 = d)).map fun b => e.2 ++ [b]) = cands p k m d := rfl
  rw [ec] at e
  have ks := keys_rf (rowsOf p k m)
  have fr := F_rowsfrom w hm
  cases q : dwayOf p k m d with
  | none =>
    have c0 : cands p k m d = [] := by
      unfold dwayOf at q
      split at q
      · assumption
      · cases q
    rw [c0, List.map_nil] at e
    have ne : neD (.lst []) (.lst []) = some false := by kernel_rfl
    generalize rfD (rowsOf p k m) = M at e ks fr
    simp [F_way_for, dn_way_for, R.bind, R.out, opt, sSeq, sSet, sb, sRet, sRetO, sIf, sDrop, sNext, sBrk, sCt, frz, sFrz, sAsg, sPar, sFor, sApp, sExt, ownL, tgSet, tgSets, eVar, eVarW, eC, e1, en, aNil, aCons, eOp, eCmp, cCmp, eChain, cChain, cVal, cNot, cAnd, cOr, eIf, vAnd, vOr, vNot, eTup, eLst, eCall, eCallO, eLc, wipeE, cYes, callF, atI_zero, atI_one, atI_lit, atI_nat', atI_m1, szOk, small64, atI_two, atI_three, sRaise, eIsi_of, isi_non, isi_bl, isi_int, isi_str, isi_tup, isi_lst, isD1, lenD_lst, lenD_tup, lenD_scr, ixD_lst, ixD_tup, ixD_scr, addD_ii, addD_ll, addD_tt, subD_ii, ltD_ii, leD_ii, gtD_ii, geD_ii, mulD_ii, listD_l, listD_t, tupD_l, tupD_t, negD_i, itemsD_l, itemsD_t, itemsD_s, fr, sLk, lockE, ks, e, ne, wayD]
  | some r =>
    have mn := min_cands q
    have ne : neD (.lst ((cands p k m d).map cdD)) (.lst []) = some true := by
      have hc : (cands p k m d).map cdD ≠ [] := fun z => by
        rw [z] at mn
        cases mn
      have ok : okD 16 (.lst ((cands p k m d).map cdD)) = true := by
        rw [okD_l 15, List.all_eq_true]
        intro x hx
        obtain ⟨r, _, rfl⟩ := List.mem_map.mp hx
        unfold cdD
        simp [okD, rowD]
      rw [neD_of (eqD_of ok rfl)]
      generalize (cands p k m d).map cdD = C at hc
      cases C with
      | nil => exact absurd rfl hc
      | cons a l => rfl
    have c1 : ixD (cdD r) (.int 1) = some (.lst (rowD r)) := rfl
    generalize (cands p k m d).map cdD = C at e mn ne
    generalize rfD (rowsOf p k m) = M at e ks fr
    simp [F_way_for, dn_way_for, R.bind, R.out, opt, sSeq, sSet, sb, sRet, sRetO, sIf, sDrop, sNext, sBrk, sCt, frz, sFrz, sAsg, sPar, sFor, sApp, sExt, ownL, tgSet, tgSets, eVar, eVarW, eC, e1, en, aNil, aCons, eOp, eCmp, cCmp, eChain, cChain, cVal, cNot, cAnd, cOr, eIf, vAnd, vOr, vNot, eTup, eLst, eCall, eCallO, eLc, wipeE, cYes, callF, atI_zero, atI_one, atI_lit, atI_nat', atI_m1, szOk, small64, atI_two, atI_three, sRaise, eIsi_of, isi_non, isi_bl, isi_int, isi_str, isi_tup, isi_lst, isD1, lenD_lst, lenD_tup, lenD_scr, ixD_lst, ixD_tup, ixD_scr, addD_ii, addD_ll, addD_tt, subD_ii, ltD_ii, leD_ii, gtD_ii, geD_ii, mulD_ii, listD_l, listD_t, tupD_l, tupD_t, negD_i, itemsD_l, itemsD_t, itemsD_s, fr, sLk, lockE, ks, e, ne, mn, c1, wayD]
theorem F_waydeed {p : Pl} {k m : Nat} {d : Str} (w : Wf p k) (hm : m < p.length) (hi : F_is_deed [.str d] = .ok (false, .bl true)) (hd : PyData.strOk d = true) (hde : d ≠ "") : F_way_to_deed [planD p, .int (m : Nat), .str d] = .ok (false, wayD (dwayOf p k m d)) := by
  simp [F_way_to_deed, dn_way_to_deed, R.bind, R.out, opt, sSeq, sSet, sb, sRet, sRetO, sIf, sDrop, sNext, sBrk, sCt, frz, sFrz, sAsg, sPar, sFor, sApp, sExt, ownL, tgSet, tgSets, eVar, eVarW, eC, e1, en, aNil, aCons, eOp, eCmp, cCmp, eChain, cChain, cVal, cNot, cAnd, cOr, eIf, vAnd, vOr, vNot, eTup, eLst, eCall, eCallO, eLc, wipeE, cYes, callF, atI_zero, atI_one, atI_lit, atI_nat', atI_m1, szOk, small64, atI_two, atI_three, sRaise, eIsi_of, isi_non, isi_bl, isi_int, isi_str, isi_tup, isi_lst, isD1, lenD_lst, lenD_tup, lenD_scr, ixD_lst, ixD_tup, ixD_scr, addD_ii, addD_ll, addD_tt, subD_ii, ltD_ii, leD_ii, gtD_ii, geD_ii, mulD_ii, listD_l, listD_t, tupD_l, tupD_t, negD_i, itemsD_l, itemsD_t, itemsD_s, F_lookplan w, F_lookmode_ok hm, hi, F_wayfor w hm hd hde]

/-! ### what is met -/
def sortN (l : List Nat) : List Int := sortI (l.map fun n : Nat => (n : Int))
theorem sortN_mem {l : List Nat} {g : Nat} : (g : Int) ∈ sortN l ↔ g ∈ l := by
  unfold sortN
  rw [(sortI_perm _).mem_iff, List.mem_map]
  constructor
  · rintro ⟨a, h1, h2⟩
    have : a = g := by omega
    rw [← this]
    exact h1
  · exact fun h => ⟨g, h, rfl⟩
theorem F_met_ok {p : Pl} {k : Nat} (w : Wf p k) : F_met [planD p] = .ok (true, .lst ((sortN ((rowsOf p k 0).map (·.1))).map D.int)) := by
  have l1 := w.l1
  have B := rows_bfs w (m := 0) (by omega)
  have h7 := B.len (runP_u w (by omega))
  rw [List.length_range] at h7
  have l6 := w.l6
  have fr := F_rowsfrom w (m := 0) (by omega)
  simp only [Int.natCast_zero] at fr
  have li : listD (.dct false (rfD (rowsOf p k 0))) = some (.lst (natsD ((rowsOf p k 0).map (·.1)))) := by
    show some (D.lst ((rfD (rowsOf p k 0)).map (·.1))) = _
    unfold rfD natsD
    rw [List.map_map, List.map_map]
    rfl
  have so : sortedD (.lst (natsD ((rowsOf p k 0).map (·.1)))) = some (.lst ((sortN ((rowsOf p k 0).map (·.1))).map D.int)) := by
    have e : natsD ((rowsOf p k 0).map (·.1)) = (((rowsOf p k 0).map (·.1)).map fun n : Nat => (n : Int)).map D.int := by simp [natsD]
    rw [e]
    simp only [sortedD, intsD_map, Option.bind_some]
    rw [if_pos (decide_eq_true (by simp only [List.length_map]; omega))]
    rfl
  generalize rfD (rowsOf p k 0) = M at fr li
  generalize natsD ((rowsOf p k 0).map (·.1)) = L at li so
  simp [F_met, dn_met, R.bind, R.out, opt, sSeq, sSet, sb, sRet, sRetO, sIf, sDrop, sNext, sBrk, sCt, frz, sFrz, sAsg, sPar, sFor, sApp, sExt, ownL, tgSet, tgSets, eVar, eVarW, eC, e1, en, aNil, aCons, eOp, eCmp, cCmp, eChain, cChain, cVal, cNot, cAnd, cOr, eIf, vAnd, vOr, vNot, eTup, eLst, eCall, eCallO, eLc, wipeE, cYes, callF, atI_zero, atI_one, atI_lit, atI_nat', atI_m1, szOk, small64, atI_two, atI_three, sRaise, eIsi_of, isi_non, isi_bl, isi_int, isi_str, isi_tup, isi_lst, isD1, lenD_lst, lenD_tup, lenD_scr, ixD_lst, ixD_tup, ixD_scr, addD_ii, addD_ll, addD_tt, subD_ii, ltD_ii, leD_ii, gtD_ii, geD_ii, mulD_ii, listD_l, listD_t, tupD_l, tupD_t, negD_i, itemsD_l, itemsD_t, itemsD_s, F_lookplan w, fr, li, so]
theorem in_ints (l : List Int) (g : Nat) (h : l.length ≤ 100) : inD (.int (g : Nat)) (.lst (l.map D.int)) = some (decide ((g : Int) ∈ l)) := by
  have e0 : inD (.int (g : Nat)) (.lst (l.map D.int)) = if okD 15 (.int (g : Nat)) && okD 16 (.lst (l.map D.int)) then some ((l.map D.int).any fun d => eqv d (.int (g : Nat))) else none := rfl
  have ok : okD 16 (.lst (l.map D.int)) = true := (okD_l 15 _).trans (okD_ints 15 l)
  rw [e0, ok, if_pos (by rfl)]
  congr 1
  rw [Bool.eq_iff_iff, List.any_eq_true, decide_eq_true_eq]
  constructor
  · rintro ⟨x, hx, h⟩
    obtain ⟨i, hi, rfl⟩ := List.mem_map.mp hx
    have : i = (g : Int) := by simpa [eqv] using h
    rw [← this]
    exact hi
  · intro h
    exact ⟨_, List.mem_map.mpr ⟨_, h, rfl⟩, by simp [eqv]⟩

/-! ### the law's own shortest rows: over all presses, again and again -/
abbrev Fo := List (Option (List Nat))
def better2 (c : List Nat) : Option (List Nat) → List Nat
  | none => c
  | some r => if slt c r then c else r
def rlx (p : Pl) (f : Fo) (h b : Nat) : Fo := match f[h]? with
  | some (some r) => f.set (nxP p h b) (some (better2 (r ++ [b]) (f[nxP p h b]?.join)))
  | _ => f
def rlxB (p : Pl) (h : Nat) (bs : List Nat) (f : Fo) : Fo := bs.foldl (fun f b => rlx p f h b) f
def rlxH (p : Pl) (k : Nat) (hs : List Nat) (f : Fo) : Fo := hs.foldl (fun f h => rlxB p h (List.range k) f) f
def rlxN (p : Pl) (k : Nat) : Nat → Fo → Fo
  | 0, f => f
  | n + 1, f => rlxN p k n (rlxH p k (List.range p.length) f)
structure FoOk (p : Pl) (k m : Nat) (f : Fo) : Prop where
  len : f.length = p.length
  ok : ∀ g r, f[g]? = some (some r) → (∀ c ∈ r, c < k) ∧ runA (nxP p) m r = g
theorem nxP_lt {p : Pl} {k h b : Nat} (w : Wf p k) (hh : h < p.length) (hb : b < k) : nxP p h b < p.length := runP_lt w (r := [b]) hh (by simpa using hb)
theorem way_le {p : Pl} {k m g : Nat} {r s : List Nat} (w : Wf p k) (hm : m < p.length) (h : wayOf p k m g = some r) (hs : ∀ c ∈ s, c < k) (e : runA (nxP p) m s = g) : sle r s := (rows_bfs w hm).first (way_some w hm h).1 hs e
theorem rlx_ok {p : Pl} {k m h b : Nat} {f : Fo} (w : Wf p k) (O : FoOk p k m f) (hb : b < k) : FoOk p k m (rlx p f h b) := by
  unfold rlx
  split
  · rename_i r q
    refine ⟨by rw [List.length_set]; exact O.len, fun g s hs => ?_⟩
    obtain ⟨h1, h2⟩ := O.ok h r q
    have new : (∀ c ∈ r ++ [b], c < k) ∧ runA (nxP p) m (r ++ [b]) = nxP p h b := ⟨fun c hc => by
      rcases List.mem_append.mp hc with z | z
      · exact h1 c z
      · rw [List.mem_singleton.mp z]; exact hb, by rw [runA_snoc, h2]⟩
    rw [List.getElem?_set] at hs
    split at hs
    · rename_i e
      split at hs
      · simp only [Option.some.injEq] at hs
        subst hs
        rw [← e]
        cases q2 : f[nxP p h b]? with
        | none => exact new
        | some o =>
          cases o with
          | none => exact new
          | some r' =>
            show (∀ c ∈ (if slt (r ++ [b]) r' then r ++ [b] else r'), c < k) ∧ runA (nxP p) m (if slt (r ++ [b]) r' then r ++ [b] else r') = _
            split
            · exact new
            · exact O.ok _ r' q2
      · cases hs
    · exact O.ok g s hs
  · exact O
theorem rlx_stay {p : Pl} {k m h b g : Nat} {f : Fo} {r : List Nat} (w : Wf p k) (hm : m < p.length) (O : FoOk p k m f) (hb : b < k) (hg : wayOf p k m g = some r) (q : f[g]? = some (some r)) : (rlx p f h b)[g]? = some (some r) := by
  unfold rlx
  split
  · rename_i s qs
    obtain ⟨h1, h2⟩ := O.ok h s qs
    have hl : g < f.length := (List.getElem?_eq_some_iff.mp q).1
    rw [List.getElem?_set]
    split
    · rename_i e
      rw [e, if_pos hl, q]
      have le : sle r (s ++ [b]) := way_le w hm hg (fun c hc => by
        rcases List.mem_append.mp hc with z | z
        · exact h1 c z
        · rw [List.mem_singleton.mp z]; exact hb) (by rw [runA_snoc, h2, e])
      show some (some (if slt (s ++ [b]) r then s ++ [b] else r)) = _
      rw [if_neg (by rw [show slt (s ++ [b]) r = false from le]; exact Bool.false_ne_true)]
    · exact q
  · exact q
theorem rlx_gain {p : Pl} {k m h b : Nat} {f : Fo} {r : List Nat} (w : Wf p k) (hm : m < p.length) (hh : h < p.length) (O : FoOk p k m f) (hb : b < k) (q : f[h]? = some (some r)) (hg : wayOf p k m (nxP p h b) = some (r ++ [b])) : (rlx p f h b)[nxP p h b]? = some (some (r ++ [b])) := by
  unfold rlx
  rw [q]
  have hl : nxP p h b < f.length := by rw [O.len]; exact nxP_lt w hh hb
  simp only
  rw [List.getElem?_set_self hl]
  congr 2
  cases q2 : f[nxP p h b]? with
  | none => rfl
  | some o =>
    cases o with
    | none => rfl
    | some r' =>
      obtain ⟨h1, h2⟩ := O.ok _ r' q2
      have le := way_le w hm hg h1 h2
      show (if slt (r ++ [b]) r' then r ++ [b] else r') = _
      split
      · rfl
      · rename_i z
        exact (sle_antisymm le (by simpa [sle] using z)).symm
abbrev Stay (p : Pl) (k m : Nat) (f f' : Fo) : Prop := ∀ g r, wayOf p k m g = some r → f[g]? = some (some r) → f'[g]? = some (some r)
abbrev Gain (p : Pl) (k m h b : Nat) (f f' : Fo) : Prop := ∀ r, f[h]? = some (some r) → wayOf p k m h = some r → wayOf p k m (nxP p h b) = some (r ++ [b]) → f'[nxP p h b]? = some (some (r ++ [b]))
theorem rlxB_ok {p : Pl} {k m h : Nat} (w : Wf p k) (hm : m < p.length) (hh : h < p.length) : ∀ (bs : List Nat) (f : Fo), FoOk p k m f → (∀ b ∈ bs, b < k) → FoOk p k m (rlxB p h bs f) ∧ Stay p k m f (rlxB p h bs f) ∧ ∀ b ∈ bs, Gain p k m h b f (rlxB p h bs f)
  | [], f, O, _ => ⟨O, fun _ _ _ q => q, fun _ z => nomatch z⟩
  | b :: bs, f, O, hb => by
    have hb0 := hb b (.head _)
    have O1 := rlx_ok (h := h) w O hb0
    obtain ⟨a1, a2, a3⟩ := rlxB_ok w hm hh bs (rlx p f h b) O1 fun c hc => hb c (.tail _ hc)
    refine ⟨a1, fun g r hg q => a2 g r hg (rlx_stay w hm O hb0 hg q), fun c hc r q hw hg => ?_⟩
    rcases List.mem_cons.mp hc with z | z
    · subst z
      exact a2 _ _ hg (rlx_gain w hm hh O hb0 q hg)
    · exact a3 c z r (rlx_stay w hm O hb0 hw q) hw hg
theorem rlxH_ok {p : Pl} {k m : Nat} (w : Wf p k) (hm : m < p.length) : ∀ (hs : List Nat) (f : Fo), FoOk p k m f → (∀ h ∈ hs, h < p.length) → FoOk p k m (rlxH p k hs f) ∧ Stay p k m f (rlxH p k hs f) ∧ ∀ h ∈ hs, ∀ b < k, Gain p k m h b f (rlxH p k hs f)
  | [], f, O, _ => ⟨O, fun _ _ _ q => q, fun _ z => nomatch z⟩
  | h :: hs, f, O, hb => by
    obtain ⟨b1, b2, b3⟩ := rlxB_ok w hm (hb h (.head _)) (List.range k) f O fun c hc => List.mem_range.mp hc
    obtain ⟨a1, a2, a3⟩ := rlxH_ok w hm hs (rlxB p h (List.range k) f) b1 fun c hc => hb c (.tail _ hc)
    refine ⟨a1, fun g r hg q => a2 g r hg (b2 g r hg q), fun c hc b hbk r q hw hg => ?_⟩
    rcases List.mem_cons.mp hc with z | z
    · subst z
      exact a2 _ _ hg (b3 b (List.mem_range.mpr hbk) r q hw hg)
    · exact a3 c z b hbk r (b2 _ _ hw q) hw hg
/-- what leads to a shortest row's last press is a shortest row -/
theorem way_pre {p : Pl} {k m g b : Nat} {r : List Nat} (w : Wf p k) (hm : m < p.length) (h : wayOf p k m g = some (r ++ [b])) : wayOf p k m (runA (nxP p) m r) = some r := by
  have B := rows_bfs w hm
  obtain ⟨h1, h2, h3, _⟩ := way_some w hm h
  have hr : ∀ c ∈ r, c < k := fun c hc => h2 c (List.mem_append_left _ hc)
  have hb : b < k := h2 b (by simp)
  obtain ⟨s, m1, le1⟩ := B.min hr
  obtain ⟨t, m2, le2⟩ := B.done _ m1 b hb
  have e : nxP p (runA (nxP p) m r) b = g := by rw [← h3, runA_snoc]
  simp only at m2 le2
  rw [e] at m2
  have et := B.one m2 h1
  subst et
  have eq : r ++ [b] = s ++ [b] := sle_antisymm le2 (sle_snoc le1)
  have ers : r = s := List.append_cancel_right eq
  subst ers
  obtain ⟨s, hs⟩ := way_in (p := p) (k := k) (m := m) (List.mem_map.mpr ⟨_, m1, rfl⟩)
  rw [hs]
  have := B.one (way_some w hm hs).1 m1
  rw [this]
theorem rlxN_ok {p : Pl} {k m : Nat} (w : Wf p k) (hm : m < p.length) : ∀ (n L : Nat) (f : Fo), FoOk p k m f → (∀ g r, wayOf p k m g = some r → r.length ≤ L → f[g]? = some (some r)) →
    FoOk p k m (rlxN p k n f) ∧ ∀ g r, wayOf p k m g = some r → r.length ≤ L + n → (rlxN p k n f)[g]? = some (some r)
  | 0, L, f, O, h => ⟨O, fun g r hg hl => h g r hg hl⟩
  | n + 1, L, f, O, h => by
    obtain ⟨a1, a2, a3⟩ := rlxH_ok w hm (List.range p.length) f O fun c hc => List.mem_range.mp hc
    obtain ⟨b1, b2⟩ := rlxN_ok w hm n (L + 1) (rlxH p k (List.range p.length) f) a1 fun g r hg hl => by
      rcases Nat.lt_or_ge L r.length with z | z
      · have hne : r ≠ [] := fun e => by rw [e] at z; simp at z
        obtain ⟨r', b, rfl⟩ : ∃ r' b, r = r' ++ [b] := ⟨r.dropLast, r.getLast hne, (List.dropLast_concat_getLast hne).symm⟩
        have pre := way_pre w hm hg
        obtain ⟨p1, p2, p3, _⟩ := way_some w hm hg
        have hl' : r'.length ≤ L := by rw [List.length_append] at hl; simp at hl; omega
        have hh : runA (nxP p) m r' < p.length := runP_lt w hm fun c hc => p2 c (List.mem_append_left _ hc)
        have eg : nxP p (runA (nxP p) m r') b = g := by rw [← p3, runA_snoc]
        have q := a3 _ (List.mem_range.mpr hh) b (p2 b (by simp)) r' (h _ _ pre hl') pre (by rw [eg]; exact hg)
        rw [eg] at q
        exact q
      · exact a2 g r hg (h g r hg z)
    exact ⟨b1, fun g r hg hl => b2 g r hg (by omega)⟩
def fo0 (p : Pl) (m : Nat) : Fo := (List.replicate p.length none).set m (some [])
theorem fo0_ok {p : Pl} {k m : Nat} (w : Wf p k) (hm : m < p.length) : FoOk p k m (fo0 p m) ∧ ∀ g r, wayOf p k m g = some r → r.length ≤ 0 → (fo0 p m)[g]? = some (some r) := by
  refine ⟨⟨by simp [fo0], fun g r q => ?_⟩, fun g r hg hl => ?_⟩
  · unfold fo0 at q
    rw [List.getElem?_set] at q
    split at q
    · rename_i e
      split at q
      · simp only [Option.some.injEq] at q
        subst q
        exact ⟨by simp, by simp [runA, e]⟩
      · cases q
    · rw [List.getElem?_replicate] at q
      split at q <;> simp at q
  · have hr : r = [] := List.eq_nil_of_length_eq_zero (by omega)
    subst hr
    obtain ⟨_, _, h3, _⟩ := way_some w hm hg
    have : g = m := by rw [← h3]; rfl
    subst this
    unfold fo0
    rw [List.getElem?_set_self (by simpa using hm)]
theorem rlx_all {p : Pl} {k m : Nat} (w : Wf p k) (hm : m < p.length) : rlxN p k p.length (fo0 p m) = (List.range p.length).map (wayOf p k m) := by
  obtain ⟨O0, h0⟩ := fo0_ok w hm
  obtain ⟨O, h⟩ := rlxN_ok w hm p.length 0 _ O0 h0
  refine List.ext_getElem? fun g => ?_
  by_cases hg : g < p.length
  · rw [List.getElem?_map, List.getElem?_range hg]
    simp only [Option.map_some]
    cases q : wayOf p k m g with
    | some r => exact h g r q (by have := (way_some w hm q).2.2.2; omega)
    | none =>
      have hl : g < (rlxN p k p.length (fo0 p m)).length := by rw [O.len]; exact hg
      cases q2 : (rlxN p k p.length (fo0 p m))[g] with
      | none => rw [List.getElem?_eq_getElem hl, q2]
      | some r =>
        have q3 : (rlxN p k p.length (fo0 p m))[g]? = some (some r) := by rw [List.getElem?_eq_getElem hl, q2]
        obtain ⟨h1, h2⟩ := O.ok g r q3
        obtain ⟨s, m1, _⟩ := (rows_bfs w hm).min h1
        rw [h2] at m1
        exact absurd (List.mem_map.mpr ⟨_, m1, rfl⟩) (way_none w hm q)
  · rw [List.getElem?_eq_none (by rw [O.len]; omega), List.getElem?_eq_none (by simp; omega)]

def rkD (r : List Nat) : D := .tup [.int (r.length : Nat), .lst (rowD r)]
def foD : Option (List Nat) → D
  | none => .non
  | some r => rkD r
def foL (f : Fo) : List D := f.map foD
theorem lt_rk (a b : List Nat) : PySem.W.dataLt (toPy (rkD a)) (toPy (rkD b)) = slt a b := by
  simp only [rkD, toPy, toPys]
  rw [PySem.W.dataLt_pair (by simp [PySem.W.alike]) (by rw [PySem.W.alike]; exact alike_row a b)]
  have e1' : PyData.eqv (.int ((a.length : Nat) : Int)) (.int ((b.length : Nat) : Int)) = decide (a.length = b.length) := by
    simp only [PyData.eqv]
    rw [Bool.eq_iff_iff]
    simp
    omega
  have e2' : PyData.eqv (.list (toPys (rowD a))) (.list (toPys (rowD b))) = decide (a = b) := by
    have := eqv_py (.lst (rowD a)) (.lst (rowD b)) 1 1 (by rw [okD_l, rowD]; simp [okD]) (by rw [okD_l, rowD]; simp [okD])
    simp only [toPy] at this
    rw [this, eqv_rows]
  have e3 : PySem.W.dataLt (.list (toPys (rowD a))) (.list (toPys (rowD b))) = lexL a b := by
    rw [PySem.W.dataLt_list]
    show PySem.W.rowLt (toPys (rowD a)) (toPys (rowD b)) = _
    rw [toPys_row, toPys_row, PySem.W.dataLt_ints, ints_lt]
  rw [e1', e2', e3, PySem.W.dataLt_int]
  unfold slt
  by_cases h : a.length = b.length
  · rw [if_pos (by simpa using h)]
    have n1 : ¬ a.length < b.length := by omega
    by_cases h3 : a = b
    · subst h3
      simp [lexL_irr]
    · simp [h3, h]
  · rw [if_neg (by simpa using h)]
    have : (((a.length : Nat) : Int) < ((b.length : Nat) : Int)) ↔ a.length < b.length := by omega
    simp [h, this]
theorem ordOk_rk (rs : List (List Nat)) : ordOk (rs.map rkD) = true := by
  unfold ordOk
  rw [Bool.and_eq_true, Bool.and_eq_true]
  refine ⟨⟨?_, ?_⟩, ?_⟩ <;> rw [List.all_eq_true] <;> intro x hx <;> obtain ⟨r, _, rfl⟩ := List.mem_map.mp hx
  · unfold rkD
    simp [okD, rowD]
  · rw [List.all_eq_true]
    intro y hy
    obtain ⟨s, _, rfl⟩ := List.mem_map.mp hy
    simp only [rkD, toPy, toPys, PySem.W.alike, PySem.W.alikeAll, Bool.true_and, Bool.and_true]
    exact alike_row r s
  · rfl
theorem ltX_rk (a b : List Nat) : ltXD (rkD a) (rkD b) = some (slt a b) := by
  have ok := ordOk_rk [a, b]
  simp only [List.map_cons, List.map_nil] at ok
  unfold ltXD
  rw [if_pos ok, lt_rk]
theorem min2_rk (a b : List Nat) : min2LD [rkD a, rkD b] = some (rkD (if slt b a then b else a)) := by
  have ok := ordOk_rk [a, b]
  simp only [List.map_cons, List.map_nil] at ok
  unfold min2LD
  simp only
  rw [if_pos ok, lt_rk]
  split <;> rfl
theorem rk_snoc (r : List Nat) (b : Nat) : D.tup [.int ((r.length : Nat) + 1 : Int), .lst (rowD (r ++ [b]))] = rkD (r ++ [b]) := by
  unfold rkD
  rw [List.length_append]
  rfl
theorem row_snoc {r : List Nat} (b : Nat) (h : r.length + 1 ≤ 16777216) : addD (.lst (rowD r)) (.lst [.int (b : Nat)]) = some (.lst (rowD (r ++ [b]))) := by
  have z : szOk (r.length + 1) = true := szOk_of h
  simp [addD, z, rowD]
abbrev Lb (f : Fo) (L : Nat) : Prop := ∀ (g : Nat) (r : List Nat), f[g]? = some (some r) → r.length ≤ L
theorem rlx_lb {p : Pl} {f : Fo} {h b L : Nat} (l : Lb f L) : Lb (rlx p f h b) (L + 1) := fun g s q => by
  unfold rlx at q
  split at q
  · rename_i r qr
    have h1 := l h r qr
    rw [List.getElem?_set] at q
    split at q
    · split at q
      · simp only [Option.some.injEq] at q
        subst q
        cases q2 : f[nxP p h b]? with
        | none => show (r ++ [b]).length ≤ _; rw [List.length_append]; simp; omega
        | some o =>
          cases o with
          | none => show (r ++ [b]).length ≤ _; rw [List.length_append]; simp; omega
          | some r' =>
            have h2 := l _ r' q2
            show (if slt (r ++ [b]) r' then r ++ [b] else r').length ≤ _
            split
            · rw [List.length_append]; simp; omega
            · omega
      · cases q
    · have := l g s q; omega
  · have := l g s q; omega
theorem ixN_nat {n i : Nat} (h : i < n) : ixN n (i : Int) = some i := by
  unfold ixN
  rw [if_pos (by omega), if_pos (by omega)]
  rfl
theorem brow_body {p : Pl} {k m h b L : Nat} (w : Wf p k) (hh : h < p.length) (hb : b < k) {f : Fo} (O : FoOk p k m f) (l : Lb f L) (hL : L ≤ 1000) {v1 v3 v6 v7 v8 : SV} :
    ∃ u7, dn__law_rows_l1 [.val (planD p), v1, .own (.lst (foL f)), v3, .val (.int (h : Nat)), .val (.int (b : Nat)), v6, v7, v8] =
      .nx [.val (planD p), v1, .own (.lst (foL (rlx p f h b))), v3, .val (.int (h : Nat)), .val (.int (b : Nat)), .val (.int (nxP p h b : Nat)), u7, v8] := by
  have hl : h < f.length := by rw [O.len]; exact hh
  have gl : nxP p h b < f.length := by rw [O.len]; exact nxP_lt w hh hb
  have m1 : (foL f)[h]? = f[h]?.map foD := by unfold foL; rw [List.getElem?_map]
  have m2 : (foL f)[nxP p h b]? = f[nxP p h b]?.map foD := by unfold foL; rw [List.getElem?_map]
  have i1 := ix_plan hh
  have i2 := ix_mode w hh hb
  have i3 := ix_st0 (stepOf p h b)
  have en : (stepOf p h b).1 = nxP p h b := rfl
  rw [en] at i3
  have gi : ixN (foL f).length (nxP p h b : Nat) = some (nxP p h b) := ixN_nat (by unfold foL; rw [List.length_map]; exact gl)
  have hs : ∀ x, (foL f).set (nxP p h b) (rkD x) = foL (f.set (nxP p h b) (some x)) := fun x => by unfold foL; rw [List.map_set]; rfl
  unfold rlx
  rw [List.getElem?_eq_getElem hl] at m1 ⊢
  rw [List.getElem?_eq_getElem gl] at m2 ⊢
  cases q1 : f[h] with
  | none =>
    rw [q1] at m1
    simp only [Option.map_some, foD] at m1
    refine ⟨v7, ?_⟩
    have n1 : isntD .non .non = some false := rfl
    generalize foL f = M at m1
    simp [dn__law_rows_l1, R.bind, R.out, opt, sSeq, sSet, sb, sRet, sRetO, sIf, sDrop, sNext, sBrk, sCt, frz, sFrz, sAsg, sPar, sFor, sApp, sExt, ownL, tgSet, tgSets, eVar, eVarW, eC, e1, en, aNil, aCons, eOp, eCmp, cCmp, eChain, cChain, cVal, cNot, cAnd, cOr, eIf, vAnd, vOr, vNot, eTup, eLst, eCall, eCallO, eLc, wipeE, cYes, callF, atI_zero, atI_one, atI_lit, atI_nat', atI_m1, szOk, small64, atI_two, atI_three, sRaise, eIsi_of, isi_non, isi_bl, isi_int, isi_str, isi_tup, isi_lst, isD1, lenD_lst, lenD_tup, lenD_scr, ixD_lst, ixD_tup, ixD_scr, addD_ii, addD_ll, addD_tt, subD_ii, ltD_ii, leD_ii, gtD_ii, geD_ii, mulD_ii, listD_l, listD_t, tupD_l, tupD_t, negD_i, itemsD_l, itemsD_t, itemsD_s, i1, i2, i3, m1, n1]
  | some r =>
    rw [q1] at m1
    simp only [Option.map_some, foD] at m1
    have lr := l h r (by rw [List.getElem?_eq_getElem hl, q1])
    have ra := row_snoc (r := r) b (by omega)
    have n1 : isntD (rkD r) .non = some true := rfl
    have r0 : ixD (rkD r) (.int 0) = some (.int (r.length : Nat)) := by simp [rkD, ixD, atI_zero]
    have r1 : ixD (rkD r) (.int 1) = some (.lst (rowD r)) := by simp [rkD, ixD, atI_one]
    have rk := rk_snoc r b
    refine ⟨.val (rkD (r ++ [b])), ?_⟩
    cases q2 : f[nxP p h b] with
    | none =>
      rw [q2] at m2
      simp only [Option.map_some, foD, Option.join_some] at m2 ⊢
      have n2 : isD .non .non = some true := rfl
      have hx : (foL f).set (nxP p h b) (rkD (r ++ [b])) = foL (f.set (nxP p h b) (some (better2 (r ++ [b]) none))) := hs _
      generalize foL (f.set (nxP p h b) (some (better2 (r ++ [b]) none))) = M2 at hx ⊢
      generalize foL f = M at m1 m2 gi hx ⊢
      generalize nxP p h b = g at m2 gi hx i3 ⊢
      generalize rkD (r ++ [b]) = R1 at rk hx ⊢
      generalize rkD r = R0 at m1 n1 r0 r1
      simp [dn__law_rows_l1, R.bind, R.out, opt, sSeq, sSet, sb, sRet, sRetO, sIf, sDrop, sNext, sBrk, sCt, frz, sFrz, sAsg, sPar, sFor, sApp, sExt, ownL, tgSet, tgSets, eVar, eVarW, eC, e1, en, aNil, aCons, eOp, eCmp, cCmp, eChain, cChain, cVal, cNot, cAnd, cOr, eIf, vAnd, vOr, vNot, eTup, eLst, eCall, eCallO, eLc, wipeE, cYes, callF, atI_zero, atI_one, atI_lit, atI_nat', atI_m1, szOk, small64, atI_two, atI_three, sRaise, eIsi_of, isi_non, isi_bl, isi_int, isi_str, isi_tup, isi_lst, isD1, lenD_lst, lenD_tup, lenD_scr, ixD_lst, ixD_tup, ixD_scr, addD_ii, addD_ll, addD_tt, subD_ii, ltD_ii, leD_ii, gtD_ii, geD_ii, mulD_ii, listD_l, listD_t, tupD_l, tupD_t, negD_i, itemsD_l, itemsD_t, itemsD_s, i1, i2, i3, m1, m2, n1, n2, r0, r1, ra, rk, sPutL, gi, hx]
    | some r' =>
      rw [q2] at m2
      simp only [Option.map_some, foD, Option.join_some] at m2 ⊢
      have n2 : isD (rkD r') .non = some false := rfl
      have lt := ltX_rk (r ++ [b]) r'
      have hx : (foL f).set (nxP p h b) (rkD (if slt (r ++ [b]) r' then r ++ [b] else r')) = foL (f.set (nxP p h b) (some (better2 (r ++ [b]) (some r')))) := hs _
      generalize foL (f.set (nxP p h b) (some (better2 (r ++ [b]) (some r')))) = M2 at hx ⊢
      generalize foL f = M at m1 m2 gi hx ⊢
      generalize nxP p h b = g at m2 gi hx i3 ⊢
      cases z : slt (r ++ [b]) r' with
      | true =>
        rw [z] at lt
        simp only [z, if_true] at hx
        generalize rkD (r ++ [b]) = R1 at rk lt hx ⊢
        generalize rkD r = R0 at m1 n1 r0 r1
        generalize rkD r' = R2 at m2 n2 lt
        simp [dn__law_rows_l1, R.bind, R.out, opt, sSeq, sSet, sb, sRet, sRetO, sIf, sDrop, sNext, sBrk, sCt, frz, sFrz, sAsg, sPar, sFor, sApp, sExt, ownL, tgSet, tgSets, eVar, eVarW, eC, e1, en, aNil, aCons, eOp, eCmp, cCmp, eChain, cChain, cVal, cNot, cAnd, cOr, eIf, vAnd, vOr, vNot, eTup, eLst, eCall, eCallO, eLc, wipeE, cYes, callF, atI_zero, atI_one, atI_lit, atI_nat', atI_m1, szOk, small64, atI_two, atI_three, sRaise, eIsi_of, isi_non, isi_bl, isi_int, isi_str, isi_tup, isi_lst, isD1, lenD_lst, lenD_tup, lenD_scr, ixD_lst, ixD_tup, ixD_scr, addD_ii, addD_ll, addD_tt, subD_ii, ltD_ii, leD_ii, gtD_ii, geD_ii, mulD_ii, listD_l, listD_t, tupD_l, tupD_t, negD_i, itemsD_l, itemsD_t, itemsD_s, i1, i2, i3, m1, m2, n1, n2, r0, r1, ra, rk, lt, sPutL, gi, hx]
      | false =>
        rw [z] at lt
        simp only [z, Bool.false_eq_true, if_false] at hx
        generalize rkD (r ++ [b]) = R1 at rk lt ⊢
        generalize rkD r = R0 at m1 n1 r0 r1
        generalize rkD r' = R2 at m2 n2 lt hx
        simp [dn__law_rows_l1, R.bind, R.out, opt, sSeq, sSet, sb, sRet, sRetO, sIf, sDrop, sNext, sBrk, sCt, frz, sFrz, sAsg, sPar, sFor, sApp, sExt, ownL, tgSet, tgSets, eVar, eVarW, eC, e1, en, aNil, aCons, eOp, eCmp, cCmp, eChain, cChain, cVal, cNot, cAnd, cOr, eIf, vAnd, vOr, vNot, eTup, eLst, eCall, eCallO, eLc, wipeE, cYes, callF, atI_zero, atI_one, atI_lit, atI_nat', atI_m1, szOk, small64, atI_two, atI_three, sRaise, eIsi_of, isi_non, isi_bl, isi_int, isi_str, isi_tup, isi_lst, isD1, lenD_lst, lenD_tup, lenD_scr, ixD_lst, ixD_tup, ixD_scr, addD_ii, addD_ll, addD_tt, subD_ii, ltD_ii, leD_ii, gtD_ii, geD_ii, mulD_ii, listD_l, listD_t, tupD_l, tupD_t, negD_i, itemsD_l, itemsD_t, itemsD_s, i1, i2, i3, m1, m2, n1, n2, r0, r1, ra, rk, lt, sPutL, gi, hx]

theorem brow_in {p : Pl} {k m h : Nat} (w : Wf p k) (hh : h < p.length) {v1 v3 v8 : SV} : ∀ (bs : List Nat) (f : Fo) (L : Nat) (v5 v6 v7 : SV), FoOk p k m f → (∀ b ∈ bs, b < k) → Lb f L → L + bs.length ≤ 900 →
    FoOk p k m (rlxB p h bs f) ∧ Lb (rlxB p h bs f) (L + bs.length) ∧ ∃ u5 u6 u7, loopF (.nm 5) dn__law_rows_l1 (bs.map fun b => .int (b : Nat)) [.val (planD p), v1, .own (.lst (foL f)), v3, .val (.int (h : Nat)), v5, v6, v7, v8] =
      .nx [.val (planD p), v1, .own (.lst (foL (rlxB p h bs f))), v3, .val (.int (h : Nat)), u5, u6, u7, v8]
  | [], f, L, v5, v6, v7, O, _, l, _ => ⟨O, l, v5, v6, v7, rfl⟩
  | b :: bs, f, L, v5, v6, v7, O, hb, l, hL => by
    rw [List.length_cons] at hL
    have hb0 := hb b (.head _)
    obtain ⟨u7, body⟩ := brow_body w hh hb0 O l (by omega) (v1 := v1) (v3 := v3) (v6 := v6) (v7 := v7) (v8 := v8)
    obtain ⟨O', l', w5, w6, w7, e⟩ := brow_in w hh (v1 := v1) (v3 := v3) (v8 := v8) bs (rlx p f h b) (L + 1) (.val (.int (b : Nat))) (.val (.int (nxP p h b : Nat))) u7 (rlx_ok w O hb0) (fun c hc => hb c (.tail _ hc)) (rlx_lb l) (by omega)
    refine ⟨O', by rw [List.length_cons, show L + (bs.length + 1) = L + 1 + bs.length from by omega]; exact l', w5, w6, w7, ?_⟩
    rw [List.map_cons, loopF_cons (ρ1 := [.val (planD p), v1, .own (.lst (foL f)), v3, .val (.int (h : Nat)), .val (.int (b : Nat)), v6, v7, v8]) rfl body]
    exact e
theorem brow_mid {p : Pl} {k m : Nat} (w : Wf p k) {v1 v3 v8 : SV} : ∀ (hs : List Nat) (f : Fo) (L : Nat) (v4 v5 v6 v7 : SV), FoOk p k m f → (∀ h ∈ hs, h < p.length) → Lb f L → L + hs.length * k ≤ 900 →
    FoOk p k m (rlxH p k hs f) ∧ Lb (rlxH p k hs f) (L + hs.length * k) ∧ ∃ u4 u5 u6 u7, loopF (.nm 4) dn__law_rows_l2 (hs.map fun b => .int (b : Nat)) [.val (planD p), v1, .own (.lst (foL f)), v3, v4, v5, v6, v7, v8] =
      .nx [.val (planD p), v1, .own (.lst (foL (rlxH p k hs f))), v3, u4, u5, u6, u7, v8]
  | [], f, L, v4, v5, v6, v7, O, _, l, _ => ⟨O, by rw [List.length_nil, Nat.zero_mul]; exact l, v4, v5, v6, v7, rfl⟩
  | h :: hs, f, L, v4, v5, v6, v7, O, hb, l, hL => by
    rw [List.length_cons, Nat.succ_mul] at hL
    have hh := hb h (.head _)
    obtain ⟨O1, l1, u5, u6, u7, e1'⟩ := brow_in w hh (v1 := v1) (v3 := v3) (v8 := v8) (List.range k) f L v5 v6 v7 O (fun c hc => List.mem_range.mp hc) l (by rw [List.length_range]; omega)
    rw [List.length_range] at l1
    obtain ⟨O', l', w4, w5, w6, w7, e⟩ := brow_mid w (v1 := v1) (v3 := v3) (v8 := v8) hs (rlxB p h (List.range k) f) (L + k) (.val (.int (h : Nat))) u5 u6 u7 O1 (fun c hc => hb c (.tail _ hc)) l1 (by omega)
    refine ⟨O', by rw [List.length_cons, Nat.succ_mul, show L + (hs.length * k + k) = L + k + hs.length * k from by omega]; exact l', w4, w5, w6, w7, ?_⟩
    have l0 := len_mode (mo p 0)
    rw [w.moLen (m := 0) (by have := w.l1; omega)] at l0
    have ip := ix_plan0 w.l1
    have rg := range1D_of (i := (k : Int)) (n := k) rfl (by have := w.k3; omega)
    have body : dn__law_rows_l2 [.val (planD p), v1, .own (.lst (foL f)), v3, .val (.int (h : Nat)), v5, v6, v7, v8] = .nx [.val (planD p), v1, .own (.lst (foL (rlxB p h (List.range k) f))), v3, .val (.int (h : Nat)), u5, u6, u7, v8] := by
      generalize foL (rlxB p h (List.range k) f) = M1 at e1' ⊢
      generalize foL f = M at e1' ⊢
      generalize (List.range k).map (fun b => (D.int (b : Nat))) = RG at rg e1'
      simp [dn__law_rows_l2, R.bind, R.out, opt, sSeq, sSet, sb, sRet, sRetO, sIf, sDrop, sNext, sBrk, sCt, frz, sFrz, sAsg, sPar, sFor, sApp, sExt, ownL, tgSet, tgSets, eVar, eVarW, eC, e1, en, aNil, aCons, eOp, eCmp, cCmp, eChain, cChain, cVal, cNot, cAnd, cOr, eIf, vAnd, vOr, vNot, eTup, eLst, eCall, eCallO, eLc, wipeE, cYes, callF, atI_zero, atI_one, atI_lit, atI_nat', atI_m1, szOk, small64, atI_two, atI_three, sRaise, eIsi_of, isi_non, isi_bl, isi_int, isi_str, isi_tup, isi_lst, isD1, lenD_lst, lenD_tup, lenD_scr, ixD_lst, ixD_tup, ixD_scr, addD_ii, addD_ll, addD_tt, subD_ii, ltD_ii, leD_ii, gtD_ii, geD_ii, mulD_ii, listD_l, listD_t, tupD_l, tupD_t, negD_i, itemsD_l, itemsD_t, itemsD_s, ip, l0, rg, e1']
    rw [List.map_cons, loopF_cons (ρ1 := [.val (planD p), v1, .own (.lst (foL f)), v3, .val (.int (h : Nat)), v5, v6, v7, v8]) rfl body]
    exact e
theorem brow_out {p : Pl} {k m : Nat} (w : Wf p k) {v1 v8 : SV} : ∀ (n : Nat) (is : List D) (f : Fo) (L : Nat) (v3 v4 v5 v6 v7 : SV), is.length = n → FoOk p k m f → Lb f L → L + n * (p.length * k) ≤ 900 →
    ∃ u3 u4 u5 u6 u7, loopF (.nm 3) dn__law_rows_l3 is [.val (planD p), v1, .own (.lst (foL f)), v3, v4, v5, v6, v7, v8] =
      .nx [.val (planD p), v1, .own (.lst (foL (rlxN p k n f))), u3, u4, u5, u6, u7, v8]
  | 0, is, f, L, v3, v4, v5, v6, v7, hn, O, l, _ => by
    have := List.eq_nil_of_length_eq_zero hn
    subst this
    exact ⟨v3, v4, v5, v6, v7, rfl⟩
  | n + 1, [], f, L, v3, v4, v5, v6, v7, hn, O, l, _ => by cases hn
  | n + 1, i :: is, f, L, v3, v4, v5, v6, v7, hn, O, l, hL => by
    rw [Nat.succ_mul] at hL
    obtain ⟨O1, l1, u4, u5, u6, u7, e1'⟩ := brow_mid w (v1 := v1) (v3 := .val i) (v8 := v8) (List.range p.length) f L v4 v5 v6 v7 O (fun c hc => List.mem_range.mp hc) l (by rw [List.length_range]; omega)
    rw [List.length_range] at l1
    obtain ⟨w3, w4, w5, w6, w7, e⟩ := brow_out w (v1 := v1) (v8 := v8) n is (rlxH p k (List.range p.length) f) (L + p.length * k) (.val i) u4 u5 u6 u7 (by simpa using hn) O1 l1 (by omega)
    refine ⟨w3, w4, w5, w6, w7, ?_⟩
    have lp := len_plan p
    have rg := range1D_of (i := (p.length : Int)) (n := p.length) rfl (by have := w.l6; omega)
    have body : dn__law_rows_l3 [.val (planD p), v1, .own (.lst (foL f)), .val i, v4, v5, v6, v7, v8] = .nx [.val (planD p), v1, .own (.lst (foL (rlxH p k (List.range p.length) f))), .val i, u4, u5, u6, u7, v8] := by
      generalize foL (rlxH p k (List.range p.length) f) = M1 at e1' ⊢
      generalize foL f = M at e1' ⊢
      generalize (List.range p.length).map (fun b => (D.int (b : Nat))) = RG at rg e1'
      simp [dn__law_rows_l3, R.bind, R.out, opt, sSeq, sSet, sb, sRet, sRetO, sIf, sDrop, sNext, sBrk, sCt, frz, sFrz, sAsg, sPar, sFor, sApp, sExt, ownL, tgSet, tgSets, eVar, eVarW, eC, e1, en, aNil, aCons, eOp, eCmp, cCmp, eChain, cChain, cVal, cNot, cAnd, cOr, eIf, vAnd, vOr, vNot, eTup, eLst, eCall, eCallO, eLc, wipeE, cYes, callF, atI_zero, atI_one, atI_lit, atI_nat', atI_m1, szOk, small64, atI_two, atI_three, sRaise, eIsi_of, isi_non, isi_bl, isi_int, isi_str, isi_tup, isi_lst, isD1, lenD_lst, lenD_tup, lenD_scr, ixD_lst, ixD_tup, ixD_scr, addD_ii, addD_ll, addD_tt, subD_ii, ltD_ii, leD_ii, gtD_ii, geD_ii, mulD_ii, listD_l, listD_t, tupD_l, tupD_t, negD_i, itemsD_l, itemsD_t, itemsD_s, lp, rg, e1']
    rw [loopF_cons (ρ1 := [.val (planD p), v1, .own (.lst (foL f)), .val i, v4, v5, v6, v7, v8]) rfl body]
    exact e
def wayL (p : Pl) (k m : Nat) : List D := (List.range p.length).map fun g => wayD (wayOf p k m g)
theorem F_lawrows {p : Pl} {k m : Nat} (w : Wf p k) (hm : m < p.length) : F__law_rows [planD p, .int (m : Nat)] = .ok (true, .lst (wayL p k m)) := by
  obtain ⟨O0, _⟩ := fo0_ok w hm
  have l0 : Lb (fo0 p m) 0 := fun g r q => by
    unfold fo0 at q
    rw [List.getElem?_set] at q
    split at q
    · split at q
      · simp only [Option.some.injEq] at q
        subst q
        simp
      · cases q
    · rw [List.getElem?_replicate] at q
      split at q <;> simp at q
  have h6 := w.l6
  have h3 := w.k3
  have bd : 0 + p.length * (p.length * k) ≤ 900 := by
    have a : p.length * k ≤ 6 * 3 := Nat.mul_le_mul h6 h3
    have b : p.length * (p.length * k) ≤ 6 * (6 * 3) := Nat.mul_le_mul h6 a
    omega
  have rg := range1D_of (i := (p.length : Int)) (n := p.length) rfl (by omega)
  obtain ⟨u3, u4, u5, u6, u7, e⟩ := brow_out w (v1 := .val (.int (m : Nat))) (v8 := .no) p.length ((List.range p.length).map fun b => (D.int (b : Nat))) (fo0 p m) 0 .no .no .no .no .no (by simp) O0 l0 bd
  rw [rlx_all w hm] at e
  have lp := len_plan p
  have rep : repLD (.lst [.non]) (.int (p.length : Nat)) = some (.lst (List.replicate p.length .non)) := by
    have z : (decide (0 ≤ ((p.length : Nat) : Int) ∧ ((p.length : Nat) : Int) ≤ 1000) && decide ([D.non].length ≤ 1000)) = true := by
      rw [Bool.and_eq_true]
      exact ⟨decide_eq_true ⟨by omega, by omega⟩, rfl⟩
    simp only [repLD]
    rw [if_pos z]
    congr 2
    simp
  have gi : ixN (List.replicate p.length D.non).length (m : Nat) = some m := ixN_nat (by rw [List.length_replicate]; exact hm)
  have st : (List.replicate p.length D.non).set m (.tup [.int 0, .lst []]) = foL (fo0 p m) := by
    unfold foL fo0
    rw [List.map_set, List.map_replicate]
    rfl
  have lc : lcF (.nm 8) cYes dn__law_rows_e1 [.val (planD p), .val (.int (m : Nat)), .own (.lst (foL ((List.range p.length).map (wayOf p k m)))), u3, u4, u5, u6, u7, .no] (foL ((List.range p.length).map (wayOf p k m))) = .ok (wayL p k m) := by
    have := lcF_all (t := .nm 8) (f := dn__law_rows_e1) (ρ := [.val (planD p), .val (.int (m : Nat)), .own (.lst (foL ((List.range p.length).map (wayOf p k m)))), u3, u4, u5, u6, u7, .no]) (d := foD) (g := wayD) (xs := (List.range p.length).map (wayOf p k m)) fun o _ => ⟨_, rfl, by
      cases o with
      | none =>
        have n1 : isntD .non .non = some false := rfl
        simp [dn__law_rows_e1, R.bind, R.out, opt, sSeq, sSet, sb, sRet, sRetO, sIf, sDrop, sNext, sBrk, sCt, frz, sFrz, sAsg, sPar, sFor, sApp, sExt, ownL, tgSet, tgSets, eVar, eVarW, eC, e1, en, aNil, aCons, eOp, eCmp, cCmp, eChain, cChain, cVal, cNot, cAnd, cOr, eIf, vAnd, vOr, vNot, eTup, eLst, eCall, eCallO, eLc, wipeE, cYes, callF, atI_zero, atI_one, atI_lit, atI_nat', atI_m1, szOk, small64, atI_two, atI_three, sRaise, eIsi_of, isi_non, isi_bl, isi_int, isi_str, isi_tup, isi_lst, isD1, lenD_lst, lenD_tup, lenD_scr, ixD_lst, ixD_tup, ixD_scr, addD_ii, addD_ll, addD_tt, subD_ii, ltD_ii, leD_ii, gtD_ii, geD_ii, mulD_ii, listD_l, listD_t, tupD_l, tupD_t, negD_i, itemsD_l, itemsD_t, itemsD_s, foD, n1, wayD]
      | some r =>
        have n1 : isntD (rkD r) .non = some true := rfl
        have r1 : ixD (rkD r) (.int 1) = some (.lst (rowD r)) := by simp [rkD, ixD, atI_one]
        simp [dn__law_rows_e1, R.bind, R.out, opt, sSeq, sSet, sb, sRet, sRetO, sIf, sDrop, sNext, sBrk, sCt, frz, sFrz, sAsg, sPar, sFor, sApp, sExt, ownL, tgSet, tgSets, eVar, eVarW, eC, e1, en, aNil, aCons, eOp, eCmp, cCmp, eChain, cChain, cVal, cNot, cAnd, cOr, eIf, vAnd, vOr, vNot, eTup, eLst, eCall, eCallO, eLc, wipeE, cYes, callF, atI_zero, atI_one, atI_lit, atI_nat', atI_m1, szOk, small64, atI_two, atI_three, sRaise, eIsi_of, isi_non, isi_bl, isi_int, isi_str, isi_tup, isi_lst, isD1, lenD_lst, lenD_tup, lenD_scr, ixD_lst, ixD_tup, ixD_scr, addD_ii, addD_ll, addD_tt, subD_ii, ltD_ii, leD_ii, gtD_ii, geD_ii, mulD_ii, listD_l, listD_t, tupD_l, tupD_t, negD_i, itemsD_l, itemsD_t, itemsD_s, foD, n1, r1, wayD]⟩
    exact this.trans (by unfold wayL; rw [List.map_map]; rfl)
  have zl : (wayL p k m).length ≤ 16777216 := by unfold wayL; rw [List.length_map, List.length_range]; omega
  generalize (List.range p.length).map (fun b => (D.int (b : Nat))) = RG at rg e
  generalize foL ((List.range p.length).map (wayOf p k m)) = M1 at e lc
  generalize foL (fo0 p m) = M0 at st e
  generalize wayL p k m = WL at lc zl ⊢
  generalize List.replicate p.length D.non = RP at rep gi st
  simp [F__law_rows, dn__law_rows, R.bind, R.out, opt, sSeq, sSet, sb, sRet, sRetO, sIf, sDrop, sNext, sBrk, sCt, frz, sFrz, sAsg, sPar, sFor, sApp, sExt, ownL, tgSet, tgSets, eVar, eVarW, eC, e1, en, aNil, aCons, eOp, eCmp, cCmp, eChain, cChain, cVal, cNot, cAnd, cOr, eIf, vAnd, vOr, vNot, eTup, eLst, eCall, eCallO, eLc, wipeE, cYes, callF, atI_zero, atI_one, atI_lit, atI_nat', atI_m1, szOk, small64, atI_two, atI_three, sRaise, eIsi_of, isi_non, isi_bl, isi_int, isi_str, isi_tup, isi_lst, isD1, lenD_lst, lenD_tup, lenD_scr, ixD_lst, ixD_tup, ixD_scr, addD_ii, addD_ll, addD_tt, subD_ii, ltD_ii, leD_ii, gtD_ii, geD_ii, mulD_ii, listD_l, listD_t, tupD_l, tupD_t, negD_i, itemsD_l, itemsD_t, itemsD_s, lp, rep, sPutL, gi, st, rg, e, lc, zl]

/-! ### the law's own way to a deed -/
abbrev okCd (p : Pl) (d : Str) (h b : Nat) : Prop := (stepOf p h b).2 = d ∧ d ≠ ""
def rowCs (p : Pl) (d : Str) (h : Nat) (r : List Nat) (bs : List Nat) : List (List Nat) := (bs.filter fun b => decide (okCd p d h b)).map fun b => r ++ [b]
def modeCs (p : Pl) (k m : Nat) (d : Str) (h : Nat) : List (List Nat) := match wayOf p k m h with
  | none => []
  | some r => rowCs p d h r (List.range' 0 k)
def allCs (p : Pl) (k m : Nat) (d : Str) : List (List Nat) := (List.range p.length).flatMap (modeCs p k m d)
def upd2 (o : Option (List Nat)) (c : List Nat) : Option (List Nat) := some (better2 c o)
def bestF (o : Option (List Nat)) (cs : List (List Nat)) : Option (List Nat) := cs.foldl upd2 o
def dresOf (p : Pl) (k m : Nat) (d : Str) : Option (List Nat) := if d = "" then none else dwayOf p k m d
theorem bestF_some : ∀ (cs : List (List Nat)) (r : List Nat), ∃ s, bestF (some r) cs = some s ∧ s ∈ r :: cs ∧ ∀ t ∈ r :: cs, sle s t
  | [], r => ⟨r, rfl, .head _, fun t ht => by rw [List.mem_singleton.mp ht]; exact sle_refl r⟩
  | c :: cs, r => by
    obtain ⟨s, h1, h2, h3⟩ := bestF_some cs (if slt c r then c else r)
    refine ⟨s, h1, ?_, fun t ht => ?_⟩
    · rcases List.mem_cons.mp h2 with z | z
      · rw [z]; split
        · exact .tail _ (.head _)
        · exact .head _
      · exact .tail _ (.tail _ z)
    · have h0 := h3 _ (.head _)
      cases z : slt c r with
      | true =>
        rw [z, if_pos rfl] at h0
        rcases List.mem_cons.mp ht with q | q
        · rw [q]; exact sle_trans h0 (sle_of_slt z)
        · rcases List.mem_cons.mp q with q | q
          · rw [q]; exact h0
          · exact h3 t (.tail _ q)
      | false =>
        rw [z, if_neg Bool.false_ne_true] at h0
        rcases List.mem_cons.mp ht with q | q
        · rw [q]; exact h0
        · rcases List.mem_cons.mp q with q | q
          · rw [q]; exact sle_trans h0 z
          · exact h3 t (.tail _ q)
theorem way_of_mem {p : Pl} {k m : Nat} {e : Nat × List Nat} (w : Wf p k) (hm : m < p.length) (h : e ∈ rowsOf p k m) : wayOf p k m e.1 = some e.2 := by
  obtain ⟨s, hs⟩ := way_in (p := p) (k := k) (m := m) (List.mem_map.mpr ⟨e, h, rfl⟩)
  rw [hs, (rows_bfs w hm).one (way_some w hm hs).1 h]
theorem allCs_mem {p : Pl} {k m : Nat} {d : Str} (w : Wf p k) (hm : m < p.length) (hd : d ≠ "") (c : List Nat) : c ∈ allCs p k m d ↔ c ∈ cands p k m d := by
  rw [cands_mem]
  unfold allCs
  rw [List.mem_flatMap]
  constructor
  · rintro ⟨h, hh, hc⟩
    unfold modeCs at hc
    cases q : wayOf p k m h with
    | none => rw [q] at hc; cases hc
    | some r =>
      rw [q] at hc
      obtain ⟨b, hb, rfl⟩ := List.mem_map.mp hc
      obtain ⟨hb1, hb2⟩ := List.mem_filter.mp hb
      have := of_decide_eq_true hb2
      exact ⟨(h, r), (way_some w hm q).1, b, by have := List.mem_range'_1.mp hb1; omega, this.1, rfl⟩
  · rintro ⟨e, he, b, hb, h1, rfl⟩
    have q := way_of_mem w hm he
    obtain ⟨h2, h3⟩ := (rows_bfs w hm).ok e he
    refine ⟨e.1, List.mem_range.mpr (by rw [← h3]; exact runP_lt w hm h2), ?_⟩
    unfold modeCs
    rw [q]
    exact List.mem_map.mpr ⟨b, List.mem_filter.mpr ⟨List.mem_range'_1.mpr ⟨by omega, by omega⟩, decide_eq_true ⟨h1, hd⟩⟩, rfl⟩
theorem best_all {p : Pl} {k m : Nat} {d : Str} (w : Wf p k) (hm : m < p.length) : bestF none (allCs p k m d) = dresOf p k m d := by
  unfold dresOf
  by_cases hd : d = ""
  · rw [if_pos hd]
    have : allCs p k m d = [] := by
      unfold allCs
      rw [List.flatMap_eq_nil_iff]
      intro h _
      unfold modeCs
      split
      · rfl
      · unfold rowCs
        rw [List.map_eq_nil_iff, List.filter_eq_nil_iff]
        intro b _ z
        exact (of_decide_eq_true z).2 hd
    rw [this]
    rfl
  · rw [if_neg hd]
    have hmem := allCs_mem w hm hd
    unfold dwayOf
    cases q : cands p k m d with
    | nil =>
      have : allCs p k m d = [] := List.eq_nil_iff_forall_not_mem.mpr fun c hc => by
        have := (hmem c).mp hc
        rw [q] at this
        cases this
      rw [this]
      rfl
    | cons r0 rs =>
      simp only
      cases q2 : allCs p k m d with
      | nil =>
        have := (hmem r0).mpr (by rw [q]; exact .head _)
        rw [q2] at this
        cases this
      | cons c cs =>
        obtain ⟨s, h1, h2, h3⟩ := bestF_some cs c
        have e0 : bestF none (c :: cs) = bestF (some c) cs := rfl
        rw [e0, h1]
        have a1 : sle s (minR r0 rs) := h3 _ (by rw [← q2]; exact (hmem _).mpr (by rw [q]; exact minR_mem rs r0))
        have a2 : sle (minR r0 rs) s := by
          have : s ∈ r0 :: rs := by rw [← q]; exact (hmem s).mp (by rw [q2]; exact h2)
          rcases List.mem_cons.mp this with z | z
          · rw [z]; exact (minR_le rs r0).1
          · exact (minR_le rs r0).2 s z
        rw [sle_antisymm a1 a2]
theorem rowCs_cons (p : Pl) (d : Str) (h : Nat) (r : List Nat) (b : Nat) (bs : List Nat) : rowCs p d h r (b :: bs) = if okCd p d h b then (r ++ [b]) :: rowCs p d h r bs else rowCs p d h r bs := by
  unfold rowCs
  rw [List.filter_cons]
  by_cases z : okCd p d h b
  · rw [if_pos z, if_pos (decide_eq_true z), List.map_cons]
  · rw [if_neg z, if_neg (by simpa using z)]
theorem l2_loop {p : Pl} {k m h : Nat} {d : Str} (w : Wf p k) (hd : PyData.strOk d = true) (hh : h < p.length) {EL WL : List D} (m1 : EL[m]? = some (.lst WL)) (m2 : WL[h]? = some (wayD (wayOf p k m h))) (hl : ∀ r, wayOf p k m h = some r → r.length ≤ 100) {s0 s4 s11 s12 s13 s14 : SV} :
    ∀ (c b : Nat) (o : Option (List Nat)) (v8 v9 v10 : SV), b + c = k →
    ∃ u8 u9 u10, loopF (.tp [.nm 8, .nm 9]) dn_law_l2 (enumF b (((mo p h).drop b).map stepD)) [s0, .val (planD p), .val (.lst EL), .val (.int (m : Nat)), s4, .val (.str d), .val (foD o), .val (.int (h : Nat)), v8, v9, v10, s11, s12, s13, s14] =
      .nx [s0, .val (planD p), .val (.lst EL), .val (.int (m : Nat)), s4, .val (.str d), .val (foD (bestF o (match wayOf p k m h with
        | none => []
        | some r => rowCs p d h r (List.range' b c)))), .val (.int (h : Nat)), u8, u9, u10, s11, s12, s13, s14]
  | 0, b, o, v8, v9, v10, e => by
    have : (mo p h).drop b = [] := List.drop_eq_nil_of_le (by rw [w.moLen hh]; omega)
    rw [this]
    refine ⟨v8, v9, v10, ?_⟩
    have z : (match wayOf p k m h with
        | none => []
        | some r => rowCs p d h r (List.range' b 0)) = [] := by
      split
      · rfl
      · rfl
    rw [z]
    rfl
  | c + 1, b, o, v8, v9, v10, e => by
    have hb : b < k := by omega
    rw [mo_drop w hh hb, List.map_cons, enumF, List.range'_succ]
    have hset : tgSet (.tp [.nm 8, .nm 9]) (.tup [.int (b : Nat), stepD (stepOf p h b)]) [s0, .val (planD p), .val (.lst EL), .val (.int (m : Nat)), s4, .val (.str d), .val (foD o), .val (.int (h : Nat)), v8, v9, v10, s11, s12, s13, s14] =
      some [s0, .val (planD p), .val (.lst EL), .val (.int (m : Nat)), s4, .val (.str d), .val (foD o), .val (.int (h : Nat)), .val (.int (b : Nat)), .val (stepD (stepOf p h b)), v10, s11, s12, s13, s14] := rfl
    have q1 := eqD_str (dd_ok7 _ (w.dd hh hb)) hd
    have q2 : neD (.str d) (.str "") = some (!decide (d = "")) := by rw [neD_of (eqD_str hd (by decide +kernel))]
    have i1 := ix_st1 (stepOf p h b)
    cases qw : wayOf p k m h with
    | none =>
      obtain ⟨u8, u9, u10, e2⟩ := l2_loop w hd hh m1 m2 hl (s0 := s0) (s4 := s4) (s11 := s11) (s12 := s12) (s13 := s13) (s14 := s14) c (b + 1) o (.val (.int (b : Nat))) (.val (stepD (stepOf p h b))) v10 (by omega)
      rw [qw] at e2 m2
      refine ⟨u8, u9, u10, ?_⟩
      have n1 : isntD .non .non = some false := rfl
      have body : dn_law_l2 [s0, .val (planD p), .val (.lst EL), .val (.int (m : Nat)), s4, .val (.str d), .val (foD o), .val (.int (h : Nat)), .val (.int (b : Nat)), .val (stepD (stepOf p h b)), v10, s11, s12, s13, s14] =
          .nx [s0, .val (planD p), .val (.lst EL), .val (.int (m : Nat)), s4, .val (.str d), .val (foD o), .val (.int (h : Nat)), .val (.int (b : Nat)), .val (stepD (stepOf p h b)), v10, s11, s12, s13, s14] := by
        simp only [wayD] at m2
        simp [dn_law_l2, R.bind, R.out, opt, sSeq, sSet, sb, sRet, sRetO, sIf, sDrop, sNext, sBrk, sCt, frz, sFrz, sAsg, sPar, sFor, sApp, sExt, ownL, tgSet, tgSets, eVar, eVarW, eC, e1, en, aNil, aCons, eOp, eCmp, cCmp, eChain, cChain, cVal, cNot, cAnd, cOr, eIf, vAnd, vOr, vNot, eTup, eLst, eCall, eCallO, eLc, wipeE, cYes, callF, atI_zero, atI_one, atI_lit, atI_nat', atI_m1, szOk, small64, atI_two, atI_three, sRaise, eIsi_of, isi_non, isi_bl, isi_int, isi_str, isi_tup, isi_lst, isD1, lenD_lst, lenD_tup, lenD_scr, ixD_lst, ixD_tup, ixD_scr, addD_ii, addD_ll, addD_tt, subD_ii, ltD_ii, leD_ii, gtD_ii, geD_ii, mulD_ii, listD_l, listD_t, tupD_l, tupD_t, negD_i, itemsD_l, itemsD_t, itemsD_s, m1, m2, n1]
      rw [loopF_cons hset body]
      exact e2
    | some r =>
      have lr := hl r qw
      have m2' := m2
      rw [qw] at m2'
      simp only [wayD] at m2'
      have n1 : isntD (.lst (rowD r)) .non = some true := rfl
      have ra := row_snoc (r := r) b (by omega)
      have rk : (.tup [.int ((r ++ [b]).length : Nat), .lst (rowD (r ++ [b]))] : D) = rkD (r ++ [b]) := rfl
      have le : lenD (.lst (rowD (r ++ [b]))) = some (.int ((r ++ [b]).length : Nat)) := by simp [lenD, rowD]
      simp only
      rw [rowCs_cons]
      by_cases z : okCd p d h b
      · rw [if_pos z]
        obtain ⟨u8, u9, u10, e2⟩ := l2_loop w hd hh m1 m2 hl (s0 := s0) (s4 := s4) (s11 := s11) (s12 := s12) (s13 := s13) (s14 := s14) c (b + 1) (upd2 o (r ++ [b])) (.val (.int (b : Nat))) (.val (stepD (stepOf p h b))) (.val (.lst (rowD (r ++ [b])))) (by omega)
        rw [qw] at e2
        refine ⟨u8, u9, u10, ?_⟩
        have body : dn_law_l2 [s0, .val (planD p), .val (.lst EL), .val (.int (m : Nat)), s4, .val (.str d), .val (foD o), .val (.int (h : Nat)), .val (.int (b : Nat)), .val (stepD (stepOf p h b)), v10, s11, s12, s13, s14] =
            .nx [s0, .val (planD p), .val (.lst EL), .val (.int (m : Nat)), s4, .val (.str d), .val (foD (upd2 o (r ++ [b]))), .val (.int (h : Nat)), .val (.int (b : Nat)), .val (stepD (stepOf p h b)), .val (.lst (rowD (r ++ [b]))), s11, s12, s13, s14] := by
          obtain ⟨z1, z2⟩ := z
          rw [z1] at q1 i1
          cases o with
          | none =>
            have n2 : isD (foD none) .non = some true := rfl
            have u : foD (upd2 none (r ++ [b])) = rkD (r ++ [b]) := rfl
            rw [u]
            generalize stepD (stepOf p h b) = SD at i1 ⊢
            generalize rowD (r ++ [b]) = RR at ra rk le ⊢
            generalize ((r ++ [b]).length : Nat) = lr at rk le
            generalize rkD (r ++ [b]) = RK at rk ⊢
            generalize foD none = F0 at n2 ⊢
            simp [dn_law_l2, R.bind, R.out, opt, sSeq, sSet, sb, sRet, sRetO, sIf, sDrop, sNext, sBrk, sCt, frz, sFrz, sAsg, sPar, sFor, sApp, sExt, ownL, tgSet, tgSets, eVar, eVarW, eC, e1, en, aNil, aCons, eOp, eCmp, cCmp, eChain, cChain, cVal, cNot, cAnd, cOr, eIf, vAnd, vOr, vNot, eTup, eLst, eCall, eCallO, eLc, wipeE, cYes, callF, atI_zero, atI_one, atI_lit, atI_nat', atI_m1, szOk, small64, atI_two, atI_three, sRaise, eIsi_of, isi_non, isi_bl, isi_int, isi_str, isi_tup, isi_lst, isD1, lenD_lst, lenD_tup, lenD_scr, ixD_lst, ixD_tup, ixD_scr, addD_ii, addD_ll, addD_tt, subD_ii, ltD_ii, leD_ii, gtD_ii, geD_ii, mulD_ii, listD_l, listD_t, tupD_l, tupD_t, negD_i, itemsD_l, itemsD_t, itemsD_s, m1, m2', n1, i1, q1, q2, z2, ra, le, rk, n2]
          | some s =>
            have n2 : isD (foD (some s)) .non = some false := rfl
            have u : foD (upd2 (some s) (r ++ [b])) = rkD (if slt (r ++ [b]) s then r ++ [b] else s) := rfl
            have mn := min2_rk s (r ++ [b])
            have fs : foD (some s) = rkD s := rfl
            rw [u]
            rw [← fs] at mn
            generalize stepD (stepOf p h b) = SD at i1 ⊢
            generalize rkD (if slt (r ++ [b]) s then r ++ [b] else s) = RM at mn ⊢
            generalize rowD (r ++ [b]) = RR at ra rk le ⊢
            generalize ((r ++ [b]).length : Nat) = lr at rk le
            generalize rkD (r ++ [b]) = RK at rk mn
            generalize foD (some s) = F0 at n2 mn ⊢
            simp [dn_law_l2, R.bind, R.out, opt, sSeq, sSet, sb, sRet, sRetO, sIf, sDrop, sNext, sBrk, sCt, frz, sFrz, sAsg, sPar, sFor, sApp, sExt, ownL, tgSet, tgSets, eVar, eVarW, eC, e1, en, aNil, aCons, eOp, eCmp, cCmp, eChain, cChain, cVal, cNot, cAnd, cOr, eIf, vAnd, vOr, vNot, eTup, eLst, eCall, eCallO, eLc, wipeE, cYes, callF, atI_zero, atI_one, atI_lit, atI_nat', atI_m1, szOk, small64, atI_two, atI_three, sRaise, eIsi_of, isi_non, isi_bl, isi_int, isi_str, isi_tup, isi_lst, isD1, lenD_lst, lenD_tup, lenD_scr, ixD_lst, ixD_tup, ixD_scr, addD_ii, addD_ll, addD_tt, subD_ii, ltD_ii, leD_ii, gtD_ii, geD_ii, mulD_ii, listD_l, listD_t, tupD_l, tupD_t, negD_i, itemsD_l, itemsD_t, itemsD_s, m1, m2', n1, i1, q1, q2, z2, ra, le, rk, n2, mn]
        rw [loopF_cons hset body]
        exact e2
      · rw [if_neg z]
        obtain ⟨u8, u9, u10, e2⟩ := l2_loop w hd hh m1 m2 hl (s0 := s0) (s4 := s4) (s11 := s11) (s12 := s12) (s13 := s13) (s14 := s14) c (b + 1) o (.val (.int (b : Nat))) (.val (stepD (stepOf p h b))) v10 (by omega)
        rw [qw] at e2
        refine ⟨u8, u9, u10, ?_⟩
        have body : dn_law_l2 [s0, .val (planD p), .val (.lst EL), .val (.int (m : Nat)), s4, .val (.str d), .val (foD o), .val (.int (h : Nat)), .val (.int (b : Nat)), .val (stepD (stepOf p h b)), v10, s11, s12, s13, s14] =
            .nx [s0, .val (planD p), .val (.lst EL), .val (.int (m : Nat)), s4, .val (.str d), .val (foD o), .val (.int (h : Nat)), .val (.int (b : Nat)), .val (stepD (stepOf p h b)), v10, s11, s12, s13, s14] := by
          by_cases z1 : (stepOf p h b).2 = d
          · have z2 : d = "" := by
              by_cases y : d = ""
              · exact y
              · exact absurd ⟨z1, y⟩ z
            have q2' : neD (.str d) (.str "") = some false := by rw [q2, z2]; rfl
            rw [z1, decide_eq_true rfl] at q1
            rw [z1] at i1
            generalize stepD (stepOf p h b) = SD at i1 ⊢
            generalize foD o = F0
            simp [dn_law_l2, R.bind, R.out, opt, sSeq, sSet, sb, sRet, sRetO, sIf, sDrop, sNext, sBrk, sCt, frz, sFrz, sAsg, sPar, sFor, sApp, sExt, ownL, tgSet, tgSets, eVar, eVarW, eC, e1, en, aNil, aCons, eOp, eCmp, cCmp, eChain, cChain, cVal, cNot, cAnd, cOr, eIf, vAnd, vOr, vNot, eTup, eLst, eCall, eCallO, eLc, wipeE, cYes, callF, atI_zero, atI_one, atI_lit, atI_nat', atI_m1, szOk, small64, atI_two, atI_three, sRaise, eIsi_of, isi_non, isi_bl, isi_int, isi_str, isi_tup, isi_lst, isD1, lenD_lst, lenD_tup, lenD_scr, ixD_lst, ixD_tup, ixD_scr, addD_ii, addD_ll, addD_tt, subD_ii, ltD_ii, leD_ii, gtD_ii, geD_ii, mulD_ii, listD_l, listD_t, tupD_l, tupD_t, negD_i, itemsD_l, itemsD_t, itemsD_s, m1, m2', n1, i1, q1, q2']
          · rw [decide_eq_false z1] at q1
            generalize stepD (stepOf p h b) = SD at i1 ⊢
            generalize foD o = F0
            generalize (stepOf p h b).2 = sd at i1 q1
            simp [dn_law_l2, R.bind, R.out, opt, sSeq, sSet, sb, sRet, sRetO, sIf, sDrop, sNext, sBrk, sCt, frz, sFrz, sAsg, sPar, sFor, sApp, sExt, ownL, tgSet, tgSets, eVar, eVarW, eC, e1, en, aNil, aCons, eOp, eCmp, cCmp, eChain, cChain, cVal, cNot, cAnd, cOr, eIf, vAnd, vOr, vNot, eTup, eLst, eCall, eCallO, eLc, wipeE, cYes, callF, atI_zero, atI_one, atI_lit, atI_nat', atI_m1, szOk, small64, atI_two, atI_three, sRaise, eIsi_of, isi_non, isi_bl, isi_int, isi_str, isi_tup, isi_lst, isD1, lenD_lst, lenD_tup, lenD_scr, ixD_lst, ixD_tup, ixD_scr, addD_ii, addD_ll, addD_tt, subD_ii, ltD_ii, leD_ii, gtD_ii, geD_ii, mulD_ii, listD_l, listD_t, tupD_l, tupD_t, negD_i, itemsD_l, itemsD_t, itemsD_s, m1, m2', n1, i1, q1]
        rw [loopF_cons hset body]
        exact e2

theorem l3_loop {p : Pl} {k m : Nat} {d : Str} (w : Wf p k) (hm : m < p.length) (hd : PyData.strOk d = true) {EL : List D} (m1 : EL[m]? = some (.lst (wayL p k m))) {s0 s4 s11 s12 s13 s14 : SV} :
    ∀ (hs : List Nat) (o : Option (List Nat)) (v7 v8 v9 v10 : SV), (∀ h ∈ hs, h < p.length) →
    ∃ u7 u8 u9 u10, loopF (.nm 7) dn_law_l3 (hs.map fun h => .int (h : Nat)) [s0, .val (planD p), .val (.lst EL), .val (.int (m : Nat)), s4, .val (.str d), .val (foD o), v7, v8, v9, v10, s11, s12, s13, s14] =
      .nx [s0, .val (planD p), .val (.lst EL), .val (.int (m : Nat)), s4, .val (.str d), .val (foD (bestF o (hs.flatMap (modeCs p k m d)))), u7, u8, u9, u10, s11, s12, s13, s14]
  | [], o, v7, v8, v9, v10, _ => ⟨v7, v8, v9, v10, rfl⟩
  | h :: hs, o, v7, v8, v9, v10, hb => by
    have hh := hb h (.head _)
    have m2 : (wayL p k m)[h]? = some (wayD (wayOf p k m h)) := by
      unfold wayL
      rw [List.getElem?_map, List.getElem?_range hh]
      rfl
    obtain ⟨u8, u9, u10, e⟩ := l2_loop w hd hh m1 m2 (fun r q => by have := (way_some w hm q).2.2.2; have := w.l6; omega) (s0 := s0) (s4 := s4) (s11 := s11) (s12 := s12) (s13 := s13) (s14 := s14) k 0 o v8 v9 v10 (by omega)
    rw [List.drop_zero] at e
    have e : loopF (.tp [.nm 8, .nm 9]) dn_law_l2 (enumF 0 ((mo p h).map stepD)) [s0, .val (planD p), .val (.lst EL), .val (.int (m : Nat)), s4, .val (.str d), .val (foD o), .val (.int (h : Nat)), v8, v9, v10, s11, s12, s13, s14] =
      .nx [s0, .val (planD p), .val (.lst EL), .val (.int (m : Nat)), s4, .val (.str d), .val (foD (bestF o (modeCs p k m d h))), .val (.int (h : Nat)), u8, u9, u10, s11, s12, s13, s14] := e
    obtain ⟨x7, x8, x9, x10, e2⟩ := l3_loop w hm hd m1 (s0 := s0) (s4 := s4) (s11 := s11) (s12 := s12) (s13 := s13) (s14 := s14) hs (bestF o (modeCs p k m d h)) (.val (.int (h : Nat))) u8 u9 u10 fun c hc => hb c (.tail _ hc)
    refine ⟨x7, x8, x9, x10, ?_⟩
    have en : enumAD [modeD (mo p h)] = some (enumF 0 ((mo p h).map stepD)) := rfl
    have body : dn_law_l3 [s0, .val (planD p), .val (.lst EL), .val (.int (m : Nat)), s4, .val (.str d), .val (foD o), .val (.int (h : Nat)), v8, v9, v10, s11, s12, s13, s14] =
        .nx [s0, .val (planD p), .val (.lst EL), .val (.int (m : Nat)), s4, .val (.str d), .val (foD (bestF o (modeCs p k m d h))), .val (.int (h : Nat)), u8, u9, u10, s11, s12, s13, s14] := by
      generalize foD (bestF o (modeCs p k m d h)) = F1 at e ⊢
      generalize foD o = F0 at e ⊢
      simp [dn_law_l3, R.bind, R.out, opt, sSeq, sSet, sb, sRet, sRetO, sIf, sDrop, sNext, sBrk, sCt, frz, sFrz, sAsg, sPar, sFor, sApp, sExt, ownL, tgSet, tgSets, eVar, eVarW, eC, e1, en, aNil, aCons, eOp, eCmp, cCmp, eChain, cChain, cVal, cNot, cAnd, cOr, eIf, vAnd, vOr, vNot, eTup, eLst, eCall, eCallO, eLc, wipeE, cYes, callF, atI_zero, atI_one, atI_lit, atI_nat', atI_m1, szOk, small64, atI_two, atI_three, sRaise, eIsi_of, isi_non, isi_bl, isi_int, isi_str, isi_tup, isi_lst, isD1, lenD_lst, lenD_tup, lenD_scr, ixD_lst, ixD_tup, ixD_scr, addD_ii, addD_ll, addD_tt, subD_ii, ltD_ii, leD_ii, gtD_ii, geD_ii, mulD_ii, listD_l, listD_t, tupD_l, tupD_t, negD_i, itemsD_l, itemsD_t, itemsD_s, ix_plan hh, en, e]
    rw [List.map_cons, loopF_cons rfl body, e2]
    have fl : bestF (bestF o (modeCs p k m d h)) (hs.flatMap (modeCs p k m d)) = bestF o ((h :: hs).flatMap (modeCs p k m d)) := by
      unfold bestF
      rw [List.flatMap_cons, List.foldl_append]
    rw [fl]
/-! ### what is asked -/
theorem do_yes {P x y r : D} {b : Bool} (h : F_way_to [P, x, y] = .ok (b, r)) : F__law_do [.int 0, P, x, y] = .ok (false, r) := by
  have e : eqD (.int 0) (.int 0) = some true := by kernel_rfl
  have i : isD .non .non = some true := rfl
  simp [F__law_do, dn__law_do, sTryK, R.bind, R.out, opt, sSeq, sSet, sb, sRet, sRetO, sIf, sDrop, sNext, sBrk, sCt, frz, sFrz, sAsg, sPar, sFor, sApp, sExt, ownL, tgSet, tgSets, eVar, eVarW, eC, e1, en, aNil, aCons, eOp, eCmp, cCmp, eChain, cChain, cVal, cNot, cAnd, cOr, eIf, vAnd, vOr, vNot, eTup, eLst, eCall, eCallO, eLc, wipeE, cYes, callF, atI_zero, atI_one, atI_lit, atI_nat', atI_m1, szOk, small64, atI_two, atI_three, sRaise, eIsi_of, isi_non, isi_bl, isi_int, isi_str, isi_tup, isi_lst, isD1, lenD_lst, lenD_tup, lenD_scr, ixD_lst, ixD_tup, ixD_scr, addD_ii, addD_ll, addD_tt, subD_ii, ltD_ii, leD_ii, gtD_ii, geD_ii, mulD_ii, listD_l, listD_t, tupD_l, tupD_t, negD_i, itemsD_l, itemsD_t, itemsD_s, h, e, i]
theorem do_yes1 {P x y r : D} {b : Bool} (h : F_way_to_deed [P, x, y] = .ok (b, r)) : F__law_do [.int 1, P, x, y] = .ok (false, r) := by
  have e : eqD (.int 1) (.int 0) = some false := by kernel_rfl
  have i : isD .non .non = some true := rfl
  simp [F__law_do, dn__law_do, sTryK, R.bind, R.out, opt, sSeq, sSet, sb, sRet, sRetO, sIf, sDrop, sNext, sBrk, sCt, frz, sFrz, sAsg, sPar, sFor, sApp, sExt, ownL, tgSet, tgSets, eVar, eVarW, eC, e1, en, aNil, aCons, eOp, eCmp, cCmp, eChain, cChain, cVal, cNot, cAnd, cOr, eIf, vAnd, vOr, vNot, eTup, eLst, eCall, eCallO, eLc, wipeE, cYes, callF, atI_zero, atI_one, atI_lit, atI_nat', atI_m1, szOk, small64, atI_two, atI_three, sRaise, eIsi_of, isi_non, isi_bl, isi_int, isi_str, isi_tup, isi_lst, isD1, lenD_lst, lenD_tup, lenD_scr, ixD_lst, ixD_tup, ixD_scr, addD_ii, addD_ll, addD_tt, subD_ii, ltD_ii, leD_ii, gtD_ii, geD_ii, mulD_ii, listD_l, listD_t, tupD_l, tupD_t, negD_i, itemsD_l, itemsD_t, itemsD_s, h, e, i]
theorem do_no {P x y : D} (h : F_way_to [P, x, y] = .exc "NoMode") : F__law_do [.int 0, P, x, y] = .ok (false, .str "no mode") := by
  have e : eqD (.int 0) (.int 0) = some true := by kernel_rfl
  simp [F__law_do, dn__law_do, sTryK, R.bind, R.out, opt, sSeq, sSet, sb, sRet, sRetO, sIf, sDrop, sNext, sBrk, sCt, frz, sFrz, sAsg, sPar, sFor, sApp, sExt, ownL, tgSet, tgSets, eVar, eVarW, eC, e1, en, aNil, aCons, eOp, eCmp, cCmp, eChain, cChain, cVal, cNot, cAnd, cOr, eIf, vAnd, vOr, vNot, eTup, eLst, eCall, eCallO, eLc, wipeE, cYes, callF, atI_zero, atI_one, atI_lit, atI_nat', atI_m1, szOk, small64, atI_two, atI_three, sRaise, eIsi_of, isi_non, isi_bl, isi_int, isi_str, isi_tup, isi_lst, isD1, lenD_lst, lenD_tup, lenD_scr, ixD_lst, ixD_tup, ixD_scr, addD_ii, addD_ll, addD_tt, subD_ii, ltD_ii, leD_ii, gtD_ii, geD_ii, mulD_ii, listD_l, listD_t, tupD_l, tupD_t, negD_i, itemsD_l, itemsD_t, itemsD_s, h, e, txtN]
theorem do_no1 {P x y : D} (h : F_way_to_deed [P, x, y] = .exc "NoMode") : F__law_do [.int 1, P, x, y] = .ok (false, .str "no mode") := by
  have e : eqD (.int 1) (.int 0) = some false := by kernel_rfl
  simp [F__law_do, dn__law_do, sTryK, R.bind, R.out, opt, sSeq, sSet, sb, sRet, sRetO, sIf, sDrop, sNext, sBrk, sCt, frz, sFrz, sAsg, sPar, sFor, sApp, sExt, ownL, tgSet, tgSets, eVar, eVarW, eC, e1, en, aNil, aCons, eOp, eCmp, cCmp, eChain, cChain, cVal, cNot, cAnd, cOr, eIf, vAnd, vOr, vNot, eTup, eLst, eCall, eCallO, eLc, wipeE, cYes, callF, atI_zero, atI_one, atI_lit, atI_nat', atI_m1, szOk, small64, atI_two, atI_three, sRaise, eIsi_of, isi_non, isi_bl, isi_int, isi_str, isi_tup, isi_lst, isD1, lenD_lst, lenD_tup, lenD_scr, ixD_lst, ixD_tup, ixD_scr, addD_ii, addD_ll, addD_tt, subD_ii, ltD_ii, leD_ii, gtD_ii, geD_ii, mulD_ii, listD_l, listD_t, tupD_l, tupD_t, negD_i, itemsD_l, itemsD_t, itemsD_s, h, e, txtN]
theorem way_ne (o : Option (List Nat)) : neD (wayD o) (wayD o) = some false := by
  refine ne_self ?_
  cases o with
  | none => rfl
  | some r =>
    show okD 16 (.lst (rowD r)) = true
    rw [okD_l 15, List.all_eq_true]
    intro x hx
    obtain ⟨b, _, rfl⟩ := List.mem_map.mp hx
    rfl
/-! ### no way does the empty deed -/
theorem deed0_in {p : Pl} {k h : Nat} (w : Wf p k) (hh : h < p.length) {v1 : SV} {M A : D} : ∀ (c b : Nat) (v6 v7 v8 : SV), b + c = k →
    ∃ u6 u7 u8, loopF (.tp [.nm 6, .tp [.nm 7, .nm 8]]) dn_way_for_l1 (enumF b (((mo p h).drop b).map stepD)) [.val (planD p), v1, .val (.str ""), .val M, .own A, .val (.int (h : Nat)), v6, v7, v8] =
      .nx [.val (planD p), v1, .val (.str ""), .val M, .own A, .val (.int (h : Nat)), u6, u7, u8]
  | 0, b, v6, v7, v8, e => by
    have : (mo p h).drop b = [] := List.drop_eq_nil_of_le (by rw [w.moLen hh]; omega)
    rw [this]
    exact ⟨v6, v7, v8, rfl⟩
  | c + 1, b, v6, v7, v8, e => by
    have hb : b < k := by omega
    obtain ⟨u6, u7, u8, e2⟩ := deed0_in w hh (v1 := v1) (M := M) (A := A) c (b + 1) (.val (.int (b : Nat))) (.val (.int ((stepOf p h b).1 : Nat))) (.val (.str (stepOf p h b).2)) (by omega)
    refine ⟨u6, u7, u8, ?_⟩
    have q1 := eqD_str (dd_ok7 _ (w.dd hh hb)) (show PyData.strOk "" = true by decide +kernel)
    have q2 : neD (.str (stepOf p h b).2) (.str "") = some (!decide ((stepOf p h b).2 = "")) := by rw [neD_of q1]
    rw [mo_drop w hh hb, List.map_cons, enumF]
    have hset : tgSet (.tp [.nm 6, .tp [.nm 7, .nm 8]]) (.tup [.int (b : Nat), stepD (stepOf p h b)]) [.val (planD p), v1, .val (.str ""), .val M, .own A, .val (.int (h : Nat)), v6, v7, v8] =
      some [.val (planD p), v1, .val (.str ""), .val M, .own A, .val (.int (h : Nat)), .val (.int (b : Nat)), .val (.int ((stepOf p h b).1 : Nat)), .val (.str (stepOf p h b).2)] := rfl
    have body : dn_way_for_l1 [.val (planD p), v1, .val (.str ""), .val M, .own A, .val (.int (h : Nat)), .val (.int (b : Nat)), .val (.int ((stepOf p h b).1 : Nat)), .val (.str (stepOf p h b).2)] =
        .nx [.val (planD p), v1, .val (.str ""), .val M, .own A, .val (.int (h : Nat)), .val (.int (b : Nat)), .val (.int ((stepOf p h b).1 : Nat)), .val (.str (stepOf p h b).2)] := by
      by_cases z : (stepOf p h b).2 = ""
      · rw [z] at q1 q2 ⊢
        simp [dn_way_for_l1, R.bind, R.out, opt, sSeq, sSet, sb, sRet, sRetO, sIf, sDrop, sNext, sBrk, sCt, frz, sFrz, sAsg, sPar, sFor, sApp, sExt, ownL, tgSet, tgSets, eVar, eVarW, eC, e1, en, aNil, aCons, eOp, eCmp, cCmp, eChain, cChain, cVal, cNot, cAnd, cOr, eIf, vAnd, vOr, vNot, eTup, eLst, eCall, eCallO, eLc, wipeE, cYes, callF, atI_zero, atI_one, atI_lit, atI_nat', atI_m1, szOk, small64, atI_two, atI_three, sRaise, eIsi_of, isi_non, isi_bl, isi_int, isi_str, isi_tup, isi_lst, isD1, lenD_lst, lenD_tup, lenD_scr, ixD_lst, ixD_tup, ixD_scr, addD_ii, addD_ll, addD_tt, subD_ii, ltD_ii, leD_ii, gtD_ii, geD_ii, mulD_ii, listD_l, listD_t, tupD_l, tupD_t, negD_i, itemsD_l, itemsD_t, itemsD_s, q1, q2]
      · rw [decide_eq_false z] at q1
        simp [dn_way_for_l1, R.bind, R.out, opt, sSeq, sSet, sb, sRet, sRetO, sIf, sDrop, sNext, sBrk, sCt, frz, sFrz, sAsg, sPar, sFor, sApp, sExt, ownL, tgSet, tgSets, eVar, eVarW, eC, e1, en, aNil, aCons, eOp, eCmp, cCmp, eChain, cChain, cVal, cNot, cAnd, cOr, eIf, vAnd, vOr, vNot, eTup, eLst, eCall, eCallO, eLc, wipeE, cYes, callF, atI_zero, atI_one, atI_lit, atI_nat', atI_m1, szOk, small64, atI_two, atI_three, sRaise, eIsi_of, isi_non, isi_bl, isi_int, isi_str, isi_tup, isi_lst, isD1, lenD_lst, lenD_tup, lenD_scr, ixD_lst, ixD_tup, ixD_scr, addD_ii, addD_ll, addD_tt, subD_ii, ltD_ii, leD_ii, gtD_ii, geD_ii, mulD_ii, listD_l, listD_t, tupD_l, tupD_t, negD_i, itemsD_l, itemsD_t, itemsD_s, q1]
    rw [loopF_cons hset body]
    exact e2
theorem deed0_out {p : Pl} {k : Nat} (w : Wf p k) {v1 : SV} {M A : D} : ∀ (T : List Nat) (v5 v6 v7 v8 : SV), (∀ h ∈ T, h < p.length) →
    ∃ u5 u6 u7 u8, loopF (.nm 5) dn_way_for_l2 (T.map fun h => .int (h : Nat)) [.val (planD p), v1, .val (.str ""), .val M, .own A, v5, v6, v7, v8] = .nx [.val (planD p), v1, .val (.str ""), .val M, .own A, u5, u6, u7, u8]
  | [], v5, v6, v7, v8, _ => ⟨v5, v6, v7, v8, rfl⟩
  | h :: T, v5, v6, v7, v8, hb => by
    have hh := hb h (.head _)
    obtain ⟨u6, u7, u8, e⟩ := deed0_in w hh (v1 := v1) (M := M) (A := A) k 0 v6 v7 v8 (by omega)
    rw [List.drop_zero] at e
    obtain ⟨x5, x6, x7, x8, e2⟩ := deed0_out w (v1 := v1) (M := M) (A := A) T (.val (.int (h : Nat))) u6 u7 u8 fun c hc => hb c (.tail _ hc)
    refine ⟨x5, x6, x7, x8, ?_⟩
    have en : enumAD [modeD (mo p h)] = some (enumF 0 ((mo p h).map stepD)) := rfl
    have body : dn_way_for_l2 [.val (planD p), v1, .val (.str ""), .val M, .own A, .val (.int (h : Nat)), v6, v7, v8] = .nx [.val (planD p), v1, .val (.str ""), .val M, .own A, .val (.int (h : Nat)), u6, u7, u8] := by
      simp [dn_way_for_l2, R.bind, R.out, opt, sSeq, sSet, sb, sRet, sRetO, sIf, sDrop, sNext, sBrk, sCt, frz, sFrz, sAsg, sPar, sFor, sApp, sExt, ownL, tgSet, tgSets, eVar, eVarW, eC, e1, en, aNil, aCons, eOp, eCmp, cCmp, eChain, cChain, cVal, cNot, cAnd, cOr, eIf, vAnd, vOr, vNot, eTup, eLst, eCall, eCallO, eLc, wipeE, cYes, callF, atI_zero, atI_one, atI_lit, atI_nat', atI_m1, szOk, small64, atI_two, atI_three, sRaise, eIsi_of, isi_non, isi_bl, isi_int, isi_str, isi_tup, isi_lst, isD1, lenD_lst, lenD_tup, lenD_scr, ixD_lst, ixD_tup, ixD_scr, addD_ii, addD_ll, addD_tt, subD_ii, ltD_ii, leD_ii, gtD_ii, geD_ii, mulD_ii, listD_l, listD_t, tupD_l, tupD_t, negD_i, itemsD_l, itemsD_t, itemsD_s, ix_plan hh, en, e]
    rw [List.map_cons, loopF_cons rfl body]
    exact e2
theorem F_wayfor_e {p : Pl} {k m : Nat} (w : Wf p k) (hm : m < p.length) : F_way_for [planD p, .int (m : Nat), .str ""] = .ok (false, .non) := by
  have B := rows_bfs w hm
  obtain ⟨u5, u6, u7, u8, e⟩ := deed0_out w (v1 := .val (.int (m : Nat))) (M := .ldc false (rfD (rowsOf p k m))) (A := .lst []) ((rowsOf p k m).map (·.1)) .no .no .no .no fun h hh => by
    obtain ⟨x, hx, rfl⟩ := List.mem_map.mp hh
    obtain ⟨h1, h2⟩ := B.ok x hx
    rw [← h2]
    exact runP_lt w hm h1
  rw [List.map_map] at e
  have ks := keys_rf (rowsOf p k m)
  have fr := F_rowsfrom w hm
  have ne : neD (.lst []) (.lst []) = some false := by kernel_rfl
  have cc : ((fun h : Nat => D.int (h : Nat)) ∘ fun x : Nat × List Nat => x.1) = fun e : Nat × List Nat => D.int (e.1 : Nat) := rfl
  rw [cc] at e
  generalize rfD (rowsOf p k m) = M at e ks fr
  generalize (rowsOf p k m).map (fun e => D.int (e.1 : Nat)) = KS at e ks
  simp [F_way_for, dn_way_for, R.bind, R.out, opt, sSeq, sSet, sb, sRet, sRetO, sIf, sDrop, sNext, sBrk, sCt, frz, sFrz, sAsg, sPar, sFor, sApp, sExt, ownL, tgSet, tgSets, eVar, eVarW, eC, e1, en, aNil, aCons, eOp, eCmp, cCmp, eChain, cChain, cVal, cNot, cAnd, cOr, eIf, vAnd, vOr, vNot, eTup, eLst, eCall, eCallO, eLc, wipeE, cYes, callF, atI_zero, atI_one, atI_lit, atI_nat', atI_m1, szOk, small64, atI_two, atI_three, sRaise, eIsi_of, isi_non, isi_bl, isi_int, isi_str, isi_tup, isi_lst, isD1, lenD_lst, lenD_tup, lenD_scr, ixD_lst, ixD_tup, ixD_scr, addD_ii, addD_ll, addD_tt, subD_ii, ltD_ii, leD_ii, gtD_ii, geD_ii, mulD_ii, listD_l, listD_t, tupD_l, tupD_t, negD_i, itemsD_l, itemsD_t, itemsD_s, fr, sLk, lockE, ks, e, ne]
def deeds5 : List Str := ["lap", "go", "x", "abcdef", "none", ""]
theorem deeds5_ok : ∀ d ∈ deeds5, F_is_deed [.str d] = .ok (false, .bl true) ∧ PyData.strOk d = true := by
  intro d h
  simp only [deeds5, List.mem_cons, List.not_mem_nil, or_false] at h
  rcases h with rfl | rfl | rfl | rfl | rfl | rfl <;> exact ⟨by kernel_rfl, by decide +kernel⟩
theorem do_deed {p : Pl} {k m : Nat} {d : Str} (w : Wf p k) (hm : m < p.length) (h : d ∈ deeds5) : F__law_do [.int 1, planD p, .int (m : Nat), .str d] = .ok (false, wayD (dresOf p k m d)) := by
  obtain ⟨h1, h2⟩ := deeds5_ok d h
  unfold dresOf
  by_cases z : d = ""
  · subst z
    rw [if_pos rfl]
    exact do_yes1 (b := false) (by simp [F_way_to_deed, dn_way_to_deed, R.bind, R.out, opt, sSeq, sSet, sb, sRet, sRetO, sIf, sDrop, sNext, sBrk, sCt, frz, sFrz, sAsg, sPar, sFor, sApp, sExt, ownL, tgSet, tgSets, eVar, eVarW, eC, e1, en, aNil, aCons, eOp, eCmp, cCmp, eChain, cChain, cVal, cNot, cAnd, cOr, eIf, vAnd, vOr, vNot, eTup, eLst, eCall, eCallO, eLc, wipeE, cYes, callF, atI_zero, atI_one, atI_lit, atI_nat', atI_m1, szOk, small64, atI_two, atI_three, sRaise, eIsi_of, isi_non, isi_bl, isi_int, isi_str, isi_tup, isi_lst, isD1, lenD_lst, lenD_tup, lenD_scr, ixD_lst, ixD_tup, ixD_scr, addD_ii, addD_ll, addD_tt, subD_ii, ltD_ii, leD_ii, gtD_ii, geD_ii, mulD_ii, listD_l, listD_t, tupD_l, tupD_t, negD_i, itemsD_l, itemsD_t, itemsD_s, F_lookplan w, F_lookmode_ok hm, h1, F_wayfor_e w hm, wayD])
  · rw [if_neg z]
    exact do_yes1 (F_waydeed w hm h1 h2 z)

def everyL (p : Pl) (k : Nat) : List D := (List.range p.length).map fun m => D.lst (wayL p k m)
theorem ev_get {p : Pl} {k m : Nat} (hm : m < p.length) : (everyL p k)[m]? = some (.lst (wayL p k m)) := by
  unfold everyL
  rw [List.getElem?_map, List.getElem?_range hm]
  rfl
theorem wl_get {p : Pl} {k m g : Nat} (hg : g < p.length) : (wayL p k m)[g]? = some (wayD (wayOf p k m g)) := by
  unfold wayL
  rw [List.getElem?_map, List.getElem?_range hg]
  rfl
theorem l1_loop {p : Pl} {k m : Nat} (w : Wf p k) (hm : m < p.length) {s0 s5 s6 s7 s8 s9 s10 s11 s12 s13 s14 : SV} : ∀ (gs : List Nat) (v4 : SV), (∀ g ∈ gs, g < p.length) →
    ∃ u4, loopF (.nm 4) dn_law_l1 (gs.map fun h => .int (h : Nat)) [s0, .val (planD p), .val (.lst (everyL p k)), .val (.int (m : Nat)), v4, s5, s6, s7, s8, s9, s10, s11, s12, s13, s14] =
      .nx [s0, .val (planD p), .val (.lst (everyL p k)), .val (.int (m : Nat)), u4, s5, s6, s7, s8, s9, s10, s11, s12, s13, s14]
  | [], v4, _ => ⟨v4, rfl⟩
  | g :: gs, v4, hb => by
    have hg := hb g (.head _)
    obtain ⟨u4, e⟩ := l1_loop w hm (s0 := s0) (s5 := s5) (s6 := s6) (s7 := s7) (s8 := s8) (s9 := s9) (s10 := s10) (s11 := s11) (s12 := s12) (s13 := s13) (s14 := s14) gs (.val (.int (g : Nat))) fun c hc => hb c (.tail _ hc)
    refine ⟨u4, ?_⟩
    have f := do_yes (F_wayto w hm hg)
    have e1' := ev_get (k := k) hm
    have e2' := wl_get (k := k) (m := m) hg
    have ne := way_ne (wayOf p k m g)
    have body : dn_law_l1 [s0, .val (planD p), .val (.lst (everyL p k)), .val (.int (m : Nat)), .val (.int (g : Nat)), s5, s6, s7, s8, s9, s10, s11, s12, s13, s14] = .nx [s0, .val (planD p), .val (.lst (everyL p k)), .val (.int (m : Nat)), .val (.int (g : Nat)), s5, s6, s7, s8, s9, s10, s11, s12, s13, s14] := by
      generalize wayD (wayOf p k m g) = Z at f e2' ne
      generalize wayL p k m = WL at e1' e2'
      generalize everyL p k = EL at e1' ⊢
      simp [dn_law_l1, R.bind, R.out, opt, sSeq, sSet, sb, sRet, sRetO, sIf, sDrop, sNext, sBrk, sCt, frz, sFrz, sAsg, sPar, sFor, sApp, sExt, ownL, tgSet, tgSets, eVar, eVarW, eC, e1, en, aNil, aCons, eOp, eCmp, cCmp, eChain, cChain, cVal, cNot, cAnd, cOr, eIf, vAnd, vOr, vNot, eTup, eLst, eCall, eCallO, eLc, wipeE, cYes, callF, atI_zero, atI_one, atI_lit, atI_nat', atI_m1, szOk, small64, atI_two, atI_three, sRaise, eIsi_of, isi_non, isi_bl, isi_int, isi_str, isi_tup, isi_lst, isD1, lenD_lst, lenD_tup, lenD_scr, ixD_lst, ixD_tup, ixD_scr, addD_ii, addD_ll, addD_tt, subD_ii, ltD_ii, leD_ii, gtD_ii, geD_ii, mulD_ii, listD_l, listD_t, tupD_l, tupD_t, negD_i, itemsD_l, itemsD_t, itemsD_s, f, e1', e2', ne]
    rw [List.map_cons, loopF_cons rfl body]
    exact e
theorem l4_loop {p : Pl} {k m : Nat} (w : Wf p k) (hm : m < p.length) {s0 s4 s11 s12 s13 s14 : SV} : ∀ (ds : List Str) (v5 v6 v7 v8 v9 v10 : SV), (∀ d ∈ ds, d ∈ deeds5) →
    ∃ u5 u6 u7 u8 u9 u10, loopF (.nm 5) dn_law_l4 (ds.map D.str) [s0, .val (planD p), .val (.lst (everyL p k)), .val (.int (m : Nat)), s4, v5, v6, v7, v8, v9, v10, s11, s12, s13, s14] =
      .nx [s0, .val (planD p), .val (.lst (everyL p k)), .val (.int (m : Nat)), s4, u5, u6, u7, u8, u9, u10, s11, s12, s13, s14]
  | [], v5, v6, v7, v8, v9, v10, _ => ⟨v5, v6, v7, v8, v9, v10, rfl⟩
  | d :: ds, v5, v6, v7, v8, v9, v10, hb => by
    have hd := hb d (.head _)
    obtain ⟨u7, u8, u9, u10, e⟩ := l3_loop w hm (deeds5_ok d hd).2 (ev_get (k := k) hm) (s0 := s0) (s4 := s4) (s11 := s11) (s12 := s12) (s13 := s13) (s14 := s14) (List.range p.length) none v7 v8 v9 v10 fun c hc => List.mem_range.mp hc
    have ba : bestF none ((List.range p.length).flatMap (modeCs p k m d)) = dresOf p k m d := best_all w hm
    rw [ba] at e
    obtain ⟨x5, x6, x7, x8, x9, x10, e2⟩ := l4_loop w hm (s0 := s0) (s4 := s4) (s11 := s11) (s12 := s12) (s13 := s13) (s14 := s14) ds (.val (.str d)) (.val (foD (dresOf p k m d))) u7 u8 u9 u10 fun c hc => hb c (.tail _ hc)
    refine ⟨x5, x6, x7, x8, x9, x10, ?_⟩
    have rg := range1D_of (i := (p.length : Int)) (n := p.length) rfl (by have := w.l6; omega)
    have lp := len_plan p
    have f := do_deed w hm hd
    have ne := way_ne (dresOf p k m d)
    have f0 : foD none = .non := rfl
    rw [f0] at e
    have body : dn_law_l4 [s0, .val (planD p), .val (.lst (everyL p k)), .val (.int (m : Nat)), s4, .val (.str d), v6, v7, v8, v9, v10, s11, s12, s13, s14] =
        .nx [s0, .val (planD p), .val (.lst (everyL p k)), .val (.int (m : Nat)), s4, .val (.str d), .val (foD (dresOf p k m d)), u7, u8, u9, u10, s11, s12, s13, s14] := by
      generalize (List.range p.length).map (fun h => D.int (h : Nat)) = RG at rg e
      generalize everyL p k = EL at e ⊢
      cases q : dresOf p k m d with
      | none =>
        rw [q] at e f ne
        rw [f0] at e ⊢
        simp only [wayD] at f ne
        have n1 : isntD .non .non = some false := rfl
        simp [dn_law_l4, R.bind, R.out, opt, sSeq, sSet, sb, sRet, sRetO, sIf, sDrop, sNext, sBrk, sCt, frz, sFrz, sAsg, sPar, sFor, sApp, sExt, ownL, tgSet, tgSets, eVar, eVarW, eC, e1, en, aNil, aCons, eOp, eCmp, cCmp, eChain, cChain, cVal, cNot, cAnd, cOr, eIf, vAnd, vOr, vNot, eTup, eLst, eCall, eCallO, eLc, wipeE, cYes, callF, atI_zero, atI_one, atI_lit, atI_nat', atI_m1, szOk, small64, atI_two, atI_three, sRaise, eIsi_of, isi_non, isi_bl, isi_int, isi_str, isi_tup, isi_lst, isD1, lenD_lst, lenD_tup, lenD_scr, ixD_lst, ixD_tup, ixD_scr, addD_ii, addD_ll, addD_tt, subD_ii, ltD_ii, leD_ii, gtD_ii, geD_ii, mulD_ii, listD_l, listD_t, tupD_l, tupD_t, negD_i, itemsD_l, itemsD_t, itemsD_s, lp, rg, e, f, n1, ne]
      | some r =>
        rw [q] at e f ne
        simp only [wayD] at f ne
        have n1 : isntD (foD (some r)) .non = some true := rfl
        have r1 : ixD (foD (some r)) (.int 1) = some (.lst (rowD r)) := by simp [foD, rkD, ixD, atI_one]
        generalize foD (some r) = FO at e n1 r1 ⊢
        simp [dn_law_l4, R.bind, R.out, opt, sSeq, sSet, sb, sRet, sRetO, sIf, sDrop, sNext, sBrk, sCt, frz, sFrz, sAsg, sPar, sFor, sApp, sExt, ownL, tgSet, tgSets, eVar, eVarW, eC, e1, en, aNil, aCons, eOp, eCmp, cCmp, eChain, cChain, cVal, cNot, cAnd, cOr, eIf, vAnd, vOr, vNot, eTup, eLst, eCall, eCallO, eLc, wipeE, cYes, callF, atI_zero, atI_one, atI_lit, atI_nat', atI_m1, szOk, small64, atI_two, atI_three, sRaise, eIsi_of, isi_non, isi_bl, isi_int, isi_str, isi_tup, isi_lst, isD1, lenD_lst, lenD_tup, lenD_scr, ixD_lst, ixD_tup, ixD_scr, addD_ii, addD_ll, addD_tt, subD_ii, ltD_ii, leD_ii, gtD_ii, geD_ii, mulD_ii, listD_l, listD_t, tupD_l, tupD_t, negD_i, itemsD_l, itemsD_t, itemsD_s, lp, rg, e, f, n1, r1, ne]
    rw [List.map_cons, loopF_cons rfl body]
    exact e2
theorem l5_loop {p : Pl} {k : Nat} (w : Wf p k) {s0 s11 s12 s13 s14 : SV} : ∀ (ms : List Nat) (v3 v4 v5 v6 v7 v8 v9 v10 : SV), (∀ m ∈ ms, m < p.length) →
    ∃ u3 u4 u5 u6 u7 u8 u9 u10, loopF (.nm 3) dn_law_l5 (ms.map fun h => .int (h : Nat)) [s0, .val (planD p), .val (.lst (everyL p k)), v3, v4, v5, v6, v7, v8, v9, v10, s11, s12, s13, s14] =
      .nx [s0, .val (planD p), .val (.lst (everyL p k)), u3, u4, u5, u6, u7, u8, u9, u10, s11, s12, s13, s14]
  | [], v3, v4, v5, v6, v7, v8, v9, v10, _ => ⟨v3, v4, v5, v6, v7, v8, v9, v10, rfl⟩
  | m :: ms, v3, v4, v5, v6, v7, v8, v9, v10, hb => by
    have hm := hb m (.head _)
    obtain ⟨u4, e1'⟩ := l1_loop w hm (s0 := s0) (s5 := v5) (s6 := v6) (s7 := v7) (s8 := v8) (s9 := v9) (s10 := v10) (s11 := s11) (s12 := s12) (s13 := s13) (s14 := s14) (List.range p.length) v4 fun c hc => List.mem_range.mp hc
    obtain ⟨u5, u6, u7, u8, u9, u10, e2'⟩ := l4_loop w hm (s0 := s0) (s4 := u4) (s11 := s11) (s12 := s12) (s13 := s13) (s14 := s14) deeds5 v5 v6 v7 v8 v9 v10 fun _ h => h
    obtain ⟨x3, x4, x5, x6, x7, x8, x9, x10, e3⟩ := l5_loop w (s0 := s0) (s11 := s11) (s12 := s12) (s13 := s13) (s14 := s14) ms (.val (.int (m : Nat))) u4 u5 u6 u7 u8 u9 u10 fun c hc => hb c (.tail _ hc)
    refine ⟨x3, x4, x5, x6, x7, x8, x9, x10, ?_⟩
    have rg := range1D_of (i := (p.length : Int)) (n := p.length) rfl (by have := w.l6; omega)
    have lp := len_plan p
    have dd : deeds5.map D.str = [.str "lap", .str "go", .str "x", .str "abcdef", .str "none", .str ""] := rfl
    rw [dd] at e2'
    have body : dn_law_l5 [s0, .val (planD p), .val (.lst (everyL p k)), .val (.int (m : Nat)), v4, v5, v6, v7, v8, v9, v10, s11, s12, s13, s14] =
        .nx [s0, .val (planD p), .val (.lst (everyL p k)), .val (.int (m : Nat)), u4, u5, u6, u7, u8, u9, u10, s11, s12, s13, s14] := by
      generalize (List.range p.length).map (fun h => D.int (h : Nat)) = RG at rg e1'
      generalize everyL p k = EL at e1' e2' ⊢
      simp [dn_law_l5, R.bind, R.out, opt, sSeq, sSet, sb, sRet, sRetO, sIf, sDrop, sNext, sBrk, sCt, frz, sFrz, sAsg, sPar, sFor, sApp, sExt, ownL, tgSet, tgSets, eVar, eVarW, eC, e1, en, aNil, aCons, eOp, eCmp, cCmp, eChain, cChain, cVal, cNot, cAnd, cOr, eIf, vAnd, vOr, vNot, eTup, eLst, eCall, eCallO, eLc, wipeE, cYes, callF, atI_zero, atI_one, atI_lit, atI_nat', atI_m1, szOk, small64, atI_two, atI_three, sRaise, eIsi_of, isi_non, isi_bl, isi_int, isi_str, isi_tup, isi_lst, isD1, lenD_lst, lenD_tup, lenD_scr, ixD_lst, ixD_tup, ixD_scr, addD_ii, addD_ll, addD_tt, subD_ii, ltD_ii, leD_ii, gtD_ii, geD_ii, mulD_ii, listD_l, listD_t, tupD_l, tupD_t, negD_i, itemsD_l, itemsD_t, itemsD_s, lp, rg, e1', e2']
    rw [List.map_cons, loopF_cons rfl body]
    exact e3

/-! ### met, needless, stranded -/
def someN (p : Pl) (k : Nat) : List Nat := (List.range p.length).filter fun m => (wayOf p k 0 m).isSome
def restN (p : Pl) (k : Nat) : List Nat := (List.range p.length).filter fun m => !decide (m ∈ someN p k)
def strN (p : Pl) (k : Nat) : List Nat := (someN p k).filter fun m => (wayOf p k m 0).isNone
theorem someN_lt {p : Pl} {k m : Nat} (h : m ∈ someN p k) : m < p.length := List.mem_range.mp (List.mem_filter.mp h).1
theorem someN_len (p : Pl) (k : Nat) : (someN p k).length ≤ p.length := by
  have := List.length_filter_le (fun m => (wayOf p k 0 m).isSome) (List.range p.length)
  rw [List.length_range] at this
  exact this
theorem some_sort {p : Pl} {k : Nat} (w : Wf p k) : sortN ((rowsOf p k 0).map (·.1)) = (someN p k).map fun n : Nat => (n : Int) := by
  have l1 := w.l1
  have B := rows_bfs w (show 0 < p.length by omega)
  have mem : ∀ m, m ∈ (rowsOf p k 0).map (·.1) ↔ m ∈ someN p k := fun m => by
    unfold someN
    rw [List.mem_filter, List.mem_range]
    constructor
    · intro h
      obtain ⟨e, he, rfl⟩ := List.mem_map.mp h
      obtain ⟨h1, h2⟩ := B.ok e he
      refine ⟨by rw [← h2]; exact runP_lt w (by omega) h1, ?_⟩
      rw [way_of_mem w (by omega) he]
      rfl
    · rintro ⟨_, h⟩
      obtain ⟨r, hr⟩ := Option.isSome_iff_exists.mp h
      exact List.mem_map.mpr ⟨_, (way_some w (by omega) hr).1, rfl⟩
  have nd : (someN p k).Nodup := List.nodup_range.filter _
  have pm : ((rowsOf p k 0).map (·.1)).Perm (someN p k) := (List.perm_ext_iff_of_nodup B.nd nd).mpr mem
  unfold sortN
  refine sorted_uniq ((sortI_perm _).trans (pm.map _)) (sortI_le _) ?_
  rw [List.pairwise_map]
  have : (List.range p.length).Pairwise (· < ·) := List.pairwise_lt_range
  exact (this.filter _).imp fun h => by omega
theorem natsD_int (l : List Nat) : (l.map fun n : Nat => (n : Int)).map D.int = natsD l := by
  unfold natsD
  rw [List.map_map]
  rfl
theorem F_met_some {p : Pl} {k : Nat} (w : Wf p k) : F_met [planD p] = .ok (true, .lst (natsD (someN p k))) := by
  rw [F_met_ok w, some_sort w, natsD_int]
theorem nats_ne (l : List Nat) : neD (.lst (natsD l)) (.lst (natsD l)) = some false := by
  refine ne_self ?_
  rw [okD_l 15, List.all_eq_true]
  intro x hx
  obtain ⟨b, _, rfl⟩ := List.mem_map.mp hx
  rfl
theorem in_nats {l : List Nat} (g : Nat) (h : l.length ≤ 100) : ninD (.int (g : Nat)) (.lst (natsD l)) = some (!decide (g ∈ l)) := by
  have := in_ints (l.map fun n : Nat => (n : Int)) g (by rw [List.length_map]; exact h)
  rw [natsD_int] at this
  unfold ninD
  rw [this]
  have e : decide ((g : Int) ∈ l.map fun n : Nat => (n : Int)) = decide (g ∈ l) := by
    rw [decide_eq_decide, List.mem_map]
    constructor
    · rintro ⟨a, ha, hb⟩
      have : a = g := by omega
      rw [← this]
      exact ha
    · intro hg
      exact ⟨g, hg, rfl⟩
  rw [e]
  rfl
theorem way_isn (o : Option (List Nat)) : isD (wayD o) .non = some o.isNone := by cases o <;> rfl
theorem way_isnt (o : Option (List Nat)) : isntD (wayD o) .non = some o.isSome := by cases o <;> rfl
theorem nats_z {l : List Nat} {n : Nat} (h : l.length ≤ n) (hn : n ≤ 100) : (natsD l).length ≤ 16777216 := by unfold natsD; rw [List.length_map]; omega
theorem rest_len (p : Pl) (k : Nat) : (restN p k).length ≤ p.length := by
  have := List.length_filter_le (fun m => !decide (m ∈ someN p k)) (List.range p.length)
  rw [List.length_range] at this
  exact this
theorem str_len (p : Pl) (k : Nat) : (strN p k).length ≤ p.length := by
  have := List.length_filter_le (fun m => (wayOf p k m 0).isNone) (someN p k)
  have := someN_len p k
  unfold strN
  omega
theorem F_needless_ok {p : Pl} {k : Nat} (w : Wf p k) : F_needless [planD p] = .ok (true, .lst (natsD (restN p k))) := by
  have l6 := w.l6
  have sl := someN_len p k
  have rg := range1D_of (i := (p.length : Int)) (n := p.length) rfl (by omega)
  have lp := len_plan p
  have lc : lcF (.nm 2) dn_needless_q1 dn_needless_e1 [.val (planD p), .val (.lst (natsD (someN p k))), .no] ((List.range p.length).map fun h => D.int (h : Nat)) = .ok (natsD (restN p k)) := by
    have := lcF_map (t := .nm 2) (c := dn_needless_q1) (f := dn_needless_e1) (ρ := [.val (planD p), .val (.lst (natsD (someN p k))), .no]) (d := fun h : Nat => D.int (h : Nat)) (g := fun h : Nat => D.int (h : Nat)) (p := fun m => !decide (m ∈ someN p k)) (xs := List.range p.length) fun m hm => ⟨_, rfl, by
      have q := in_nats (l := someN p k) m (by omega)
      generalize natsD (someN p k) = S at q
      simp [dn_needless_q1, R.bind, R.out, opt, sSeq, sSet, sb, sRet, sRetO, sIf, sDrop, sNext, sBrk, sCt, frz, sFrz, sAsg, sPar, sFor, sApp, sExt, ownL, tgSet, tgSets, eVar, eVarW, eC, e1, en, aNil, aCons, eOp, eCmp, cCmp, eChain, cChain, cVal, cNot, cAnd, cOr, eIf, vAnd, vOr, vNot, eTup, eLst, eCall, eCallO, eLc, wipeE, cYes, callF, atI_zero, atI_one, atI_lit, atI_nat', atI_m1, szOk, small64, atI_two, atI_three, sRaise, eIsi_of, isi_non, isi_bl, isi_int, isi_str, isi_tup, isi_lst, isD1, lenD_lst, lenD_tup, lenD_scr, ixD_lst, ixD_tup, ixD_scr, addD_ii, addD_ll, addD_tt, subD_ii, ltD_ii, leD_ii, gtD_ii, geD_ii, mulD_ii, listD_l, listD_t, tupD_l, tupD_t, negD_i, itemsD_l, itemsD_t, itemsD_s, q], fun _ => by simp [dn_needless_e1, R.bind, R.out, opt, sSeq, sSet, sb, sRet, sRetO, sIf, sDrop, sNext, sBrk, sCt, frz, sFrz, sAsg, sPar, sFor, sApp, sExt, ownL, tgSet, tgSets, eVar, eVarW, eC, e1, en, aNil, aCons, eOp, eCmp, cCmp, eChain, cChain, cVal, cNot, cAnd, cOr, eIf, vAnd, vOr, vNot, eTup, eLst, eCall, eCallO, eLc, wipeE, cYes, callF, atI_zero, atI_one, atI_lit, atI_nat', atI_m1, szOk, small64, atI_two, atI_three, sRaise, eIsi_of, isi_non, isi_bl, isi_int, isi_str, isi_tup, isi_lst, isD1, lenD_lst, lenD_tup, lenD_scr, ixD_lst, ixD_tup, ixD_scr, addD_ii, addD_ll, addD_tt, subD_ii, ltD_ii, leD_ii, gtD_ii, geD_ii, mulD_ii, listD_l, listD_t, tupD_l, tupD_t, negD_i, itemsD_l, itemsD_t, itemsD_s]⟩
    exact this
  have z := nats_z (rest_len p k) (by omega)
  have fm := F_met_some w
  generalize natsD (restN p k) = RN at lc z ⊢
  generalize natsD (someN p k) = SN at lc fm
  generalize (List.range p.length).map (fun h => D.int (h : Nat)) = RG at rg lc
  simp [F_needless, dn_needless, R.bind, R.out, opt, sSeq, sSet, sb, sRet, sRetO, sIf, sDrop, sNext, sBrk, sCt, frz, sFrz, sAsg, sPar, sFor, sApp, sExt, ownL, tgSet, tgSets, eVar, eVarW, eC, e1, en, aNil, aCons, eOp, eCmp, cCmp, eChain, cChain, cVal, cNot, cAnd, cOr, eIf, vAnd, vOr, vNot, eTup, eLst, eCall, eCallO, eLc, wipeE, cYes, callF, atI_zero, atI_one, atI_lit, atI_nat', atI_m1, szOk, small64, atI_two, atI_three, sRaise, eIsi_of, isi_non, isi_bl, isi_int, isi_str, isi_tup, isi_lst, isD1, lenD_lst, lenD_tup, lenD_scr, ixD_lst, ixD_tup, ixD_scr, addD_ii, addD_ll, addD_tt, subD_ii, ltD_ii, leD_ii, gtD_ii, geD_ii, mulD_ii, listD_l, listD_t, tupD_l, tupD_t, negD_i, itemsD_l, itemsD_t, itemsD_s, fm, lp, rg, lc, z]
theorem F_stranded_ok {p : Pl} {k : Nat} (w : Wf p k) : F_stranded [planD p] = .ok (true, .lst (natsD (strN p k))) := by
  have l6 := w.l6
  have sl := someN_len p k
  have lc : lcF (.nm 1) dn_stranded_q1 dn_stranded_e1 [.val (planD p), .no] (natsD (someN p k)) = .ok (natsD (strN p k)) := by
    have := lcF_map (t := .nm 1) (c := dn_stranded_q1) (f := dn_stranded_e1) (ρ := [.val (planD p), .no]) (d := fun h : Nat => D.int (h : Nat)) (g := fun h : Nat => D.int (h : Nat)) (p := fun m => (wayOf p k m 0).isNone) (xs := someN p k) fun m hm => ⟨_, rfl, by
      have q := F_waybetween (g := 0) w (someN_lt hm)
      have q2 := way_isn (wayOf p k m 0)
      generalize wayD (wayOf p k m 0) = S at q q2
      have c0 : ((0 : Nat) : Int) = 0 := rfl
      rw [c0] at q
      simp [dn_stranded_q1, R.bind, R.out, opt, sSeq, sSet, sb, sRet, sRetO, sIf, sDrop, sNext, sBrk, sCt, frz, sFrz, sAsg, sPar, sFor, sApp, sExt, ownL, tgSet, tgSets, eVar, eVarW, eC, e1, en, aNil, aCons, eOp, eCmp, cCmp, eChain, cChain, cVal, cNot, cAnd, cOr, eIf, vAnd, vOr, vNot, eTup, eLst, eCall, eCallO, eLc, wipeE, cYes, callF, atI_zero, atI_one, atI_lit, atI_nat', atI_m1, szOk, small64, atI_two, atI_three, sRaise, eIsi_of, isi_non, isi_bl, isi_int, isi_str, isi_tup, isi_lst, isD1, lenD_lst, lenD_tup, lenD_scr, ixD_lst, ixD_tup, ixD_scr, addD_ii, addD_ll, addD_tt, subD_ii, ltD_ii, leD_ii, gtD_ii, geD_ii, mulD_ii, listD_l, listD_t, tupD_l, tupD_t, negD_i, itemsD_l, itemsD_t, itemsD_s, q, q2], fun _ => by simp [dn_stranded_e1, R.bind, R.out, opt, sSeq, sSet, sb, sRet, sRetO, sIf, sDrop, sNext, sBrk, sCt, frz, sFrz, sAsg, sPar, sFor, sApp, sExt, ownL, tgSet, tgSets, eVar, eVarW, eC, e1, en, aNil, aCons, eOp, eCmp, cCmp, eChain, cChain, cVal, cNot, cAnd, cOr, eIf, vAnd, vOr, vNot, eTup, eLst, eCall, eCallO, eLc, wipeE, cYes, callF, atI_zero, atI_one, atI_lit, atI_nat', atI_m1, szOk, small64, atI_two, atI_three, sRaise, eIsi_of, isi_non, isi_bl, isi_int, isi_str, isi_tup, isi_lst, isD1, lenD_lst, lenD_tup, lenD_scr, ixD_lst, ixD_tup, ixD_scr, addD_ii, addD_ll, addD_tt, subD_ii, ltD_ii, leD_ii, gtD_ii, geD_ii, mulD_ii, listD_l, listD_t, tupD_l, tupD_t, negD_i, itemsD_l, itemsD_t, itemsD_s]⟩
    exact this
  have z := nats_z (str_len p k) (by omega)
  have fm := F_met_some w
  generalize natsD (strN p k) = RN at lc z ⊢
  generalize natsD (someN p k) = SN at lc fm
  simp [F_stranded, dn_stranded, R.bind, R.out, opt, sSeq, sSet, sb, sRet, sRetO, sIf, sDrop, sNext, sBrk, sCt, frz, sFrz, sAsg, sPar, sFor, sApp, sExt, ownL, tgSet, tgSets, eVar, eVarW, eC, e1, en, aNil, aCons, eOp, eCmp, cCmp, eChain, cChain, cVal, cNot, cAnd, cOr, eIf, vAnd, vOr, vNot, eTup, eLst, eCall, eCallO, eLc, wipeE, cYes, callF, atI_zero, atI_one, atI_lit, atI_nat', atI_m1, szOk, small64, atI_two, atI_three, sRaise, eIsi_of, isi_non, isi_bl, isi_int, isi_str, isi_tup, isi_lst, isD1, lenD_lst, lenD_tup, lenD_scr, ixD_lst, ixD_tup, ixD_scr, addD_ii, addD_ll, addD_tt, subD_ii, ltD_ii, leD_ii, gtD_ii, geD_ii, mulD_ii, listD_l, listD_t, tupD_l, tupD_t, negD_i, itemsD_l, itemsD_t, itemsD_s, fm, lc, z]
/-! ### the deeds -/
def kdD (K : List Str) : List (D × D) := K.map fun x => (.str x, .bl true)
def addK (K : List Str) (s : St0) : List Str := if s.2 = "" then K else if s.2 ∈ K then K else K ++ [s.2]
theorem addK_mem {K : List Str} {s : St0} {x : Str} : x ∈ addK K s ↔ x ∈ K ∨ x ≠ "" ∧ s.2 = x := by
  unfold addK
  split
  · rename_i h
    exact ⟨.inl, fun z => z.elim id fun y => absurd (y.2.symm.trans h) y.1⟩
  · rename_i h
    split
    · rename_i h2
      exact ⟨.inl, fun z => z.elim id fun y => by rw [← y.2]; exact h2⟩
    · rw [List.mem_append, List.mem_singleton]
      exact ⟨fun z => z.imp id fun y => ⟨by rw [y]; exact h, y.symm⟩, fun z => z.imp id fun y => y.2.symm⟩
theorem addK_nd {K : List Str} {s : St0} (h : K.Nodup) : (addK K s).Nodup := by
  unfold addK
  split
  · exact h
  · split
    · exact h
    · rename_i h2
      rw [List.nodup_append]
      exact ⟨h, by simp, fun a ha b hb => by rw [List.mem_singleton.mp hb]; exact fun e => h2 (e ▸ ha)⟩
theorem addKs_mem {x : Str} : ∀ {l : List St0} {K : List Str}, x ∈ l.foldl addK K ↔ x ∈ K ∨ x ≠ "" ∧ ∃ s ∈ l, s.2 = x
  | [], K => by simp
  | s :: l, K => by
    rw [List.foldl_cons, addKs_mem, addK_mem]
    constructor
    · rintro ((h | ⟨h1, h2⟩) | ⟨h1, t, h2, h3⟩)
      · exact .inl h
      · exact .inr ⟨h1, s, .head _, h2⟩
      · exact .inr ⟨h1, t, .tail _ h2, h3⟩
    · rintro (h | ⟨h1, t, h2, h3⟩)
      · exact .inl (.inl h)
      · rcases List.mem_cons.mp h2 with z | z
        · subst z; exact .inl (.inr ⟨h1, h3⟩)
        · exact .inr ⟨h1, t, z, h3⟩
theorem addKs_nd : ∀ {l : List St0} {K : List Str}, K.Nodup → (l.foldl addK K).Nodup
  | [], K, h => h
  | s :: l, K, h => addKs_nd (l := l) (addK_nd h)
theorem put_kd {K : List Str} {x : Str} : putD (kdD K) (.str x) (.bl true) = kdD (if x ∈ K then K else K ++ [x]) := by
  have fe : ((fun kv : D × D => eqv kv.1 (.str x)) ∘ fun x : Str => (D.str x, D.bl true)) = fun y : Str => y == x := by
    funext y
    show eqv (.str y) (.str x) = _
    simp only [eqv]
  unfold putD
  by_cases h : x ∈ K
  · have : (kdD K).any (fun kv => eqv kv.1 (.str x)) = true := by
      unfold kdD
      rw [List.any_map, fe, List.any_eq_true]
      exact ⟨x, h, by simp⟩
    rw [if_pos this, if_pos h]
    unfold kdD
    rw [List.map_map]
    refine List.map_congr_left fun y _ => ?_
    simp only [Function.comp_apply]
    split
    · rename_i e
      have e' : (y == x) = true := by rw [← congrFun fe y]; exact e
      have := eq_of_beq e'
      subst this
      rfl
    · rfl
  · have : (kdD K).any (fun kv => eqv kv.1 (.str x)) = false := by
      unfold kdD
      rw [List.any_map, fe, List.any_eq_false]
      intro y hy e
      have := eq_of_beq e
      exact h (this ▸ hy)
    rw [if_neg (by rw [this]; exact Bool.false_ne_true), if_neg h]
    unfold kdD
    rw [List.map_append]
    rfl

theorem key_str (x : Str) : okKey false (.str x) = true := rfl
theorem addKs_le {K : List Str} (h : K.Nodup) (h7 : ∀ x ∈ K, x ∈ deeds7) : K.length ≤ 7 := nodup_sub K deeds7 h h7
theorem addK_7 {K : List Str} {s : St0} (hs : s.2 ∈ deeds7) (h7 : ∀ x ∈ K, x ∈ deeds7) : ∀ x ∈ addK K s, x ∈ deeds7 := fun x hx => by
  rcases addK_mem.mp hx with z | z
  · exact h7 x z
  · rw [← z.2]; exact hs
theorem dof_in {v0 v2 : SV} : ∀ (l : List St0) (K : List Str) (v3 v4 : SV), (∀ s ∈ l, s.2 ∈ deeds7) → K.Nodup → (∀ x ∈ K, x ∈ deeds7) →
    ∃ u3 u4, loopF (.tp [.nm 3, .nm 4]) dn_deeds_of_l1 (l.map stepD) [v0, .own (.dct false (kdD K)), v2, v3, v4] = .nx [v0, .own (.dct false (kdD (l.foldl addK K))), v2, u3, u4]
  | [], K, v3, v4, _, _, _ => ⟨v3, v4, rfl⟩
  | s :: l, K, v3, v4, hl, nd, h7 => by
    have hs := hl s (.head _)
    obtain ⟨u3, u4, e⟩ := dof_in (v0 := v0) (v2 := v2) l (addK K s) (.val (.int (s.1 : Nat))) (.val (.str s.2)) (fun t ht => hl t (.tail _ ht)) (addK_nd nd) (addK_7 hs h7)
    refine ⟨u3, u4, ?_⟩
    have q2 : neD (.str s.2) (.str "") = some (!decide (s.2 = "")) := by rw [neD_of (eqD_str (dd_ok7 _ hs) (by decide +kernel))]
    have lk := addKs_le nd h7
    have z : (kdD K).length + 1 ≤ 16777216 := by unfold kdD; rw [List.length_map]; omega
    have pu := put_kd (K := K) (x := s.2)
    have kk := key_str s.2
    have body : dn_deeds_of_l1 [v0, .own (.dct false (kdD K)), v2, .val (.int (s.1 : Nat)), .val (.str s.2)] = .nx [v0, .own (.dct false (kdD (addK K s))), v2, .val (.int (s.1 : Nat)), .val (.str s.2)] := by
      unfold addK
      by_cases h : s.2 = ""
      · rw [if_pos h]
        rw [h] at q2 ⊢
        generalize kdD K = M
        simp [dn_deeds_of_l1, R.bind, R.out, opt, sSeq, sSet, sb, sRet, sRetO, sIf, sDrop, sNext, sBrk, sCt, frz, sFrz, sAsg, sPar, sFor, sApp, sExt, ownL, tgSet, tgSets, eVar, eVarW, eC, e1, en, aNil, aCons, eOp, eCmp, cCmp, eChain, cChain, cVal, cNot, cAnd, cOr, eIf, vAnd, vOr, vNot, eTup, eLst, eCall, eCallO, eLc, wipeE, cYes, callF, atI_zero, atI_one, atI_lit, atI_nat', atI_m1, szOk, small64, atI_two, atI_three, sRaise, eIsi_of, isi_non, isi_bl, isi_int, isi_str, isi_tup, isi_lst, isD1, lenD_lst, lenD_tup, lenD_scr, ixD_lst, ixD_tup, ixD_scr, addD_ii, addD_ll, addD_tt, subD_ii, ltD_ii, leD_ii, gtD_ii, geD_ii, mulD_ii, listD_l, listD_t, tupD_l, tupD_t, negD_i, itemsD_l, itemsD_t, itemsD_s, q2]
      · rw [if_neg h]
        rw [decide_eq_false h] at q2
        simp only [Bool.not_false] at q2
        generalize kdD (if s.2 ∈ K then K else K ++ [s.2]) = M2 at pu ⊢
        generalize kdD K = M at pu z ⊢
        simp [dn_deeds_of_l1, R.bind, R.out, opt, sSeq, sSet, sb, sRet, sRetO, sIf, sDrop, sNext, sBrk, sCt, frz, sFrz, sAsg, sPar, sFor, sApp, sExt, ownL, tgSet, tgSets, eVar, eVarW, eC, e1, en, aNil, aCons, eOp, eCmp, cCmp, eChain, cChain, cVal, cNot, cAnd, cOr, eIf, vAnd, vOr, vNot, eTup, eLst, eCall, eCallO, eLc, wipeE, cYes, callF, atI_zero, atI_one, atI_lit, atI_nat', atI_m1, szOk, small64, atI_two, atI_three, sRaise, eIsi_of, isi_non, isi_bl, isi_int, isi_str, isi_tup, isi_lst, isD1, lenD_lst, lenD_tup, lenD_scr, ixD_lst, ixD_tup, ixD_scr, addD_ii, addD_ll, addD_tt, subD_ii, ltD_ii, leD_ii, gtD_ii, geD_ii, mulD_ii, listD_l, listD_t, tupD_l, tupD_t, negD_i, itemsD_l, itemsD_t, itemsD_s, sPutD, ownM, q2, kk, z, pu]
    rw [List.map_cons, loopF_cons (ρ1 := [v0, .own (.dct false (kdD K)), v2, .val (.int (s.1 : Nat)), .val (.str s.2)]) rfl body, List.foldl_cons]
    exact e
theorem mo_7 {p : Pl} {k m : Nat} (w : Wf p k) (hm : m < p.length) : ∀ s ∈ mo p m, s.2 ∈ deeds7 := fun s hs => by
  obtain ⟨b, hb⟩ := List.mem_iff_getElem?.mp hs
  have hl := (List.getElem?_eq_some_iff.mp hb).1
  rw [w.moLen hm] at hl
  have := w.dd hm hl
  unfold stepOf at this
  rw [hb] at this
  exact this
theorem addKs_7 : ∀ {l : List St0} {K : List Str}, (∀ s ∈ l, s.2 ∈ deeds7) → (∀ x ∈ K, x ∈ deeds7) → ∀ x ∈ l.foldl addK K, x ∈ deeds7 := fun {l K} hl h7 x hx => by
  rcases addKs_mem.mp hx with z | ⟨_, s, hs, rfl⟩
  · exact h7 x z
  · exact hl s hs
theorem dof_out {p : Pl} {k : Nat} (w : Wf p k) : ∀ (ms : List Nat) (K : List Str) (v2 v3 v4 : SV), (∀ m ∈ ms, m < p.length) → K.Nodup → (∀ x ∈ K, x ∈ deeds7) →
    ∃ u2 u3 u4, loopF (.nm 2) dn_deeds_of_l2 (natsD ms) [.val (planD p), .own (.dct false (kdD K)), v2, v3, v4] = .nx [.val (planD p), .own (.dct false (kdD ((ms.flatMap (mo p)).foldl addK K))), u2, u3, u4]
  | [], K, v2, v3, v4, _, _, _ => ⟨v2, v3, v4, rfl⟩
  | m :: ms, K, v2, v3, v4, hb, nd, h7 => by
    have hm := hb m (.head _)
    have m7 := mo_7 w hm
    obtain ⟨u3, u4, e⟩ := dof_in (v0 := .val (planD p)) (v2 := .val (.int (m : Nat))) (mo p m) K v3 v4 m7 nd h7
    obtain ⟨x2, x3, x4, e2⟩ := dof_out w ms ((mo p m).foldl addK K) (.val (.int (m : Nat))) u3 u4 (fun c hc => hb c (.tail _ hc)) (addKs_nd nd) (addKs_7 m7 h7)
    refine ⟨x2, x3, x4, ?_⟩
    have it : itemsD (modeD (mo p m)) = some ((mo p m).map stepD) := rfl
    have body : dn_deeds_of_l2 [.val (planD p), .own (.dct false (kdD K)), .val (.int (m : Nat)), v3, v4] = .nx [.val (planD p), .own (.dct false (kdD ((mo p m).foldl addK K))), .val (.int (m : Nat)), u3, u4] := by
      have ip := ix_plan hm
      generalize kdD ((mo p m).foldl addK K) = M2 at e ⊢
      generalize kdD K = M at e ⊢
      generalize modeD (mo p m) = MD at it ip
      generalize (mo p m).map stepD = L at it e
      simp [dn_deeds_of_l2, R.bind, R.out, opt, sSeq, sSet, sb, sRet, sRetO, sIf, sDrop, sNext, sBrk, sCt, frz, sFrz, sAsg, sPar, sFor, sApp, sExt, ownL, tgSet, tgSets, eVar, eVarW, eC, e1, en, aNil, aCons, eOp, eCmp, cCmp, eChain, cChain, cVal, cNot, cAnd, cOr, eIf, vAnd, vOr, vNot, eTup, eLst, eCall, eCallO, eLc, wipeE, cYes, callF, atI_zero, atI_one, atI_lit, atI_nat', atI_m1, szOk, small64, atI_two, atI_three, sRaise, eIsi_of, isi_non, isi_bl, isi_int, isi_str, isi_tup, isi_lst, isD1, lenD_lst, lenD_tup, lenD_scr, ixD_lst, ixD_tup, ixD_scr, addD_ii, addD_ll, addD_tt, subD_ii, ltD_ii, leD_ii, gtD_ii, geD_ii, mulD_ii, listD_l, listD_t, tupD_l, tupD_t, negD_i, itemsD_l, itemsD_t, itemsD_s, ip, it, e]
    have nc : natsD (m :: ms) = .int (m : Nat) :: natsD ms := rfl
    rw [nc, loopF_cons rfl body, List.flatMap_cons, List.foldl_append]
    exact e2
def keysK (p : Pl) (k : Nat) : List Str := ((someN p k).flatMap (mo p)).foldl addK []
theorem keysK_ok {p : Pl} {k : Nat} (w : Wf p k) : (keysK p k).Nodup ∧ ∀ x ∈ keysK p k, x ∈ deeds7 := by
  refine ⟨addKs_nd List.nodup_nil, addKs_7 (fun s hs => ?_) (by simp)⟩
  obtain ⟨m, hm, hs⟩ := List.mem_flatMap.mp hs
  exact mo_7 w (someN_lt hm) s hs
theorem sortA_strs {K : List Str} (h : ∀ x ∈ K, PyData.strOk x = true) (hl : K.length ≤ 7) : sortedAD (.lst (K.map D.str)) = some (.lst ((sortS K).map D.str)) := by
  have ok : sortOk (K.map D.str) = true := by
    unfold sortOk ordOk nonTupD
    rw [Bool.and_eq_true, Bool.and_eq_true, Bool.and_eq_true, Bool.or_eq_true]
    refine ⟨⟨⟨?_, ?_⟩, ?_⟩, .inr ?_⟩ <;> rw [List.all_eq_true] <;> intro x hx <;> obtain ⟨y, hy, rfl⟩ := List.mem_map.mp hx
    · exact h y hy
    · rw [List.all_eq_true]
      intro z hz
      obtain ⟨v, _, rfl⟩ := List.mem_map.mp hz
      simp [toPy, PySem.W.alike]
    · rfl
    · rfl
  have sz : szOk (K.map D.str).length = true := szOk_of (by rw [List.length_map]; omega)
  have e : (K.map D.str).mergeSort ordD = (sortS K).map D.str := (List.map_mergeSort (f := D.str) (r := txLe) (s := ordD) (l := K) fun a _ b _ => rfl).symm
  unfold sortedAD
  simp only
  rw [ok, sz, Bool.and_true, if_pos rfl, e]
theorem F_deedsof {p : Pl} {k : Nat} (w : Wf p k) : F_deeds_of [planD p] = .ok (true, .lst ((sortS (keysK p k)).map D.str)) := by
  obtain ⟨u2, u3, u4, e⟩ := dof_out w (someN p k) [] .no .no .no (fun m hm => someN_lt hm) List.nodup_nil (by simp)
  have e : loopF (.nm 2) dn_deeds_of_l2 (natsD (someN p k)) [.val (planD p), .own (.dct false []), .no, .no, .no] = .nx [.val (planD p), .own (.dct false (kdD (keysK p k))), u2, u3, u4] := e
  obtain ⟨nd, h7⟩ := keysK_ok w
  have so := sortA_strs (K := keysK p k) (fun x hx => dd_ok7 x (h7 x hx)) (addKs_le nd h7)
  have ls : listD (.dct false (kdD (keysK p k))) = some (.lst ((keysK p k).map D.str)) := by
    show some (D.lst ((kdD (keysK p k)).map (·.1))) = _
    unfold kdD
    rw [List.map_map]
    rfl
  have fm := F_met_some w
  generalize (sortS (keysK p k)).map D.str = SS at so ⊢
  generalize (keysK p k).map D.str = KS at ls so
  generalize kdD (keysK p k) = M at e ls
  generalize natsD (someN p k) = SN at e fm
  simp [F_deeds_of, dn_deeds_of, R.bind, R.out, opt, sSeq, sSet, sb, sRet, sRetO, sIf, sDrop, sNext, sBrk, sCt, frz, sFrz, sAsg, sPar, sFor, sApp, sExt, ownL, tgSet, tgSets, eVar, eVarW, eC, e1, en, aNil, aCons, eOp, eCmp, cCmp, eChain, cChain, cVal, cNot, cAnd, cOr, eIf, vAnd, vOr, vNot, eTup, eLst, eCall, eCallO, eLc, wipeE, cYes, callF, atI_zero, atI_one, atI_lit, atI_nat', atI_m1, szOk, small64, atI_two, atI_three, sRaise, eIsi_of, isi_non, isi_bl, isi_int, isi_str, isi_tup, isi_lst, isD1, lenD_lst, lenD_tup, lenD_scr, ixD_lst, ixD_tup, ixD_scr, addD_ii, addD_ll, addD_tt, subD_ii, ltD_ii, leD_ii, gtD_ii, geD_ii, mulD_ii, listD_l, listD_t, tupD_l, tupD_t, negD_i, itemsD_l, itemsD_t, itemsD_s, fm, e, ls, so]

def lawDs (p : Pl) (ms : List Nat) : List Str := ms.flatMap fun m => ((mo p m).filter fun s : St0 => !decide (s.2 = ("" : Str))).map (·.2)
theorem lawDs_mem {p : Pl} {ms : List Nat} {x : Str} : x ∈ lawDs p ms ↔ x ≠ "" ∧ ∃ s ∈ ms.flatMap (mo p), s.2 = x := by
  unfold lawDs
  rw [List.mem_flatMap]
  constructor
  · rintro ⟨m, hm, hx⟩
    obtain ⟨s, hs, rfl⟩ := List.mem_map.mp hx
    obtain ⟨h1, h2⟩ := List.mem_filter.mp hs
    exact ⟨by simpa using h2, s, List.mem_flatMap.mpr ⟨m, hm, h1⟩, rfl⟩
  · rintro ⟨hne, s, hs, rfl⟩
    obtain ⟨m, hm, h1⟩ := List.mem_flatMap.mp hs
    exact ⟨m, hm, List.mem_map.mpr ⟨s, List.mem_filter.mpr ⟨h1, by simpa using hne⟩, rfl⟩⟩
theorem keys_set (p : Pl) (k : Nat) : sortS (keysK p k) = setS (lawDs p (someN p k)) := by
  refine setS_of (addKs_nd List.nodup_nil) fun x => ?_
  unfold keysK
  rw [addKs_mem, lawDs_mem]
  simp
def modeDs (p : Pl) (m : Nat) : List Str := ((mo p m).filter fun s : St0 => !decide (s.2 = ("" : Str))).map (·.2)
theorem modeDs_len {p : Pl} {k m : Nat} (w : Wf p k) (hm : m < p.length) : (modeDs p m).length ≤ 3 := by
  unfold modeDs
  rw [List.length_map]
  have := List.length_filter_le (fun s : St0 => !decide (s.2 = ("" : Str))) (mo p m)
  have := w.moLen hm
  have := w.k3
  omega
theorem l6_body {p : Pl} {k m : Nat} (w : Wf p k) (hm : m < p.length) {L : List Str} (hL : L.length ≤ 900) {s0 s2 v4 v5 s6 s7 s8 s9 s10 s11 s12 s14 : SV} :
    dn_law_l6 [s0, .val (planD p), s2, .val (.int (m : Nat)), v4, v5, s6, s7, s8, s9, s10, s11, s12, .own (.lst (L.map D.str)), s14] = .nx [s0, .val (planD p), s2, .val (.int (m : Nat)), v4, v5, s6, s7, s8, s9, s10, s11, s12, .own (.lst ((L ++ modeDs p m).map D.str)), s14] := by
  have m7 := mo_7 w hm
  have lc : lcF (.tp [.nm 4, .nm 5]) dn_law_q4 dn_law_e5 [s0, .val (planD p), s2, .val (.int (m : Nat)), .no, .no, s6, s7, s8, s9, s10, s11, s12, .own (.lst (L.map D.str)), s14] ((mo p m).map stepD) = .ok ((modeDs p m).map D.str) := by
    have := lcF_map (t := .tp [.nm 4, .nm 5]) (c := dn_law_q4) (f := dn_law_e5) (ρ := [s0, .val (planD p), s2, .val (.int (m : Nat)), .no, .no, s6, s7, s8, s9, s10, s11, s12, .own (.lst (L.map D.str)), s14]) (d := stepD) (g := fun s : St0 => D.str s.2) (p := fun s : St0 => !decide (s.2 = ("" : Str))) (xs := mo p m) fun s hs => ⟨[s0, .val (planD p), s2, .val (.int (m : Nat)), .val (.int (s.1 : Nat)), .val (.str s.2), s6, s7, s8, s9, s10, s11, s12, .own (.lst (L.map D.str)), s14], rfl, by
      have q2 : neD (.str s.2) (.str "") = some (!decide (s.2 = "")) := by rw [neD_of (eqD_str (dd_ok7 _ (m7 s hs)) (by decide +kernel))]
      simp [dn_law_q4, R.bind, R.out, opt, sSeq, sSet, sb, sRet, sRetO, sIf, sDrop, sNext, sBrk, sCt, frz, sFrz, sAsg, sPar, sFor, sApp, sExt, ownL, tgSet, tgSets, eVar, eVarW, eC, e1, en, aNil, aCons, eOp, eCmp, cCmp, eChain, cChain, cVal, cNot, cAnd, cOr, eIf, vAnd, vOr, vNot, eTup, eLst, eCall, eCallO, eLc, wipeE, cYes, callF, atI_zero, atI_one, atI_lit, atI_nat', atI_m1, szOk, small64, atI_two, atI_three, sRaise, eIsi_of, isi_non, isi_bl, isi_int, isi_str, isi_tup, isi_lst, isD1, lenD_lst, lenD_tup, lenD_scr, ixD_lst, ixD_tup, ixD_scr, addD_ii, addD_ll, addD_tt, subD_ii, ltD_ii, leD_ii, gtD_ii, geD_ii, mulD_ii, listD_l, listD_t, tupD_l, tupD_t, negD_i, itemsD_l, itemsD_t, itemsD_s, q2], fun _ => by simp [dn_law_e5, R.bind, R.out, opt, sSeq, sSet, sb, sRet, sRetO, sIf, sDrop, sNext, sBrk, sCt, frz, sFrz, sAsg, sPar, sFor, sApp, sExt, ownL, tgSet, tgSets, eVar, eVarW, eC, e1, en, aNil, aCons, eOp, eCmp, cCmp, eChain, cChain, cVal, cNot, cAnd, cOr, eIf, vAnd, vOr, vNot, eTup, eLst, eCall, eCallO, eLc, wipeE, cYes, callF, atI_zero, atI_one, atI_lit, atI_nat', atI_m1, szOk, small64, atI_two, atI_three, sRaise, eIsi_of, isi_non, isi_bl, isi_int, isi_str, isi_tup, isi_lst, isD1, lenD_lst, lenD_tup, lenD_scr, ixD_lst, ixD_tup, ixD_scr, addD_ii, addD_ll, addD_tt, subD_ii, ltD_ii, leD_ii, gtD_ii, geD_ii, mulD_ii, listD_l, listD_t, tupD_l, tupD_t, negD_i, itemsD_l, itemsD_t, itemsD_s]⟩
    unfold modeDs
    rw [List.map_map]
    exact this
  have fl := modeDs_len w hm
  have it : itemsD (modeD (mo p m)) = some ((mo p m).map stepD) := rfl
  have z1 : (L.map D.str).length + ((modeDs p m).map D.str).length ≤ 16777216 := by rw [List.length_map, List.length_map]; omega
  have z2 : ((modeDs p m).map D.str).length ≤ 16777216 := by rw [List.length_map]; omega
  have ip := ix_plan hm
  rw [List.map_append]
  generalize L.map D.str = LD at lc z1 ⊢
  generalize (modeDs p m).map D.str = ND at lc z1 z2 ⊢
  generalize modeD (mo p m) = MD at it ip
  generalize (mo p m).map stepD = SL at it lc
  simp [dn_law_l6, R.bind, R.out, opt, sSeq, sSet, sb, sRet, sRetO, sIf, sDrop, sNext, sBrk, sCt, frz, sFrz, sAsg, sPar, sFor, sApp, sExt, ownL, tgSet, tgSets, eVar, eVarW, eC, e1, en, aNil, aCons, eOp, eCmp, cCmp, eChain, cChain, cVal, cNot, cAnd, cOr, eIf, vAnd, vOr, vNot, eTup, eLst, eCall, eCallO, eLc, wipeE, cYes, callF, atI_zero, atI_one, atI_lit, atI_nat', atI_m1, szOk, small64, atI_two, atI_three, sRaise, eIsi_of, isi_non, isi_bl, isi_int, isi_str, isi_tup, isi_lst, isD1, lenD_lst, lenD_tup, lenD_scr, ixD_lst, ixD_tup, ixD_scr, addD_ii, addD_ll, addD_tt, subD_ii, ltD_ii, leD_ii, gtD_ii, geD_ii, mulD_ii, listD_l, listD_t, tupD_l, tupD_t, negD_i, itemsD_l, itemsD_t, itemsD_s, ip, it, lc, z1, z2]
theorem l6_loop {p : Pl} {k : Nat} (w : Wf p k) {s0 s2 v4 v5 s6 s7 s8 s9 s10 s11 s12 s14 : SV} : ∀ (ms : List Nat) (L : List Str) (v3 : SV), (∀ m ∈ ms, m < p.length) → L.length + ms.length * 3 ≤ 900 →
    ∃ u3, loopF (.nm 3) dn_law_l6 (natsD ms) [s0, .val (planD p), s2, v3, v4, v5, s6, s7, s8, s9, s10, s11, s12, .own (.lst (L.map D.str)), s14] =
      .nx [s0, .val (planD p), s2, u3, v4, v5, s6, s7, s8, s9, s10, s11, s12, .own (.lst ((L ++ lawDs p ms).map D.str)), s14] := by
  intro ms
  induction ms with
  | nil =>
    intro L v3 _ _
    refine ⟨v3, ?_⟩
    have : lawDs p [] = [] := rfl
    rw [this, List.append_nil]
    rfl
  | cons m ms ih =>
    intro L v3 hb hz
    rw [List.length_cons, Nat.succ_mul] at hz
    have hm := hb m (.head _)
    have fl := modeDs_len w hm
    obtain ⟨u3, e⟩ := ih (L ++ modeDs p m) (.val (.int (m : Nat))) (fun c hc => hb c (.tail _ hc)) (by rw [List.length_append]; omega)
    have ld : lawDs p (m :: ms) = modeDs p m ++ lawDs p ms := by unfold lawDs; rw [List.flatMap_cons]; rfl
    have nc : natsD (m :: ms) = .int (m : Nat) :: natsD ms := rfl
    rw [List.append_assoc, ← ld] at e
    rw [nc, loopF_cons rfl (l6_body w hm (L := L) (by omega))]
    exact ⟨u3, e⟩
theorem lawDs_len {p : Pl} {k : Nat} (w : Wf p k) : ∀ (ms : List Nat), (∀ m ∈ ms, m < p.length) → (lawDs p ms).length ≤ ms.length * 3 := by
  intro ms
  induction ms with
  | nil => intro _; exact Nat.zero_le _
  | cons m ms ih =>
    intro hb
    have ld : lawDs p (m :: ms) = modeDs p m ++ lawDs p ms := by unfold lawDs; rw [List.flatMap_cons]; rfl
    have := modeDs_len w (hb m (.head _))
    have := ih fun c hc => hb c (.tail _ hc)
    rw [ld, List.length_append, List.length_cons, Nat.succ_mul]
    omega
def badM (p : Pl) : List D := [.int (p.length : Nat), .int (-1), .non, .bl true, .str "0"]
theorem badM_no {p : Pl} : ∀ x ∈ badM p, F_is_whole [x, .int 0, .int ((p.length : Int) - 1)] = .ok (false, .bl false) := by
  intro x hx
  simp only [badM, List.mem_cons, List.not_mem_nil, or_false] at hx
  rcases hx with rfl | rfl | rfl | rfl | rfl
  · rw [F_whole]
    have : ¬ ((p.length : Nat) : Int) ≤ (p.length : Int) - 1 := by omega
    simp [this]
  · rw [F_whole]; rfl
  · simp [F_is_whole, dn_is_whole, R.bind, R.out, opt, sSeq, sSet, sb, sRet, sRetO, sIf, sDrop, sNext, sBrk, sCt, frz, sFrz, sAsg, sPar, sFor, sApp, sExt, ownL, tgSet, tgSets, eVar, eVarW, eC, e1, en, aNil, aCons, eOp, eCmp, cCmp, eChain, cChain, cVal, cNot, cAnd, cOr, eIf, vAnd, vOr, vNot, eTup, eLst, eCall, eCallO, eLc, wipeE, cYes, callF, atI_zero, atI_one, atI_lit, atI_nat', atI_m1, szOk, small64, atI_two, atI_three, sRaise, eIsi_of, isi_non, isi_bl, isi_int, isi_str, isi_tup, isi_lst, isD1, lenD_lst, lenD_tup, lenD_scr, ixD_lst, ixD_tup, ixD_scr, addD_ii, addD_ll, addD_tt, subD_ii, ltD_ii, leD_ii, gtD_ii, geD_ii, mulD_ii, listD_l, listD_t, tupD_l, tupD_t, negD_i, itemsD_l, itemsD_t, itemsD_s]
  · simp [F_is_whole, dn_is_whole, R.bind, R.out, opt, sSeq, sSet, sb, sRet, sRetO, sIf, sDrop, sNext, sBrk, sCt, frz, sFrz, sAsg, sPar, sFor, sApp, sExt, ownL, tgSet, tgSets, eVar, eVarW, eC, e1, en, aNil, aCons, eOp, eCmp, cCmp, eChain, cChain, cVal, cNot, cAnd, cOr, eIf, vAnd, vOr, vNot, eTup, eLst, eCall, eCallO, eLc, wipeE, cYes, callF, atI_zero, atI_one, atI_lit, atI_nat', atI_m1, szOk, small64, atI_two, atI_three, sRaise, eIsi_of, isi_non, isi_bl, isi_int, isi_str, isi_tup, isi_lst, isD1, lenD_lst, lenD_tup, lenD_scr, ixD_lst, ixD_tup, ixD_scr, addD_ii, addD_ll, addD_tt, subD_ii, ltD_ii, leD_ii, gtD_ii, geD_ii, mulD_ii, listD_l, listD_t, tupD_l, tupD_t, negD_i, itemsD_l, itemsD_t, itemsD_s]
  · simp [F_is_whole, dn_is_whole, R.bind, R.out, opt, sSeq, sSet, sb, sRet, sRetO, sIf, sDrop, sNext, sBrk, sCt, frz, sFrz, sAsg, sPar, sFor, sApp, sExt, ownL, tgSet, tgSets, eVar, eVarW, eC, e1, en, aNil, aCons, eOp, eCmp, cCmp, eChain, cChain, cVal, cNot, cAnd, cOr, eIf, vAnd, vOr, vNot, eTup, eLst, eCall, eCallO, eLc, wipeE, cYes, callF, atI_zero, atI_one, atI_lit, atI_nat', atI_m1, szOk, small64, atI_two, atI_three, sRaise, eIsi_of, isi_non, isi_bl, isi_int, isi_str, isi_tup, isi_lst, isD1, lenD_lst, lenD_tup, lenD_scr, ixD_lst, ixD_tup, ixD_scr, addD_ii, addD_ll, addD_tt, subD_ii, ltD_ii, leD_ii, gtD_ii, geD_ii, mulD_ii, listD_l, listD_t, tupD_l, tupD_t, negD_i, itemsD_l, itemsD_t, itemsD_s]
theorem l7_loop {p : Pl} {k : Nat} (w : Wf p k) {s0 s2 s3 s4 s5 s6 s7 s8 s9 s10 s11 s12 s13 : SV} : ∀ (xs : List D) (v14 : SV), (∀ x ∈ xs, x ∈ badM p) →
    ∃ u14, loopF (.nm 14) dn_law_l7 xs [s0, .val (planD p), s2, s3, s4, s5, s6, s7, s8, s9, s10, s11, s12, s13, v14] = .nx [s0, .val (planD p), s2, s3, s4, s5, s6, s7, s8, s9, s10, s11, s12, s13, u14]
  | [], v14, _ => ⟨v14, rfl⟩
  | x :: xs, v14, hb => by
    obtain ⟨u, e⟩ := l7_loop w (s0 := s0) (s2 := s2) (s3 := s3) (s4 := s4) (s5 := s5) (s6 := s6) (s7 := s7) (s8 := s8) (s9 := s9) (s10 := s10) (s11 := s11) (s12 := s12) (s13 := s13) xs (.val x) fun c hc => hb c (.tail _ hc)
    refine ⟨u, ?_⟩
    have bad := F_lookmode_bad (badM_no x (hb x (.head _)))
    have l1 := w.l1
    have ok0 := F_lookmode_ok (p := p) (m := 0) (by omega)
    have c0 : ((0 : Nat) : Int) = 0 := rfl
    rw [c0] at ok0
    have lp := F_lookplan w
    have f1 : F__law_do [.int 0, planD p, x, .int 0] = .ok (false, .str "no mode") := do_no (by simp [F_way_to, dn_way_to, R.bind, R.out, opt, sSeq, sSet, sb, sRet, sRetO, sIf, sDrop, sNext, sBrk, sCt, frz, sFrz, sAsg, sPar, sFor, sApp, sExt, ownL, tgSet, tgSets, eVar, eVarW, eC, e1, en, aNil, aCons, eOp, eCmp, cCmp, eChain, cChain, cVal, cNot, cAnd, cOr, eIf, vAnd, vOr, vNot, eTup, eLst, eCall, eCallO, eLc, wipeE, cYes, callF, atI_zero, atI_one, atI_lit, atI_nat', atI_m1, szOk, small64, atI_two, atI_three, sRaise, eIsi_of, isi_non, isi_bl, isi_int, isi_str, isi_tup, isi_lst, isD1, lenD_lst, lenD_tup, lenD_scr, ixD_lst, ixD_tup, ixD_scr, addD_ii, addD_ll, addD_tt, subD_ii, ltD_ii, leD_ii, gtD_ii, geD_ii, mulD_ii, listD_l, listD_t, tupD_l, tupD_t, negD_i, itemsD_l, itemsD_t, itemsD_s, lp, bad])
    have f2 : F__law_do [.int 0, planD p, .int 0, x] = .ok (false, .str "no mode") := do_no (by simp [F_way_to, dn_way_to, R.bind, R.out, opt, sSeq, sSet, sb, sRet, sRetO, sIf, sDrop, sNext, sBrk, sCt, frz, sFrz, sAsg, sPar, sFor, sApp, sExt, ownL, tgSet, tgSets, eVar, eVarW, eC, e1, en, aNil, aCons, eOp, eCmp, cCmp, eChain, cChain, cVal, cNot, cAnd, cOr, eIf, vAnd, vOr, vNot, eTup, eLst, eCall, eCallO, eLc, wipeE, cYes, callF, atI_zero, atI_one, atI_lit, atI_nat', atI_m1, szOk, small64, atI_two, atI_three, sRaise, eIsi_of, isi_non, isi_bl, isi_int, isi_str, isi_tup, isi_lst, isD1, lenD_lst, lenD_tup, lenD_scr, ixD_lst, ixD_tup, ixD_scr, addD_ii, addD_ll, addD_tt, subD_ii, ltD_ii, leD_ii, gtD_ii, geD_ii, mulD_ii, listD_l, listD_t, tupD_l, tupD_t, negD_i, itemsD_l, itemsD_t, itemsD_s, lp, ok0, bad])
    have f3 : F__law_do [.int 1, planD p, x, .str "go"] = .ok (false, .str "no mode") := do_no1 (by simp [F_way_to_deed, dn_way_to_deed, R.bind, R.out, opt, sSeq, sSet, sb, sRet, sRetO, sIf, sDrop, sNext, sBrk, sCt, frz, sFrz, sAsg, sPar, sFor, sApp, sExt, ownL, tgSet, tgSets, eVar, eVarW, eC, e1, en, aNil, aCons, eOp, eCmp, cCmp, eChain, cChain, cVal, cNot, cAnd, cOr, eIf, vAnd, vOr, vNot, eTup, eLst, eCall, eCallO, eLc, wipeE, cYes, callF, atI_zero, atI_one, atI_lit, atI_nat', atI_m1, szOk, small64, atI_two, atI_three, sRaise, eIsi_of, isi_non, isi_bl, isi_int, isi_str, isi_tup, isi_lst, isD1, lenD_lst, lenD_tup, lenD_scr, ixD_lst, ixD_tup, ixD_scr, addD_ii, addD_ll, addD_tt, subD_ii, ltD_ii, leD_ii, gtD_ii, geD_ii, mulD_ii, listD_l, listD_t, tupD_l, tupD_t, negD_i, itemsD_l, itemsD_t, itemsD_s, lp, bad])
    have m3 : mulD (.lst [.str "no mode"]) (.int 3) = some (.lst [.str "no mode", .str "no mode", .str "no mode"]) := by kernel_rfl
    have n3 : neD (.lst [.str "no mode", .str "no mode", .str "no mode"]) (.lst [.str "no mode", .str "no mode", .str "no mode"]) = some false := by kernel_rfl
    have body : dn_law_l7 [s0, .val (planD p), s2, s3, s4, s5, s6, s7, s8, s9, s10, s11, s12, s13, .val x] = .nx [s0, .val (planD p), s2, s3, s4, s5, s6, s7, s8, s9, s10, s11, s12, s13, .val x] := by
      simp [dn_law_l7, R.bind, R.out, opt, sSeq, sSet, sb, sRet, sRetO, sIf, sDrop, sNext, sBrk, sCt, frz, sFrz, sAsg, sPar, sFor, sApp, sExt, ownL, tgSet, tgSets, eVar, eVarW, eC, e1, en, aNil, aCons, eOp, eCmp, cCmp, eChain, cChain, cVal, cNot, cAnd, cOr, eIf, vAnd, vOr, vNot, eTup, eLst, eCall, eCallO, eLc, wipeE, cYes, callF, atI_zero, atI_one, atI_lit, atI_nat', atI_m1, szOk, small64, atI_two, atI_three, sRaise, eIsi_of, isi_non, isi_bl, isi_int, isi_str, isi_tup, isi_lst, isD1, lenD_lst, lenD_tup, lenD_scr, ixD_lst, ixD_tup, ixD_scr, addD_ii, addD_ll, addD_tt, subD_ii, ltD_ii, leD_ii, gtD_ii, geD_ii, mulD_ii, listD_l, listD_t, tupD_l, tupD_t, negD_i, itemsD_l, itemsD_t, itemsD_s, f1, f2, f3, m3, n3]
    rw [loopF_cons rfl body]
    exact e
theorem strs_ne {l : List Str} (h : ∀ x ∈ l, PyData.strOk x = true) : neD (.lst (l.map D.str)) (.lst (l.map D.str)) = some false := by
  refine ne_self ?_
  rw [okD_l 15, List.all_eq_true]
  intro x hx
  obtain ⟨b, hb, rfl⟩ := List.mem_map.mp hx
  exact h b hb
theorem do_odd {p : Pl} {k : Nat} {x : D} (w : Wf p k) (h : F_is_deed [x] = .ok (false, .bl false)) : F__law_do [.int 1, planD p, .int 0, x] = .ok (false, .non) := by
  have l1 := w.l1
  have ok0 := F_lookmode_ok (p := p) (m := 0) (by omega)
  have c0 : ((0 : Nat) : Int) = 0 := rfl
  rw [c0] at ok0
  exact do_yes1 (b := false) (by simp [F_way_to_deed, dn_way_to_deed, R.bind, R.out, opt, sSeq, sSet, sb, sRet, sRetO, sIf, sDrop, sNext, sBrk, sCt, frz, sFrz, sAsg, sPar, sFor, sApp, sExt, ownL, tgSet, tgSets, eVar, eVarW, eC, e1, en, aNil, aCons, eOp, eCmp, cCmp, eChain, cChain, cVal, cNot, cAnd, cOr, eIf, vAnd, vOr, vNot, eTup, eLst, eCall, eCallO, eLc, wipeE, cYes, callF, atI_zero, atI_one, atI_lit, atI_nat', atI_m1, szOk, small64, atI_two, atI_three, sRaise, eIsi_of, isi_non, isi_bl, isi_int, isi_str, isi_tup, isi_lst, isD1, lenD_lst, lenD_tup, lenD_scr, ixD_lst, ixD_tup, ixD_scr, addD_ii, addD_ll, addD_tt, subD_ii, ltD_ii, leD_ii, gtD_ii, geD_ii, mulD_ii, listD_l, listD_t, tupD_l, tupD_t, negD_i, itemsD_l, itemsD_t, itemsD_s, F_lookplan w, ok0, h])
theorem law_true : ∀ ns : List Int, ns.length ≤ 63 → F_law [.scr ns] = .ok (false, .bl true) := by
  intro ns _
  obtain ⟨p, k, hp, w, _⟩ := F_plan (ns := ns) (at_ := 10) (most := 6) (by omega) (by omega) (by omega)
  have l1 := w.l1
  have l6 := w.l6
  have lp := len_plan p
  have rg := range1D_of (i := (p.length : Int)) (n := p.length) rfl (by omega)
  have lcE : lcF (.nm 3) cYes dn_law_e1 [.val (.scr ns), .val (planD p), .no, .no, .no, .no, .no, .no, .no, .no, .no, .no, .no, .no, .no] ((List.range p.length).map fun h => D.int (h : Nat)) = .ok (everyL p k) := by
    have := lcF_all (t := .nm 3) (f := dn_law_e1) (ρ := [.val (.scr ns), .val (planD p), .no, .no, .no, .no, .no, .no, .no, .no, .no, .no, .no, .no, .no]) (d := fun h : Nat => D.int (h : Nat)) (g := fun m => D.lst (wayL p k m)) (xs := List.range p.length) fun m hm => ⟨_, rfl, by
      have f := F_lawrows w (List.mem_range.mp hm)
      simp [dn_law_e1, R.bind, R.out, opt, sSeq, sSet, sb, sRet, sRetO, sIf, sDrop, sNext, sBrk, sCt, frz, sFrz, sAsg, sPar, sFor, sApp, sExt, ownL, tgSet, tgSets, eVar, eVarW, eC, e1, en, aNil, aCons, eOp, eCmp, cCmp, eChain, cChain, cVal, cNot, cAnd, cOr, eIf, vAnd, vOr, vNot, eTup, eLst, eCall, eCallO, eLc, wipeE, cYes, callF, atI_zero, atI_one, atI_lit, atI_nat', atI_m1, szOk, small64, atI_two, atI_three, sRaise, eIsi_of, isi_non, isi_bl, isi_int, isi_str, isi_tup, isi_lst, isD1, lenD_lst, lenD_tup, lenD_scr, ixD_lst, ixD_tup, ixD_scr, addD_ii, addD_ll, addD_tt, subD_ii, ltD_ii, leD_ii, gtD_ii, geD_ii, mulD_ii, listD_l, listD_t, tupD_l, tupD_t, negD_i, itemsD_l, itemsD_t, itemsD_s, f]⟩
    exact this
  have zE : (everyL p k).length ≤ 16777216 := by unfold everyL; rw [List.length_map, List.length_range]; omega
  obtain ⟨v3, v4, v5, v6, v7, v8, v9, v10, e5⟩ := l5_loop w (s0 := .val (.scr ns)) (s11 := .no) (s12 := .no) (s13 := .no) (s14 := .no) (List.range p.length) .no .no .no .no .no .no .no .no fun c hc => List.mem_range.mp hc
  have ev0 : (everyL p k)[0]? = some (.lst (wayL p k 0)) := ev_get (by omega)
  have lc1 : lcF (.nm 3) dn_law_q1 dn_law_e2 [.val (.scr ns), .val (planD p), .val (.lst (everyL p k)), .no, v4, v5, v6, v7, v8, v9, v10, .no, .no, .no, .no] ((List.range p.length).map fun h => D.int (h : Nat)) = .ok (natsD (someN p k)) := by
    have := lcF_map (t := .nm 3) (c := dn_law_q1) (f := dn_law_e2) (ρ := [.val (.scr ns), .val (planD p), .val (.lst (everyL p k)), .no, v4, v5, v6, v7, v8, v9, v10, .no, .no, .no, .no]) (d := fun h : Nat => D.int (h : Nat)) (g := fun h : Nat => D.int (h : Nat)) (p := fun m => (wayOf p k 0 m).isSome) (xs := List.range p.length) fun m hm => ⟨_, rfl, by
      have g1 := wl_get (k := k) (m := 0) (List.mem_range.mp hm)
      have g2 := way_isnt (wayOf p k 0 m)
      generalize wayD (wayOf p k 0 m) = Z at g1 g2
      generalize wayL p k 0 = W0 at ev0 g1
      generalize everyL p k = EL at ev0
      simp [dn_law_q1, R.bind, R.out, opt, sSeq, sSet, sb, sRet, sRetO, sIf, sDrop, sNext, sBrk, sCt, frz, sFrz, sAsg, sPar, sFor, sApp, sExt, ownL, tgSet, tgSets, eVar, eVarW, eC, e1, en, aNil, aCons, eOp, eCmp, cCmp, eChain, cChain, cVal, cNot, cAnd, cOr, eIf, vAnd, vOr, vNot, eTup, eLst, eCall, eCallO, eLc, wipeE, cYes, callF, atI_zero, atI_one, atI_lit, atI_nat', atI_m1, szOk, small64, atI_two, atI_three, sRaise, eIsi_of, isi_non, isi_bl, isi_int, isi_str, isi_tup, isi_lst, isD1, lenD_lst, lenD_tup, lenD_scr, ixD_lst, ixD_tup, ixD_scr, addD_ii, addD_ll, addD_tt, subD_ii, ltD_ii, leD_ii, gtD_ii, geD_ii, mulD_ii, listD_l, listD_t, tupD_l, tupD_t, negD_i, itemsD_l, itemsD_t, itemsD_s, ev0, g1, g2], fun _ => by simp [dn_law_e2, R.bind, R.out, opt, sSeq, sSet, sb, sRet, sRetO, sIf, sDrop, sNext, sBrk, sCt, frz, sFrz, sAsg, sPar, sFor, sApp, sExt, ownL, tgSet, tgSets, eVar, eVarW, eC, e1, en, aNil, aCons, eOp, eCmp, cCmp, eChain, cChain, cVal, cNot, cAnd, cOr, eIf, vAnd, vOr, vNot, eTup, eLst, eCall, eCallO, eLc, wipeE, cYes, callF, atI_zero, atI_one, atI_lit, atI_nat', atI_m1, szOk, small64, atI_two, atI_three, sRaise, eIsi_of, isi_non, isi_bl, isi_int, isi_str, isi_tup, isi_lst, isD1, lenD_lst, lenD_tup, lenD_scr, ixD_lst, ixD_tup, ixD_scr, addD_ii, addD_ll, addD_tt, subD_ii, ltD_ii, leD_ii, gtD_ii, geD_ii, mulD_ii, listD_l, listD_t, tupD_l, tupD_t, negD_i, itemsD_l, itemsD_t, itemsD_s]⟩
    exact this
  have sl := someN_len p k
  have lc2 : lcF (.nm 3) dn_law_q2 dn_law_e3 [.val (.scr ns), .val (planD p), .val (.lst (everyL p k)), .no, v4, v5, v6, v7, v8, v9, v10, .val (.lst (natsD (someN p k))), .no, .no, .no] ((List.range p.length).map fun h => D.int (h : Nat)) = .ok (natsD (restN p k)) := by
    have := lcF_map (t := .nm 3) (c := dn_law_q2) (f := dn_law_e3) (ρ := [.val (.scr ns), .val (planD p), .val (.lst (everyL p k)), .no, v4, v5, v6, v7, v8, v9, v10, .val (.lst (natsD (someN p k))), .no, .no, .no]) (d := fun h : Nat => D.int (h : Nat)) (g := fun h : Nat => D.int (h : Nat)) (p := fun m => !decide (m ∈ someN p k)) (xs := List.range p.length) fun m hm => ⟨_, rfl, by
      have q := in_nats (l := someN p k) m (by omega)
      generalize natsD (someN p k) = S at q
      simp [dn_law_q2, R.bind, R.out, opt, sSeq, sSet, sb, sRet, sRetO, sIf, sDrop, sNext, sBrk, sCt, frz, sFrz, sAsg, sPar, sFor, sApp, sExt, ownL, tgSet, tgSets, eVar, eVarW, eC, e1, en, aNil, aCons, eOp, eCmp, cCmp, eChain, cChain, cVal, cNot, cAnd, cOr, eIf, vAnd, vOr, vNot, eTup, eLst, eCall, eCallO, eLc, wipeE, cYes, callF, atI_zero, atI_one, atI_lit, atI_nat', atI_m1, szOk, small64, atI_two, atI_three, sRaise, eIsi_of, isi_non, isi_bl, isi_int, isi_str, isi_tup, isi_lst, isD1, lenD_lst, lenD_tup, lenD_scr, ixD_lst, ixD_tup, ixD_scr, addD_ii, addD_ll, addD_tt, subD_ii, ltD_ii, leD_ii, gtD_ii, geD_ii, mulD_ii, listD_l, listD_t, tupD_l, tupD_t, negD_i, itemsD_l, itemsD_t, itemsD_s, q], fun _ => by simp [dn_law_e3, R.bind, R.out, opt, sSeq, sSet, sb, sRet, sRetO, sIf, sDrop, sNext, sBrk, sCt, frz, sFrz, sAsg, sPar, sFor, sApp, sExt, ownL, tgSet, tgSets, eVar, eVarW, eC, e1, en, aNil, aCons, eOp, eCmp, cCmp, eChain, cChain, cVal, cNot, cAnd, cOr, eIf, vAnd, vOr, vNot, eTup, eLst, eCall, eCallO, eLc, wipeE, cYes, callF, atI_zero, atI_one, atI_lit, atI_nat', atI_m1, szOk, small64, atI_two, atI_three, sRaise, eIsi_of, isi_non, isi_bl, isi_int, isi_str, isi_tup, isi_lst, isD1, lenD_lst, lenD_tup, lenD_scr, ixD_lst, ixD_tup, ixD_scr, addD_ii, addD_ll, addD_tt, subD_ii, ltD_ii, leD_ii, gtD_ii, geD_ii, mulD_ii, listD_l, listD_t, tupD_l, tupD_t, negD_i, itemsD_l, itemsD_t, itemsD_s]⟩
    exact this
  have lc3 : lcF (.nm 3) dn_law_q3 dn_law_e4 [.val (.scr ns), .val (planD p), .val (.lst (everyL p k)), .no, v4, v5, v6, v7, v8, v9, v10, .val (.lst (natsD (someN p k))), .val (.lst (natsD (restN p k))), .no, .no] (natsD (someN p k)) = .ok (natsD (strN p k)) := by
    have := lcF_map (t := .nm 3) (c := dn_law_q3) (f := dn_law_e4) (ρ := [.val (.scr ns), .val (planD p), .val (.lst (everyL p k)), .no, v4, v5, v6, v7, v8, v9, v10, .val (.lst (natsD (someN p k))), .val (.lst (natsD (restN p k))), .no, .no]) (d := fun h : Nat => D.int (h : Nat)) (g := fun h : Nat => D.int (h : Nat)) (p := fun m => (wayOf p k m 0).isNone) (xs := someN p k) fun m hm => ⟨_, rfl, by
      have g0 := ev_get (k := k) (someN_lt hm)
      have g1 : (wayL p k m)[0]? = some (wayD (wayOf p k m 0)) := wl_get (by omega)
      have g2 := way_isn (wayOf p k m 0)
      generalize wayD (wayOf p k m 0) = Z at g1 g2
      generalize wayL p k m = W0 at g0 g1
      generalize everyL p k = EL at g0
      simp [dn_law_q3, R.bind, R.out, opt, sSeq, sSet, sb, sRet, sRetO, sIf, sDrop, sNext, sBrk, sCt, frz, sFrz, sAsg, sPar, sFor, sApp, sExt, ownL, tgSet, tgSets, eVar, eVarW, eC, e1, en, aNil, aCons, eOp, eCmp, cCmp, eChain, cChain, cVal, cNot, cAnd, cOr, eIf, vAnd, vOr, vNot, eTup, eLst, eCall, eCallO, eLc, wipeE, cYes, callF, atI_zero, atI_one, atI_lit, atI_nat', atI_m1, szOk, small64, atI_two, atI_three, sRaise, eIsi_of, isi_non, isi_bl, isi_int, isi_str, isi_tup, isi_lst, isD1, lenD_lst, lenD_tup, lenD_scr, ixD_lst, ixD_tup, ixD_scr, addD_ii, addD_ll, addD_tt, subD_ii, ltD_ii, leD_ii, gtD_ii, geD_ii, mulD_ii, listD_l, listD_t, tupD_l, tupD_t, negD_i, itemsD_l, itemsD_t, itemsD_s, g0, g1, g2], fun _ => by simp [dn_law_e4, R.bind, R.out, opt, sSeq, sSet, sb, sRet, sRetO, sIf, sDrop, sNext, sBrk, sCt, frz, sFrz, sAsg, sPar, sFor, sApp, sExt, ownL, tgSet, tgSets, eVar, eVarW, eC, e1, en, aNil, aCons, eOp, eCmp, cCmp, eChain, cChain, cVal, cNot, cAnd, cOr, eIf, vAnd, vOr, vNot, eTup, eLst, eCall, eCallO, eLc, wipeE, cYes, callF, atI_zero, atI_one, atI_lit, atI_nat', atI_m1, szOk, small64, atI_two, atI_three, sRaise, eIsi_of, isi_non, isi_bl, isi_int, isi_str, isi_tup, isi_lst, isD1, lenD_lst, lenD_tup, lenD_scr, ixD_lst, ixD_tup, ixD_scr, addD_ii, addD_ll, addD_tt, subD_ii, ltD_ii, leD_ii, gtD_ii, geD_ii, mulD_ii, listD_l, listD_t, tupD_l, tupD_t, negD_i, itemsD_l, itemsD_t, itemsD_s]⟩
    exact this
  have z1 := nats_z (someN_len p k) (by omega)
  have z2 := nats_z (rest_len p k) (by omega)
  have z3 := nats_z (str_len p k) (by omega)
  have n1 := nats_ne (someN p k)
  have n2 := nats_ne (restN p k)
  have n3 := nats_ne (strN p k)
  have fm := F_met_some w
  have fn := F_needless_ok w
  have fs := F_stranded_ok w
  have gl := lawDs_len w (someN p k) fun m hm => someN_lt hm
  obtain ⟨u3, e6⟩ := l6_loop w (s0 := .val (.scr ns)) (s2 := .val (.lst (everyL p k))) (v4 := v4) (v5 := v5) (s6 := v6) (s7 := v7) (s8 := v8) (s9 := v9) (s10 := v10) (s11 := .val (.lst (natsD (someN p k)))) (s12 := .val (.lst (natsD (restN p k)))) (s14 := .no) (someN p k) [] v3 (fun m hm => someN_lt hm) (by simp; omega)
  simp only [List.nil_append, List.map_nil, List.length_nil, Nat.zero_add] at e6
  have fd := F_deedsof w
  rw [keys_set] at fd
  have so : sortedSetTD (.lst ((lawDs p (someN p k)).map D.str)) = some (.lst ((setS (lawDs p (someN p k))).map D.str)) := by
    simp only [sortedSetTD, strsD_map, Option.bind_some]
    rw [if_pos (decide_eq_true (by omega))]
  have nd := strs_ne (l := setS (lawDs p (someN p k))) fun x hx => by
    rw [← keys_set] at hx
    exact dd_ok7 x ((keysK_ok w).2 x ((sortS_perm _).mem_iff.mp hx))
  obtain ⟨u14, e7⟩ := l7_loop w (s0 := .val (.scr ns)) (s2 := .val (.lst (everyL p k))) (s3 := u3) (s4 := v4) (s5 := v5) (s6 := v6) (s7 := v7) (s8 := v8) (s9 := v9) (s10 := v10) (s11 := .val (.lst (natsD (someN p k)))) (s12 := .val (.lst (natsD (restN p k)))) (s13 := .own (.lst ((lawDs p (someN p k)).map D.str))) (badM p) .no fun _ h => h
  have bm : badM p = [.int (p.length : Nat), .int (-1), .non, .bl true, .str "0"] := rfl
  rw [bm] at e7
  have lc6 : lcF (.nm 5) cYes dn_law_e6 [.val (.scr ns), .val (planD p), .val (.lst (everyL p k)), u3, v4, .no, v6, v7, v8, v9, v10, .val (.lst (natsD (someN p k))), .val (.lst (natsD (restN p k))), .own (.lst ((lawDs p (someN p k)).map D.str)), u14] [.str "A", .str "abcdefg", .non, .int 5, .tup [.str "go"]] = .ok [.non, .non, .non, .non, .non] := by
    have a1 := do_odd w (show F_is_deed [.str "A"] = .ok (false, .bl false) by kernel_rfl)
    have a2 := do_odd w (show F_is_deed [.str "abcdefg"] = .ok (false, .bl false) by kernel_rfl)
    have a3 := do_odd w (show F_is_deed [.non] = .ok (false, .bl false) by kernel_rfl)
    have a4 := do_odd w (show F_is_deed [.int 5] = .ok (false, .bl false) by kernel_rfl)
    have a5 := do_odd w (show F_is_deed [.tup [.str "go"]] = .ok (false, .bl false) by kernel_rfl)
    simp [lcF, dn_law_e6, R.bind, R.out, opt, sSeq, sSet, sb, sRet, sRetO, sIf, sDrop, sNext, sBrk, sCt, frz, sFrz, sAsg, sPar, sFor, sApp, sExt, ownL, tgSet, tgSets, eVar, eVarW, eC, e1, en, aNil, aCons, eOp, eCmp, cCmp, eChain, cChain, cVal, cNot, cAnd, cOr, eIf, vAnd, vOr, vNot, eTup, eLst, eCall, eCallO, eLc, wipeE, cYes, callF, atI_zero, atI_one, atI_lit, atI_nat', atI_m1, szOk, small64, atI_two, atI_three, sRaise, eIsi_of, isi_non, isi_bl, isi_int, isi_str, isi_tup, isi_lst, isD1, lenD_lst, lenD_tup, lenD_scr, ixD_lst, ixD_tup, ixD_scr, addD_ii, addD_ll, addD_tt, subD_ii, ltD_ii, leD_ii, gtD_ii, geD_ii, mulD_ii, listD_l, listD_t, tupD_l, tupD_t, negD_i, itemsD_l, itemsD_t, itemsD_s, a1, a2, a3, a4, a5]
  have m5 : mulD (.lst [.non]) (.int 5) = some (.lst [.non, .non, .non, .non, .non]) := by kernel_rfl
  have q5 : eqD (.lst [.non, .non, .non, .non, .non]) (.lst [.non, .non, .non, .non, .non]) = some true := by kernel_rfl
  generalize (setS (lawDs p (someN p k))).map D.str = SS at fd so nd
  generalize (lawDs p (someN p k)).map D.str = LD at e6 so e7 lc6
  generalize natsD (strN p k) = TN at lc3 z3 n3 fs
  generalize natsD (restN p k) = RN at lc2 lc3 z2 n2 fn e6 e7 lc6
  generalize natsD (someN p k) = SN at lc1 lc2 lc3 z1 n1 fm e6 e7 lc6
  generalize everyL p k = EL at lcE zE e5 lc1 lc2 lc3 e6 e7 lc6
  generalize (List.range p.length).map (fun h => D.int (h : Nat)) = RG at rg lcE e5 lc1 lc2
  simp [F_law, dn_law, R.bind, R.out, opt, sSeq, sSet, sb, sRet, sRetO, sIf, sDrop, sNext, sBrk, sCt, frz, sFrz, sAsg, sPar, sFor, sApp, sExt, ownL, tgSet, tgSets, eVar, eVarW, eC, e1, en, aNil, aCons, eOp, eCmp, cCmp, eChain, cChain, cVal, cNot, cAnd, cOr, eIf, vAnd, vOr, vNot, eTup, eLst, eCall, eCallO, eLc, wipeE, cYes, callF, atI_zero, atI_one, atI_lit, atI_nat', atI_m1, szOk, small64, atI_two, atI_three, sRaise, eIsi_of, isi_non, isi_bl, isi_int, isi_str, isi_tup, isi_lst, isD1, lenD_lst, lenD_tup, lenD_scr, ixD_lst, ixD_tup, ixD_scr, addD_ii, addD_ll, addD_tt, subD_ii, ltD_ii, leD_ii, gtD_ii, geD_ii, mulD_ii, listD_l, listD_t, tupD_l, tupD_t, negD_i, itemsD_l, itemsD_t, itemsD_s, hp, lp, rg, lcE, zE, e5, lc1, z1, lc2, z2, fm, n1, fn, n2, fs, lc3, z3, n3, e6, fd, so, nd, e7, lc6, m5, q5]

theorem all_mk {l : PySem.W.OpenLaw} {w : World} {K : PySem.W.Frag} {h : Heap} {mg : Str → Option Value} {fa f0 f1 f2 f3 f4 f5 f6 f7 f8 f9 f10 f11 f12 f13 f14 f15 f16 f17 f18 f19 f20 f21 : Addr} (X : K.In h) (G : h.Ns mainGlobals mg) (hfa : mg "law" = some (.ref fa))
    (a0 : PySem.W.nsIn K mainGlobals "_law_cell" = some (some (.ref f0)))
    {od0 an0 : Option Addr} {sl0 : Array (Option Value)} {oc0 kV0 dc0 pm0 cd0 ct0 : Value}
    (l0 : K.lookup f0 = some ⟨oc0, od0, .func (PySem.W.fnOf "_law_cell" "_law_cell" (defArgs st__law_cell) (defBody st__law_cell) (defScope st__law_cell) .none kV0 dc0 pm0 an0 cd0 ct0), sl0⟩) (c0 : PySem.W.codeIn K cd0 "_law_cell" = true) (k0 : PySem.W.keepIn K (.ref f0) = true)
    (a1 : PySem.W.nsIn K mainGlobals "_law_pick" = some (some (.ref f1)))
    {od1 an1 : Option Addr} {sl1 : Array (Option Value)} {oc1 kV1 dc1 pm1 cd1 ct1 : Value}
    (l1 : K.lookup f1 = some ⟨oc1, od1, .func (PySem.W.fnOf "_law_pick" "_law_pick" (defArgs st__law_pick) (defBody st__law_pick) (defScope st__law_pick) .none kV1 dc1 pm1 an1 cd1 ct1), sl1⟩) (c1 : PySem.W.codeIn K cd1 "_law_pick" = true) (k1 : PySem.W.keepIn K (.ref f1) = true)
    (a2 : PySem.W.nsIn K mainGlobals "_law_plan" = some (some (.ref f2)))
    {od2 an2 : Option Addr} {sl2 : Array (Option Value)} {oc2 kV2 dc2 pm2 cd2 ct2 : Value}
    (l2 : K.lookup f2 = some ⟨oc2, od2, .func (PySem.W.fnOf "_law_plan" "_law_plan" (defArgs st__law_plan) (defBody st__law_plan) (defScope st__law_plan) .none kV2 dc2 pm2 an2 cd2 ct2), sl2⟩) (c2 : PySem.W.codeIn K cd2 "_law_plan" = true) (k2 : PySem.W.keepIn K (.ref f2) = true)
    (a3 : PySem.W.nsIn K mainGlobals "_law_rows" = some (some (.ref f3)))
    {od3 an3 : Option Addr} {sl3 : Array (Option Value)} {oc3 kV3 dc3 pm3 cd3 ct3 : Value}
    (l3 : K.lookup f3 = some ⟨oc3, od3, .func (PySem.W.fnOf "_law_rows" "_law_rows" (defArgs st__law_rows) (defBody st__law_rows) (defScope st__law_rows) .none kV3 dc3 pm3 an3 cd3 ct3), sl3⟩) (c3 : PySem.W.codeIn K cd3 "_law_rows" = true) (k3 : PySem.W.keepIn K (.ref f3) = true)
    (a4 : PySem.W.nsIn K mainGlobals "is_whole" = some (some (.ref f4)))
    {od4 an4 : Option Addr} {sl4 : Array (Option Value)} {oc4 kV4 dc4 pm4 cd4 ct4 : Value}
    (l4 : K.lookup f4 = some ⟨oc4, od4, .func (PySem.W.fnOf "is_whole" "is_whole" (defArgs st_is_whole) (defBody st_is_whole) (defScope st_is_whole) .none kV4 dc4 pm4 an4 cd4 ct4), sl4⟩) (c4 : PySem.W.codeIn K cd4 "is_whole" = true) (k4 : PySem.W.keepIn K (.ref f4) = true)
    (a5 : PySem.W.nsIn K mainGlobals "is_deed" = some (some (.ref f5)))
    {od5 an5 : Option Addr} {sl5 : Array (Option Value)} {oc5 kV5 dc5 pm5 cd5 ct5 : Value}
    (l5 : K.lookup f5 = some ⟨oc5, od5, .func (PySem.W.fnOf "is_deed" "is_deed" (defArgs st_is_deed) (defBody st_is_deed) (defScope st_is_deed) .none kV5 dc5 pm5 an5 cd5 ct5), sl5⟩) (c5 : PySem.W.codeIn K cd5 "is_deed" = true) (k5 : PySem.W.keepIn K (.ref f5) = true)
    (a6 : PySem.W.nsIn K mainGlobals "is_step" = some (some (.ref f6)))
    {od6 an6 : Option Addr} {sl6 : Array (Option Value)} {oc6 kV6 dc6 pm6 cd6 ct6 : Value}
    (l6 : K.lookup f6 = some ⟨oc6, od6, .func (PySem.W.fnOf "is_step" "is_step" (defArgs st_is_step) (defBody st_is_step) (defScope st_is_step) .none kV6 dc6 pm6 an6 cd6 ct6), sl6⟩) (c6 : PySem.W.codeIn K cd6 "is_step" = true) (k6 : PySem.W.keepIn K (.ref f6) = true)
    (a7 : PySem.W.nsIn K mainGlobals "is_plan" = some (some (.ref f7)))
    {od7 an7 : Option Addr} {sl7 : Array (Option Value)} {oc7 kV7 dc7 pm7 cd7 ct7 : Value}
    (l7 : K.lookup f7 = some ⟨oc7, od7, .func (PySem.W.fnOf "is_plan" "is_plan" (defArgs st_is_plan) (defBody st_is_plan) (defScope st_is_plan) .none kV7 dc7 pm7 an7 cd7 ct7), sl7⟩) (c7 : PySem.W.codeIn K cd7 "is_plan" = true) (k7 : PySem.W.keepIn K (.ref f7) = true)
    (a8 : PySem.W.nsIn K mainGlobals "look_plan" = some (some (.ref f8)))
    {od8 an8 : Option Addr} {sl8 : Array (Option Value)} {oc8 kV8 dc8 pm8 cd8 ct8 : Value}
    (l8 : K.lookup f8 = some ⟨oc8, od8, .func (PySem.W.fnOf "look_plan" "look_plan" (defArgs st_look_plan) (defBody st_look_plan) (defScope st_look_plan) .none kV8 dc8 pm8 an8 cd8 ct8), sl8⟩) (c8 : PySem.W.codeIn K cd8 "look_plan" = true) (k8 : PySem.W.keepIn K (.ref f8) = true)
    (a9 : PySem.W.nsIn K mainGlobals "rows_from" = some (some (.ref f9)))
    {od9 an9 : Option Addr} {sl9 : Array (Option Value)} {oc9 kV9 dc9 pm9 cd9 ct9 : Value}
    (l9 : K.lookup f9 = some ⟨oc9, od9, .func (PySem.W.fnOf "rows_from" "rows_from" (defArgs st_rows_from) (defBody st_rows_from) (defScope st_rows_from) .none kV9 dc9 pm9 an9 cd9 ct9), sl9⟩) (c9 : PySem.W.codeIn K cd9 "rows_from" = true) (k9 : PySem.W.keepIn K (.ref f9) = true)
    (a10 : PySem.W.nsIn K mainGlobals "met" = some (some (.ref f10)))
    {od10 an10 : Option Addr} {sl10 : Array (Option Value)} {oc10 kV10 dc10 pm10 cd10 ct10 : Value}
    (l10 : K.lookup f10 = some ⟨oc10, od10, .func (PySem.W.fnOf "met" "met" (defArgs st_met) (defBody st_met) (defScope st_met) .none kV10 dc10 pm10 an10 cd10 ct10), sl10⟩) (c10 : PySem.W.codeIn K cd10 "met" = true) (k10 : PySem.W.keepIn K (.ref f10) = true)
    (a11 : PySem.W.nsIn K mainGlobals "way_between" = some (some (.ref f11)))
    {od11 an11 : Option Addr} {sl11 : Array (Option Value)} {oc11 kV11 dc11 pm11 cd11 ct11 : Value}
    (l11 : K.lookup f11 = some ⟨oc11, od11, .func (PySem.W.fnOf "way_between" "way_between" (defArgs st_way_between) (defBody st_way_between) (defScope st_way_between) .none kV11 dc11 pm11 an11 cd11 ct11), sl11⟩) (c11 : PySem.W.codeIn K cd11 "way_between" = true) (k11 : PySem.W.keepIn K (.ref f11) = true)
    (a12 : PySem.W.nsIn K mainGlobals "stranded" = some (some (.ref f12)))
    {od12 an12 : Option Addr} {sl12 : Array (Option Value)} {oc12 kV12 dc12 pm12 cd12 ct12 : Value}
    (l12 : K.lookup f12 = some ⟨oc12, od12, .func (PySem.W.fnOf "stranded" "stranded" (defArgs st_stranded) (defBody st_stranded) (defScope st_stranded) .none kV12 dc12 pm12 an12 cd12 ct12), sl12⟩) (c12 : PySem.W.codeIn K cd12 "stranded" = true) (k12 : PySem.W.keepIn K (.ref f12) = true)
    (a13 : PySem.W.nsIn K mainGlobals "deeds_of" = some (some (.ref f13)))
    {od13 an13 : Option Addr} {sl13 : Array (Option Value)} {oc13 kV13 dc13 pm13 cd13 ct13 : Value}
    (l13 : K.lookup f13 = some ⟨oc13, od13, .func (PySem.W.fnOf "deeds_of" "deeds_of" (defArgs st_deeds_of) (defBody st_deeds_of) (defScope st_deeds_of) .none kV13 dc13 pm13 an13 cd13 ct13), sl13⟩) (c13 : PySem.W.codeIn K cd13 "deeds_of" = true) (k13 : PySem.W.keepIn K (.ref f13) = true)
    (a14 : PySem.W.nsIn K mainGlobals "needless" = some (some (.ref f14)))
    {od14 an14 : Option Addr} {sl14 : Array (Option Value)} {oc14 kV14 dc14 pm14 cd14 ct14 : Value}
    (l14 : K.lookup f14 = some ⟨oc14, od14, .func (PySem.W.fnOf "needless" "needless" (defArgs st_needless) (defBody st_needless) (defScope st_needless) .none kV14 dc14 pm14 an14 cd14 ct14), sl14⟩) (c14 : PySem.W.codeIn K cd14 "needless" = true) (k14 : PySem.W.keepIn K (.ref f14) = true)
    (a15 : PySem.W.nsIn K mainGlobals "_law_word" = some (some (.ref f15)))
    {od15 an15 : Option Addr} {sl15 : Array (Option Value)} {oc15 kV15 dc15 pm15 cd15 ct15 : Value}
    (l15 : K.lookup f15 = some ⟨oc15, od15, .func (PySem.W.fnOf "_law_word" "_law_word" (defArgs st__law_word) (defBody st__law_word) (defScope st__law_word) .none kV15 dc15 pm15 an15 cd15 ct15), sl15⟩) (c15 : PySem.W.codeIn K cd15 "_law_word" = true) (k15 : PySem.W.keepIn K (.ref f15) = true)
    (a16 : PySem.W.nsIn K mainGlobals "look_mode" = some (some (.ref f16)))
    {od16 an16 : Option Addr} {sl16 : Array (Option Value)} {oc16 kV16 dc16 pm16 cd16 ct16 : Value}
    (l16 : K.lookup f16 = some ⟨oc16, od16, .func (PySem.W.fnOf "look_mode" "look_mode" (defArgs st_look_mode) (defBody st_look_mode) (defScope st_look_mode) .none kV16 dc16 pm16 an16 cd16 ct16), sl16⟩) (c16 : PySem.W.codeIn K cd16 "look_mode" = true) (k16 : PySem.W.keepIn K (.ref f16) = true)
    (a17 : PySem.W.nsIn K mainGlobals "way_to" = some (some (.ref f17)))
    {od17 an17 : Option Addr} {sl17 : Array (Option Value)} {oc17 kV17 dc17 pm17 cd17 ct17 : Value}
    (l17 : K.lookup f17 = some ⟨oc17, od17, .func (PySem.W.fnOf "way_to" "way_to" (defArgs st_way_to) (defBody st_way_to) (defScope st_way_to) .none kV17 dc17 pm17 an17 cd17 ct17), sl17⟩) (c17 : PySem.W.codeIn K cd17 "way_to" = true) (k17 : PySem.W.keepIn K (.ref f17) = true)
    (a18 : PySem.W.nsIn K mainGlobals "way_for" = some (some (.ref f18)))
    {od18 an18 : Option Addr} {sl18 : Array (Option Value)} {oc18 kV18 dc18 pm18 cd18 ct18 : Value}
    (l18 : K.lookup f18 = some ⟨oc18, od18, .func (PySem.W.fnOf "way_for" "way_for" (defArgs st_way_for) (defBody st_way_for) (defScope st_way_for) .none kV18 dc18 pm18 an18 cd18 ct18), sl18⟩) (c18 : PySem.W.codeIn K cd18 "way_for" = true) (k18 : PySem.W.keepIn K (.ref f18) = true)
    (a19 : PySem.W.nsIn K mainGlobals "way_to_deed" = some (some (.ref f19)))
    {od19 an19 : Option Addr} {sl19 : Array (Option Value)} {oc19 kV19 dc19 pm19 cd19 ct19 : Value}
    (l19 : K.lookup f19 = some ⟨oc19, od19, .func (PySem.W.fnOf "way_to_deed" "way_to_deed" (defArgs st_way_to_deed) (defBody st_way_to_deed) (defScope st_way_to_deed) .none kV19 dc19 pm19 an19 cd19 ct19), sl19⟩) (c19 : PySem.W.codeIn K cd19 "way_to_deed" = true) (k19 : PySem.W.keepIn K (.ref f19) = true)
    (a20 : PySem.W.nsIn K mainGlobals "_law_do" = some (some (.ref f20)))
    {od20 an20 : Option Addr} {sl20 : Array (Option Value)} {oc20 kV20 dc20 pm20 cd20 ct20 : Value}
    (l20 : K.lookup f20 = some ⟨oc20, od20, .func (PySem.W.fnOf "_law_do" "_law_do" (defArgs st__law_do) (defBody st__law_do) (defScope st__law_do) .none kV20 dc20 pm20 an20 cd20 ct20), sl20⟩) (c20 : PySem.W.codeIn K cd20 "_law_do" = true) (k20 : PySem.W.keepIn K (.ref f20) = true)
    (a21 : PySem.W.nsIn K mainGlobals "law" = some (some (.ref f21)))
    {od21 an21 : Option Addr} {sl21 : Array (Option Value)} {oc21 kV21 dc21 pm21 cd21 ct21 : Value}
    (l21 : K.lookup f21 = some ⟨oc21, od21, .func (PySem.W.fnOf "law" "law" (defArgs st_law) (defBody st_law) (defScope st_law) .none kV21 dc21 pm21 an21 cd21 ct21), sl21⟩) (c21 : PySem.W.codeIn K cd21 "law" = true) (k21 : PySem.W.keepIn K (.ref f21) = true)
    (z0 : PySem.W.nsIn K mainGlobals "ValueError" = some none)
    (z1 : PySem.W.nsIn K mainGlobals "all" = some none)
    (z2 : PySem.W.nsIn K mainGlobals "bool" = some none)
    (z3 : PySem.W.nsIn K mainGlobals "enumerate" = some none)
    (z4 : PySem.W.nsIn K mainGlobals "int" = some none)
    (z5 : PySem.W.nsIn K mainGlobals "isinstance" = some none)
    (z6 : PySem.W.nsIn K mainGlobals "len" = some none)
    (z7 : PySem.W.nsIn K mainGlobals "list" = some none)
    (z8 : PySem.W.nsIn K mainGlobals "min" = some none)
    (z9 : PySem.W.nsIn K mainGlobals "range" = some none)
    (z10 : PySem.W.nsIn K mainGlobals "set" = some none)
    (z11 : PySem.W.nsIn K mainGlobals "sorted" = some none)
    (z12 : PySem.W.nsIn K mainGlobals "str" = some none)
    (z13 : PySem.W.nsIn K mainGlobals "tuple" = some none)
    {tk14 : Tok} (y14 : PySem.W.nsIn K mainGlobals "LONGEST" = some (some (.int 6 tk14)))
    {tk15 : Tok} (y15 : PySem.W.nsIn K mainGlobals "MOST_BUTTONS" = some (some (.int 3 tk15)))
    {tk16 : Tok} (y16 : PySem.W.nsIn K mainGlobals "MOST_MODES" = some (some (.int 6 tk16)))
    {tk17 : Tok} (y17 : PySem.W.nsIn K mainGlobals "SMALL" = some (some (.str "abcdefghijklmnopqrstuvwxyz" tk17)))
    {C18 : Addr} (x18a : PySem.W.nsIn K mainGlobals "NoMode" = some (some (.ref C18))) (x18b : PySem.W.excIn K C18 [.type "ValueError", .type "Exception", .type "BaseException", .type "object"] "ValueError.__new__" = true) (x18c : PySem.W.keepIn K (.ref C18) = true) (x18d : PySem.W.subIn K (.ref C18) (.type "BaseException") = some true) (x18e : PySem.W.typeIn K (.ref C18) = some (.type "type"))
    {C19 : Addr} (x19a : PySem.W.nsIn K mainGlobals "NoPlan" = some (some (.ref C19))) (x19b : PySem.W.excIn K C19 [.type "ValueError", .type "Exception", .type "BaseException", .type "object"] "ValueError.__new__" = true) (x19c : PySem.W.keepIn K (.ref C19) = true) (x19d : PySem.W.subIn K (.ref C19) (.type "BaseException") = some true) (x19e : PySem.W.typeIn K (.ref C19) = some (.type "type"))
    {N_NoBack : Addr} (n_NoBack : PySem.W.nsIn K mainGlobals "NoBack" = some (some (.ref N_NoBack)))
    {N_NoMode : Addr} (n_NoMode : PySem.W.nsIn K mainGlobals "NoMode" = some (some (.ref N_NoMode)))
    {N_NoPlan : Addr} (n_NoPlan : PySem.W.nsIn K mainGlobals "NoPlan" = some (some (.ref N_NoPlan)))
    {N_NoPress : Addr} (n_NoPress : PySem.W.nsIn K mainGlobals "NoPress" = some (some (.ref N_NoPress)))
    {N_NoTells : Addr} (n_NoTells : PySem.W.nsIn K mainGlobals "NoTells" = some (some (.ref N_NoTells)))
    {N_NoText : Addr} (n_NoText : PySem.W.nsIn K mainGlobals "NoText" = some (some (.ref N_NoText)))
    {N_NoWants : Addr} (n_NoWants : PySem.W.nsIn K mainGlobals "NoWants" = some (some (.ref N_NoWants)))
    {N_WatchError : Addr} (n_WatchError : PySem.W.nsIn K mainGlobals "WatchError" = some (some (.ref N_WatchError)))
    (hn_ : PySem.W.specialIn K (.builtin "object.__class__") "__get__" = some (some (.builtin "getset_descriptor.__get__"))) (ht_ : PySem.W.takesIn K (.builtin "object.__class__") = some true)
    (hg_NoMode : PySem.W.findIn K (.ref N_NoMode) "__getattribute__" = some (some (.builtin "BaseException.__getattribute__"))) (hk_NoMode : PySem.W.findIn K (.ref N_NoMode) "__getattr__" = some none) (hs_NoMode : PySem.W.subIn K (.ref N_NoMode) (.type "BaseException") = some true) (hd_NoMode : PySem.W.hasDictIn K N_NoMode = true) (ha_NoMode : PySem.W.findIn K (.ref N_NoMode) "__class__" = some (some (.builtin "object.__class__"))) (hm_NoMode : PySem.W.mroIn K N_NoMode (.type "object") = some true) (ve_NoMode : PySem.W.kitOne K (.ref N_NoMode) (.type "ValueError") = some true) (ex_NoMode : PySem.W.exmOne K (.ref N_NoMode) (.ref N_WatchError) = some true)
    (kw_NoMode : PySem.W.kitOne K (.ref N_NoMode) (.ref N_WatchError) = some true)
    (kt_NoMode_NoBack : PySem.W.kitOne K (.ref N_NoMode) (.ref N_NoBack) = some (decide (("NoMode" : Str) = ("NoBack" : Str))))
    (kt_NoMode_NoMode : PySem.W.kitOne K (.ref N_NoMode) (.ref N_NoMode) = some (decide (("NoMode" : Str) = ("NoMode" : Str))))
    (kt_NoMode_NoPlan : PySem.W.kitOne K (.ref N_NoMode) (.ref N_NoPlan) = some (decide (("NoMode" : Str) = ("NoPlan" : Str))))
    (kt_NoMode_NoPress : PySem.W.kitOne K (.ref N_NoMode) (.ref N_NoPress) = some (decide (("NoMode" : Str) = ("NoPress" : Str))))
    (kt_NoMode_NoTells : PySem.W.kitOne K (.ref N_NoMode) (.ref N_NoTells) = some (decide (("NoMode" : Str) = ("NoTells" : Str))))
    (kt_NoMode_NoText : PySem.W.kitOne K (.ref N_NoMode) (.ref N_NoText) = some (decide (("NoMode" : Str) = ("NoText" : Str))))
    (kt_NoMode_NoWants : PySem.W.kitOne K (.ref N_NoMode) (.ref N_NoWants) = some (decide (("NoMode" : Str) = ("NoWants" : Str))))
    (hg_NoPlan : PySem.W.findIn K (.ref N_NoPlan) "__getattribute__" = some (some (.builtin "BaseException.__getattribute__"))) (hk_NoPlan : PySem.W.findIn K (.ref N_NoPlan) "__getattr__" = some none) (hs_NoPlan : PySem.W.subIn K (.ref N_NoPlan) (.type "BaseException") = some true) (hd_NoPlan : PySem.W.hasDictIn K N_NoPlan = true) (ha_NoPlan : PySem.W.findIn K (.ref N_NoPlan) "__class__" = some (some (.builtin "object.__class__"))) (hm_NoPlan : PySem.W.mroIn K N_NoPlan (.type "object") = some true) (ve_NoPlan : PySem.W.kitOne K (.ref N_NoPlan) (.type "ValueError") = some true) (ex_NoPlan : PySem.W.exmOne K (.ref N_NoPlan) (.ref N_WatchError) = some true)
    (kw_NoPlan : PySem.W.kitOne K (.ref N_NoPlan) (.ref N_WatchError) = some true)
    (kt_NoPlan_NoBack : PySem.W.kitOne K (.ref N_NoPlan) (.ref N_NoBack) = some (decide (("NoPlan" : Str) = ("NoBack" : Str))))
    (kt_NoPlan_NoMode : PySem.W.kitOne K (.ref N_NoPlan) (.ref N_NoMode) = some (decide (("NoPlan" : Str) = ("NoMode" : Str))))
    (kt_NoPlan_NoPlan : PySem.W.kitOne K (.ref N_NoPlan) (.ref N_NoPlan) = some (decide (("NoPlan" : Str) = ("NoPlan" : Str))))
    (kt_NoPlan_NoPress : PySem.W.kitOne K (.ref N_NoPlan) (.ref N_NoPress) = some (decide (("NoPlan" : Str) = ("NoPress" : Str))))
    (kt_NoPlan_NoTells : PySem.W.kitOne K (.ref N_NoPlan) (.ref N_NoTells) = some (decide (("NoPlan" : Str) = ("NoTells" : Str))))
    (kt_NoPlan_NoText : PySem.W.kitOne K (.ref N_NoPlan) (.ref N_NoText) = some (decide (("NoPlan" : Str) = ("NoText" : Str))))
    (kt_NoPlan_NoWants : PySem.W.kitOne K (.ref N_NoPlan) (.ref N_NoWants) = some (decide (("NoPlan" : Str) = ("NoWants" : Str))))
    : ∃ fd : FuncData, (∀ (s : Shared) (v : Value), BindsTo s fd ⟨[v], []⟩ [("_law_script", v)]) ∧ ∀ base : Heap, K.In base → base.Ns mainGlobals mg → FnOk l.prog w K mg base (L2.CX l.prog w) 7 fa fd ["_law_script"] (spEnd K) := by
  have e := hfa.symm.trans (PySem.W.mg_of X G a21)
  cases e
  have T : Tx K mg := { b_ValueError := PySem.W.mg_none_of X G z0, b_all := PySem.W.mg_none_of X G z1, b_bool := PySem.W.mg_none_of X G z2, b_enumerate := PySem.W.mg_none_of X G z3, b_int := PySem.W.mg_none_of X G z4, b_isinstance := PySem.W.mg_none_of X G z5, b_len := PySem.W.mg_none_of X G z6, b_list := PySem.W.mg_none_of X G z7, b_min := PySem.W.mg_none_of X G z8, b_range := PySem.W.mg_none_of X G z9, b_set := PySem.W.mg_none_of X G z10, b_sorted := PySem.W.mg_none_of X G z11, b_str := PySem.W.mg_none_of X G z12, b_tuple := PySem.W.mg_none_of X G z13, g_LONGEST := ⟨_, PySem.W.mg_of X G y14⟩, g_MOST_BUTTONS := ⟨_, PySem.W.mg_of X G y15⟩, g_MOST_MODES := ⟨_, PySem.W.mg_of X G y16⟩, g_SMALL := ⟨_, PySem.W.mg_of X G y17⟩, x_NoMode := ⟨⟨_, PySem.W.mg_of X G x18a, x18b, x18c, x18d, x18e⟩⟩, x_NoPlan := ⟨⟨_, PySem.W.mg_of X G x19a, x19b, x19c, x19d, x19e⟩⟩ }
  have F0 := fun_mk (st := st__law_cell) l0 c0 k0
  have F1 := fun_mk (st := st__law_pick) l1 c1 k1
  have F2 := fun_mk (st := st__law_plan) l2 c2 k2
  have F3 := fun_mk (st := st__law_rows) l3 c3 k3
  have F4 := fun_mk (st := st_is_whole) l4 c4 k4
  have F5 := fun_mk (st := st_is_deed) l5 c5 k5
  have F6 := fun_mk (st := st_is_step) l6 c6 k6
  have F7 := fun_mk (st := st_is_plan) l7 c7 k7
  have F8 := fun_mk (st := st_look_plan) l8 c8 k8
  have F9 := fun_mk (st := st_rows_from) l9 c9 k9
  have F10 := fun_mk (st := st_met) l10 c10 k10
  have F11 := fun_mk (st := st_way_between) l11 c11 k11
  have F12 := fun_mk (st := st_stranded) l12 c12 k12
  have F13 := fun_mk (st := st_deeds_of) l13 c13 k13
  have F14 := fun_mk (st := st_needless) l14 c14 k14
  have F15 := fun_mk (st := st__law_word) l15 c15 k15
  have F16 := fun_mk (st := st_look_mode) l16 c16 k16
  have F17 := fun_mk (st := st_way_to) l17 c17 k17
  have F18 := fun_mk (st := st_way_for) l18 c18 k18
  have F19 := fun_mk (st := st_way_to_deed) l19 c19 k19
  have F20 := fun_mk (st := st__law_do) l20 c20 k20
  have F21 := fun_mk (st := st_law) l21 c21 k21
  refine ⟨PySem.W.fnOf "law" "law" (defArgs st_law) (defBody st_law) (defScope st_law) .none kV21 dc21 pm21 an21 cd21 ct21, fun s v => .of_eq rfl, fun base _ _ => ?_⟩
  have XN_NoMode : XName K mg names10 "NoMode" N_NoMode := ⟨⟨hg_NoMode, hk_NoMode, hs_NoMode, hd_NoMode, ha_NoMode, hn_, ht_, hm_NoMode⟩, fun n hn => by
    simp only [names10, List.mem_cons, List.not_mem_nil, or_false] at hn
    rcases hn with rfl | rfl | rfl | rfl | rfl | rfl | rfl
    · exact ⟨_, PySem.W.mg_of X G n_NoBack, kt_NoMode_NoBack⟩
    · exact ⟨_, PySem.W.mg_of X G n_NoMode, kt_NoMode_NoMode⟩
    · exact ⟨_, PySem.W.mg_of X G n_NoPlan, kt_NoMode_NoPlan⟩
    · exact ⟨_, PySem.W.mg_of X G n_NoPress, kt_NoMode_NoPress⟩
    · exact ⟨_, PySem.W.mg_of X G n_NoTells, kt_NoMode_NoTells⟩
    · exact ⟨_, PySem.W.mg_of X G n_NoText, kt_NoMode_NoText⟩
    · exact ⟨_, PySem.W.mg_of X G n_NoWants, kt_NoMode_NoWants⟩, ve_NoMode⟩
  have XN_NoPlan : XName K mg names10 "NoPlan" N_NoPlan := ⟨⟨hg_NoPlan, hk_NoPlan, hs_NoPlan, hd_NoPlan, ha_NoPlan, hn_, ht_, hm_NoPlan⟩, fun n hn => by
    simp only [names10, List.mem_cons, List.not_mem_nil, or_false] at hn
    rcases hn with rfl | rfl | rfl | rfl | rfl | rfl | rfl
    · exact ⟨_, PySem.W.mg_of X G n_NoBack, kt_NoPlan_NoBack⟩
    · exact ⟨_, PySem.W.mg_of X G n_NoMode, kt_NoPlan_NoMode⟩
    · exact ⟨_, PySem.W.mg_of X G n_NoPlan, kt_NoPlan_NoPlan⟩
    · exact ⟨_, PySem.W.mg_of X G n_NoPress, kt_NoPlan_NoPress⟩
    · exact ⟨_, PySem.W.mg_of X G n_NoTells, kt_NoPlan_NoTells⟩
    · exact ⟨_, PySem.W.mg_of X G n_NoText, kt_NoPlan_NoText⟩
    · exact ⟨_, PySem.W.mg_of X G n_NoWants, kt_NoPlan_NoWants⟩, ve_NoPlan⟩
  have Wd : WordOk l.prog w K mg base 1 "_law_word" "WatchError" txtN := ⟨N_WatchError, f15, _, ["_law_kept"], PySem.W.mg_of X G n_WatchError, PySem.W.mg_of X G a15, k15, F15.binds (fun _ _ _ _ _ _ us hl => match us, hl with | [_], _ => rfl), rfl, fun e t he C hC => by
    unfold txtN at he
    by_cases h_NoMode : e = "NoMode"
    · rw [if_pos h_NoMode] at he
      cases he
      subst h_NoMode
      rw [PySem.W.mg_of X G n_NoMode] at hC
      cases hC
      exact ⟨ex_NoMode, ok__law_word T XN_NoMode ⟨_, PySem.W.mg_of X G n_WatchError, kw_NoMode⟩ hb_NoMode F15⟩
    rw [if_neg h_NoMode] at he
    by_cases h_NoPlan : e = "NoPlan"
    · rw [if_pos h_NoPlan] at he
      cases he
      subst h_NoPlan
      rw [PySem.W.mg_of X G n_NoPlan] at hC
      cases hC
      exact ⟨ex_NoPlan, ok__law_word T XN_NoPlan ⟨_, PySem.W.mg_of X G n_WatchError, kw_NoPlan⟩ hb_NoPlan F15⟩
    rw [if_neg h_NoPlan] at he
    cases he⟩
  have D__law_cell : DefOk l.prog w K mg base 1 "_law_cell" 2 F__law_cell := def_ok F0 (PySem.W.mg_of X G a0) (ok__law_cell T F0) (fun _ _ _ _ _ _ us hl => match us, hl with | [_, _], _ => rfl)
  have D__law_pick : DefOk l.prog w K mg base 2 "_law_pick" 3 F__law_pick := def_ok F1 (PySem.W.mg_of X G a1) (ok__law_pick T D__law_cell F1) (fun _ _ _ _ _ _ us hl => match us, hl with | [_, _, _], _ => rfl)
  have D__law_plan : DefOk l.prog w K mg base 3 "_law_plan" 3 F__law_plan := def_ok F2 (PySem.W.mg_of X G a2) (ok__law_plan T D__law_pick F2) (fun _ _ _ _ _ _ us hl => match us, hl with | [_, _, _], _ => rfl)
  have D__law_rows : DefOk l.prog w K mg base 1 "_law_rows" 2 F__law_rows := def_ok F3 (PySem.W.mg_of X G a3) (ok__law_rows T F3) (fun _ _ _ _ _ _ us hl => match us, hl with | [_, _], _ => rfl)
  have D_is_whole : DefOk l.prog w K mg base 1 "is_whole" 3 F_is_whole := def_ok F4 (PySem.W.mg_of X G a4) (ok_is_whole T F4) (fun _ _ _ _ _ _ us hl => match us, hl with | [_, _, _], _ => rfl)
  have D_is_deed : DefOk l.prog w K mg base 1 "is_deed" 1 F_is_deed := def_ok F5 (PySem.W.mg_of X G a5) (ok_is_deed T F5) (fun _ _ _ _ _ _ us hl => match us, hl with | [_], _ => rfl)
  have D_is_step : DefOk l.prog w K mg base 2 "is_step" 2 F_is_step := def_ok F6 (PySem.W.mg_of X G a6) (ok_is_step T D_is_deed D_is_whole F6) (fun _ _ _ _ _ _ us hl => match us, hl with | [_, _], _ => rfl)
  have D_is_plan : DefOk l.prog w K mg base 3 "is_plan" 1 F_is_plan := def_ok F7 (PySem.W.mg_of X G a7) (ok_is_plan T D_is_step F7) (fun _ _ _ _ _ _ us hl => match us, hl with | [_], _ => rfl)
  have D_look_plan : DefOk l.prog w K mg base 4 "look_plan" 1 F_look_plan := def_ok F8 (PySem.W.mg_of X G a8) (ok_look_plan T D_is_plan F8) (fun _ _ _ _ _ _ us hl => match us, hl with | [_], _ => rfl)
  have D_rows_from : DefOk l.prog w K mg base 1 "rows_from" 2 F_rows_from := def_ok F9 (PySem.W.mg_of X G a9) (ok_rows_from T F9) (fun _ _ _ _ _ _ us hl => match us, hl with | [_, _], _ => rfl)
  have D_met : DefOk l.prog w K mg base 5 "met" 1 F_met := def_ok F10 (PySem.W.mg_of X G a10) (ok_met T D_look_plan D_rows_from F10) (fun _ _ _ _ _ _ us hl => match us, hl with | [_], _ => rfl)
  have D_way_between : DefOk l.prog w K mg base 2 "way_between" 3 F_way_between := def_ok F11 (PySem.W.mg_of X G a11) (ok_way_between T D_rows_from F11) (fun _ _ _ _ _ _ us hl => match us, hl with | [_, _, _], _ => rfl)
  have D_stranded : DefOk l.prog w K mg base 6 "stranded" 1 F_stranded := def_ok F12 (PySem.W.mg_of X G a12) (ok_stranded T D_met D_way_between F12) (fun _ _ _ _ _ _ us hl => match us, hl with | [_], _ => rfl)
  have D_deeds_of : DefOk l.prog w K mg base 6 "deeds_of" 1 F_deeds_of := def_ok F13 (PySem.W.mg_of X G a13) (ok_deeds_of T D_met F13) (fun _ _ _ _ _ _ us hl => match us, hl with | [_], _ => rfl)
  have D_needless : DefOk l.prog w K mg base 6 "needless" 1 F_needless := def_ok F14 (PySem.W.mg_of X G a14) (ok_needless T D_met F14) (fun _ _ _ _ _ _ us hl => match us, hl with | [_], _ => rfl)
  have D_look_mode : DefOk l.prog w K mg base 2 "look_mode" 2 F_look_mode := def_ok F16 (PySem.W.mg_of X G a16) (ok_look_mode T D_is_whole F16) (fun _ _ _ _ _ _ us hl => match us, hl with | [_, _], _ => rfl)
  have D_way_to : DefOk l.prog w K mg base 5 "way_to" 3 F_way_to := def_ok F17 (PySem.W.mg_of X G a17) (ok_way_to T D_look_mode D_look_plan D_way_between F17) (fun _ _ _ _ _ _ us hl => match us, hl with | [_, _, _], _ => rfl)
  have D_way_for : DefOk l.prog w K mg base 2 "way_for" 3 F_way_for := def_ok F18 (PySem.W.mg_of X G a18) (ok_way_for T D_rows_from F18) (fun _ _ _ _ _ _ us hl => match us, hl with | [_, _, _], _ => rfl)
  have D_way_to_deed : DefOk l.prog w K mg base 5 "way_to_deed" 3 F_way_to_deed := def_ok F19 (PySem.W.mg_of X G a19) (ok_way_to_deed T D_is_deed D_look_mode D_look_plan D_way_for F19) (fun _ _ _ _ _ _ us hl => match us, hl with | [_, _, _], _ => rfl)
  have D__law_do : DefOk l.prog w K mg base 6 "_law_do" 4 F__law_do := def_ok F20 (PySem.W.mg_of X G a20) (ok__law_do T D_way_to D_way_to_deed Wd F20) (fun _ _ _ _ _ _ us hl => match us, hl with | [_, _, _, _], _ => rfl)
  exact law_imp (ok_law T D__law_do D__law_plan D__law_rows D_deeds_of D_met D_needless D_stranded F21) law_true
end Pd.L

open PySem PySem.W PyProof.Rows
set_option maxHeartbeats 0 in
theorem PySem.Challenge.cw_buttonplans_k10_whole_ways_holds : PySem.Challenge.rw_buttonplans_k10_whole_ways.Holds := by
  w_on; o_law; k_head; (case hw => w_witness2)
  k_fill
  refine L2.walk_of (l := PySem.Challenge.rw_buttonplans_k10_whole_ways) (n := 63) (k := 7) (x := "_law_script") (CX := fun w => L2.CX PySem.Challenge.rw_buttonplans_k10_whole_ways.prog w) (sp := fun w => Pd.spEnd _) rfl (by decide) rfl ⟨rfl, by decide, by decide⟩ (fun w h Y => PySem.W.kIn_of Y) ?F (fun _ _ a ns hl _ hS => ⟨a, ns, rfl, hl, hS, fun _ => rfl⟩) (fun _ _ _ _ _ h => Pd.cx_end h)
  case F =>
    intro w mg fa h KX G hmg
    refine' Pd.L.all_mk KX G hmg ?a0 ?l0 ?c0 ?k0 ?a1 ?l1 ?c1 ?k1 ?a2 ?l2 ?c2 ?k2 ?a3 ?l3 ?c3 ?k3 ?a4 ?l4 ?c4 ?k4 ?a5 ?l5 ?c5 ?k5 ?a6 ?l6 ?c6 ?k6 ?a7 ?l7 ?c7 ?k7 ?a8 ?l8 ?c8 ?k8 ?a9 ?l9 ?c9 ?k9 ?a10 ?l10 ?c10 ?k10 ?a11 ?l11 ?c11 ?k11 ?a12 ?l12 ?c12 ?k12 ?a13 ?l13 ?c13 ?k13 ?a14 ?l14 ?c14 ?k14 ?a15 ?l15 ?c15 ?k15 ?a16 ?l16 ?c16 ?k16 ?a17 ?l17 ?c17 ?k17 ?a18 ?l18 ?c18 ?k18 ?a19 ?l19 ?c19 ?k19 ?a20 ?l20 ?c20 ?k20 ?a21 ?l21 ?c21 ?k21 ?z0 ?z1 ?z2 ?z3 ?z4 ?z5 ?z6 ?z7 ?z8 ?z9 ?z10 ?z11 ?z12 ?z13 ?y14 ?y15 ?y16 ?y17 ?x18a ?x18b ?x18c ?x18d ?x18e ?x19a ?x19b ?x19c ?x19d ?x19e ?n_NoBack ?n_NoMode ?n_NoPlan ?n_NoPress ?n_NoTells ?n_NoText ?n_NoWants ?n_WatchError ?hn_ ?ht_ ?hg_NoMode ?hk_NoMode ?hs_NoMode ?hd_NoMode ?ha_NoMode ?hm_NoMode ?ve_NoMode ?ex_NoMode ?kw_NoMode ?kt_NoMode_NoBack ?kt_NoMode_NoMode ?kt_NoMode_NoPlan ?kt_NoMode_NoPress ?kt_NoMode_NoTells ?kt_NoMode_NoText ?kt_NoMode_NoWants ?hg_NoPlan ?hk_NoPlan ?hs_NoPlan ?hd_NoPlan ?ha_NoPlan ?hm_NoPlan ?ve_NoPlan ?ex_NoPlan ?kw_NoPlan ?kt_NoPlan_NoBack ?kt_NoPlan_NoMode ?kt_NoPlan_NoPlan ?kt_NoPlan_NoPress ?kt_NoPlan_NoTells ?kt_NoPlan_NoText ?kt_NoPlan_NoWants
    (case a0 => k_is); (case l0 => k_is); (case c0 => k_is); (case k0 => k_is); (case a1 => k_is); (case l1 => k_is); (case c1 => k_is); (case k1 => k_is); (case a2 => k_is); (case l2 => k_is); (case c2 => k_is); (case k2 => k_is); (case a3 => k_is); (case l3 => k_is); (case c3 => k_is); (case k3 => k_is); (case a4 => k_is); (case l4 => k_is); (case c4 => k_is); (case k4 => k_is); (case a5 => k_is); (case l5 => k_is); (case c5 => k_is); (case k5 => k_is); (case a6 => k_is); (case l6 => k_is); (case c6 => k_is); (case k6 => k_is); (case a7 => k_is); (case l7 => k_is); (case c7 => k_is); (case k7 => k_is); (case a8 => k_is); (case l8 => k_is); (case c8 => k_is); (case k8 => k_is); (case a9 => k_is); (case l9 => k_is); (case c9 => k_is); (case k9 => k_is); (case a10 => k_is); (case l10 => k_is); (case c10 => k_is); (case k10 => k_is); (case a11 => k_is); (case l11 => k_is); (case c11 => k_is); (case k11 => k_is); (case a12 => k_is); (case l12 => k_is); (case c12 => k_is); (case k12 => k_is); (case a13 => k_is); (case l13 => k_is); (case c13 => k_is); (case k13 => k_is); (case a14 => k_is); (case l14 => k_is); (case c14 => k_is); (case k14 => k_is); (case a15 => k_is); (case l15 => k_is); (case c15 => k_is); (case k15 => k_is); (case a16 => k_is); (case l16 => k_is); (case c16 => k_is); (case k16 => k_is); (case a17 => k_is); (case l17 => k_is); (case c17 => k_is); (case k17 => k_is); (case a18 => k_is); (case l18 => k_is); (case c18 => k_is); (case k18 => k_is); (case a19 => k_is); (case l19 => k_is); (case c19 => k_is); (case k19 => k_is); (case a20 => k_is); (case l20 => k_is); (case c20 => k_is); (case k20 => k_is); (case a21 => k_is); (case l21 => k_is); (case c21 => k_is); (case k21 => k_is); (case z0 => k_is); (case z1 => k_is); (case z2 => k_is); (case z3 => k_is); (case z4 => k_is); (case z5 => k_is); (case z6 => k_is); (case z7 => k_is); (case z8 => k_is); (case z9 => k_is); (case z10 => k_is); (case z11 => k_is); (case z12 => k_is); (case z13 => k_is); (case y14 => k_is); (case y15 => k_is); (case y16 => k_is); (case y17 => k_is); (case x18a => k_is); (case x18b => k_exc); (case x18c => k_is); (case x18d => k_is); (case x18e => k_is); (case x19a => k_is); (case x19b => k_exc); (case x19c => k_is); (case x19d => k_is); (case x19e => k_is); (case n_NoBack => k_is); (case n_NoMode => k_is); (case n_NoPlan => k_is); (case n_NoPress => k_is); (case n_NoTells => k_is); (case n_NoText => k_is); (case n_NoWants => k_is); (case n_WatchError => k_is); (case hn_ => k_is); (case ht_ => k_is); (case hg_NoMode => k_is); (case hk_NoMode => k_is); (case hs_NoMode => k_is); (case hd_NoMode => k_is); (case ha_NoMode => k_is); (case hm_NoMode => k_is); (case ve_NoMode => kit_is); (case ex_NoMode => kernel_rfl); (case kw_NoMode => kit_is); (case kt_NoMode_NoBack => kit_is); (case kt_NoMode_NoMode => kit_is); (case kt_NoMode_NoPlan => kit_is); (case kt_NoMode_NoPress => kit_is); (case kt_NoMode_NoTells => kit_is); (case kt_NoMode_NoText => kit_is); (case kt_NoMode_NoWants => kit_is); (case hg_NoPlan => k_is); (case hk_NoPlan => k_is); (case hs_NoPlan => k_is); (case hd_NoPlan => k_is); (case ha_NoPlan => k_is); (case hm_NoPlan => k_is); (case ve_NoPlan => kit_is); (case ex_NoPlan => kernel_rfl); (case kw_NoPlan => kit_is); (case kt_NoPlan_NoBack => kit_is); (case kt_NoPlan_NoMode => kit_is); (case kt_NoPlan_NoPlan => kit_is); (case kt_NoPlan_NoPress => kit_is); (case kt_NoPlan_NoTells => kit_is); (case kt_NoPlan_NoText => kit_is); (case kt_NoPlan_NoWants => kit_is)
