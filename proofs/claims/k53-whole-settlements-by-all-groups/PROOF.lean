import PyProof.Rows.All
import Wide.All
import OpenK.AllK
import Wide.FinOn
import HandS.ForMost
import HandS.ForExc
import HandS.More
import HandS.Evl
import HandS.Property
import HandS.Star
import HandS.ClsMeth
import HandS.IsInst
import HandS.Wide
import HandS.Zip
import HandS.EndBits
import HandS.TupAny
import HandS.ExcInit
import HandS.Steps
import HandS.SlotsOwn
import HandS.Iter
import HandS.Flow
import KE.GoesMore
import KE.GoesEnum
import HandS.Style
import HandS.Conv
import HandS.OwnEq
import KE.KAssignIn
import HandS.Text
import HandS.StrMore
import KE.DataMinMax
import HandS.TupMul
import HandS.FStr
import HandS.TryOnly
import HandS.TryMany
import HandS.ExcOwn
import HandS.Lambda
import HandS.EndTab
import KE.KDflt
import HandS.Dict
import KE.KDictDisplayH
import HandS.MakeKwOnly
import KE.KUnpackStar
import PyProof.RulesMatch
import PyProof.RulesMatchSeq
import PyProof.Rows.MatchSeqLen
import HandS.MethStar
import PyProof.EqAt
import HandS.ExcField
import HandS.ExcIs
import KE.KExcIs
import PyProof.Rows.CountFlat
import HandS.SuiteRaise
import KE.KExcRaise
import HandS.Deep
import HandS.Hot
import HandS.HotCalls
import PySem.Challenge.RW_oddcents_k53_whole_settlements_by_all_gr
set_option Elab.async false
set_option linter.all false
set_option maxRecDepth 100000
/-! The data layer: what a reading does, told of plain data (D), owned objects (Ow) and slots alone; no heap in sight. -/
namespace DL
open PySem L2

/-- plain data -/
inductive D where
  | non | bl (b : Bool) | int (i : Int) | str (x : Str) | ref (a : Addr) | ty (n : String)
  | lst (xs : List D) | tup (xs : List D) | ins (C : Addr) (nm : List Str) (xs : List D)
  | scr (ns : List Int)
  /-- whatever a part of the heap tells of the value -/
  | sem (p : Hp → V → Prop)
/-- what an owned object holds -/
inductive MO where
  | lst (xs : List D) | ins (C : Addr) (nm : List Str) (xs : List D)
  | sem (p : Hp → HO → Prop)
abbrev Ow := Addr → Option MO
abbrev Sl := List (Option D)
def Sub (G H : Hp) : Prop := ∀ a o, G a = some o → H a = some o
theorem Sub.refl (G : Hp) : Sub G G := fun _ _ h => h
theorem Sub.trans {G H L : Hp} (a : Sub G H) (b : Sub H L) : Sub G L := fun c o h => b c o (a c o h)

mutual
/-- the value v stands for the datum, by the heap G -/
def Is (K : PySem.W.Frag) (G : Hp) : D → V → Prop
  | .non, v => v = .non
  | .bl b, v => v = .bl b
  | .int i, v => v = .int i
  | .str x, v => v = .str x
  | .ref a, v => v = .ref a
  | .ty n, v => v = .ty n
  | .lst ds, v => ∃ p xs, v = .ref p ∧ G p = some (.lst xs) ∧ IsL K G ds xs
  | .tup ds, v => ∃ p xs, v = .ref p ∧ G p = some (.tup xs) ∧ IsL K G ds xs
  | .ins C nm ds, v => ∃ p dx xs, v = .ref p ∧ G p = some (.ins C dx (nm.zip xs)) ∧ xs.length = nm.length ∧ IsL K G ds xs
  | .scr ns, v => ∃ p, v = .ref p ∧ SqL K G p (ns.map V.int)
  | .sem p, v => ∃ G1, Sub G1 G ∧ p G1 v
def IsL (K : PySem.W.Frag) (G : Hp) : List D → List V → Prop
  | [], vs => vs = []
  | d :: ds, vs => ∃ v r, vs = v :: r ∧ Is K G d v ∧ IsL K G ds r
end
section
variable {K : PySem.W.Frag} {G G' H H' : Hp}
mutual
theorem Is.mono (e : Sub G G') : ∀ {d : D} {v : V}, Is K G d v → Is K G' d v
  | .non, _, h => h
  | .bl _, _, h => h
  | .int _, _, h => h
  | .str _, _, h => h
  | .ref _, _, h => h
  | .ty _, _, h => h
  | .lst _, _, ⟨p, xs, a, b, c⟩ => ⟨p, xs, a, e _ _ b, IsL.mono e c⟩
  | .tup _, _, ⟨p, xs, a, b, c⟩ => ⟨p, xs, a, e _ _ b, IsL.mono e c⟩
  | .ins _ _ _, _, ⟨p, dx, xs, a, b, c, d⟩ => ⟨p, dx, xs, a, e _ _ b, c, IsL.mono e d⟩
  | .scr _, _, ⟨p, a, b⟩ => ⟨p, a, Evl.ex_l e b⟩
  | .sem _, _, ⟨G1, a, b⟩ => ⟨G1, a.trans e, b⟩
theorem IsL.mono (e : Sub G G') : ∀ {ds : List D} {vs : List V}, IsL K G ds vs → IsL K G' ds vs
  | [], _, h => h
  | _ :: _, _, ⟨v, r, a, b, c⟩ => ⟨v, r, a, Is.mono e b, IsL.mono e c⟩
end
theorem IsL.nil : IsL K G [] [] := rfl
theorem IsL.cons {d : D} {ds : List D} {v : V} {vs : List V} (h : Is K G d v) (t : IsL K G ds vs) : IsL K G (d :: ds) (v :: vs) := ⟨v, vs, rfl, h, t⟩
theorem IsL.length : ∀ {ds : List D} {vs : List V}, IsL K G ds vs → ds.length = vs.length
  | [], _, h => by cases h; rfl
  | _ :: _, _, ⟨_, _, rfl, _, t⟩ => by simp [IsL.length t]
theorem IsL.append : ∀ {ds es : List D} {vs ws : List V}, IsL K G ds vs → IsL K G es ws → IsL K G (ds ++ es) (vs ++ ws)
  | [], _, _, _, h, t => by cases h; exact t
  | _ :: _, _, _, _, ⟨v, r, rfl, a, b⟩, t => ⟨v, r ++ _, rfl, a, IsL.append b t⟩
theorem IsL.get : ∀ {ds : List D} {vs : List V} {i : Nat} {d : D}, IsL K G ds vs → ds[i]? = some d → ∃ v, vs[i]? = some v ∧ Is K G d v
  | [], _, _, _, _, e => by simp at e
  | _ :: _, _, 0, _, ⟨v, r, rfl, a, b⟩, e => by simp at e; subst e; exact ⟨v, rfl, a⟩
  | _ :: ds, _, i + 1, d, ⟨v, r, rfl, a, b⟩, e => by
    obtain ⟨w, h1, h2⟩ := IsL.get (i := i) (d := d) b (by simpa using e)
    exact ⟨w, by simpa using h1, h2⟩
theorem IsL.getV : ∀ {ds : List D} {vs : List V} {i : Nat} {v : V}, IsL K G ds vs → vs[i]? = some v → ∃ d, ds[i]? = some d ∧ Is K G d v
  | [], _, _, _, h, e => by cases h; simp at e
  | d :: _, _, 0, _, ⟨v, r, rfl, a, b⟩, e => by simp at e; subst e; exact ⟨d, rfl, a⟩
  | d :: ds, _, i + 1, w, ⟨v, r, rfl, a, b⟩, e => by
    obtain ⟨d', h1, h2⟩ := IsL.getV (i := i) (v := w) b (by simpa using e)
    exact ⟨d', by simpa using h1, h2⟩
theorem IsL.set : ∀ {ds : List D} {vs : List V} (i : Nat) {d : D} {v : V}, IsL K G ds vs → Is K G d v → IsL K G (ds.set i d) (vs.set i v)
  | [], _, _, _, _, h, _ => by cases h; exact rfl
  | _ :: _, _, 0, _, _, ⟨v, r, rfl, a, b⟩, h => ⟨_, r, rfl, h, b⟩
  | _ :: _, _, i + 1, _, _, ⟨v, r, rfl, a, b⟩, h => ⟨v, r.set i _, rfl, a, IsL.set i b h⟩
theorem IsL.take : ∀ {ds : List D} {vs : List V} (n : Nat), IsL K G ds vs → IsL K G (ds.take n) (vs.take n)
  | [], _, n, h => by cases h; simp [IsL]
  | _ :: _, _, 0, ⟨v, r, rfl, a, b⟩ => by simp [IsL]
  | _ :: _, _, n + 1, ⟨v, r, rfl, a, b⟩ => ⟨v, r.take n, rfl, a, IsL.take n b⟩
theorem IsL.drop : ∀ {ds : List D} {vs : List V} (n : Nat), IsL K G ds vs → IsL K G (ds.drop n) (vs.drop n)
  | [], _, n, h => by cases h; simp [IsL]
  | _ :: _, _, 0, ⟨v, r, rfl, a, b⟩ => ⟨v, r, rfl, a, b⟩
  | _ :: _, _, n + 1, ⟨v, r, rfl, a, b⟩ => by simpa using IsL.drop n b
theorem IsL.rep {ds : List D} {vs : List V} (h : IsL K G ds vs) : ∀ n : Nat, IsL K G (List.replicate n ds).flatten (List.replicate n vs).flatten
  | 0 => by simp [IsL]
  | n + 1 => by
    rw [List.replicate_succ, List.replicate_succ, List.flatten_cons, List.flatten_cons]
    exact h.append (IsL.rep h n)
theorem IsL.ints : ∀ {ns : List Int}, IsL K G (ns.map D.int) (ns.map V.int)
  | [] => rfl
  | _ :: _ => ⟨_, _, rfl, rfl, IsL.ints⟩
theorem IsL.intsV : ∀ {ns : List Int} {vs : List V}, IsL K G (ns.map D.int) vs → vs = ns.map V.int
  | [], _, h => h
  | _ :: _, _, ⟨v, r, rfl, a, b⟩ => by rw [IsL.intsV b, show v = _ from a]; rfl
theorem IsL.bls : ∀ {ns : List Bool} {vs : List V}, IsL K G (ns.map D.bl) vs → vs = ns.map V.bl
  | [], _, h => h
  | _ :: _, _, ⟨v, r, rfl, a, b⟩ => by rw [IsL.bls b, show v = _ from a]; rfl
end

/-- an owned object, as it stands in H; what it holds is told by G -/
def MoIs (K : PySem.W.Frag) (G H : Hp) (p : Addr) : MO → Prop
  | .lst ds => ∃ xs, H p = some (.lst xs) ∧ IsL K G ds xs
  | .ins C nm ds => ∃ dx xs, H p = some (.ins C dx (nm.zip xs)) ∧ xs.length = nm.length ∧ IsL K G ds xs
  | .sem q => ∃ o G1, H p = some o ∧ Sub G1 G ∧ q G1 o
/-- the world: G is read, O is owned, the rest of H is nobody's -/
structure Wd (K : PySem.W.Frag) (G : Hp) (O : Ow) (H : Hp) : Prop where
  sub : Sub G H
  own : ∀ p m, O p = some m → G p = none ∧ MoIs K G H p m
/-- what a piece of work may do -/
structure Stp (K : PySem.W.Frag) (G : Hp) (O : Ow) (H : Hp) (G' : Hp) (O' : Ow) (H' : Hp) : Prop where
  wd : Wd K G' O' H'
  ex : Sub G G'
  keep : ∀ a o, H a = some o → O a = none → H' a = some o
  fresh : ∀ a o, H a = some o → O a = none → G a = none → G' a = none ∧ O' a = none
section
variable {K : PySem.W.Frag} {G G1 G2 H H1 H2 : Hp} {O O1 O2 : Ow}
theorem MoIs.there {p : Addr} {m : MO} (h : MoIs K G H p m) : ∃ o, H p = some o := by
  cases m with
  | lst ds => obtain ⟨xs, h, _⟩ := h; exact ⟨_, h⟩
  | ins C nm ds => obtain ⟨dx, xs, h, _⟩ := h; exact ⟨_, h⟩
  | sem q => obtain ⟨o, G1, h, _⟩ := h; exact ⟨_, h⟩
theorem MoIs.mono {p : Addr} {m : MO} (e : Sub G G1) (k : ∀ o, H p = some o → H1 p = some o) (h : MoIs K G H p m) : MoIs K G1 H1 p m := by
  cases m with
  | lst ds => obtain ⟨xs, h, t⟩ := h; exact ⟨xs, k _ h, t.mono e⟩
  | ins C nm ds => obtain ⟨dx, xs, h, l, t⟩ := h; exact ⟨dx, xs, k _ h, l, t.mono e⟩
  | sem q => obtain ⟨o, G2, h, l, t⟩ := h; exact ⟨o, G2, k _ h, l.trans e, t⟩
theorem Wd.gO (w : Wd K G O H) {a : Addr} {o : HO} (h : G a = some o) : O a = none := by
  cases q : O a with
  | none => rfl
  | some m => rw [(w.own a m q).1] at h; cases h
theorem Wd.oNone (w : Wd K G O H) {a : Addr} (h : H a = none) : O a = none := by
  cases q : O a with
  | none => rfl
  | some m => obtain ⟨o, e⟩ := (w.own a m q).2.there; rw [h] at e; cases e
theorem Wd.gNone (w : Wd K G O H) {a : Addr} (h : H a = none) : G a = none := by
  cases q : G a with
  | none => rfl
  | some o => rw [w.sub a o q] at h; cases h
theorem Stp.refl (w : Wd K G O H) : Stp K G O H G O H := ⟨w, Sub.refl G, fun _ _ h _ => h, fun _ _ _ h1 h2 => ⟨h2, h1⟩⟩
theorem Stp.trans (a : Stp K G O H G1 O1 H1) (b : Stp K G1 O1 H1 G2 O2 H2) : Stp K G O H G2 O2 H2 where
  wd := b.wd
  ex := a.ex.trans b.ex
  keep := fun c o h n => by
    have h1 := a.keep c o h n
    refine b.keep c o h1 ?_
    cases q : G c with
    | none => exact (a.fresh c o h n q).2
    | some u => exact a.wd.gO (a.ex c u q)
  fresh := fun c o h n g => by
    obtain ⟨g1, n1⟩ := a.fresh c o h n g
    exact b.fresh c o (a.keep c o h n) n1 g1
/-- a new object, to be read from now on -/
theorem Wd.new {p : Addr} {o : HO} (w : Wd K G O H) (hp : H p = none) : Wd K (upd G p o) O (upd H p o) where
  sub := fun a u e => by
    by_cases h : a = p
    · subst h; rw [upd_same] at e ⊢; exact e
    · rw [upd_ne h] at e ⊢; exact w.sub a u e
  own := fun q m e => by
    have n : q ≠ p := fun z => by subst z; rw [w.oNone hp] at e; cases e
    have g := (w.own q m e).1
    have i : MoIs K G H q m := (w.own q m e).2
    refine ⟨by rw [upd_ne n]; exact g, i.mono (fun a u z => ?_) fun u z => by rw [upd_ne n]; exact z⟩
    rw [upd_ne (ne_of_none z (w.gNone hp))]
    exact z
theorem Stp.new {p : Addr} {o : HO} (w : Wd K G O H) (hp : H p = none) : Stp K G O H (upd G p o) O (upd H p o) where
  wd := w.new hp
  ex := fun a u z => by rw [upd_ne (ne_of_none z (w.gNone hp))]; exact z
  keep := fun a u z _ => by rw [upd_ne (ne_of_none z hp)]; exact z
  fresh := fun a u z n g => ⟨by rw [upd_ne (ne_of_none z hp)]; exact g, n⟩
/-- a new object that nobody reads or owns -/
theorem Stp.newF {p : Addr} {o : HO} (w : Wd K G O H) (hp : H p = none) : Stp K G O H G O (upd H p o) where
  wd := ⟨fun a u z => by rw [upd_ne (ne_of_none z (w.gNone hp))]; exact w.sub a u z, fun q m e => by
    have n : q ≠ p := fun z => by subst z; rw [w.oNone hp] at e; cases e
    have g := (w.own q m e).1
    have i : MoIs K G H q m := (w.own q m e).2
    exact ⟨g, i.mono (Sub.refl G) fun u z => by rw [upd_ne n]; exact z⟩⟩
  ex := Sub.refl G
  keep := fun a u z _ => by rw [upd_ne (ne_of_none z hp)]; exact z
  fresh := fun a u z n g => ⟨g, n⟩
def setO (O : Ow) (p : Addr) (m : MO) : Ow := fun a => if a = p then some m else O a
def delO (O : Ow) (p : Addr) : Ow := fun a => if a = p then none else O a
theorem setO_same {p : Addr} {m : MO} : setO O p m p = some m := by unfold setO; rw [if_pos rfl]
theorem setO_ne {p q : Addr} {m : MO} (h : q ≠ p) : setO O p m q = O q := by unfold setO; rw [if_neg h]
theorem setO_setO {p : Addr} {m n : MO} : setO (setO O p m) p n = setO O p n := by funext a; unfold setO; split <;> rfl
theorem delO_setO {p : Addr} {m : MO} (h : O p = none) : delO (setO O p m) p = O := by
  funext a; unfold delO setO
  split
  · rename_i z; rw [z, h]
  · rfl
theorem setO_comm {p q : Addr} {m n : MO} (h : p ≠ q) : setO (setO O p m) q n = setO (setO O q n) p m := by
  funext a; unfold setO
  by_cases h1 : a = q
  · subst h1; rw [if_pos rfl, if_neg (Ne.symm h), if_pos rfl]
  · rw [if_neg h1, if_neg h1]
theorem setO_id {p : Addr} {m : MO} (h : O p = some m) : setO O p m = O := by
  funext a; unfold setO; split
  · rename_i z; rw [z, h]
  · rfl
def OSub (O O' : Ow) : Prop := ∀ p m, O p = some m → O' p = some m
theorem OSub.refl (O : Ow) : OSub O O := fun _ _ h => h
theorem OSub.set {p : Addr} {m : MO} (s : OSub O O1) (h : O p = none) : OSub O (setO O1 p m) := fun q n e => by
  rw [setO_ne (fun z => by subst z; rw [h] at e; cases e)]; exact s q n e
theorem Wd.drop (w : Wd K G O1 H) (s : OSub O O1) : Wd K G O H := ⟨w.sub, fun p m e => w.own p m (s p m e)⟩
theorem Stp.drop (t : Stp K G O H G1 O2 H1) (s : OSub O1 O2) : Stp K G O H G1 O1 H1 where
  wd := t.wd.drop s
  ex := t.ex
  keep := t.keep
  fresh := fun a o h n g => ⟨(t.fresh a o h n g).1, by
    cases q : O1 a with
    | none => rfl
    | some m => have z := (t.fresh a o h n g).2; rw [s a m q] at z; cases z⟩
/-- a new owned object -/
theorem Stp.newO {p : Addr} {o : HO} {m : MO} (w : Wd K G O H) (hp : H p = none) (hm : MoIs K G (upd H p o) p m) : Stp K G O H G (setO O p m) (upd H p o) where
  wd := ⟨fun a u z => by rw [upd_ne (ne_of_none z (w.gNone hp))]; exact w.sub a u z, fun q n e => by
    by_cases z : q = p
    · subst z; rw [setO_same] at e; cases e; exact ⟨w.gNone hp, hm⟩
    · rw [setO_ne z] at e
      have g := (w.own q n e).1
      have i : MoIs K G H q n := (w.own q n e).2
      exact ⟨g, i.mono (Sub.refl G) fun u y => by rw [upd_ne z]; exact y⟩⟩
  ex := Sub.refl G
  keep := fun a u z _ => by rw [upd_ne (ne_of_none z hp)]; exact z
  fresh := fun a u z n g => ⟨g, by rw [setO_ne (ne_of_none z hp)]; exact n⟩
/-- an owned object is written -/
theorem Stp.write {p : Addr} {o : HO} {m m' : MO} (w : Wd K G O H) (hp : O p = some m) (hm : MoIs K G (upd H p o) p m') : Stp K G O H G (setO O p m') (upd H p o) where
  wd := ⟨fun a u z => by
      rw [upd_ne (fun y => by subst y; rw [(w.own _ _ hp).1] at z; cases z)]; exact w.sub a u z, fun q n e => by
    by_cases z : q = p
    · subst z; rw [setO_same] at e; cases e; exact ⟨(w.own _ _ hp).1, hm⟩
    · rw [setO_ne z] at e
      have g := (w.own q n e).1
      have i : MoIs K G H q n := (w.own q n e).2
      exact ⟨g, i.mono (Sub.refl G) fun u y => by rw [upd_ne z]; exact y⟩⟩
  ex := Sub.refl G
  keep := fun a u z n => by rw [upd_ne (fun y => by subst y; rw [hp] at n; cases n)]; exact z
  fresh := fun a u z n g => ⟨g, by rw [setO_ne (fun y => by subst y; rw [hp] at n; cases n)]; exact n⟩
/-- an owned list is read from now on -/
theorem Stp.pub {p : Addr} {ds : List D} {xs : List V} (w : Wd K G O H) (hp : O p = some (.lst ds)) (hx : H p = some (.lst xs)) : Stp K G O H (upd G p (.lst xs)) (delO O p) H where
  wd := ⟨fun a u z => by
      by_cases h : a = p
      · subst h; rw [upd_same] at z; rw [hx]; exact z
      · rw [upd_ne h] at z; exact w.sub a u z, fun q n e => by
    by_cases z : q = p
    · subst z; unfold delO at e; rw [if_pos rfl] at e; cases e
    · have e' : O q = some n := by unfold delO at e; rwa [if_neg z] at e
      have g := (w.own q n e').1
      have i : MoIs K G H q n := (w.own q n e').2
      exact ⟨by rw [upd_ne z]; exact g, i.mono (fun a u y => by rw [upd_ne (fun k => by subst k; rw [(w.own _ _ hp).1] at y; cases y)]; exact y) fun u y => y⟩⟩
  ex := fun a u y => by rw [upd_ne (fun k => by subst k; rw [(w.own _ _ hp).1] at y; cases y)]; exact y
  keep := fun a u z _ => z
  fresh := fun a u z n g => ⟨by rw [upd_ne (fun k => by subst k; rw [hp] at n; cases n)]; exact g, by unfold delO; split; rfl; exact n⟩
theorem Stp.pubI {p C : Addr} {nm : List Str} {ds : List D} {dx : Addr} {xs : List V} (w : Wd K G O H) (hp : O p = some (.ins C nm ds)) (hx : H p = some (.ins C dx (nm.zip xs))) : Stp K G O H (upd G p (.ins C dx (nm.zip xs))) (delO O p) H where
  wd := ⟨fun a u z => by
      by_cases h : a = p
      · subst h; rw [upd_same] at z; rw [hx]; exact z
      · rw [upd_ne h] at z; exact w.sub a u z, fun q n e => by
    by_cases z : q = p
    · subst z; unfold delO at e; rw [if_pos rfl] at e; cases e
    · have e' : O q = some n := by unfold delO at e; rwa [if_neg z] at e
      have g := (w.own q n e').1
      have i : MoIs K G H q n := (w.own q n e').2
      exact ⟨by rw [upd_ne z]; exact g, i.mono (fun a u y => by rw [upd_ne (fun k => by subst k; rw [(w.own _ _ hp).1] at y; cases y)]; exact y) fun u y => y⟩⟩
  ex := fun a u y => by rw [upd_ne (fun k => by subst k; rw [(w.own _ _ hp).1] at y; cases y)]; exact y
  keep := fun a u z _ => z
  fresh := fun a u z n g => ⟨by rw [upd_ne (fun k => by subst k; rw [hp] at n; cases n)]; exact g, by unfold delO; split; rfl; exact n⟩
end

/-- the slots -/
structure SlIs (K : PySem.W.Frag) (G : Hp) (δ : Sl) (σ : St) : Prop where
  len : σ.length = δ.length
  at_ : ∀ (i : Nat) (d : D), δ[i]? = some (some d) → ∃ v, σ[i]? = some (some v) ∧ Is K G d v
section
variable {K : PySem.W.Frag} {G G1 : Hp} {δ : Sl} {σ : St}
theorem SlIs.mono (e : Sub G G1) (s : SlIs K G δ σ) : SlIs K G1 δ σ := ⟨s.len, fun i d h => let ⟨v, a, b⟩ := s.at_ i d h; ⟨v, a, b.mono e⟩⟩
theorem SlIs.set {i : Nat} {d : D} {v : V} (s : SlIs K G δ σ) (h : Is K G d v) : SlIs K G (δ.set i (some d)) (σ.set i (some v)) where
  len := by simp [s.len]
  at_ := fun j e q => by
    by_cases z : i = j
    · subst z
      by_cases l : i < δ.length
      · rw [List.getElem?_set_self l] at q
        cases q
        exact ⟨v, by rw [List.getElem?_set_self (by rw [s.len]; exact l)], h⟩
      · rw [List.getElem?_eq_none (by simpa using l)] at q; cases q
    · rw [List.getElem?_set_ne z] at q ⊢
      exact s.at_ j e q
theorem SlIs.weak {δ' : Sl} (s : SlIs K G δ σ) (hl : δ'.length = δ.length) (h : ∀ (i : Nat) d, δ'[i]? = some (some d) → δ[i]? = some (some d)) : SlIs K G δ' σ := ⟨by rw [s.len, hl], fun i d e => s.at_ i d (h i d e)⟩
end
/-! ### the judgements over data -/
def Ev (K : PySem.W.Frag) (te : TE) (δ : Sl) (O : Ow) (d : D) (O' : Ow) : Prop :=
  ∀ G H σ, Wd K G O H → SlIs K G δ σ → ∀ Q : VK, (∀ v G' H', Stp K G O H G' O' H' → Is K G' d v → Q v H') → te σ H Q
def EvT (K : PySem.W.Frag) (tt : TT) (δ : Sl) (O : Ow) (b : Bool) (O' : Ow) : Prop :=
  ∀ G H σ, Wd K G O H → SlIs K G δ σ → ∀ Q : Bool → Hp → Prop, (∀ G' H', Stp K G O H G' O' H' → Q b H') → tt σ H Q
def EvA (K : PySem.W.Frag) (ta : TA) (δ : Sl) (O : Ow) (ds : List D) (O' : Ow) : Prop :=
  ∀ G H σ, Wd K G O H → SlIs K G δ σ → ∀ Q : List V → Hp → Prop, (∀ vs G' H', Stp K G O H G' O' H' → IsL K G' ds vs → Q vs H') → ta σ H Q
/-- an operation on data -/
def R2D (K : PySem.W.Frag) (r : R2) (x y : D) (O : Ow) (z : D) : Prop :=
  ∀ G H v w, Wd K G O H → Is K G x v → Is K G y w → ∀ Q : VK, (∀ u G' H', Stp K G O H G' O H' → Is K G' z u → Q u H') → r v w H Q
def RCD (K : PySem.W.Frag) (r : List V → Hp → VK → Prop) (xs : List D) (O : Ow) (z : D) : Prop :=
  ∀ G H vs, Wd K G O H → IsL K G xs vs → ∀ Q : VK, (∀ u G' H', Stp K G O H G' O H' → Is K G' z u → Q u H') → r vs H Q
/-- where a block of statements may end -/
structure DE where
  nx : Sl → Ow → Prop
  rt : D → Ow → Prop
  bk : Sl → Ow → Prop := fun _ _ => False
  ct : Sl → Ow → Prop := fun _ _ => False
structure Real (K : PySem.W.Frag) (P : DE) (D : Ends) (G : Hp) (O : Ow) (H : Hp) : Prop where
  nx : ∀ δ' O' G' H' σ', P.nx δ' O' → Stp K G O H G' O' H' → SlIs K G' δ' σ' → D.nx σ' H'
  rt : ∀ d O' G' H' v, P.rt d O' → Stp K G O H G' O' H' → Is K G' d v → D.rt v H'
  bk : ∀ δ' O' G' H' σ', P.bk δ' O' → Stp K G O H G' O' H' → SlIs K G' δ' σ' → D.bk σ' H'
  ct : ∀ δ' O' G' H' σ', P.ct δ' O' → Stp K G O H G' O' H' → SlIs K G' δ' σ' → D.ct σ' H'
def Sd (K : PySem.W.Frag) (ts : TS) (P : DE) (δ : Sl) (O : Ow) : Prop :=
  ∀ G H σ (D : Ends), Wd K G O H → SlIs K G δ σ → Real K P D G O H → ts D σ H
/-- what an assignment's target does -/
def Gd (K : PySem.W.Frag) (g : TG) (d : D) (δ : Sl) (O : Ow) (N : Sl → Ow → Prop) : Prop :=
  ∀ G H σ v, Wd K G O H → SlIs K G δ σ → Is K G d v → ∀ Q : St → Hp → Prop, (∀ δ' O' G' H' σ', N δ' O' → Stp K G O H G' O' H' → SlIs K G' δ' σ' → Q σ' H') → g v σ H Q
/-- what is walked -/
def ItOk (K : PySem.W.Frag) (J : It) (G : Hp) (items : List D) : Prop :=
  ∀ G' O' H', Sub G G' → Wd K G' O' H' → ∀ i : Nat, (∀ d, items[i]? = some d → J.go i H' ∧ ∀ x H'', J.yld i H' x H'' → ∃ G'', Stp K G' O' H' G'' O' H'' ∧ Is K G'' d x) ∧ (items[i]? = none → J.stop i H')
def EvI (K : PySem.W.Frag) (wi : TI) (δ : Sl) (O : Ow) (items : List D) (O' : Ow) : Prop :=
  ∀ G H σ, Wd K G O H → SlIs K G δ σ → ∀ R : It → Hp → Prop, (∀ J G' H', Stp K G O H G' O' H' → ItOk K J G' items → R J H') → wi σ H R
/-- a def's promise over data: R arguments owned what-is-wanted -/
abbrev DR := List D → Ow → (D → Ow → Prop) → Prop
def SpD (K : PySem.W.Frag) (R : DR) : Sp := fun vs H Q _ => ∃ G O ds Post, Wd K G O H ∧ IsL K G ds vs ∧ R ds O Post ∧ ∀ d O' v G' H', Post d O' → Stp K G O H G' O' H' → Is K G' d v → Q v H'
section
variable {K : PySem.W.Frag} {P : DE} {D : Ends} {G G1 H H1 : Hp} {O O1 : Ow}
theorem Real.step (r : Real K P D G O H) (s : Stp K G O H G1 O1 H1) : Real K P D G1 O1 H1 :=
  ⟨fun δ' O' G' H' σ' p t l => r.nx δ' O' G' H' σ' p (s.trans t) l, fun d O' G' H' v p t l => r.rt d O' G' H' v p (s.trans t) l, fun δ' O' G' H' σ' p t l => r.bk δ' O' G' H' σ' p (s.trans t) l, fun δ' O' G' H' σ' p t l => r.ct δ' O' G' H' σ' p (s.trans t) l⟩
end
end DL

set_option Elab.async false
set_option linter.all false
set_option maxRecDepth 100000
namespace DL
open PySem L2
def EvP (K : PySem.W.Frag) (te : TE) (δ : Sl) (O : Ow) (P : D → Ow → Prop) : Prop :=
  ∀ G H σ, Wd K G O H → SlIs K G δ σ → ∀ Q : VK, (∀ d O' v G' H', P d O' → Stp K G O H G' O' H' → Is K G' d v → Q v H') → te σ H Q
section
variable {K : PySem.W.Frag} {δ : Sl} {O O1 O2 O3 : Ow} {d x y z : D} {ta tb tc te : TE} {t u : TT} {r r' : R2} {i j : Int} {p : Addr} {ds es : List D} {b : Bool}
theorem Ev.toP {P : D → Ow → Prop} (h : Ev K te δ O d O1) (hp : P d O1) : EvP K te δ O P := fun G H σ w s Q k => h G H σ w s Q fun v G' H' st i => k d O1 v G' H' hp st i
theorem EvP.ev (h : EvP K te δ O fun d' O' => d' = d ∧ O' = O1) : Ev K te δ O d O1 := fun G H σ w s Q k => h G H σ w s Q fun d' O' v G' H' hp st i => by
  obtain ⟨rfl, rfl⟩ := hp; exact k v G' H' st i
theorem Ev.is (h : Ev K te δ O d O1) (e : d = x) : Ev K te δ O x O1 := by subst e; exact h
theorem Ev.at (h : Ev K te δ O d O1) (e : O1 = O2) : Ev K te δ O d O2 := by subst e; exact h
theorem EvT.is {b' : Bool} (h : EvT K t δ O b O1) (e : b = b') : EvT K t δ O b' O1 := by subst e; exact h
/-! ### names, constants -/
theorem ev_var {i : Nat} (h : δ[i]? = some (some d)) : Ev K (tVar i) δ O d O := fun G H σ w s Q k => by
  obtain ⟨v, a, b⟩ := s.at_ i d h
  exact ⟨v, a, k v G H (Stp.refl w) b⟩
theorem ev_int : Ev K (tC (.int i)) δ O (.int i) O := fun G H σ w s Q k => k _ G H (Stp.refl w) rfl
theorem ev_bl : Ev K (tC (.bl b)) δ O (.bl b) O := fun G H σ w s Q k => k _ G H (Stp.refl w) rfl
theorem ev_non : Ev K (tC .non) δ O .non O := fun G H σ w s Q k => k _ G H (Stp.refl w) rfl
theorem ev_str {x : Str} : Ev K (tC (.str x)) δ O (.str x) O := fun G H σ w s Q k => k _ G H (Stp.refl w) rfl
theorem ev_ty {n : String} : Ev K (tC (.ty n)) δ O (.ty n) O := fun G H σ w s Q k => k _ G H (Stp.refl w) rfl
theorem ev_ref : Ev K (tC (.ref p)) δ O (.ref p) O := fun G H σ w s Q k => k _ G H (Stp.refl w) rfl
/-! ### operators -/
theorem ev_op (ha : Ev K ta δ O x O1) (hb : Ev K tb δ O1 y O2) (hr : R2D K r x y O2 z) : Ev K (tOp r ta tb) δ O z O2 := fun G H σ w s Q k =>
  ha G H σ w s _ fun v G1 H1 s1 i1 => hb G1 H1 σ s1.wd (s.mono s1.ex) _ fun u G2 H2 s2 i2 => hr G2 H2 v u s2.wd (i1.mono s2.ex) i2 _ fun q G3 H3 s3 i3 => k q G3 H3 ((s1.trans s2).trans s3) i3
theorem ev_un {r : V → Hp → VK → Prop} {f : Int → Int} (ha : Ev K ta δ O (.int i) O1) : Ev K (tUn (rU fun i => .int (f i)) ta) δ O (.int (f i)) O1 := fun G H σ w s Q k =>
  ha G H σ w s _ fun v G1 H1 s1 i1 => ⟨i, i1, k _ G1 H1 s1 rfl⟩
theorem r_int {f : Int → Int → Int} : R2D K (rI0 fun i j => .int (f i j)) (.int i) (.int j) O (.int (f i j)) := fun G H v u w a b Q k => ⟨i, j, a, b, k _ G H (Stp.refl w) rfl⟩
theorem r_bl {f : Int → Int → Bool} : R2D K (rI0 fun i j => .bl (f i j)) (.int i) (.int j) O (.bl (f i j)) := fun G H v u w a b Q k => ⟨i, j, a, b, k _ G H (Stp.refl w) rfl⟩
theorem r_intC {C : Int → Int → Prop} {f : Int → Int → Int} (hc : C i j) : R2D K (rI C fun i j => .int (f i j)) (.int i) (.int j) O (.int (f i j)) := fun G H v u w a b Q k => ⟨i, j, a, b, hc, k _ G H (Stp.refl w) rfl⟩
theorem r_eqI : R2D K rEq (.int i) (.int j) O (.bl (i == j)) := fun G H v u w a b Q k => by
  cases a; cases b
  refine ⟨rfl, ?_⟩
  rw [dec_int]
  exact k _ G H (Stp.refl w) rfl
theorem r_neI : R2D K rNe (.int i) (.int j) O (.bl (!(i == j))) := fun G H v u w a b Q k => by
  cases a; cases b
  refine ⟨rfl, ?_⟩
  rw [dec_int]
  exact k _ G H (Stp.refl w) rfl
theorem r_eqB {a b : Bool} : R2D K rEq (.bl a) (.bl b) O (.bl (a == b)) := fun G H v u w h1 h2 Q k => by
  cases h1; cases h2
  refine ⟨rfl, ?_⟩
  rw [dec_bl]
  exact k _ G H (Stp.refl w) rfl
theorem r_neB {a b : Bool} : R2D K rNe (.bl a) (.bl b) O (.bl (!(a == b))) := fun G H v u w h1 h2 Q k => by
  cases h1; cases h2
  refine ⟨rfl, ?_⟩
  rw [dec_bl]
  exact k _ G H (Stp.refl w) rfl
theorem r_eqS {a b : Str} : R2D K rEq (.str a) (.str b) O (.bl (a == b)) := fun G H v u w h1 h2 Q k => by
  cases h1; cases h2
  refine ⟨rfl, ?_⟩
  rw [dec_str]
  exact k _ G H (Stp.refl w) rfl
theorem r_neS {a b : Str} : R2D K rNe (.str a) (.str b) O (.bl (!(a == b))) := fun G H v u w h1 h2 Q k => by
  cases h1; cases h2
  refine ⟨rfl, ?_⟩
  rw [dec_str]
  exact k _ G H (Stp.refl w) rfl
theorem r_isN (f : Bool) (h : (match x with | .non => some true | .sem _ => none | _ => some false) = some f) : R2D K (fun x y H Q => y = .non ∧ Q (.bl (decide (x = .non))) H) x .non O (.bl f) := fun G H v u w a b Q k => by
  refine ⟨b, ?_⟩
  have e : decide (v = V.non) = f := by
    cases x with
    | sem _ => cases h
    | non => cases h; cases a; rfl
    | lst _ => cases h; obtain ⟨_, _, rfl, _⟩ := a; rfl
    | tup _ => cases h; obtain ⟨_, _, rfl, _⟩ := a; rfl
    | ins _ _ _ => cases h; obtain ⟨_, _, _, rfl, _⟩ := a; rfl
    | scr _ => cases h; obtain ⟨_, rfl, _⟩ := a; rfl
    | _ => cases h; cases a; rfl
  rw [e]
  exact k _ G H (Stp.refl w) rfl
theorem r_notN (f : Bool) (h : (match x with | .non => some true | .sem _ => none | _ => some false) = some f) : R2D K (fun x y H Q => y = .non ∧ Q (.bl (!decide (x = .non))) H) x .non O (.bl (!f)) := fun G H v u w a b Q k => by
  refine ⟨b, ?_⟩
  have e : decide (v = V.non) = f := by
    cases x with
    | sem _ => cases h
    | non => cases h; cases a; rfl
    | lst _ => cases h; obtain ⟨_, _, rfl, _⟩ := a; rfl
    | tup _ => cases h; obtain ⟨_, _, rfl, _⟩ := a; rfl
    | ins _ _ _ => cases h; obtain ⟨_, _, _, rfl, _⟩ := a; rfl
    | scr _ => cases h; obtain ⟨_, rfl, _⟩ := a; rfl
    | _ => cases h; cases a; rfl
  rw [e]
  exact k _ G H (Stp.refl w) rfl
/-! ### tests -/
theorem et_test (h : Ev K te δ O (.bl b) O1) : EvT K (tTest te) δ O b O1 := fun G H σ w s Q k => h G H σ w s _ fun v G1 H1 s1 i1 => ⟨b, i1, k G1 H1 s1⟩
theorem et_B (h : Ev K te δ O (.bl b) O1) : EvT K (tB te) δ O b O1 := fun G H σ w s Q k => h G H σ w s _ fun v G1 H1 s1 i1 => ⟨b, i1, k G1 H1 s1⟩
theorem et_not (h : EvT K t δ O b O1) : EvT K (tNot t) δ O (!b) O1 := fun G H σ w s Q k => h G H σ w s _ fun G1 H1 s1 => k G1 H1 s1
theorem et_and {a b : Bool} (h : EvT K t δ O a O1) (h2 : a = true → EvT K u δ O1 b O1) : EvT K (tAnd t u) δ O (a && b) O1 := fun G H σ w s Q k => h G H σ w s _ fun G1 H1 s1 => by
  cases a with
  | false => exact iteF (k G1 H1 s1)
  | true => exact iteT (h2 rfl G1 H1 σ s1.wd (s.mono s1.ex) _ fun G2 H2 s2 => k G2 H2 (s1.trans s2))
theorem et_or {a b : Bool} (h : EvT K t δ O a O1) (h2 : a = false → EvT K u δ O1 b O1) : EvT K (tOr t u) δ O (a || b) O1 := fun G H σ w s Q k => h G H σ w s _ fun G1 H1 s1 => by
  cases a with
  | true => exact iteT (k G1 H1 s1)
  | false => exact iteF (h2 rfl G1 H1 σ s1.wd (s.mono s1.ex) _ fun G2 H2 s2 => k G2 H2 (s1.trans s2))
theorem et_orT (h : EvT K t δ O true O1) : EvT K (tOr t u) δ O true O1 := fun G H σ w s Q k => h G H σ w s _ fun G1 H1 s1 => iteT (k G1 H1 s1)
theorem et_orF {b : Bool} (h : EvT K t δ O false O1) (h2 : EvT K u δ O1 b O2) : EvT K (tOr t u) δ O b O2 := fun G H σ w s Q k => h G H σ w s _ fun G1 H1 s1 => iteF (h2 G1 H1 σ s1.wd (s.mono s1.ex) _ fun G2 H2 s2 => k G2 H2 (s1.trans s2))
theorem et_andF (h : EvT K t δ O false O1) : EvT K (tAnd t u) δ O false O1 := fun G H σ w s Q k => h G H σ w s _ fun G1 H1 s1 => iteF (k G1 H1 s1)
theorem et_andT {b : Bool} (h : EvT K t δ O true O1) (h2 : EvT K u δ O1 b O2) : EvT K (tAnd t u) δ O b O2 := fun G H σ w s Q k => h G H σ w s _ fun G1 H1 s1 => iteT (h2 G1 H1 σ s1.wd (s.mono s1.ex) _ fun G2 H2 s2 => k G2 H2 (s1.trans s2))
theorem ev_andV {a b : Bool} (h : Ev K ta δ O (.bl a) O1) (h2 : a = true → Ev K tb δ O1 (.bl b) O1) : Ev K (tAndV ta tb) δ O (.bl (a && b)) O1 := fun G H σ w s Q k => h G H σ w s _ fun v G1 H1 s1 i1 => ⟨a, i1, by
  cases a with
  | false => exact iteF (k _ G1 H1 s1 rfl)
  | true => exact iteT (h2 rfl G1 H1 σ s1.wd (s.mono s1.ex) _ fun v G2 H2 s2 i2 => k v G2 H2 (s1.trans s2) i2)⟩
theorem ev_andVF (h : Ev K ta δ O (.bl false) O1) : Ev K (tAndV ta tb) δ O (.bl false) O1 := fun G H σ w s Q k => h G H σ w s _ fun v G1 H1 s1 i1 => ⟨false, i1, iteF (k _ G1 H1 s1 rfl)⟩
theorem ev_andVT (h : Ev K ta δ O (.bl true) O1) (h2 : Ev K tb δ O1 d O2) : Ev K (tAndV ta tb) δ O d O2 := fun G H σ w s Q k => h G H σ w s _ fun v G1 H1 s1 i1 => ⟨true, i1, iteT (h2 G1 H1 σ s1.wd (s.mono s1.ex) _ fun v G2 H2 s2 i2 => k v G2 H2 (s1.trans s2) i2)⟩
theorem ev_orVT (h : Ev K ta δ O (.bl true) O1) : Ev K (tOrV ta tb) δ O (.bl true) O1 := fun G H σ w s Q k => h G H σ w s _ fun v G1 H1 s1 i1 => ⟨true, i1, iteT (k _ G1 H1 s1 rfl)⟩
theorem ev_orVF (h : Ev K ta δ O (.bl false) O1) (h2 : Ev K tb δ O1 d O2) : Ev K (tOrV ta tb) δ O d O2 := fun G H σ w s Q k => h G H σ w s _ fun v G1 H1 s1 i1 => ⟨false, i1, iteF (h2 G1 H1 σ s1.wd (s.mono s1.ex) _ fun v G2 H2 s2 i2 => k v G2 H2 (s1.trans s2) i2)⟩
theorem ev_orV {a b : Bool} (h : Ev K ta δ O (.bl a) O1) (h2 : a = false → Ev K tb δ O1 (.bl b) O1) : Ev K (tOrV ta tb) δ O (.bl (a || b)) O1 := fun G H σ w s Q k => h G H σ w s _ fun v G1 H1 s1 i1 => ⟨a, i1, by
  cases a with
  | true => exact iteT (k _ G1 H1 s1 rfl)
  | false => exact iteF (h2 rfl G1 H1 σ s1.wd (s.mono s1.ex) _ fun v G2 H2 s2 i2 => k v G2 H2 (s1.trans s2) i2)⟩
theorem ev_notV (h : Ev K te δ O (.bl b) O1) : Ev K (tNotV te) δ O (.bl (!b)) O1 := fun G H σ w s Q k => h G H σ w s _ fun v G1 H1 s1 i1 => ⟨b, i1, k _ G1 H1 s1 rfl⟩
theorem ev_if (h : EvT K t δ O b O1) (h1 : b = true → Ev K ta δ O1 d O2) (h2 : b = false → Ev K tb δ O1 d O2) : Ev K (tIf t ta tb) δ O d O2 := fun G H σ w s Q k => h G H σ w s _ fun G1 H1 s1 => by
  cases b with
  | true => exact iteT (h1 rfl G1 H1 σ s1.wd (s.mono s1.ex) _ fun v G2 H2 s2 i2 => k v G2 H2 (s1.trans s2) i2)
  | false => exact iteF (h2 rfl G1 H1 σ s1.wd (s.mono s1.ex) _ fun v G2 H2 s2 i2 => k v G2 H2 (s1.trans s2) i2)
theorem evp_if {P : D → Ow → Prop} (h : EvT K t δ O b O1) (h1 : b = true → EvP K ta δ O1 P) (h2 : b = false → EvP K tb δ O1 P) : EvP K (tIf t ta tb) δ O P := fun G H σ w s Q k => h G H σ w s _ fun G1 H1 s1 => by
  cases b with
  | true => exact iteT (h1 rfl G1 H1 σ s1.wd (s.mono s1.ex) _ fun d O' v G2 H2 hp s2 i2 => k d O' v G2 H2 hp (s1.trans s2) i2)
  | false => exact iteF (h2 rfl G1 H1 σ s1.wd (s.mono s1.ex) _ fun d O' v G2 H2 hp s2 i2 => k d O' v G2 H2 hp (s1.trans s2) i2)
/-- a op b op c -/
theorem ev_chain {k1 k2 : Bool} (ha : Ev K ta δ O x O1) (hb : Ev K tb δ O1 y O2) (hr : R2D K r x y O2 (.bl k1)) (hc : k1 = true → Ev K tc δ O2 z O2) (hr' : k1 = true → R2D K r' y z O2 (.bl k2)) : Ev K (tChain r r' ta tb tc) δ O (.bl (k1 && k2)) O2 := fun G H σ w s Q k =>
  ha G H σ w s _ fun v G1 H1 s1 i1 => hb G1 H1 σ s1.wd (s.mono s1.ex) _ fun u G2 H2 s2 i2 => hr G2 H2 v u s2.wd (i1.mono s2.ex) i2 _ fun q G3 H3 s3 i3 => ⟨k1, i3, by
    cases k1 with
    | false => exact iteF (k _ G3 H3 ((s1.trans s2).trans s3) rfl)
    | true =>
      exact iteT (hc rfl G3 H3 σ s3.wd (s.mono ((s1.ex.trans s2.ex).trans s3.ex)) _ fun v4 G4 H4 s4 i4 => hr' rfl G4 H4 u v4 s4.wd (i2.mono (s3.ex.trans s4.ex)) i4 _ fun v5 G5 H5 s5 i5 => k v5 G5 H5 (((s1.trans s2).trans s3).trans (s4.trans s5)) i5)⟩
/-! ### arguments, tuples, lists -/
theorem ea_nil : EvA K tNil δ O [] O := fun G H σ w s Q k => k [] G H (Stp.refl w) rfl
theorem ea_cons {t : TA} (ha : Ev K ta δ O d O1) (ht : EvA K t δ O1 ds O2) : EvA K (tCons ta t) δ O (d :: ds) O2 := fun G H σ w s Q k =>
  ha G H σ w s _ fun v G1 H1 s1 i1 => ht G1 H1 σ s1.wd (s.mono s1.ex) _ fun vs G2 H2 s2 i2 => k (v :: vs) G2 H2 (s1.trans s2) ⟨v, vs, rfl, i1.mono s2.ex, i2⟩
theorem sz {n : Nat} (h : n ≤ 100000) : n ≤ sizeLine := Evl.sz_of h
theorem ev_tup {t : TA} (h : EvA K t δ O ds O1) (hl : ds.length ≤ 100000) : Ev K (tTup t) δ O (.tup ds) O1 := fun G H σ w s Q k =>
  h G H σ w s _ fun vs G1 H1 s1 i1 => ⟨by rw [← i1.length]; exact sz hl, fun p hp => k _ _ _ (s1.trans (Stp.new s1.wd hp)) ⟨p, vs, rfl, upd_same, i1.mono (Stp.new s1.wd hp (o := .tup vs)).ex⟩⟩
theorem ev_lst {t : TA} (h : EvA K t δ O ds O1) (hl : ds.length ≤ 100000) : Ev K (tLst t) δ O (.lst ds) O1 := fun G H σ w s Q k =>
  h G H σ w s _ fun vs G1 H1 s1 i1 => ⟨by rw [← i1.length]; exact sz hl, fun p hp => k _ _ _ (s1.trans (Stp.new s1.wd hp)) ⟨p, vs, rfl, upd_same, i1.mono (Stp.new s1.wd hp (o := .lst vs)).ex⟩⟩
/-- a display that is owned from now on -/
theorem evp_lst {t : TA} {P : D → Ow → Prop} (h : EvA K t δ O ds O1) (hl : ds.length ≤ 100000) (hp : ∀ p, O1 p = none → P (.ref p) (setO O1 p (.lst ds))) : EvP K (tLst t) δ O P := fun G H σ w s Q k =>
  h G H σ w s _ fun vs G1 H1 s1 i1 => ⟨by rw [← i1.length]; exact sz hl, fun p hn => k _ _ _ _ _ (hp p (s1.wd.oNone hn)) (s1.trans (Stp.newO s1.wd hn ⟨vs, upd_same, i1⟩)) rfl⟩
/-! ### subscripts -/
theorem atI_is {K : PySem.W.Frag} {G : Hp} {ds : List D} {vs : List V} {i : Int} {d : D} (h : IsL K G ds vs) (e : atI ds i = some d) : ∃ v, atI vs i = some v ∧ Is K G d v := by
  unfold atI at e ⊢
  rw [← h.length]
  cases q : ixN ds.length i with
  | none => rw [q] at e; cases e
  | some j =>
    rw [q] at e
    obtain ⟨v, a, b⟩ := h.get (show ds[j]? = some d from e)
    exact ⟨v, a, b⟩
theorem r_ixL (h : atI ds i = some d) : R2D K (rIxL K) (.lst ds) (.int i) O d := fun G H v u w a b Q k => by
  obtain ⟨p, xs, rfl, e, t⟩ := a
  obtain ⟨q, e1, e2⟩ := atI_is t h
  exact ⟨p, xs, i, q, rfl, b, .inl (.inl (w.sub _ _ e)), e1, k q G H (Stp.refl w) e2⟩
theorem r_ixO (ho : O p = some (.lst ds)) (h : atI ds i = some d) : R2D K (rIxL K) (.ref p) (.int i) O d := fun G H v u w a b Q k => by
  obtain ⟨_, xs, e, t⟩ := w.own p _ ho
  obtain ⟨q, e1, e2⟩ := atI_is t h
  exact ⟨p, xs, i, q, a, b, .inl (.inl e), e1, k q G H (Stp.refl w) e2⟩
theorem r_ixS {ns : List Int} {n : Int} (h : atI ns i = some n) : R2D K (rIxL K) (.scr ns) (.int i) O (.int n) := fun G H v u w a b Q k => by
  obtain ⟨p, rfl, e⟩ := a
  have e1 : atI (ns.map V.int) i = some (.int n) := by
    unfold atI at h ⊢
    rw [List.length_map]
    cases q : ixN ns.length i with
    | none => rw [q] at h; cases h
    | some j =>
      rw [q] at h
      have h : ns[j]? = some n := h
      show (ns.map V.int)[j]? = _
      rw [List.getElem?_map, h]; rfl
  exact ⟨p, _, i, _, rfl, b, Evl.ex_l w.sub e, e1, k _ G H (Stp.refl w) rfl⟩
theorem r_ixT (h : atI ds i = some d) : R2D K (rIxT K) (.tup ds) (.int i) O d := fun G H v u w a b Q k => by
  obtain ⟨p, xs, rfl, e, t⟩ := a
  obtain ⟨q, e1, e2⟩ := atI_is t h
  exact ⟨p, xs, i, q, rfl, b, .inl (.inl (w.sub _ _ e)), e1, k q G H (Stp.refl w) e2⟩
/-! ### calls of built-ins -/
theorem ev_cb {r : List V → Hp → VK → Prop} {t : TA} (h : EvA K t δ O ds O1) (hr : RCD K r ds O1 d) : Ev K (tCB r t) δ O d O1 := fun G H σ w s Q k =>
  h G H σ w s _ fun vs G1 H1 s1 i1 => hr G1 H1 vs s1.wd i1 _ fun v G2 H2 s2 i2 => k v G2 H2 (s1.trans s2) i2
theorem isL1 {G : Hp} {d : D} {vs : List V} (h : IsL K G [d] vs) : ∃ v, vs = [v] ∧ Is K G d v := by
  obtain ⟨v, r, rfl, a, b⟩ := h; cases b; exact ⟨v, rfl, a⟩
theorem isL2 {G : Hp} {d e : D} {vs : List V} (h : IsL K G [d, e] vs) : ∃ v w, vs = [v, w] ∧ Is K G d v ∧ Is K G e w := by
  obtain ⟨v, r, rfl, a, w, q, rfl, b, c⟩ := h; cases c; exact ⟨v, w, rfl, a, b⟩
theorem c_lenL : RCD K (fun xs H Q => ∃ p ys, xs = [.ref p] ∧ (SqL K H p ys ∨ SqT K H p ys) ∧ Q (.int ys.length) H) [.lst ds] O (.int (ds.length : Int)) := fun G H vs w a Q k => by
  obtain ⟨v, rfl, p, xs, rfl, e, t⟩ := isL1 a
  refine ⟨p, xs, rfl, .inl (.inl (.inl (w.sub _ _ e))), ?_⟩
  rw [← t.length]; exact k _ G H (Stp.refl w) rfl
theorem c_lenT : RCD K (fun xs H Q => ∃ p ys, xs = [.ref p] ∧ (SqL K H p ys ∨ SqT K H p ys) ∧ Q (.int ys.length) H) [.tup ds] O (.int (ds.length : Int)) := fun G H vs w a Q k => by
  obtain ⟨v, rfl, p, xs, rfl, e, t⟩ := isL1 a
  refine ⟨p, xs, rfl, .inr (.inl (.inl (w.sub _ _ e))), ?_⟩
  rw [← t.length]; exact k _ G H (Stp.refl w) rfl
theorem c_lenO (ho : O p = some (.lst ds)) : RCD K (fun xs H Q => ∃ p ys, xs = [.ref p] ∧ (SqL K H p ys ∨ SqT K H p ys) ∧ Q (.int ys.length) H) [.ref p] O (.int (ds.length : Int)) := fun G H vs w a Q k => by
  obtain ⟨v, rfl, av⟩ := isL1 a
  obtain ⟨_, xs, e, t⟩ := w.own p _ ho
  refine ⟨p, xs, by rw [show v = _ from av], .inl (.inl (.inl e)), ?_⟩
  rw [← t.length]; exact k _ G H (Stp.refl w) rfl
theorem c_lenS {ns : List Int} : RCD K (fun xs H Q => ∃ p ys, xs = [.ref p] ∧ (SqL K H p ys ∨ SqT K H p ys) ∧ Q (.int ys.length) H) [.scr ns] O (.int (ns.length : Int)) := fun G H vs w a Q k => by
  obtain ⟨v, rfl, p, rfl, e⟩ := isL1 a
  refine ⟨p, _, rfl, .inl (Evl.ex_l w.sub e), ?_⟩
  rw [List.length_map]; exact k _ G H (Stp.refl w) rfl
theorem c_listL : RCD K (fun xs H Q => ∃ p ys, xs = [.ref p] ∧ (SqL K H p ys ∨ SqT K H p ys) ∧ ∀ l, H l = none → Q (.ref l) (upd H l (.lst ys))) [.lst ds] O (.lst ds) := fun G H vs w a Q k => by
  obtain ⟨v, rfl, p, xs, rfl, e, t⟩ := isL1 a
  exact ⟨p, xs, rfl, .inl (.inl (.inl (w.sub _ _ e))), fun l hl => k _ _ _ (Stp.new w hl) ⟨l, xs, rfl, upd_same, t.mono (Stp.new w hl (o := .lst xs)).ex⟩⟩
theorem c_listT : RCD K (fun xs H Q => ∃ p ys, xs = [.ref p] ∧ (SqL K H p ys ∨ SqT K H p ys) ∧ ∀ l, H l = none → Q (.ref l) (upd H l (.lst ys))) [.tup ds] O (.lst ds) := fun G H vs w a Q k => by
  obtain ⟨v, rfl, p, xs, rfl, e, t⟩ := isL1 a
  exact ⟨p, xs, rfl, .inr (.inl (.inl (w.sub _ _ e))), fun l hl => k _ _ _ (Stp.new w hl) ⟨l, xs, rfl, upd_same, t.mono (Stp.new w hl (o := .lst xs)).ex⟩⟩
theorem c_tupL : RCD K (fun xs H Q => ∃ p ys, xs = [.ref p] ∧ ((SqL K H p ys ∧ ∀ l, H l = none → Q (.ref l) (upd H l (.tup ys))) ∨ (SqT K H p ys ∧ Q (.ref p) H))) [.lst ds] O (.tup ds) := fun G H vs w a Q k => by
  obtain ⟨v, rfl, p, xs, rfl, e, t⟩ := isL1 a
  exact ⟨p, xs, rfl, .inl ⟨.inl (.inl (w.sub _ _ e)), fun l hl => k _ _ _ (Stp.new w hl) ⟨l, xs, rfl, upd_same, t.mono (Stp.new w hl (o := .tup xs)).ex⟩⟩⟩
theorem c_tupO (ho : O p = some (.lst ds)) : RCD K (fun xs H Q => ∃ p ys, xs = [.ref p] ∧ ((SqL K H p ys ∧ ∀ l, H l = none → Q (.ref l) (upd H l (.tup ys))) ∨ (SqT K H p ys ∧ Q (.ref p) H))) [.ref p] O (.tup ds) := fun G H vs w a Q k => by
  obtain ⟨v, rfl, av⟩ := isL1 a
  obtain ⟨_, xs, e, t⟩ := w.own p _ ho
  exact ⟨p, xs, by rw [show v = _ from av], .inl ⟨.inl (.inl e), fun l hl => k _ _ _ (Stp.new w hl) ⟨l, xs, rfl, upd_same, t.mono (Stp.new w hl (o := .tup xs)).ex⟩⟩⟩
theorem c_sum {ns : List Int} : RCD K (rSum K) [.lst (ns.map .int)] O (.int ns.sum) := fun G H vs w a Q k => by
  obtain ⟨v, rfl, p, xs, rfl, e, t⟩ := isL1 a
  rw [t.intsV] at e
  exact ⟨p, ns, rfl, .inl (.inl (w.sub _ _ e)), k _ G H (Stp.refl w) rfl⟩
theorem c_sumO {ns : List Int} (ho : O p = some (.lst (ns.map .int))) : RCD K (rSum K) [.ref p] O (.int ns.sum) := fun G H vs w a Q k => by
  obtain ⟨v, rfl, av⟩ := isL1 a
  obtain ⟨_, xs, e, t⟩ := w.own p _ ho
  rw [t.intsV] at e
  exact ⟨p, ns, by rw [show v = _ from av], .inl (.inl e), k _ G H (Stp.refl w) rfl⟩
theorem c_int1 : RCD K (fun xs H Q => (∃ i, xs = [.int i] ∧ Q (.int i) H) ∨ ∃ k, xs = [.bl k] ∧ Q (.int (if k then 1 else 0)) H) [.int i] O (.int i) := fun G H vs w a Q k => by
  obtain ⟨v, rfl, av⟩ := isL1 a
  exact .inl ⟨i, by rw [show v = _ from av], k _ G H (Stp.refl w) rfl⟩
theorem c_intB : RCD K (fun xs H Q => (∃ i, xs = [.int i] ∧ Q (.int i) H) ∨ ∃ k, xs = [.bl k] ∧ Q (.int (if k then 1 else 0)) H) [.bl b] O (.int (if b then 1 else 0)) := fun G H vs w a Q k => by
  obtain ⟨v, rfl, av⟩ := isL1 a
  exact .inr ⟨b, by rw [show v = _ from av], k _ G H (Stp.refl w) rfl⟩
/-! ### in -/
def flatD : D → Bool
  | .non => true | .bl _ => true | .int _ => true | .str _ => true
  | _ => false
def vOf : D → V
  | .non => .non | .bl b => .bl b | .int i => .int i | .str x => .str x
  | _ => .non
theorem flat_is {G : Hp} {d : D} {v : V} (h : Is K G d v) (f : flatD d = true) : v = vOf d ∧ flatV v = true := by
  cases d <;> first | (cases h; exact ⟨rfl, rfl⟩) | cases f
theorem flat_isL {G : Hp} : ∀ {ds : List D} {vs : List V}, IsL K G ds vs → ds.all flatD = true → vs = ds.map vOf ∧ vs.all flatV = true
  | [], _, h, _ => by cases h; exact ⟨rfl, rfl⟩
  | d :: ds, _, ⟨v, r, rfl, a, b⟩, f => by
    simp only [List.all_cons, Bool.and_eq_true] at f
    obtain ⟨e1, f1⟩ := flat_is a f.1
    obtain ⟨e2, f2⟩ := flat_isL b f.2
    exact ⟨by rw [e1, e2]; rfl, by simp [f1, f2]⟩
def inD (x : D) (ds : List D) : Bool := inV (vOf x) (ds.map vOf)
theorem inD_int (i : Int) (ns : List Int) : inD (.int i) (ns.map .int) = decide (i ∈ ns) := by
  unfold inD inV
  induction ns with
  | nil => rfl
  | cons n r ih =>
    rw [List.map_cons, List.map_cons, List.any_cons, ih]
    show ((n == i) || _) = _
    by_cases h : n = i
    · subst h; simp
    · rw [beq_eq_false_iff_ne.mpr h]; simp [List.mem_cons, Ne.symm h, eq_comm, h]
theorem r_inL {neg : Bool} (hx : flatD x = true) (ha : ds.all flatD = true) : R2D K (rIn K neg) x (.lst ds) O (.bl (if neg then !inD x ds else inD x ds)) := fun G H v u w a b Q k => by
  obtain ⟨p, xs, rfl, e, t⟩ := b
  obtain ⟨e1, f1⟩ := flat_is a hx
  obtain ⟨e2, f2⟩ := flat_isL t ha
  refine ⟨p, xs, rfl, .inl (.inl (.inl (w.sub _ _ e))), f1, f2, ?_⟩
  rw [e1, e2]; exact k _ G H (Stp.refl w) rfl
theorem r_inT {neg : Bool} (hx : flatD x = true) (ha : ds.all flatD = true) : R2D K (rIn K neg) x (.tup ds) O (.bl (if neg then !inD x ds else inD x ds)) := fun G H v u w a b Q k => by
  obtain ⟨p, xs, rfl, e, t⟩ := b
  obtain ⟨e1, f1⟩ := flat_is a hx
  obtain ⟨e2, f2⟩ := flat_isL t ha
  refine ⟨p, xs, rfl, .inr (.inl (.inl (w.sub _ _ e))), f1, f2, ?_⟩
  rw [e1, e2]; exact k _ G H (Stp.refl w) rfl
theorem r_inO {neg : Bool} (ho : O p = some (.lst ds)) (hx : flatD x = true) (ha : ds.all flatD = true) : R2D K (rIn K neg) x (.ref p) O (.bl (if neg then !inD x ds else inD x ds)) := fun G H v u w a b Q k => by
  obtain ⟨_, xs, e, t⟩ := w.own p _ ho
  obtain ⟨e1, f1⟩ := flat_is a hx
  obtain ⟨e2, f2⟩ := flat_isL t ha
  refine ⟨p, xs, b, .inl (.inl (.inl e)), f1, f2, ?_⟩
  rw [e1, e2]; exact k _ G H (Stp.refl w) rfl
/-! ### lists: +, * -/
theorem r_cat (hl : ds.length + es.length ≤ 100000) : R2D K rCat (.lst ds) (.lst es) O (.lst (ds ++ es)) := fun G H v u w a b Q k => by
  obtain ⟨p, xs, rfl, e, t⟩ := a
  obtain ⟨q, ys, rfl, e', t'⟩ := b
  exact ⟨p, q, xs, ys, rfl, rfl, w.sub _ _ e, w.sub _ _ e', by rw [← t.length, ← t'.length]; exact sz hl, fun l hl => k _ _ _ (Stp.new w hl) ⟨l, _, rfl, upd_same, (t.append t').mono (Stp.new w hl (o := .lst (xs ++ ys))).ex⟩⟩
theorem r_catT (hn : ds ≠ []) (hl : ds.length + es.length ≤ 100000) : R2D K (rCatT K) (.tup ds) (.tup es) O (.tup (ds ++ es)) := fun G H v u w a b Q k => by
  obtain ⟨p, xs, rfl, e, t⟩ := a
  obtain ⟨q, ys, rfl, e', t'⟩ := b
  refine ⟨p, q, xs, ys, rfl, rfl, .inl (.inl (w.sub _ _ e)), .inl (.inl (w.sub _ _ e')), fun z => hn (by subst z; exact List.eq_nil_of_length_eq_zero t.length), by rw [← t.length, ← t'.length]; exact sz hl, fun z => ?_, fun _ l hl => k _ _ _ (Stp.new w hl) ⟨l, _, rfl, upd_same, (t.append t').mono (Stp.new w hl (o := .tup (xs ++ ys))).ex⟩⟩
  subst z
  have z : es = [] := List.eq_nil_of_length_eq_zero t'.length
  subst z
  exact k _ G H (Stp.refl w) ⟨p, xs, rfl, e, by rw [List.append_nil]; exact t⟩
theorem r_rep (h1 : -(2 ^ 63) ≤ i ∧ i < 2 ^ 63) (hl : ds.length * i.toNat ≤ 100000) : R2D K rRep (.lst ds) (.int i) O (.lst (List.replicate i.toNat ds).flatten) := fun G H v u w a b Q k => by
  obtain ⟨p, xs, rfl, e, t⟩ := a
  exact ⟨p, i, xs, rfl, b, w.sub _ _ e, h1.1, h1.2, by rw [← t.length]; exact sz hl, fun l hl => k _ _ _ (Stp.new w hl) ⟨l, _, rfl, upd_same, (t.rep _).mono (Stp.new w hl (o := .lst _)).ex⟩⟩
/-! ### fields, calls of defs -/
theorem lookup_is {G : Hp} : ∀ {nm : List Str} {ds : List D} {vs : List V} {f : Str} {d : D}, IsL K G ds vs → (nm.zip ds).lookup f = some d → ∃ v, (nm.zip vs).lookup f = some v ∧ Is K G d v
  | [], _, _, _, _, _, e => by simp at e
  | _ :: _, [], _, _, _, h, e => by simp at e
  | n :: nm, d0 :: ds, _, f, d, ⟨v, r, rfl, a, b⟩, e => by
    simp only [List.zip_cons_cons, List.lookup_cons] at e ⊢
    cases q : (f == n) with
    | true => rw [q] at e; simp only at e ⊢; cases e; exact ⟨v, rfl, a⟩
    | false => rw [q] at e; simp only at e ⊢; exact lookup_is b e
theorem ev_fld {C : Addr} {nm : List Str} {f : Str} (h : Ev K te δ O (.ins C nm ds) O1) (c : Cls K C) (n : NoAttr K C f) (l : (nm.zip ds).lookup f = some d) : Ev K (tFld K te f) δ O d O1 := fun G H σ w s Q k =>
  h G H σ w s _ fun v G1 H1 s1 i1 => by
    obtain ⟨p, dx, xs, rfl, e, _, t⟩ := i1
    obtain ⟨u, a, b⟩ := lookup_is t l
    exact ⟨p, C, dx, _, u, rfl, s1.wd.sub _ _ e, c, n, a, k u G1 H1 s1 b⟩
theorem ev_fldO {C : Addr} {nm : List Str} {f : Str} (h : Ev K te δ O (.ref p) O1) (ho : O1 p = some (.ins C nm ds)) (c : Cls K C) (n : NoAttr K C f) (l : (nm.zip ds).lookup f = some d) : Ev K (tFld K te f) δ O d O1 := fun G H σ w s Q k =>
  h G H σ w s _ fun v G1 H1 s1 i1 => by
    obtain ⟨_, dx, xs, e, _, t⟩ := s1.wd.own p _ ho
    obtain ⟨u, a, b⟩ := lookup_is t l
    exact ⟨p, C, dx, _, u, i1, e, c, n, a, k u G1 H1 s1 b⟩
theorem sp_run {R : DR} {G H : Hp} {vs : List V} {Q : VK} {E : XK} {Post : D → Ow → Prop} (w : Wd K G O H) (i : IsL K G ds vs) (hr : R ds O Post) (k : ∀ d O' v G' H', Post d O' → Stp K G O H G' O' H' → Is K G' d v → Q v H') : SpD K R vs H Q E := ⟨G, O, ds, Post, w, i, hr, k⟩
theorem evp_call {R : DR} {E : XK} {t : TA} {P : D → Ow → Prop} (h : EvA K t δ O ds O1) (hr : R ds O1 P) : EvP K (tCall (SpD K R) [] E t) δ O P := fun G H σ w s Q k =>
  h G H σ w s _ fun vs G1 H1 s1 i1 => by
    show SpD K R (vs ++ []) H1 Q E
    rw [List.append_nil]
    exact sp_run s1.wd i1 hr fun d O' v G' H' hp st iv => k d O' v G' H' hp (s1.trans st) iv
theorem ev_call {R : DR} {E : XK} {t : TA} (h : EvA K t δ O ds O1) (hr : R ds O1 fun d' O' => d' = d ∧ O' = O2) : Ev K (tCall (SpD K R) [] E t) δ O d O2 := (evp_call h hr).ev
theorem evp_prop {R : DR} {E : XK} {C : Addr} {nm : List Str} {P : D → Ow → Prop} (h : Ev K te δ O (.ins C nm ds) O1) (hr : R [.ins C nm ds] O1 P) : EvP K (tProp C (SpD K R) [] E te) δ O P := fun G H σ w s Q k =>
  h G H σ w s _ fun v G1 H1 s1 i1 => by
    have i2 := i1
    obtain ⟨p, dx, xs, rfl, e, _, t⟩ := i2
    exact ⟨p, dx, _, rfl, s1.wd.sub _ _ e, sp_run (ds := [.ins C nm ds]) s1.wd ⟨_, _, rfl, i1, rfl⟩ hr fun d O' v G' H' hp st iv => k d O' v G' H' hp (s1.trans st) iv⟩
end
end DL

set_option Elab.async false
set_option linter.all false
set_option maxRecDepth 100000
namespace DL
open PySem PySem.Spec L2
section
variable {K : PySem.W.Frag} {δ : Sl} {O O1 O2 O3 : Ow} {d x y z : D} {ta tb tc te tv : TE} {t : TT} {tu tw ts : TS} {i j : Int} {p l : Addr} {ds es : List D} {b : Bool} {P : DE} {g : TG}
/-! ### statements -/
theorem sd_seq (h : Sd K tu { P with nx := fun δ' O' => Sd K tw P δ' O' } δ O) : Sd K (tSeq tu tw) P δ O := fun G H σ D w s r =>
  h G H σ { D with nx := tw D } w s ⟨fun δ' O' G' H' σ' p st sl => p G' H' σ' D st.wd sl (r.step st), r.rt, r.bk, r.ct⟩
theorem sd_next (h : P.nx δ O) : Sd K tNext P δ O := fun G H σ D w s r => r.nx δ O G H σ h (Stp.refl w) s
theorem sd_asgP {i : Nat} (h : EvP K te δ O fun d O' => P.nx (δ.set i (some d)) O') : Sd K (tAsg te (gName i)) P δ O := fun G H σ D w s r =>
  h G H σ w s _ fun d O' v G' H' hp st iv => r.nx _ O' G' H' _ hp st ((s.mono st.ex).set iv)
theorem sd_asg {i : Nat} (h : Ev K te δ O d O1) (k : P.nx (δ.set i (some d)) O1) : Sd K (tAsg te (gName i)) P δ O := sd_asgP (h.toP k)
theorem sd_asgG (h : EvP K te δ O fun d O' => Gd K g d δ O' P.nx) : Sd K (tAsg te g) P δ O := fun G H σ D w s r =>
  h G H σ w s _ fun d O' v G' H' hp st iv => hp G' H' σ v st.wd (s.mono st.ex) iv _ fun δ2 O2 G2 H2 σ2 hn st2 sl => r.nx δ2 O2 G2 H2 σ2 hn (st.trans st2) sl
theorem sd_retP (h : EvP K te δ O P.rt) : Sd K (tRet te) P δ O := fun G H σ D w s r =>
  h G H σ w s _ fun d O' v G' H' hp st iv => r.rt d O' G' H' v hp st iv
theorem sd_ret (h : Ev K te δ O d O1) (k : P.rt d O1) : Sd K (tRet te) P δ O := sd_retP (h.toP k)
theorem sd_retD (h : Ev K te δ O d O1) (s : OSub O2 O1) (k : P.rt d O2) : Sd K (tRet te) P δ O := fun G H σ D w sl r =>
  h G H σ w sl _ fun v G' H' st iv => r.rt d O2 G' H' v k (st.drop s) iv
theorem sd_retN (k : P.rt .non O) : Sd K tRetN P δ O := fun G H σ D w s r => r.rt _ O G H _ k (Stp.refl w) rfl
theorem sd_dropP (h : EvP K te δ O fun _ O' => P.nx δ O') : Sd K (tDrop te) P δ O := fun G H σ D w s r =>
  h G H σ w s _ fun d O' v G' H' hp st iv => r.nx δ O' G' H' σ hp st (s.mono st.ex)
theorem sd_if (h : EvT K t δ O b O1) (h1 : b = true → Sd K tu P δ O1) (h2 : b = false → Sd K tw P δ O1) : Sd K (tIfS t tu tw) P δ O := fun G H σ D w s r =>
  h G H σ w s _ fun G1 H1 s1 => by
    cases b with
    | true => exact iteT (h1 rfl G1 H1 σ D s1.wd (s.mono s1.ex) (r.step s1))
    | false => exact iteF (h2 rfl G1 H1 σ D s1.wd (s.mono s1.ex) (r.step s1))
theorem sd_ifT (h : EvT K t δ O true O1) (h1 : Sd K tu P δ O1) : Sd K (tIfS t tu tw) P δ O := sd_if h (fun _ => h1) (fun e => nomatch e)
theorem sd_ifF (h : EvT K t δ O false O1) (h2 : Sd K tw P δ O1) : Sd K (tIfS t tu tw) P δ O := sd_if h (fun e => nomatch e) (fun _ => h2)
theorem sd_brk (h : P.bk δ O) : Sd K tBreak P δ O := fun G H σ D w s r => r.bk δ O G H σ h (Stp.refl w) s
theorem sd_cont (h : P.ct δ O) : Sd K tCont P δ O := fun G H σ D w s r => r.ct δ O G H σ h (Stp.refl w) s
theorem sd_weak {P' : DE} (h : Sd K ts P' δ O) (h1 : ∀ δ' O', P'.nx δ' O' → P.nx δ' O') (h2 : ∀ d O', P'.rt d O' → P.rt d O') (h3 : ∀ δ' O', P'.bk δ' O' → P.bk δ' O') (h4 : ∀ δ' O', P'.ct δ' O' → P.ct δ' O') : Sd K ts P δ O := fun G H σ D w s r =>
  h G H σ D w s ⟨fun δ' O' G' H' σ' p => r.nx δ' O' G' H' σ' (h1 _ _ p), fun d O' G' H' v p => r.rt d O' G' H' v (h2 _ _ p), fun δ' O' G' H' σ' p => r.bk δ' O' G' H' σ' (h3 _ _ p), fun δ' O' G' H' σ' p => r.ct δ' O' G' H' σ' (h4 _ _ p)⟩
/-- forgetting what was known of the slots, of owned objects -/
theorem sd_forget {δ' : Sl} (h : Sd K ts P δ' O1) (hl : δ'.length = δ.length) (hs : ∀ (i : Nat) d, δ'[i]? = some (some d) → δ[i]? = some (some d)) (ho : OSub O1 O) : Sd K ts P δ O := fun G H σ D w s r => by
  refine h G H σ D (w.drop ho) (s.weak hl hs) ?_
  have st : Stp K G O H G O1 H := (Stp.refl w).drop ho
  exact r.step st
/-- an owned list at slot i is plain data from now on -/
theorem sd_pub {i : Nat} (ho : O p = some (.lst ds)) (hi : δ[i]? = some (some (.ref p))) (h : Sd K ts P (δ.set i (some (.lst ds))) (delO O p)) : Sd K ts P δ O := fun G H σ D w s r => by
  obtain ⟨_, xs, e, tl⟩ := w.own p _ ho
  have st := Stp.pub w ho e
  obtain ⟨v, hv, iv⟩ := s.at_ i _ hi
  have iv : v = .ref p := iv
  subst iv
  have il : i < σ.length := (List.getElem?_eq_some_iff.mp hv).1
  have es : σ = σ.set i (some (.ref p)) := by
    refine List.ext_getElem? fun n => ?_
    by_cases q : i = n
    · subst q; rw [List.getElem?_set_self il, hv]
    · rw [List.getElem?_set_ne q]
  rw [es]
  exact h _ H _ D st.wd ((s.mono st.ex).set (show Is K _ (.lst ds) (.ref p) from ⟨p, xs, rfl, upd_same, tl.mono st.ex⟩)) (r.step st)
theorem sd_pubI {i : Nat} {C : Addr} {nm : List Str} (ho : O p = some (.ins C nm ds)) (hi : δ[i]? = some (some (.ref p))) (h : Sd K ts P (δ.set i (some (.ins C nm ds))) (delO O p)) : Sd K ts P δ O := fun G H σ D w s r => by
  obtain ⟨_, dx, xs, e, hl, tl⟩ := w.own p _ ho
  have st := Stp.pubI w ho e
  obtain ⟨v, hv, iv⟩ := s.at_ i _ hi
  have iv : v = .ref p := iv
  subst iv
  have il : i < σ.length := (List.getElem?_eq_some_iff.mp hv).1
  have es : σ = σ.set i (some (.ref p)) := by
    refine List.ext_getElem? fun n => ?_
    by_cases q : i = n
    · subst q; rw [List.getElem?_set_self il, hv]
    · rw [List.getElem?_set_ne q]
  rw [es]
  exact h _ H _ D st.wd ((s.mono st.ex).set (show Is K _ (.ins C nm ds) (.ref p) from ⟨p, dx, xs, rfl, upd_same, hl, tl.mono st.ex⟩)) (r.step st)
/-- a, b = x, y -/
def EvAP (K : PySem.W.Frag) (ta : TA) (δ : Sl) (O : Ow) (P : List D → Ow → Prop) : Prop :=
  ∀ G H σ, Wd K G O H → SlIs K G δ σ → ∀ Q : List V → Hp → Prop, (∀ ds O' vs G' H', P ds O' → Stp K G O H G' O' H' → IsL K G' ds vs → Q vs H') → ta σ H Q
theorem eap_nil {P : List D → Ow → Prop} (h : P [] O) : EvAP K tNil δ O P := fun G H σ w s Q k => k [] O [] G H h (Stp.refl w) rfl
theorem eap_cons {t : TA} {P : List D → Ow → Prop} (ha : EvP K ta δ O fun d O' => EvAP K t δ O' fun ds O2 => P (d :: ds) O2) : EvAP K (tCons ta t) δ O P := fun G H σ w s Q k =>
  ha G H σ w s _ fun d O' v G1 H1 hp s1 i1 => hp G1 H1 σ s1.wd (s.mono s1.ex) _ fun ds O2 vs G2 H2 hq s2 i2 => k (d :: ds) O2 (v :: vs) G2 H2 hq (s1.trans s2) ⟨v, vs, rfl, i1.mono s2.ex, i2⟩
theorem EvA.toP {t : TA} {P : List D → Ow → Prop} (h : EvA K t δ O ds O1) (hp : P ds O1) : EvAP K t δ O P := fun G H σ w s Q k => h G H σ w s Q fun vs G' H' st i => k ds O1 vs G' H' hp st i
theorem sd_parP {i j : Nat} {ta : TA} (h : EvAP K ta δ O fun ds O' => ∃ a b, ds = [a, b] ∧ P.nx ((δ.set i (some a)).set j (some b)) O') : Sd K (tPar i j ta) P δ O := fun G H σ D w s r =>
  h G H σ w s _ fun ds O' vs G' H' hp st iv => by
    obtain ⟨a, b, rfl, hn⟩ := hp
    obtain ⟨v, u, rfl, ia, ib⟩ := isL2 iv
    exact ⟨v, u, rfl, r.nx _ O' G' H' _ hn st (((s.mono st.ex).set ia).set ib)⟩
theorem sd_par {i j : Nat} {ta : TA} {a b : D} (h : EvA K ta δ O [a, b] O1) (k : P.nx ((δ.set i (some a)).set j (some b)) O1) : Sd K (tPar i j ta) P δ O := sd_parP (h.toP ⟨a, b, rfl, k⟩)
/-! ### targets -/
theorem gd_name {i : Nat} {N : Sl → Ow → Prop} (h : N (δ.set i (some d)) O) : Gd K (gName i) d δ O N := fun G H σ v w s iv Q k => k _ O G H _ h (Stp.refl w) (s.set iv)
def Gds (K : PySem.W.Frag) (g : TGs) (ds : List D) (δ : Sl) (O : Ow) (N : Sl → Ow → Prop) : Prop :=
  ∀ G H σ vs, Wd K G O H → SlIs K G δ σ → IsL K G ds vs → ∀ Q : St → Hp → Prop, (∀ δ' O' G' H' σ', N δ' O' → Stp K G O H G' O' H' → SlIs K G' δ' σ' → Q σ' H') → g vs σ H Q
theorem gds_nil {N : Sl → Ow → Prop} (h : N δ O) : Gds K gNil [] δ O N := fun G H σ vs w s iv Q k => ⟨iv, k _ O G H σ h (Stp.refl w) s⟩
theorem gds_cons {gs : TGs} {N : Sl → Ow → Prop} (h : Gd K g d δ O fun δ' O' => Gds K gs ds δ' O' N) : Gds K (gCons g gs) (d :: ds) δ O N := fun G H σ vs w s iv Q k => by
  obtain ⟨v, r, rfl, a, b⟩ := iv
  exact ⟨v, r, rfl, h G H σ v w s a _ fun δ' O' G' H' σ' hn st sl => hn G' H' σ' r st.wd sl (b.mono st.ex) _ fun δ2 O2 G2 H2 σ2 hn2 st2 sl2 => k δ2 O2 G2 H2 σ2 hn2 (st.trans st2) sl2⟩
theorem gd_tup {n : Nat} {gs : TGs} {N : Sl → Ow → Prop} (hn : ds.length = n) (h : Gds K gs ds δ O N) : Gd K (gTup K n gs) (.tup ds) δ O N := fun G H σ v w s iv Q k => by
  obtain ⟨p, xs, rfl, e, t⟩ := iv
  exact ⟨p, xs, rfl, .inl (.inl (w.sub _ _ e)), by rw [← t.length]; exact hn, h G H σ xs w s t _ k⟩
/-! ### lists that are owned -/
theorem sd_app (h1 : Ev K ta δ O (.ref l) O1) (h0 : O1 l = some (.lst es)) (h2 : Ev K te δ O1 d O2) (h3 : O2 l = some (.lst ds)) (hz : ds.length < 100000) (k : P.nx δ (setO O2 l (.lst (ds ++ [d])))) :
    Sd K (tDrop (tBM K "list" rAppend ta (tCons te tNil))) P δ O := fun G H σ D w s r =>
  h1 G H σ w s _ fun v G1 H1 s1 i1 => by
    have i1 : v = .ref l := i1
    subst i1
    obtain ⟨_, xs0, e0, _⟩ := s1.wd.own l _ h0
    refine ⟨.inl ⟨rfl, xs0, .inl (.inl e0)⟩, h2 G1 H1 σ s1.wd (s.mono s1.ex) _ fun u G2 H2 s2 i2 => ?_⟩
    obtain ⟨_, xs, e, t⟩ := s2.wd.own l _ h3
    refine ⟨l, xs, u, rfl, rfl, e, by rw [← t.length]; exact Evl.sz_lt hz, ?_⟩
    have st := Stp.write (o := .lst (xs ++ [u])) (m' := .lst (ds ++ [d])) s2.wd h3 ⟨_, upd_same, t.append ⟨u, [], rfl, i2, rfl⟩⟩
    exact r.nx _ _ _ _ _ k ((s1.trans s2).trans st) (s.mono ((s1.ex.trans s2.ex).trans st.ex))
theorem sd_setL {k : Nat} (h : Ev K te δ O d O1) (h1 : Ev K ta δ O1 (.ref l) O2) (h2 : Ev K tb δ O2 (.int i) O3) (h3 : O3 l = some (.lst ds)) (hj : ixN ds.length i = some k) (kk : P.nx δ (setO O3 l (.lst (ds.set k d)))) :
    Sd K (tAsg te (gSub ta tb rSetL)) P δ O := fun G H σ D w s r =>
  h G H σ w s _ fun v G1 H1 s1 i1 => h1 G1 H1 σ s1.wd (s.mono s1.ex) _ fun u G2 H2 s2 i2 => h2 G2 H2 σ s2.wd (s.mono (s1.ex.trans s2.ex)) _ fun q G3 H3 s3 i3 => by
    have i2 : u = .ref l := i2
    subst i2
    obtain ⟨_, xs, e, t⟩ := s3.wd.own l _ h3
    refine ⟨l, xs, i, k, rfl, i3, e, by rw [← t.length]; exact hj, ?_⟩
    have st := Stp.write (o := .lst (xs.set k v)) (m' := .lst (ds.set k d)) s3.wd h3 ⟨_, upd_same, t.set k (i1.mono (s2.ex.trans s3.ex))⟩
    exact r.nx _ _ _ _ _ kk (((s1.trans s2).trans s3).trans st) (s.mono (((s1.ex.trans s2.ex).trans s3.ex).trans st.ex))
/-! ### fields of an owned instance -/
theorem putF_new {f : Str} {v : V} : ∀ {nm : List Str} {xs : List V}, f ∉ nm → xs.length = nm.length → putF f v (nm.zip xs) = (nm ++ [f]).zip (xs ++ [v])
  | [], [], _, _ => rfl
  | n :: nm, x :: xs, h, e => by
    simp only [List.mem_cons, not_or] at h
    show (if n = f then (n, v) :: nm.zip xs else (n, x) :: putF f v (nm.zip xs)) = _
    rw [if_neg (fun z => h.1 z.symm), putF_new h.2 (by simpa using e)]
    rfl
theorem putF_old {f : Str} {v : V} : ∀ {nm : List Str} {xs : List V} {j : Nat}, nm[j]? = some f → (∀ k, k < j → nm[k]? ≠ some f) → xs.length = nm.length → putF f v (nm.zip xs) = nm.zip (xs.set j v)
  | n :: nm, x :: xs, 0, h, _, e => by
    have h : n = f := by simpa using h
    show (if n = f then _ else _) = _
    rw [if_pos h]; rfl
  | n :: nm, x :: xs, j + 1, h, hk, e => by
    have h0 : n ≠ f := fun z => hk 0 (Nat.succ_pos _) (by simp [z])
    show (if n = f then (n, v) :: nm.zip xs else (n, x) :: putF f v (nm.zip xs)) = _
    rw [if_neg h0, putF_old (j := j) (by simpa using h) (fun k q z => hk (k + 1) (Nat.succ_lt_succ q) (by simpa using z)) (by simpa using e)]
    rfl
  | [], _, _, h, _, _ => by simp at h
theorem sd_fldN {C : Addr} {nm : List Str} {f : Str} (h : Ev K tv δ O d O1) (h1 : Ev K ta δ O1 (.ref p) O2) (ho : O2 p = some (.ins C nm ds)) (c : Cls K C) (n : NoAttr K C f) (hf : f ∉ nm) (hz : nm.length < 1000) (k : P.nx δ (setO O2 p (.ins C (nm ++ [f]) (ds ++ [d])))) :
    Sd K (sFld K ta tv f) P δ O := fun G H σ D w s r =>
  h G H σ w s _ fun v G1 H1 s1 i1 => h1 G1 H1 σ s1.wd (s.mono s1.ex) _ fun u G2 H2 s2 i2 => by
    have i2 : u = .ref p := i2
    subst i2
    obtain ⟨_, dx, xs, e, hl, t⟩ := s2.wd.own p _ ho
    refine ⟨p, C, dx, _, rfl, e, c, n, by rw [List.length_zip, hl, Nat.min_self]; exact hz, ?_⟩
    rw [putF_new hf hl]
    have st := Stp.write (o := .ins C dx ((nm ++ [f]).zip (xs ++ [v]))) (m' := .ins C (nm ++ [f]) (ds ++ [d])) s2.wd ho ⟨dx, _, upd_same, by simp [hl], t.append ⟨v, [], rfl, i1.mono s2.ex, rfl⟩⟩
    exact r.nx _ _ _ _ _ k ((s1.trans s2).trans st) (s.mono ((s1.ex.trans s2.ex).trans st.ex))
theorem sd_fldS {C : Addr} {nm : List Str} {f : Str} {j : Nat} (h : Ev K tv δ O d O1) (h1 : Ev K ta δ O1 (.ref p) O2) (ho : O2 p = some (.ins C nm ds)) (c : Cls K C) (n : NoAttr K C f) (hf : nm[j]? = some f) (hk : ∀ k, k < j → nm[k]? ≠ some f) (hz : nm.length < 1000) (k : P.nx δ (setO O2 p (.ins C nm (ds.set j d)))) :
    Sd K (sFld K ta tv f) P δ O := fun G H σ D w s r =>
  h G H σ w s _ fun v G1 H1 s1 i1 => h1 G1 H1 σ s1.wd (s.mono s1.ex) _ fun u G2 H2 s2 i2 => by
    have i2 : u = .ref p := i2
    subst i2
    obtain ⟨_, dx, xs, e, hl, t⟩ := s2.wd.own p _ ho
    refine ⟨p, C, dx, _, rfl, e, c, n, by rw [List.length_zip, hl, Nat.min_self]; exact hz, ?_⟩
    rw [putF_old hf hk hl]
    have st := Stp.write (o := .ins C dx (nm.zip (xs.set j v))) (m' := .ins C nm (ds.set j d)) s2.wd ho ⟨dx, _, upd_same, by simp [hl], t.set j (i1.mono s2.ex)⟩
    exact r.nx _ _ _ _ _ k ((s1.trans s2).trans st) (s.mono ((s1.ex.trans s2.ex).trans st.ex))
/-! ### loops -/
theorem sd_for {wi : TI} {items : List D} (hi : EvI K wi δ O items O1) (I : Nat → Sl → Ow → Prop) (h0 : I 0 δ O1)
    (hs : ∀ i d δ' O', items[i]? = some d → I i δ' O' → Gd K g d δ' O' fun δ2 O2 => Sd K tu { P with nx := I (i + 1), ct := I (i + 1), bk := P.nx } δ2 O2) (hd : ∀ δ' O', I items.length δ' O' → P.nx δ' O') : Sd K (tFor wi g tu) P δ O := fun G H σ D w s r =>
  hi G H σ w s _ fun J G1 H1 s1 ok => by
    refine ⟨fun i m σ' H' => i + m = items.length ∧ ∃ δ' O' G', I i δ' O' ∧ Stp K G O H G' O' H' ∧ Sub G1 G' ∧ SlIs K G' δ' σ', ⟨items.length, by omega, δ, O1, G1, h0, s1, Sub.refl _, s.mono s1.ex⟩, fun i m σ' H' hW => ?_⟩
    obtain ⟨em, δ', O', G', hI, st, sb, sl⟩ := hW
    obtain ⟨go, stop⟩ := ok G' O' H' sb st.wd i
    by_cases hl : i < items.length
    · obtain ⟨g1, g2⟩ := go items[i] (List.getElem?_eq_getElem hl)
      refine .inr ⟨g1, fun σ2 H2 => ∃ δ2 O2 G2, I (i + 1) δ2 O2 ∧ Stp K G O H G2 O2 H2 ∧ Sub G1 G2 ∧ SlIs K G2 δ2 σ2, fun σ2 H2 ⟨δ2, O2, G2, a, b, c, e⟩ => ⟨m - 1, by omega, by omega, δ2, O2, G2, a, b, c, e⟩, fun x H2 hy => ?_⟩
      obtain ⟨G2, st2, ix⟩ := g2 x H2 hy
      refine hs i _ δ' O' (List.getElem?_eq_getElem hl) hI G2 H2 σ' x st2.wd (sl.mono st2.ex) ix _ fun δ3 O3 G3 H3 σ3 hb st3 sl3 => ?_
      have stx := (st.trans st2).trans st3
      exact hb G3 H3 σ3 _ st3.wd sl3 ⟨fun δ4 O4 G4 H4 σ4 p st4 sl4 => ⟨δ4, O4, G4, p, stx.trans st4, (sb.trans st2.ex).trans (st3.ex.trans st4.ex), sl4⟩, fun d O4 G4 H4 v p st4 iv => r.rt d O4 G4 H4 v p (stx.trans st4) iv,
        fun δ4 O4 G4 H4 σ4 p st4 sl4 => r.nx δ4 O4 G4 H4 σ4 p (stx.trans st4) sl4, fun δ4 O4 G4 H4 σ4 p st4 sl4 => ⟨δ4, O4, G4, p, stx.trans st4, (sb.trans st2.ex).trans (st3.ex.trans st4.ex), sl4⟩⟩
    · have e : i = items.length := by omega
      refine .inl ⟨stop (List.getElem?_eq_none (by omega)), ?_⟩
      subst e
      exact r.nx δ' O' G' H' σ' (hd δ' O' hI) st sl
theorem sd_while {c : TT} (W : Nat → Sl → Ow → Prop) (m0 : Nat) (h0 : W m0 δ O) (hs : ∀ m δ' O', W m δ' O' → ∃ b O1, EvT K c δ' O' b O1 ∧ (b = true → Sd K tu { P with nx := fun δ2 O2 => ∃ m', m' < m ∧ W m' δ2 O2, ct := fun δ2 O2 => ∃ m', m' < m ∧ W m' δ2 O2, bk := P.nx } δ' O1) ∧ (b = false → P.nx δ' O1)) :
    Sd K (tWhile c tu) P δ O := fun G H σ D w s r => by
  refine ⟨fun m σ' H' => ∃ δ' O' G', W m δ' O' ∧ Stp K G O H G' O' H' ∧ SlIs K G' δ' σ', ⟨m0, δ, O, G, h0, Stp.refl w, s⟩, fun m σ' H' hW => ?_⟩
  obtain ⟨δ', O', G', hI, st, sl⟩ := hW
  obtain ⟨b, O1, hb, h1, h2⟩ := hs m δ' O' hI
  refine hb G' H' σ' st.wd sl _ fun G1 H1 s1 => ?_
  cases b with
  | false => exact iteF (r.nx δ' O1 G1 H1 σ' (h2 rfl) (st.trans s1) (sl.mono s1.ex))
  | true =>
    refine iteT ⟨fun σ2 H2 => ∃ m', m' < m ∧ ∃ δ2 O2 G2, W m' δ2 O2 ∧ Stp K G O H G2 O2 H2 ∧ SlIs K G2 δ2 σ2, fun σ2 H2 ⟨m', a, q⟩ => ⟨m', a, q⟩, ?_⟩
    have stx := st.trans s1
    exact h1 rfl G1 H1 σ' _ s1.wd (sl.mono s1.ex) ⟨fun δ4 O4 G4 H4 σ4 ⟨m', a, p⟩ st4 sl4 => ⟨m', a, δ4, O4, G4, p, stx.trans st4, sl4⟩, fun d O4 G4 H4 v p st4 iv => r.rt d O4 G4 H4 v p (stx.trans st4) iv,
        fun δ4 O4 G4 H4 σ4 p st4 sl4 => r.nx δ4 O4 G4 H4 σ4 p (stx.trans st4) sl4, fun δ4 O4 G4 H4 σ4 ⟨m', a, p⟩ st4 sl4 => ⟨m', a, δ4, O4, G4, p, stx.trans st4, sl4⟩⟩
/-! ### what is walked -/
theorem ei_list (h : Ev K te δ O (.lst ds) O1) : EvI K (iList K te) δ O ds O1 := fun G H σ w s R k =>
  h G H σ w s _ fun v G1 H1 s1 i1 => by
    obtain ⟨p, xs, rfl, e, t⟩ := i1
    refine ⟨p, rfl, ⟨xs, .inl (.inl (s1.wd.sub _ _ e))⟩, k _ G1 H1 s1 fun G' O' H' sb w' i => ?_⟩
    have e' : SqL K H' p xs := .inl (.inl (w'.sub _ _ (sb _ _ e)))
    refine ⟨fun d hd => ?_, fun hn => ⟨xs, e', by rw [← t.length]; exact List.getElem?_eq_none_iff.mp hn⟩⟩
    obtain ⟨u, hu, iu⟩ := t.get hd
    refine ⟨⟨xs, u, e', hu⟩, fun x H'' hy => ?_⟩
    obtain ⟨rfl, fx⟩ := hy
    have ex : u = x := Option.some.inj (hu.symm.trans (fx xs e'))
    subst ex
    exact ⟨G', Stp.refl w', iu.mono sb⟩
theorem ei_tup (h : Ev K te δ O (.tup ds) O1) : EvI K (iTup K te) δ O ds O1 := fun G H σ w s R k =>
  h G H σ w s _ fun v G1 H1 s1 i1 => by
    obtain ⟨p, xs, rfl, e, t⟩ := i1
    refine ⟨p, rfl, ⟨xs, .inl (.inl (s1.wd.sub _ _ e))⟩, k _ G1 H1 s1 fun G' O' H' sb w' i => ?_⟩
    have e' : SqT K H' p xs := .inl (.inl (w'.sub _ _ (sb _ _ e)))
    refine ⟨fun d hd => ?_, fun hn => ⟨xs, e', by rw [← t.length]; exact List.getElem?_eq_none_iff.mp hn⟩⟩
    obtain ⟨u, hu, iu⟩ := t.get hd
    refine ⟨⟨xs, u, e', hu⟩, fun x H'' hy => ?_⟩
    obtain ⟨rfl, fx⟩ := hy
    have ex : u = x := Option.some.inj (hu.symm.trans (fx xs e'))
    subst ex
    exact ⟨G', Stp.refl w', iu.mono sb⟩
theorem ei_scr {ns : List Int} (h : Ev K te δ O (.scr ns) O1) : EvI K (iList K te) δ O (ns.map .int) O1 := fun G H σ w s R k =>
  h G H σ w s _ fun v G1 H1 s1 i1 => by
    obtain ⟨p, rfl, e⟩ := i1
    refine ⟨p, rfl, ⟨_, Evl.ex_l s1.wd.sub e⟩, k _ G1 H1 s1 fun G' O' H' sb w' i => ?_⟩
    have e' : SqL K H' p (ns.map V.int) := Evl.ex_l w'.sub (Evl.ex_l sb e)
    refine ⟨fun d hd => ?_, fun hn => ⟨_, e', by rw [List.length_map]; simpa using hn⟩⟩
    rw [List.getElem?_map] at hd
    cases q : ns[i]? with
    | none => rw [q] at hd; cases hd
    | some n =>
      rw [q] at hd
      cases hd
      have hu : (ns.map V.int)[i]? = some (.int n) := by rw [List.getElem?_map, q]; rfl
      refine ⟨⟨_, _, e', hu⟩, fun x H'' hy => ?_⟩
      obtain ⟨rfl, fx⟩ := hy
      have ex : V.int n = x := Option.some.inj (hu.symm.trans (fx _ e'))
      subst ex
      exact ⟨G', Stp.refl w', rfl⟩
/-- the ints of a range -/
def rng (lo : Int) (n : Nat) : List D := (List.range n).map fun k => .int (lo + (k : Nat))
theorem itr_ok {lo : Int} {n : Nat} {G : Hp} : ItOk K (Itr lo n) G (rng lo n) := fun G' O' H' sb w' i => by
  refine ⟨fun d hd => ?_, fun hn => ?_⟩
  · unfold rng at hd
    rw [List.getElem?_map] at hd
    by_cases h : i < n
    · rw [List.getElem?_range h] at hd
      cases hd
      refine ⟨h, fun x H'' hy => ?_⟩
      obtain ⟨rfl, rfl⟩ := hy
      exact ⟨G', Stp.refl w', rfl⟩
    · rw [List.getElem?_eq_none (by simpa using h)] at hd; cases hd
  · unfold rng at hn
    rw [List.getElem?_eq_none_iff, List.length_map, List.length_range] at hn
    exact hn
theorem ei_rng1 {ta : TA} (h : EvA K ta δ O [.int j] O1) (hj : -1000000 ≤ j ∧ j ≤ 1000000) : EvI K (iRng1 ta) δ O (rng 0 j.toNat) O1 := fun G H σ w s R k =>
  h G H σ w s _ fun vs G1 H1 s1 i1 => by
    obtain ⟨v, rfl, a⟩ := isL1 i1
    cases a
    exact ⟨j, rfl, by omega, by omega, k _ G1 H1 s1 itr_ok⟩
theorem ei_rng2 {ta : TA} (h : EvA K ta δ O [.int i, .int j] O1) (hi : -1000000 ≤ i ∧ i ≤ 1000000) (hj : -1000000 ≤ j ∧ j ≤ 1000000) : EvI K (iRng2 ta) δ O (rng i (j - i).toNat) O1 := fun G H σ w s R k =>
  h G H σ w s _ fun vs G1 H1 s1 i1 => by
    obtain ⟨v, u, rfl, a, b⟩ := isL2 i1
    cases a; cases b
    exact ⟨i, j, rfl, by omega, k _ G1 H1 s1 itr_ok⟩
/-! ### comprehensions -/
def wipeD (δ : Sl) : List Nat → Sl
  | [] => δ
  | v :: vs => (wipeD δ vs).set v none
theorem wipeD_is {G : Hp} {σ : St} (s : SlIs K G δ σ) : ∀ vs : List Nat, SlIs K G (wipeD δ vs) (wipe σ vs)
  | [] => s
  | v :: vs => by
    have h := wipeD_is s vs
    refine ⟨by simp [wipe, wipeD, h.len], fun i d e => ?_⟩
    show ∃ u, ((wipe σ vs).set v none)[i]? = _ ∧ _
    have e : ((wipeD δ vs).set v none)[i]? = some (some d) := e
    by_cases q : v = i
    · subst q
      by_cases l : v < (wipeD δ vs).length
      · rw [List.getElem?_set_self l] at e; cases e
      · rw [List.getElem?_eq_none (by simpa using l)] at e; cases e
    · rw [List.getElem?_set_ne q] at e ⊢
      exact h.at_ i d e
theorem wipe_get {σ : St} {n : Nat} : ∀ {vs : List Nat}, (wipe σ vs)[n]? = if n ∈ vs then (if n < σ.length then some none else none) else σ[n]?
  | [] => by simp [wipe]
  | v :: vs => by
    show ((wipe σ vs).set v none)[n]? = _
    by_cases q : v = n
    · subst q
      by_cases l : v < σ.length
      · rw [List.getElem?_set_self (by rw [wipe_length]; exact l)]; simp [l]
      · rw [List.getElem?_eq_none (by rw [List.length_set, wipe_length]; omega)]; simp [l]
    · rw [List.getElem?_set_ne q, wipe_get (vs := vs)]
      have e : (n ∈ v :: vs) = (n ∈ vs) := by simp [List.mem_cons, Ne.symm q]
      simp only [e]
theorem wipe_set {σ τ : St} {v : Option V} {j : Nat} {vs : List Nat} (hj : j ∈ vs) (h : wipe τ vs = wipe σ vs) : wipe (τ.set j v) vs = wipe σ vs := by
  rw [← h]
  refine List.ext_getElem? fun n => ?_
  rw [wipe_get, wipe_get, List.length_set]
  by_cases q : n ∈ vs
  · rw [if_pos q, if_pos q]
  · rw [if_neg q, if_neg q, List.getElem?_set_ne (fun (z : j = n) => q (by rw [← z]; exact hj))]
theorem wipe_wipe {σ : St} {vs : List Nat} : wipe (wipe σ vs) vs = wipe σ vs := by
  refine List.ext_getElem? fun n => ?_
  rw [wipe_get, wipe_length]
  by_cases q : n ∈ vs
  · rw [if_pos q, wipe_get, if_pos q]
  · rw [if_neg q]
/-- a target within a comprehension: its own slots alone are stored -/
def Gc (K : PySem.W.Frag) (g : TG) (vs : List Nat) (x : D) (δ δ2 : Sl) : Prop :=
  ∀ G H σ τ v, SlIs K G δ τ → wipe τ vs = wipe σ vs → Sub G H → Is K G x v → ∀ Q : St → Hp → Prop, (∀ σ2, wipe σ2 vs = wipe σ vs → SlIs K G δ2 σ2 → Q σ2 H) → g v τ H Q
theorem gc_name {vs : List Nat} {j : Nat} (hj : j ∈ vs) : Gc K (gName j) vs x δ (δ.set j (some x)) := fun G H σ τ v s e _ iv Q k => k _ (wipe_set hj e) (s.set iv)
theorem gc_tup2 {vs : List Nat} {i j : Nat} (hi : i ∈ vs) (hj : j ∈ vs) : Gc K (gTup K 2 (gCons (gName i) (gCons (gName j) gNil))) vs (.tup [x, y]) δ ((δ.set i (some x)).set j (some y)) := fun G H σ τ v s e sb iv Q k => by
  obtain ⟨p, xs, rfl, e1, t⟩ := iv
  obtain ⟨a, b, rfl, ia, ib⟩ := isL2 t
  exact ⟨p, _, rfl, .inl (.inl (sb _ _ e1)), rfl, a, [b], rfl, b, [], rfl, rfl, k _ (wipe_set hj (wipe_set hi e)) ((s.set ia).set ib)⟩
/-- the run of a comprehension over its items -/
inductive Cp (K : PySem.W.Frag) (g : TG) (tt : TT) (te : TE) (vs : List Nat) (δ : Sl) : List D → Ow → List D → Ow → Prop
  | nil {O : Ow} : Cp K g tt te vs δ [] O [] O
  | yes {O O1 O2 O3 : Ow} {x d : D} {items out : List D} (δ2 : Sl) (h : Gc K g vs x δ δ2) (h1 : EvT K tt δ2 O true O1) (h2 : Ev K te δ2 O1 d O2) (t : Cp K g tt te vs δ items O2 out O3) : Cp K g tt te vs δ (x :: items) O (d :: out) O3
  | no {O O1 O3 : Ow} {x : D} {items out : List D} (δ2 : Sl) (h : Gc K g vs x δ δ2) (h1 : EvT K tt δ2 O false O1) (t : Cp K g tt te vs δ items O1 out O3) : Cp K g tt te vs δ (x :: items) O out O3
theorem Stp.writeF {G G' H H' : Hp} {O' : Ow} {a : Addr} {o : HO} (s : Stp K G O H G' O' H') (h1 : H a = none) (h2 : G' a = none) (h3 : O' a = none) : Stp K G O H G' O' (upd H' a o) where
  wd := ⟨fun b u e => by rw [upd_ne (ne_of_none e h2)]; exact s.wd.sub b u e, fun q m e => by
    have n : q ≠ a := fun z => by subst z; rw [h3] at e; cases e
    have i : MoIs K G' H' q m := (s.wd.own q m e).2
    exact ⟨(s.wd.own q m e).1, i.mono (Sub.refl _) fun u z => by rw [upd_ne n]; exact z⟩⟩
  ex := s.ex
  keep := fun b u e n => by rw [upd_ne (ne_of_none e h1)]; exact s.keep b u e n
  fresh := s.fresh
theorem Stp.pubF {G G' H H' : Hp} {O' : Ow} {a : Addr} {o : HO} (s : Stp K G O H G' O' H') (h1 : H a = none) (h2 : G' a = none) (h3 : O' a = none) (h4 : H' a = some o) : Stp K G O H (upd G' a o) O' H' where
  wd := ⟨fun b u e => by
      by_cases q : b = a
      · subst q; rw [upd_same] at e; rw [h4]; exact e
      · rw [upd_ne q] at e; exact s.wd.sub b u e, fun q m e => by
    have n : q ≠ a := fun z => by subst z; rw [h3] at e; cases e
    have i : MoIs K G' H' q m := (s.wd.own q m e).2
    exact ⟨by rw [upd_ne n]; exact (s.wd.own q m e).1, i.mono (fun b u z => by rw [upd_ne (ne_of_none z h2)]; exact z) fun u z => z⟩⟩
  ex := fun b u e => by rw [upd_ne (ne_of_none (s.ex b u e) h2)]; exact s.ex b u e
  keep := s.keep
  fresh := fun b u e n g => ⟨by rw [upd_ne (ne_of_none e h1)]; exact (s.fresh b u e n g).1, (s.fresh b u e n g).2⟩
theorem Cp.length {tt : TT} {vs : List Nat} {items out : List D} (c : Cp K g tt te vs δ items O out O1) : out.length ≤ items.length := by
  induction c with
  | nil => exact Nat.le_refl _
  | yes _ _ _ _ _ ih => simp only [List.length_cons]; omega
  | no _ _ _ _ ih => simp only [List.length_cons]; omega
theorem ev_lc {wi : TI} {tt : TT} {vs : List Nat} {items out : List D} (hi : EvI K wi δ O items O1) (hc : Cp K g tt te vs (wipeD δ vs) items O1 out O2) (hz : items.length ≤ 50000) : Ev K (tLc wi g tt te vs) δ O (.lst out) O2 := fun G H σ w s Q k =>
  hi G H σ w s _ fun J G1 H1 s1 ok D hD => by
    refine ⟨fun i m H' => i + m = items.length ∧ ∃ O' G' done rest acc, Cp K g tt te vs (wipeD δ vs) (items.drop i) O' rest O2 ∧ done ++ rest = out ∧ done.length ≤ i ∧ Stp K G1 O1 H1 G' O' H' ∧ G' D = none ∧ O' D = none ∧ H' D = some (.lst acc) ∧ IsL K G' done acc,
      ⟨items.length, by omega, O1, G1, [], out, [], hc, rfl, Nat.le_refl _, Stp.newF s1.wd hD, s1.wd.gNone hD, s1.wd.oNone hD, upd_same, rfl⟩, fun i m H' hW => ?_⟩
    obtain ⟨em, O', G', done, rest, acc, cp, eo, ld, st, gD, oD, hD', il⟩ := hW
    obtain ⟨go, stop⟩ := ok G' O' H' st.ex st.wd i
    by_cases hl : i < items.length
    · obtain ⟨g1, g2⟩ := go items[i] (List.getElem?_eq_getElem hl)
      refine .inr ⟨g1, fun H2 => ∃ O' G' done rest acc, Cp K g tt te vs (wipeD δ vs) (items.drop (i + 1)) O' rest O2 ∧ done ++ rest = out ∧ done.length ≤ i + 1 ∧ Stp K G1 O1 H1 G' O' H2 ∧ G' D = none ∧ O' D = none ∧ H2 D = some (.lst acc) ∧ IsL K G' done acc,
        fun H2 q => ⟨m - 1, by omega, by omega, q⟩, fun x H2 hy => ?_⟩
      obtain ⟨G2, st2, ix⟩ := g2 x H2 hy
      have d2 := st2.fresh D _ hD' oD gD
      have k2 := st2.keep D _ hD' oD
      rw [List.drop_eq_getElem_cons hl] at cp
      have sl2 : SlIs K G2 (wipeD δ vs) (wipe σ vs) := wipeD_is (s.mono ((s1.ex.trans st.ex).trans st2.ex)) vs
      cases cp with
      | @yes _ O3 O4 _ _ d _ out' δ2 h h1 h2 t =>
        refine h G2 H2 σ (wipe σ vs) x sl2 wipe_wipe st2.wd.sub ix _ fun σ2 ew sl => ⟨ew, h1 G2 H2 σ2 st2.wd sl _ fun G3 H3 s3 => iteT (h2 G3 H3 σ2 s3.wd (sl.mono s3.ex) _ fun y G4 H4 s4 iy => ?_)⟩
        have d3 := s3.fresh D _ k2 d2.2 d2.1
        have k3 := s3.keep D _ k2 d2.2
        have d4 := s4.fresh D _ k3 d3.2 d3.1
        have k4 := s4.keep D _ k3 d3.2
        have sx := ((st.trans st2).trans s3).trans s4
        refine ⟨acc, k4, ?_, O4, G4, done ++ [d], out', acc ++ [y], t, by rw [List.append_assoc]; exact eo, by rw [List.length_append]; simp; exact ld, sx.writeF hD d4.1 d4.2, d4.1, d4.2, upd_same, (il.mono (st2.ex.trans (s3.ex.trans s4.ex))).append ⟨y, [], rfl, iy, rfl⟩⟩
        rw [← il.length]
        exact Evl.sz_lt (by omega)
      | @no _ O3 _ _ _ out' δ2 h h1 t =>
        refine h G2 H2 σ (wipe σ vs) x sl2 wipe_wipe st2.wd.sub ix _ fun σ2 ew sl => ⟨ew, h1 G2 H2 σ2 st2.wd sl _ fun G3 H3 s3 => iteF ?_⟩
        have d3 := s3.fresh D _ k2 d2.2 d2.1
        have k3 := s3.keep D _ k2 d2.2
        exact ⟨O3, G3, done, rest, acc, t, eo, by omega, (st.trans st2).trans s3, d3.1, d3.2, k3, il.mono (st2.ex.trans s3.ex)⟩
    · refine .inl ⟨stop (List.getElem?_eq_none (by omega)), ?_⟩
      rw [List.drop_eq_nil_of_le (by omega)] at cp
      cases cp
      rw [List.append_nil] at eo
      subst eo
      have sp := st.pubF hD gD oD hD'
      exact k _ _ _ (s1.trans sp) ⟨D, acc, rfl, upd_same, il.mono fun b u e => by rw [upd_ne (ne_of_none e gD)]; exact e⟩
theorem cp_map {α : Type} {tt : TT} {vs : List Nat} (l : List α) (enc f : α → D) (δ2 : α → Sl) (h : ∀ a ∈ l, Gc K g vs (enc a) δ (δ2 a) ∧ EvT K tt (δ2 a) O true O ∧ Ev K te (δ2 a) O (f a) O) : Cp K g tt te vs δ (l.map enc) O (l.map f) O := by
  induction l with
  | nil => exact .nil
  | cons a r ih =>
    obtain ⟨h1, h2, h3⟩ := h a (List.mem_cons_self ..)
    exact .yes _ h1 h2 h3 (ih fun b hb => h b (List.mem_cons_of_mem _ hb))
theorem cp_filter {α : Type} {tt : TT} {vs : List Nat} (l : List α) (enc f : α → D) (δ2 : α → Sl) (q : α → Bool) (h : ∀ a ∈ l, Gc K g vs (enc a) δ (δ2 a) ∧ EvT K tt (δ2 a) O (q a) O ∧ (q a = true → Ev K te (δ2 a) O (f a) O)) : Cp K g tt te vs δ (l.map enc) O ((l.filter q).map f) O := by
  induction l with
  | nil => exact .nil
  | cons a r ih =>
    obtain ⟨h1, h2, h3⟩ := h a (List.mem_cons_self ..)
    have t := ih fun b hb => h b (List.mem_cons_of_mem _ hb)
    cases e : q a with
    | true => rw [List.filter_cons, e, if_pos rfl]; rw [e] at h2; exact .yes _ h1 h2 (h3 e) t
    | false => rw [List.filter_cons, e]; rw [e] at h2; exact .no _ h1 h2 t
theorem et_yes : EvT K tYes δ O true O := fun G H σ w s Q k => k G H (Stp.refl w)
/-! ### a def's body -/
def startD (N : List Str) (ds : List D) : Sl := ds.map some ++ List.replicate (N.length - ds.length) none
theorem start_is {G : Hp} {N : List Str} : ∀ {ds : List D} {vs : List V}, IsL K G ds vs → SlIs K G (startD N ds) (start N vs) := fun {ds vs} h => by
  refine ⟨by simp [startD, L2.start, h.length], fun i d e => ?_⟩
  unfold startD at e
  unfold L2.start
  by_cases l : i < ds.length
  · rw [List.getElem?_append_left (by simpa using l), List.getElem?_map] at e
    cases q : ds[i]? with
    | none => rw [q] at e; cases e
    | some d' =>
      rw [q] at e
      cases e
      obtain ⟨v, hv, iv⟩ := h.get q
      exact ⟨v, by rw [List.getElem?_append_left (by rw [List.length_map, ← h.length]; exact l), List.getElem?_map, hv]; rfl, iv⟩
  · rw [List.getElem?_append_right (by simpa using l)] at e
    rw [List.getElem?_replicate] at e
    split at e <;> cases e
theorem body_of {R : DR} {N : List Str} {vs : List V} {H : Hp} {Q : VK} {E : XK} (hsp : SpD K R vs H Q E) (h : ∀ ds O Post, R ds O Post → Sd K ts ⟨fun _ O' => Post .non O', Post, fun _ _ => False, fun _ _ => False⟩ (startD N ds) O) : ts { nx := fun _ H' => Q .non H', rt := Q } (start N vs) H := by
  obtain ⟨G, O, ds, Post, w, i, hr, k⟩ := hsp
  exact h ds O Post hr G H _ _ w (start_is i) ⟨fun δ' O' G' H' σ' p st _ => k .non O' .non G' H' p st rfl, fun d O' G' H' v p st iv => k d O' v G' H' p st iv, fun _ _ _ _ _ p => p.elim, fun _ _ _ _ _ p => p.elim⟩
end
/-- THE RULE for a def over data -/
theorem fnD {P : Program} {w : World} {K : PySem.W.Frag} {mg : Str → Option Value} {base : Heap} {x qual : Str} {st : Stmt} {f : Addr} {fd : FuncData} {N ps : List Str} {k : Nat} {R : DR} (F : Fun K x qual st f fd) (S : FnScope N ps (defScope st)) (hb : Binds K fd ps [])
    (len : ∀ ds O Post, R ds O Post → ds.length = ps.length)
    (hbody : ∀ (cdv : Value) (A : Around) (outer : List Env) (s : Shared) (H : Hp) (E : XK), Room k (A.deeper (PyProof.Rows.envOfC qual (defScope st) s.heap.objs.size f cdv)) →
      ∃ t, PSs (cxOf (L2.CX P w) P w K mg base N qual (defScope st) f cdv A outer s H E) (defBody st) t ∧ ∀ ds O Post, R ds O Post → Sd K t ⟨fun _ O' => Post .non O', Post, fun _ _ => False, fun _ _ => False⟩ (startD N ds) O) :
    FnR P w K mg base (L2.CX P w) (k + 1) f (SpD K R) := by
  have F1 : FnOk P w K mg base (L2.CX P w) (k + 1) f fd ps (SpD K R) := by
    refine F.okX S (fun vs H Q E h => ?_) (fun cdv A outer s H vs Q E hr h => ?_)
    · obtain ⟨G, O, ds, Post, _, i, hr, _⟩ := h
      rw [← i.length]; exact len ds O Post hr
    · obtain ⟨t, h1, h2⟩ := hbody cdv A outer s H E hr
      exact ⟨t, h1, body_of h h2⟩
  refine (F1.raw hb .nil).imp fun vs H Q E h => ?_
  rw [List.append_nil]; exact h
end DL

set_option Elab.async false
set_option linter.all false
set_option maxRecDepth 100000
/-! rules of syntax that the layer lacks, and what they do to data -/
namespace DL
open PySem PySem.Spec L2
open PyProof.Rows hiding St
def tRun (sp : Sp) (E : XK) (t : TA) : TE := fun σ H Q => t σ H fun vs H1 => sp vs H1 Q E
section
variable {X : Cx} {CX : CXT} {k i : Nat} {f C : Addr} {sp : Sp} {E : XK} {x m : Str} {e o : Expr} {es : List Expr} {te ta tb : TE} {t : TA} {p sp_ pos apos : Pos}
/-! ### calls of defs by a positional promise -/
theorem pe_run (F : FnR X.prog X.w X.K X.mg X.base CX k f sp) (hr : Room k X.A) (hk : PySem.W.keepIn X.K (.ref f) = true) (hm : X.mg x = some (.ref f)) (hx : Passes CX X E) (ha : PA X (e :: es) t) (hg : Gl X x := by rfl) (hdb : (x == ("__debug__" : Str)) = false := by decide)
    (he : starEach (e :: es) X.env = (false, eval e X.env) :: starEach es X.env := by rfl) (hpl : (backTo pos (starEach es X.env)).any (·.1) = false := by rfl) :
    PE X (.Call (.Name x p) (e :: es) [] pos) (tRun sp E t) := by
  refine ⟨fun pins s σ H Q I h => ?_⟩
  refine wpAny_Call_Name_kw (ld_glob I hg hm ?_ hdb)
  refine PySem.W.callWith_K (h₀ := X.base) I.ok.mod.kin hk (thn (ha.run pos pins s σ H _ I h) fun us s1 ⟨vs, H1, I1, r, q⟩ => ⟨I1.kIn, ?_⟩) he hpl
  exact wpAny_call (run_fnR F hr hx I1 r q)
theorem pe_runS (F : FnR X.prog X.w X.K X.mg X.base CX k f sp) (hr : Room k X.A) (hk : PySem.W.keepIn X.K (.ref f) = true) (hm : X.mg x = some (.ref f)) (hx : Passes CX X E) (ha : PA X (e :: es) t) (hg : Gl X x := by rfl) (hdb : (x == ("__debug__" : Str)) = false := by decide)
    (he : starEach (e :: es) X.env = (false, eval e X.env) :: starEach es X.env := by rfl) (hst : (backTo pos (starEach es X.env)).any (·.1) = true := by rfl) :
    PE X (.Call (.Name x p) (e :: es) [] pos) (tRun sp E t) := StX.pe_callS2 F hr hk hg hm hx ha hdb he hst
/-! ### a class's instance made -/
/-- C() -/
theorem pe_mk0 (M : Mk X.K C f) (F : FnR X.prog X.w X.K X.mg X.base CX k f sp) (hr : Room (k + 1) X.A) (hm : X.mg x = some (.ref C)) (hx : Passes CX X E) (hg : Gl X x := by rfl) (hdb : (x == ("__debug__" : Str)) = false := by decide) :
    PE X (.Call (.Name x p) [] [] pos) (StX.tMakeR C sp E tNil) := by
  refine ⟨fun pins s σ H Q I h => ?_⟩
  refine wpAny_Call_Name_kw (ld_glob I hg hm ?_ hdb)
  exact PySem.W.callWith_K0 I.kIn M.kp (StX.run_makeR (us := []) M F hr hx I .nil h)
/-- C(e, .., *y) -/
theorem pe_mkS2 (M : Mk X.K C f) (F : FnR X.prog X.w X.K X.mg X.base CX k f sp) (hr : Room (k + 1) X.A) (hm : X.mg x = some (.ref C)) (hx : Passes CX X E) (ha : PA X (e :: es) t) (hg : Gl X x := by rfl) (hdb : (x == ("__debug__" : Str)) = false := by decide)
    (he : starEach (e :: es) X.env = (false, eval e X.env) :: starEach es X.env := by rfl) (hst : (backTo pos (starEach es X.env)).any (·.1) = true := by rfl) : PE X (.Call (.Name x p) (e :: es) [] pos) (StX.tMakeR C sp E t) := by
  refine ⟨fun pins s σ H Q I h => ?_⟩
  refine wpAny_Call_Name_kw (ld_glob I hg hm ?_ hdb)
  refine PySem.W.callWith_S2 (h₀ := X.base) I.ok.mod.kin M.kp (thn (ha.run pos pins s σ H _ I h) fun us s1 ⟨vs, H1, I1, r, q⟩ => ⟨I1.kIn, ?_⟩) he hst
  exact StX.run_makeR M F hr hx I1 r q
/-- C( *y) -/
theorem pe_mkS1 (M : Mk X.K C f) (F : FnR X.prog X.w X.K X.mg X.base CX k f sp) (hr : Room (k + 1) X.A) (hm : X.mg x = some (.ref C)) (hx : Passes CX X E) (he : PE X e te) (hg : Gl X x := by rfl) (hdb : (x == ("__debug__" : Str)) = false := by decide)
    (hst : starEach [.Starred e sp_] X.env = [(true, eval e X.env)] := by rfl) : PE X (.Call (.Name x p) [.Starred e sp_] [] pos) (StX.tMakeR C sp E (StX.tStar X.K te tNil)) := by
  refine ⟨fun pins s σ H Q I h => ?_⟩
  refine wpAny_Call_Name_kw (ld_glob I hg hm ?_ hdb)
  refine PySem.W.callWith_S (h₀ := X.base) I.ok.mod.kin M.kp (thn (he.run pins s σ H _ I h) fun v s1 ⟨y, H1, I1, ry, a, xs, ey, hxs, q⟩ => ?_) hst
  subst ey
  obtain rfl : v = Value.ref a := ry
  refine StX.star_any I1 hxs fun us s2 I2 rv => ⟨I2.kIn, ?_⟩
  have q' : ∀ x dx, H1 x = Option.none → H1 dx = Option.none → dx ≠ x → sp (V.ref x :: (xs ++ [])) (upd (upd H1 dx (.own x)) x (.ins C dx [])) (fun v H2 => v = .non ∧ Q (.ref x) H2) E := q
  rw [List.append_nil] at q'
  exact StX.run_makeR M F hr hx I2 rv q'
/-- x(e, ..), x a local that holds the class -/
def tIsC (C : Addr) (i : Nat) (t : TE) : TE := fun σ H Q => σ[i]? = some (some (.ref C)) ∧ t σ H Q
theorem pe_mkL (M : Mk X.K C f) (F : FnR X.prog X.w X.K X.mg X.base CX k f sp) (hr : Room (k + 1) X.A) (hx : Passes CX X E) (ha : PA X (e :: es) t) (hN : X.N[i]? = some x) (hv : Vis X.env.scope x) (hd : (x == ("__debug__" : Str)) = false := by decide) (hcd : (x == ("__classdict__" : Str)) = false := by decide)
    (he : starEach (e :: es) X.env = (false, eval e X.env) :: starEach es X.env := by rfl) (hpl : (backTo pos (starEach es X.env)).any (·.1) = false := by rfl) : PE X (.Call (.Name x p) (e :: es) [] pos) (tIsC C i (StX.tMakeR C sp E t)) := by
  refine ⟨fun pins s σ H Q I h => ?_⟩
  obtain ⟨hs, h⟩ := h
  refine wpAny_Call_Name_kw (thn ((pe_var (pos := p) (i := i) hN hv hd hcd).run pins s σ H (fun v H1 => v = .ref C ∧ H1 = H) I ⟨.ref C, hs, rfl, rfl⟩) fun u s1 ⟨v, H1, I1, r1, q1⟩ => ?_)
  obtain ⟨ev, eH⟩ := q1
  subst ev
  rw [eH] at I1
  obtain rfl : u = Value.ref C := r1
  refine PySem.W.callWith_K (h₀ := X.base) I.ok.mod.kin M.kp (thn (ha.run pos pins s1 σ H _ I1 h) fun us s2 ⟨vs, H2, I2, r, q⟩ => ⟨I2.kIn, ?_⟩) he hpl
  exact StX.run_makeR M F hr hx I2 r q
theorem pe_mkLS (M : Mk X.K C f) (F : FnR X.prog X.w X.K X.mg X.base CX k f sp) (hr : Room (k + 1) X.A) (hx : Passes CX X E) (ha : PA X (e :: es) t) (hN : X.N[i]? = some x) (hv : Vis X.env.scope x) (hd : (x == ("__debug__" : Str)) = false := by decide) (hcd : (x == ("__classdict__" : Str)) = false := by decide)
    (he : starEach (e :: es) X.env = (false, eval e X.env) :: starEach es X.env := by rfl) (hst : (backTo pos (starEach es X.env)).any (·.1) = true := by rfl) : PE X (.Call (.Name x p) (e :: es) [] pos) (tIsC C i (StX.tMakeR C sp E t)) := by
  refine ⟨fun pins s σ H Q I h => ?_⟩
  obtain ⟨hs, h⟩ := h
  refine wpAny_Call_Name_kw (thn ((pe_var (pos := p) (i := i) hN hv hd hcd).run pins s σ H (fun v H1 => v = .ref C ∧ H1 = H) I ⟨.ref C, hs, rfl, rfl⟩) fun u s1 ⟨v, H1, I1, r1, q1⟩ => ?_)
  obtain ⟨ev, eH⟩ := q1
  subst ev
  rw [eH] at I1
  obtain rfl : u = Value.ref C := r1
  refine PySem.W.callWith_S2 (h₀ := X.base) I.ok.mod.kin M.kp (thn (ha.run pos pins s1 σ H _ I1 h) fun us s2 ⟨vs, H2, I2, r, q⟩ => ⟨I2.kIn, ?_⟩) he hst
  exact StX.run_makeR M F hr hx I2 r q
/-! ### a property by a positional promise -/
def tPropR (C : Addr) (sp : Sp) (E : XK) (ta : TE) : TE := fun σ H Q => ta σ H fun x H1 => ∃ a dx fs, x = .ref a ∧ H1 a = some (.ins C dx fs) ∧ sp [.ref a] H1 Q E
theorem pe_propR {pp g : Addr} {fn : Str} (he : PE X e ta) (c : Cls X.K C) (hp : PropOf X.K C fn pp g) (F : FnR X.prog X.w X.K X.mg X.base CX k g sp) (hr : Room (k + 1) X.A) (hx : ∀ (H : Hp) (s : Shared) (e : Value) (s' : Shared), CX X.stack H s E e s' → False)
    (hab : attributeBase e fn X.env (eval e X.env) = eval e X.env := by rfl) : PE X (.Attribute e fn pos) (tPropR C sp E ta) := by
  refine ⟨fun pins s σ H Q I h => ?_⟩
  refine attr_of hab (thn (he.run pins s σ H _ I h) fun u s1 ⟨x, H1, I1, rx, a, dx, fs, ex, ea, q⟩ => ?_)
  subst ex
  obtain rfl : u = Value.ref a := rx
  obtain ⟨mA, Ob, r, _, _, _⟩ := ins_get I1.hok ea
  obtain ⟨od, J, hl⟩ := Ob.look
  obtain ⟨rest, hrec⟩ := hp.rec_
  have I2 : Inv X pins σ H1 { s1 with toks := s1.toks + 1 } := I1.tok (s1.toks + 1)
  have hc : (PySem.W.clsIn X.K C).isSome = true := by
    obtain ⟨cd, hc, _⟩ := PySem.W.any_some c.hd
    rw [hc]
    rfl
  refine PySem.W.get_bind I1.kIn J (PySem.W.plainGet_of (c.get fn)).1 (PySem.W.findObj_data hc hp.at_ hp.get hp.tak) (PySem.W.plainGet_of (c.get fn)).2 (wpAny_call (PySem.W.prop_get (s := { s1 with toks := s1.toks + 1 }) I1.kIn hrec ?_))
  refine codeAny_mono (F X.A.in1 X.stack { s1 with toks := s1.toks + 1 } H1 [.ref a] [.ref a] Q E hr.in1 I2.env0.in1 (.cons rfl .nil) q) fun r s' hq => ?_
  cases r with
  | error e => exact (hx _ _ _ _ hq).elim
  | ok fl =>
    cases fl with
    | ret u =>
      obtain ⟨v, H', I3, rv, q⟩ := I2.after hq
      exact wpAny_of_eq (PySem.W.handedOut_of (handed_of rv)) ⟨v, H', I3, rv, q⟩
    | next => exact False.elim hq
    | brk => exact False.elim hq
    | cont => exact False.elim hq
/-! ### operators of own classes -/
theorem inst_at {pins : List (Addr × Obj)} {σ : St} {H : Hp} {s : Shared} {a dx : Addr} {fs : List (Str × V)} (I : Inv X pins σ H s) (h : H a = some (.ins C dx fs)) : ∃ od, PySem.W.InstAt s.heap a (PySem.W.instObj C dx) C (some od) := by
  obtain ⟨mA, Ob, _, _, _, _⟩ := ins_get I.hok h
  obtain ⟨od, J, _⟩ := Ob.look
  exact ⟨od, J⟩
def rOwnS (C : Addr) (sp : Sp) (E : XK) : R2 := fun x y H Q => ∃ a dx fs b dy gs, x = .ref a ∧ y = .ref b ∧ H a = some (.ins C dx fs) ∧ H b = some (.ins C dy gs) ∧ sp [x, y] H Q E
theorem op_ownS {op : Operator} (hc : PySem.W.selfFirst X.K C = true) (hs : PySem.W.findIn X.K (.ref C) (PySem.dunder op.info.2) = some (some (.ref f))) (hf : PySem.W.isFn X.K (.ref f) = true) (F : FnR X.prog X.w X.K X.mg X.base CX k f sp) (hr : Room k X.A) (hx : Passes CX X E) :
    OpR X (binaryOp op) (rOwnS C sp E) := by
  intro pins s σ H x y v u Q I rx ry h
  obtain ⟨a, dx, fs, b, dy, gs, rfl, rfl, ha, hb, q⟩ := h
  cases (show v = Value.ref a from rx)
  cases (show u = Value.ref b from ry)
  obtain ⟨od, J⟩ := inst_at I ha
  obtain ⟨od', J'⟩ := inst_at I hb
  obtain ⟨m, hF⟩ := I.fr
  refine PySem.W.binop_K hF I.ok.mod.kin J J'.type hc hs hf ?_
  refine wpAny_mono (wpAny_call (run_fnR (us := [.ref a, .ref b]) (vs := [.ref a, .ref b]) F hr hx I (.cons rfl (.cons rfl .nil)) q)) (fun w s' z => ?_) fun _ _ x => x
  obtain ⟨z', H', I', rz, qz⟩ := z
  exact SlX.cmpback rz ⟨z', H', I', rz, qz⟩
/-- x op n, n an int -/
def rOwnI (C : Addr) (sp : Sp) (E : XK) : R2 := fun x y H Q => ∃ a dx fs i, x = .ref a ∧ y = .int i ∧ H a = some (.ins C dx fs) ∧ sp [x, y] H Q E
theorem op_ownI {op : Operator} {fo ro rc : Option Value} (hc : PySem.W.selfFirst X.K C = true) (hs : PySem.W.findIn X.K (.ref C) (PySem.dunder op.info.2) = some (some (.ref f))) (hf : PySem.W.isFn X.K (.ref f) = true) (h3 : PySem.W.findIn X.K (.ref C) (dunderR op.info.2) = some rc) (hp : rc = none ∨ ∃ g : Addr, rc = some (.ref g))
    (h1 : PySem.W.findIn X.K (.type "int") (PySem.dunder op.info.2) = some fo) (h2 : PySem.W.findIn X.K (.type "int") (dunderR op.info.2) = some ro) (hsub : PySem.W.subIn X.K (.type "int") (.ref C) = some false) (F : FnR X.prog X.w X.K X.mg X.base CX k f sp) (hr : Room k X.A) (hx : Passes CX X E) :
    OpR X (binaryOp op) (rOwnI C sp E) := by
  intro pins s σ H x y v u Q I rx ry h
  obtain ⟨a, dx, fs, i, rfl, rfl, ha, q⟩ := h
  cases (show v = Value.ref a from rx)
  obtain ⟨tk, e⟩ := (show ∃ t, u = Value.int i t from ry)
  subst e
  obtain ⟨od, J⟩ := inst_at I ha
  obtain ⟨m, hF⟩ := I.fr
  refine PySem.W.ksp_binT hF I.ok.mod.kin J rfl hc hs hf h3 hp h1 h2 hsub ?_
  refine wpAny_mono (wpAny_call (run_fnR (us := [.ref a, .int i tk]) (vs := [.ref a, .int i]) F hr hx I (.cons rfl (.cons ⟨tk, rfl⟩ .nil)) q)) (fun w s' z => ?_) fun _ _ x => x
  obtain ⟨z', H', I', rz, qz⟩ := z
  exact SlX.cmpback rz ⟨z', H', I', rz, qz⟩
/-- -x -/
def rOwn1 (C : Addr) (sp : Sp) (E : XK) : V → Hp → VK → Prop := fun x H Q => ∃ a dx fs, x = .ref a ∧ H a = some (.ins C dx fs) ∧ sp [x] H Q E
theorem un_own (hs : PySem.W.findIn X.K (.ref C) "__neg__" = some (some (.ref f))) (hf : PySem.W.isFn X.K (.ref f) = true) (F : FnR X.prog X.w X.K X.mg X.base CX k f sp) (hr : Room k X.A) (hx : Passes CX X E) : UnR X (unaryOp .USub) (rOwn1 C sp E) := by
  intro pins s σ H x v Q I rx h
  obtain ⟨a, dx, fs, rfl, ha, q⟩ := h
  cases (show v = Value.ref a from rx)
  obtain ⟨od, J⟩ := inst_at I ha
  obtain ⟨m, hF⟩ := I.fr
  exact PySem.W.ksp_neg hF I.ok.mod.kin J hs hf (wpAny_call (run_fnR (us := [.ref a]) (vs := [.ref a]) F hr hx I (.cons rfl .nil) q))
/-- x[i] -/
def rOwnX (C : Addr) (sp : Sp) (E : XK) : R2 := fun x y H Q => ∃ a dx fs, x = .ref a ∧ H a = some (.ins C dx fs) ∧ sp [x, y] H Q E
theorem pe_ixOwn (hs : PySem.W.findIn X.K (.ref C) "__getitem__" = some (some (.ref f))) (hfi : PySem.W.fnIn X.K f = true) (hf : PySem.W.isFn X.K (.ref f) = true) (F : FnR X.prog X.w X.K X.mg X.base CX k f sp) (hr : Room (k + 1) X.A) (hx : Passes CX X E) (ha : PE X e ta) (hb : PE X o tb)
    (hsl : ∀ a i, subscripted o true (.ref a) i = runValue (.builtin "lifetime.subscript" ⟨[.ref a, i], []⟩) := by intro _ _; with_unfolding_all rfl) : PE X (.Subscript e o pos) (tOp (rOwnX C sp E) ta tb) := by
  refine ⟨fun pins s σ H Q I h => ?_⟩
  refine Subscript_ (binT ha hb I h fun v u s2 x y H2 I2 rx ry q2 => ?_)
  obtain ⟨a, dx, fs, rfl, hh, q⟩ := q2
  cases (show v = Value.ref a from rx)
  obtain ⟨od, J⟩ := inst_at I2 hh
  obtain ⟨m, hF⟩ := I2.fr
  refine PySem.W.sub_K hF I2.ok.mod.kin J hs hfi hf ?_ (hsl a u)
  exact wpAny_call (SlX.run_at (us := [.ref a, u]) (ws := [.ref a, y]) F hr.in1 I2.env0.in1 hx I2 (.cons rfl (.cons ry .nil)) q)
/-- y in x -/
def rOwnIn (C : Addr) (sp : Sp) (E : XK) (neg : Bool) : R2 := fun y x H Q => ∃ a dx fs, x = .ref a ∧ H a = some (.ins C dx fs) ∧ sp [x, y] H (fun z H' => ∃ b, z = .bl b ∧ Q (.bl (if neg then !b else b)) H') E
theorem op_inOwn (hs : PySem.W.findIn X.K (.ref C) "__contains__" = some (some (.ref f))) (hf : PySem.W.isFn X.K (.ref f) = true) (F : FnR X.prog X.w X.K X.mg X.base CX k f sp) (hr : Room k X.A) (hx : Passes CX X E) : OpR X (compareOp .In) (rOwnIn C sp E false) := by
  intro pins s σ H y x u v Q I ry rx h
  obtain ⟨a, dx, fs, rfl, ha, q⟩ := h
  cases (show v = Value.ref a from rx)
  obtain ⟨od, J⟩ := inst_at I ha
  obtain ⟨m, hF⟩ := I.fr
  refine PySem.W.in_K hF I.ok.mod.kin J hs hf (wpAny_mono (wpAny_call (run_fnR (us := [.ref a, u]) (vs := [.ref a, y]) F hr hx I (.cons rfl (.cons ry .nil)) q)) (fun w s' z => ?_) fun _ _ x => x)
  obtain ⟨z', H', I', rz, b, ez, qz⟩ := z
  subst ez
  cases (show w = Value.bool b from rz)
  exact wpAny_truthy_bool ⟨.bl b, H', I', rfl, qz⟩
end
theorem cx0 {P : Program} {w : World} {outer : List Env} {H : Hp} {s s' : Shared} {e : Value} (h : L2.CX P w outer H s E0 e s') : False := by
  obtain ⟨_, _, _, _, _, _, _, _, _, _, _, _, z⟩ := h
  exact z
/-! ### the same over data -/
section
variable {K : PySem.W.Frag} {δ : Sl} {O O1 O2 O3 : Ow} {d x y z : D} {ta tb tc te tv : TE} {t : TA} {i j : Int} {p C : Addr} {ds es : List D} {nm nm' : List Str} {b : Bool} {R : DR} {E : XK} {P : D → Ow → Prop}
theorem evp_run (h : EvA K t δ O ds O1) (hr : R ds O1 P) : EvP K (tRun (SpD K R) E t) δ O P := fun G H σ w s Q k =>
  h G H σ w s _ fun vs G1 H1 s1 i1 => sp_run s1.wd i1 hr fun d O' v G' H' hp st iv => k d O' v G' H' hp (s1.trans st) iv
theorem ev_run (h : EvA K t δ O ds O1) (hr : R ds O1 fun d' O' => d' = d ∧ O' = O2) : Ev K (tRun (SpD K R) E t) δ O d O2 := (evp_run h hr).ev
theorem evp_propR (h : Ev K te δ O (.ins C nm ds) O1) (hr : R [.ins C nm ds] O1 P) : EvP K (tPropR C (SpD K R) E te) δ O P := fun G H σ w s Q k =>
  h G H σ w s _ fun v G1 H1 s1 i1 => by
    have i2 := i1
    obtain ⟨p, dx, xs, rfl, e, _, t⟩ := i2
    exact ⟨p, dx, _, rfl, s1.wd.sub _ _ e, sp_run (ds := [.ins C nm ds]) s1.wd ⟨_, _, rfl, i1, rfl⟩ hr fun d O' v G' H' hp st iv => k d O' v G' H' hp (s1.trans st) iv⟩
theorem ev_propR (h : Ev K te δ O (.ins C nm ds) O1) (hr : R [.ins C nm ds] O1 fun d' O' => d' = d ∧ O' = O2) : Ev K (tPropR C (SpD K R) E te) δ O d O2 := (evp_propR h hr).ev
theorem evp_propO (h : Ev K te δ O (.ref p) O1) (ho : O1 p = some (.ins C nm ds)) (hr : R [.ref p] O1 P) : EvP K (tPropR C (SpD K R) E te) δ O P := fun G H σ w s Q k =>
  h G H σ w s _ fun v G1 H1 s1 i1 => by
    obtain ⟨_, dx, xs, e, _, t⟩ := s1.wd.own p _ ho
    exact ⟨p, dx, _, i1, e, sp_run (ds := [.ref p]) s1.wd ⟨_, _, rfl, rfl, rfl⟩ hr fun d O' v G' H' hp st iv => k d O' v G' H' hp (s1.trans st) iv⟩
theorem lookup_none {G : Hp} {f : Str} : ∀ {nm : List Str} {xs : List V}, f ∉ nm → (nm.zip xs).lookup f = none
  | [], _, _ => by simp
  | _ :: _, [], _ => by simp
  | n :: nm, x :: xs, h => by
    simp only [List.mem_cons, not_or] at h
    simp only [List.zip_cons_cons, List.lookup_cons]
    rw [beq_eq_false_iff_ne.mpr h.1]
    exact lookup_none (G := G) h.2
theorem evp_meth {m : Str} (h : Ev K ta δ O (.ins C nm ds) O1) (hm : m ∉ nm) (ht : EvA K t δ O1 es O2) (hr : R (.ins C nm ds :: es) O2 P) : EvP K (tMethR C m (SpD K R) E ta t) δ O P := fun G H σ w s Q k =>
  h G H σ w s _ fun v G1 H1 s1 i1 => by
    have i2 := i1
    obtain ⟨p, dx, xs, rfl, e, _, _⟩ := i2
    refine ⟨p, dx, _, rfl, s1.wd.sub _ _ e, lookup_none (G := G) hm, ht G1 H1 σ s1.wd (s.mono s1.ex) _ fun vs G2 H2 s2 i3 => ?_⟩
    exact sp_run (ds := .ins C nm ds :: es) s2.wd ⟨_, _, rfl, i1.mono s2.ex, i3⟩ hr fun d O' v G' H' hp st iv => k d O' v G' H' hp ((s1.trans s2).trans st) iv
theorem ev_meth {m : Str} (h : Ev K ta δ O (.ins C nm ds) O1) (hm : m ∉ nm) (ht : EvA K t δ O1 es O2) (hr : R (.ins C nm ds :: es) O2 fun d' O' => d' = d ∧ O' = O3) : Ev K (tMethR C m (SpD K R) E ta t) δ O d O3 := (evp_meth h hm ht hr).ev
theorem evp_methO {m : Str} (h : Ev K ta δ O (.ref p) O1) (ho : O1 p = some (.ins C nm ds)) (hm : m ∉ nm) (ht : EvA K t δ O1 es O2) (hr : R (.ref p :: es) O2 P) : EvP K (tMethR C m (SpD K R) E ta t) δ O P := fun G H σ w s Q k =>
  h G H σ w s _ fun v G1 H1 s1 i1 => by
    have i1 : v = .ref p := i1
    subst i1
    obtain ⟨_, dx, xs, e, _, _⟩ := s1.wd.own p _ ho
    refine ⟨p, dx, _, rfl, e, lookup_none (G := G) hm, ht G1 H1 σ s1.wd (s.mono s1.ex) _ fun vs G2 H2 s2 i3 => ?_⟩
    exact sp_run (ds := .ref p :: es) s2.wd ⟨_, _, rfl, rfl, i3⟩ hr fun d O' v G' H' hp st iv => k d O' v G' H' hp ((s1.trans s2).trans st) iv
/-- a new instance: its __init__ gets it as an owned one without fields -/
theorem evp_mk (h : EvA K t δ O ds O1) (hr : ∀ x, O1 x = none → R (.ref x :: ds) (setO O1 x (.ins C [] [])) fun d' O' => d' = .non ∧ P (.ref x) O') : EvP K (StX.tMakeR C (SpD K R) E t) δ O P := fun G H σ w s Q k =>
  h G H σ w s _ fun vs G1 H1 s1 i1 x dx hx hdx ne => by
    have hxd : (upd H1 dx (.own x)) x = none := by rw [upd_ne (Ne.symm ne)]; exact hx
    have st1 := Stp.newF (o := .own x) s1.wd hdx
    have st2 := Stp.newO (o := .ins C dx []) (m := .ins C [] []) st1.wd hxd ⟨dx, [], upd_same, rfl, rfl⟩
    refine sp_run (ds := .ref x :: ds) st2.wd ⟨_, _, rfl, rfl, i1.mono (st1.trans st2).ex⟩ (hr x (s1.wd.oNone hx)) fun d O' v G' H' hp st iv => ?_
    obtain ⟨rfl, hp⟩ := hp
    exact ⟨iv, k (.ref x) O' _ G' H' hp (s1.trans ((st1.trans st2).trans st)) rfl⟩
/-- .. that is plain data from then on -/
theorem ev_mk (h : EvA K t δ O ds O1) (hr : ∀ x, O1 x = none → R (.ref x :: ds) (setO O1 x (.ins C [] [])) fun d' O' => d' = .non ∧ O' = setO O1 x (.ins C nm es)) : Ev K (StX.tMakeR C (SpD K R) E t) δ O (.ins C nm es) O1 := fun G H σ w s Q k => by
  refine evp_mk (P := fun d O' => ∃ x, O1 x = none ∧ d = .ref x ∧ O' = setO O1 x (.ins C nm es)) h (fun x hx => ?_) G H σ w s Q fun d O' v G' H' hp st iv => ?_
  · have z := hr x hx
    have e : (fun (d' : D) (O' : Ow) => d' = .non ∧ ∃ x', O1 x' = none ∧ D.ref x = .ref x' ∧ O' = setO O1 x' (.ins C nm es)) = fun d' O' => d' = .non ∧ O' = setO O1 x (.ins C nm es) := by
      funext d' O'
      refine propext ⟨fun ⟨a, x', b, c, e⟩ => ?_, fun ⟨a, e⟩ => ⟨a, x, hx, rfl, e⟩⟩
      cases c
      exact ⟨a, e⟩
    rw [e]
    exact z
  · obtain ⟨x, hx, rfl, rfl⟩ := hp
    have iv : v = .ref x := iv
    subst iv
    obtain ⟨_, dx, xs, e, hl, tl⟩ := st.wd.own x _ setO_same
    have st2 := Stp.pubI st.wd setO_same e
    rw [delO_setO hx] at st2
    exact k _ _ _ (st.trans st2) ⟨x, dx, xs, rfl, upd_same, hl, tl.mono st2.ex⟩
theorem ev_isC {k : Nat} (hk : δ[k]? = some (some (.ref C))) (h : Ev K te δ O d O1) : Ev K (tIsC C k te) δ O d O1 := fun G H σ w s Q kk => by
  obtain ⟨v, a, b⟩ := s.at_ k _ hk
  cases (show v = .ref C from b)
  exact ⟨a, h G H σ w s Q kk⟩
theorem ea_starT (h : Ev K te δ O (.tup ds) O1) (ht : EvA K t δ O1 es O2) : EvA K (StX.tStar K te t) δ O (ds ++ es) O2 := fun G H σ w s Q k =>
  h G H σ w s _ fun v G1 H1 s1 i1 => by
    obtain ⟨p, xs, rfl, e, tl⟩ := i1
    exact ⟨p, xs, rfl, .inl (.inl (.inl (s1.wd.sub _ _ e))), ht G1 H1 σ s1.wd (s.mono s1.ex) _ fun vs G2 H2 s2 i2 => k _ G2 H2 (s1.trans s2) ((tl.mono s2.ex).append i2)⟩
theorem ea_starL (h : Ev K te δ O (.lst ds) O1) (ht : EvA K t δ O1 es O2) : EvA K (StX.tStar K te t) δ O (ds ++ es) O2 := fun G H σ w s Q k =>
  h G H σ w s _ fun v G1 H1 s1 i1 => by
    obtain ⟨p, xs, rfl, e, tl⟩ := i1
    exact ⟨p, xs, rfl, .inr (.inl (.inl (s1.wd.sub _ _ e))), ht G1 H1 σ s1.wd (s.mono s1.ex) _ fun vs G2 H2 s2 i2 => k _ G2 H2 (s1.trans s2) ((tl.mono s2.ex).append i2)⟩
theorem evp_ownS (ha : Ev K ta δ O (.ins C nm ds) O1) (hb : Ev K tb δ O1 (.ins C nm' es) O2) (hr : R [.ins C nm ds, .ins C nm' es] O2 P) : EvP K (tOp (rOwnS C (SpD K R) E) ta tb) δ O P := fun G H σ w s Q k =>
  ha G H σ w s _ fun v G1 H1 s1 i1 => hb G1 H1 σ s1.wd (s.mono s1.ex) _ fun u G2 H2 s2 i2 => by
    have j1 := i1.mono s2.ex
    have k1 := j1
    have k2 := i2
    obtain ⟨p, dx, xs, rfl, e, _, _⟩ := k1
    obtain ⟨q, dy, ys, rfl, e', _, _⟩ := k2
    exact ⟨p, dx, _, q, dy, _, rfl, rfl, s2.wd.sub _ _ e, s2.wd.sub _ _ e', sp_run (ds := [.ins C nm ds, .ins C nm' es]) s2.wd ⟨_, _, rfl, j1, _, _, rfl, i2, rfl⟩ hr fun d O' v G' H' hp st iv => k d O' v G' H' hp ((s1.trans s2).trans st) iv⟩
theorem ev_ownS (ha : Ev K ta δ O (.ins C nm ds) O1) (hb : Ev K tb δ O1 (.ins C nm' es) O2) (hr : R [.ins C nm ds, .ins C nm' es] O2 fun d' O' => d' = d ∧ O' = O3) : Ev K (tOp (rOwnS C (SpD K R) E) ta tb) δ O d O3 := (evp_ownS ha hb hr).ev
theorem ev_ownI (ha : Ev K ta δ O (.ins C nm ds) O1) (hb : Ev K tb δ O1 (.int i) O2) (hr : R [.ins C nm ds, .int i] O2 fun d' O' => d' = d ∧ O' = O3) : Ev K (tOp (rOwnI C (SpD K R) E) ta tb) δ O d O3 := EvP.ev fun G H σ w s Q k =>
  ha G H σ w s _ fun v G1 H1 s1 i1 => hb G1 H1 σ s1.wd (s.mono s1.ex) _ fun u G2 H2 s2 i2 => by
    have j1 := i1.mono s2.ex
    have k1 := j1
    obtain ⟨p, dx, xs, rfl, e, _, _⟩ := k1
    exact ⟨p, dx, _, i, rfl, i2, s2.wd.sub _ _ e, sp_run (ds := [.ins C nm ds, .int i]) s2.wd ⟨_, _, rfl, j1, _, _, rfl, i2, rfl⟩ hr fun d O' v G' H' hp st iv => k d O' v G' H' hp ((s1.trans s2).trans st) iv⟩
theorem ev_own1 (ha : Ev K ta δ O (.ins C nm ds) O1) (hr : R [.ins C nm ds] O1 fun d' O' => d' = d ∧ O' = O3) : Ev K (tUn (rOwn1 C (SpD K R) E) ta) δ O d O3 := EvP.ev fun G H σ w s Q k =>
  ha G H σ w s _ fun v G1 H1 s1 i1 => by
    have k1 := i1
    obtain ⟨p, dx, xs, rfl, e, _, _⟩ := k1
    exact ⟨p, dx, _, rfl, s1.wd.sub _ _ e, sp_run (ds := [.ins C nm ds]) s1.wd ⟨_, _, rfl, i1, rfl⟩ hr fun d O' v G' H' hp st iv => k d O' v G' H' hp (s1.trans st) iv⟩
theorem ev_ownX (ha : Ev K ta δ O (.ins C nm ds) O1) (hb : Ev K tb δ O1 y O2) (hr : R [.ins C nm ds, y] O2 fun d' O' => d' = d ∧ O' = O3) : Ev K (tOp (rOwnX C (SpD K R) E) ta tb) δ O d O3 := EvP.ev fun G H σ w s Q k =>
  ha G H σ w s _ fun v G1 H1 s1 i1 => hb G1 H1 σ s1.wd (s.mono s1.ex) _ fun u G2 H2 s2 i2 => by
    have j1 := i1.mono s2.ex
    have k1 := j1
    obtain ⟨p, dx, xs, rfl, e, _, _⟩ := k1
    exact ⟨p, dx, _, rfl, s2.wd.sub _ _ e, sp_run (ds := [.ins C nm ds, y]) s2.wd ⟨_, _, rfl, j1, _, _, rfl, i2, rfl⟩ hr fun d O' v G' H' hp st iv => k d O' v G' H' hp ((s1.trans s2).trans st) iv⟩
theorem ev_ownIn {neg b : Bool} (ha : Ev K ta δ O y O1) (hb : Ev K tb δ O1 (.ins C nm ds) O2) (hr : R [.ins C nm ds, y] O2 fun d' O' => d' = .bl b ∧ O' = O3) : Ev K (tOp (rOwnIn C (SpD K R) E neg) ta tb) δ O (.bl (if neg then !b else b)) O3 := fun G H σ w s Q k =>
  ha G H σ w s _ fun v G1 H1 s1 i1 => hb G1 H1 σ s1.wd (s.mono s1.ex) _ fun u G2 H2 s2 i2 => by
    have k1 := i2
    obtain ⟨p, dx, xs, rfl, e, _, _⟩ := k1
    refine ⟨p, dx, _, rfl, s2.wd.sub _ _ e, sp_run (ds := [.ins C nm ds, y]) s2.wd ⟨_, _, rfl, i2, _, _, rfl, i1.mono s2.ex, rfl⟩ hr fun d O' v G' H' hp st iv => ?_⟩
    obtain ⟨rfl, rfl⟩ := hp
    exact ⟨b, iv, k _ G' H' ((s1.trans s2).trans st) rfl⟩
end
end DL

set_option Elab.async false
set_option linter.all false
set_option maxRecDepth 100000
namespace PySem
open Sem (wp)
set_option maxHeartbeats 1000000 in
theorem meets_enumerate_newB1 {v : Value} {o : Obj} {H : Heap → Prop} (B : Begins v o H) :
    Meets (Builtin.«enumerate.__new__» ⟨[.type "enumerate", v], []⟩) (fun _ R s => H s.heap ∧
      R (.ok (.ret (.ref (s.heap.push o).objs.size))) { s with heap := (s.heap.push o).push { cls := .type "enumerate", data := .fields #[.none, .bool false, .ref s.heap.objs.size, rawInt 0, .none, .none] } }) :=
  .of_wp fun prog w A R s h => by
    obtain ⟨hp, g, d, tk, os⟩ := s; obtain ⟨h1, h⟩ := h
    have hsub := sub_enumerate
    have q1 : ∀ {A' : Around} {E : Value → Shared → Prop} {Q : Value → Shared → Prop}, Q (.ref hp.objs.size) ⟨hp.push o, g, d, tk, os⟩ → wpAny (model prog w) A' (pyIter v) Q E ⟨hp, g, d, tk, os⟩ :=
      fun q => B.iter prog w _ _ ⟨hp, g, d, tk, os⟩ _ h1 q
    wp_walk using q1
    refine wpAny_stack_any fun st => wpAny_pure ?_
    split
    · rename_i c _ _ _ _ _
      cases (c == Value.type "enumerate")
      · wp_walk using q1
        exact ⟨_, rfl, h⟩
      · wp_walk using q1
        exact ⟨_, rfl, h⟩
    · wp_walk using q1
      exact ⟨_, rfl, h⟩
theorem enum_begins1 {prog : Program} {w : World} {A : Around} {E : Value → Shared → Prop} {s : Shared} {v : Value} {o : Obj} {H : Heap → Prop} {Q : Value → Shared → Prop} (B : Begins v o H) (h1 : H s.heap)
    (h : ∀ h', IsEnum h' (s.heap.objs.size + 1) s.heap.objs.size 0 .none → h'.get? s.heap.objs.size = some o → h'.objs.size = s.heap.objs.size + 2 →
      (∀ b o, s.heap.get? b = some o → h'.get? b = some o) → Q (.ref (s.heap.objs.size + 1)) { s with heap := h' }) :
    wpAny (model prog w) A (call (.type "enumerate") [v]) Q E s := by
  refine callType_new F.called_enumerate (by decide) (F.typeCall_enumerate_1 _) (F.newCall_enumerate_1 _) (fun obj => F.args_object_init_2 obj _) F.entry_enumerate_new
    (meets_enumerate_newB1 B) ⟨h1, ?_⟩
  have hz : (s.heap.push o).objs.size = s.heap.objs.size + 1 := Heap.size_push ..
  show _ ∧ _
  rw [hz]
  have he : IsEnum ((s.heap.push o).push { cls := .type "enumerate", data := .fields #[.none, .bool false, .ref s.heap.objs.size, rawInt 0, .none, .none] }) (s.heap.objs.size + 1) s.heap.objs.size 0 .none := by
    have := Heap.get?_push_size (s.heap.push o) (o := { cls := .type "enumerate", data := .fields #[.none, .bool false, .ref s.heap.objs.size, rawInt 0, .none, .none] }) rfl
    rw [hz] at this; exact this
  refine ⟨⟨_, he, rfl⟩, h _ he (Heap.get?_push_of_some _ (Heap.get?_push_size _ B.free)) (by rw [Heap.size_push, hz]) fun b o x => Heap.get?_push_of_some _ (Heap.get?_push_of_some _ x)⟩
theorem enumT_end {prog : Program} {w : World} {A : Around} {E : Value → Shared → Prop} {s : Shared} {e it l : Addr} {i : Nat} {items : Array Value} {old : Value} {Q : Option Value → Shared → Prop} (hh : A.handled = none)
    (he : IsEnum s.heap e it i old) (hit : s.heap.IsTupleIter it l i) (hl : s.heap.IsTuple l items) (hx : items[i]? = none)
    (hQ : ∀ h', Heap.ExtBut it s.heap h' → Q none { s with heap := h' }) : wpAny (model prog w) A (pyNext (.ref e)) Q E s := by
  have hT : s.TypeIs (.ref e) "enumerate" := ⟨_, he, rfl⟩
  unfold pyNext
  refine wpAny_bind (wpAny_attempt (wpAny_callSpecial?_slot (name := Str.ofString "__next__") hT F.slot_enumerate_next
    (wpAny_call_entry F.slot_enumerate_next hT F.entry_enumerate_next ?_ (F.args_enumerate_next_1 _))))
  show wpAny _ _ (field (.ref e) 2 >>= _) _ _ _
  refine wpAny_bind (wpAny_field he rfl (x := .ref it) rfl ?_)
  refine wpAny_bind (wpAny_nextOf_tuple_end hh hit hl hx fun h' x he' hx' => ?_)
  obtain ⟨o, ho, hc⟩ := hx'
  refine wpAny_bind (wpAny_isInstance (T := "StopIteration") (b := true) ⟨o, ho, hc⟩ isSubtype_stop ?_)
  exact wpAny_pure (hQ _ he')
end PySem
namespace DL
open PySem PySem.Spec L2
open PyProof.Rows hiding St
/-! ### enumerate(tuple) -/
def IteT (K : PySem.W.Frag) (a : Addr) : It :=
  ⟨fun i H => ∃ (xs : List V) (x : V), SqT K H a xs ∧ xs[i]? = some x, fun i H v H' => ∃ T x, v = .ref T ∧ H T = none ∧ H' = upd H T (.tup [.int (i : Nat), x]) ∧ ∀ xs, SqT K H a xs → xs[i]? = some x, fun i H => ∃ xs : List V, SqT K H a xs ∧ xs.length ≤ i⟩
theorem sqt_inj {X : Cx} {pins : List (Addr × Obj)} {σ : St} {H : Hp} {s : Shared} {a : Addr} {xs ys : List V} (I : Inv X pins σ H s) (h1 : SqT X.K H a xs) (h2 : SqT X.K H a ys) : xs = ys := I.tuple_inj h1 h2
theorem turn_enumT {P : Program} {w : World} {K : PySem.W.Frag} {elts : List Expr} {kk : Nat} {tpos : Pos} (a e it : Addr) :
    Turn P w K (.Tuple elts kk tpos) (IteT K a) [e, it] e (fun i h => (∃ old, IsEnum h e it ((i : Nat) : Int) old) ∧ h.IsTupleIter it a i ∧ e ≠ it ∧ a ≠ it ∧ a ≠ e) where
  mem := by simp
  obj := fun i h st b hb => by
    obtain ⟨⟨old, he⟩, ⟨o, ho, hc, hd⟩, _⟩ := st
    have e' : b = e ∨ b = it := by simpa using hb
    rcases e' with z | z
    · rw [z]; exact ⟨_, he, fun v q => nomatch q⟩
    · rw [z]; exact ⟨o, ho, fun v q => by rw [hd] at q; cases q⟩
  keep := fun i h h' st k => let ⟨⟨old, he⟩, hi, hne⟩ := st; ⟨⟨old, k e (by simp) _ he⟩, hi.at fun o q => k it (by simp) o q, hne⟩
  item := by
    intro X hP hw hK hc i pins s σ H E I hf st hg
    subst hP hw hK
    obtain ⟨⟨old, he⟩, hit, hne, ha1, ha2⟩ := st
    obtain ⟨xs, x, hq, hx⟩ := hg
    obtain ⟨its, rv, pt, hz⟩ := I.tuple hq
    obtain ⟨u, hu, ru⟩ := rv.get hx
    have hel : e < s.heap.objs.size := Heap.lt_size he
    have hil : it < s.heap.objs.size := by obtain ⟨_, q, _⟩ := hit; exact Heap.lt_size q
    have hT : s.heap.IsTuple a its.toArray := pt
    have hlt : i < its.toArray.size := by
      have := (List.getElem?_eq_some_iff.mp hu).1
      simpa using this
    refine wpAny_pyNext_enum_itemD (Draws.tuple (A := X.A.in1) (I.ok.hd hc) it a ha1 its.toArray) he ⟨hit, hT⟩ hlt hne (by simp [hne, Ne.symm ha2]) fun y h' tk hy ho hst' hT' hsz hk => ?_
    have ey : y = u := by
      have hy : its.toArray[i]? = some y := hy
      rw [List.getElem?_toArray, hu] at hy
      exact (Option.some.inj hy).symm
    subst ey
    refine ⟨_, rfl, wpAny_letOwnedTupleGo_enum (s := { s with heap := h', toks := tk + 1 }) ho fun h'' he' sb => ?_⟩
    have hT2 : h''.get? s.heap.objs.size = some { cls := .type "tuple", data := .seq #[.int i tk, y] } := (sb.2 _ (Nat.ne_of_gt hel)).trans hT'
    have new : ObjOk X.prog X.w (upd H s.heap.objs.size (.tup [.int (i : Nat), x])) h'' s.heap.objs.size (.tup [.int (i : Nat), x]) :=
      ⟨by show 2 ≤ sizeLine; decide, [.int i tk, y], .cons ⟨_, rfl⟩ (.cons ru .nil), ⟨_, hT2, rfl, _, rfl⟩⟩
    have I1 : Inv X pins σ (upd H s.heap.objs.size (.tup [.int (i : Nat), x])) { s with heap := h'', toks := tk + 1 } :=
      I.turnedNew (ch := [e, it]) (fun b ob hb q => (sb.2 b (fun z => hb (by simp [z]))).trans (hk b ob (fun z => hb (by simp [z])) (fun z => hb (by simp [z])) q)) hf (Nat.le_refl _) new
    refine ⟨.ref s.heap.objs.size, _, I1, rfl, ⟨_, x, rfl, I.hok.fresh (Nat.le_refl _), rfl, fun ys hy => by rw [sqt_inj I hy hq]; exact hx⟩, ⟨⟨y, ?_⟩, hst'.1.at fun o q => (sb.2 it (Ne.symm hne)).trans q, hne, ha1, ha2⟩, fun b hb => ?_⟩
    · have e1 : ((i + 1 : Nat) : Int) = (i : Int) + 1 := by omega
      rw [e1]; exact he'
    · have hb' : b < s.heap.objs.size := by
        have e' : b = e ∨ b = it := by simpa using hb
        rcases e' with z | z
        · rw [z]; exact hel
        · rw [z]; exact hil
      rw [upd_ne (Nat.ne_of_lt hb')]
      exact (hf b hb).1
  done := by
    intro X hP hw hK hc i pins s σ H E I hf st hg
    subst hP hw hK
    obtain ⟨⟨old, he⟩, hit, hne, ha1, ha2⟩ := st
    obtain ⟨xs, hq, hx⟩ := hg
    obtain ⟨its, rv, pt, hz⟩ := I.tuple hq
    obtain ⟨f0, f1, f2, f3, f4, f5⟩ := hf it (by simp)
    have hl := rv.length
    have hT : s.heap.IsTuple a its.toArray := pt
    exact enumT_end (I.ok.hd hc) he hit hT (by simp; omega) fun h' eb => ⟨rfl, I.turned (t' := s.toks) (fun b o hb q => eb b o hb q) f0 f1 f3 f4 f5⟩
  self := fun A i s Q E st h => let ⟨⟨_, he⟩, _⟩ := st; wpAny_pyIter_enum he h
def iEnumT (K : PySem.W.Frag) (ta : TA) : TI := fun σ H R => ta σ H fun vs H1 => ∃ a xs, vs = [.ref a] ∧ SqT K H1 a xs ∧ R (IteT K a) H1
theorem pi_enumT {X : Cx} {e : Expr} {ta : TA} {p pos tpos : Pos} {elts : List Expr} {kk : Nat} (hm : X.mg "enumerate" = none) (ha : PA X [e] ta) (hg : Gl X "enumerate" := by rfl) (hs : starEach [e] X.env = [(false, eval e X.env)] := by rfl) :
    PI X (.Tuple elts kk tpos) (.Call (.Name "enumerate" p) [e] [] pos) (iEnumT X.K ta) := by
  refine ⟨fun pins s σ H R I h => ?_⟩
  refine Call_ (ld_blt I hg hm boot_enumerate (PyProof.Rows.callWith_type1 (thn (ha.run pos pins s σ H _ I h) fun us s1 ⟨vs, H1, I1, r1, q1⟩ => ?_) hs rfl))
  obtain ⟨a, xs, ex, hq, q⟩ := q1
  subst ex
  cases r1 with
  | cons r rr =>
    cases rr
    cases r
    obtain ⟨its, rv, p', hz⟩ := I1.tuple hq
    have hal : a < s1.heap.objs.size := by obtain ⟨o, ho, _⟩ := p'; exact Heap.lt_size ho
    refine enum_begins1 (begins_tuple a its.toArray) p' fun h' he hit hsz hk => wpAny_pyIter_enum he ?_
    have I2 : Inv X pins σ H1 { s1 with heap := h' } := I1.kept (t' := s1.toks) hk
    refine ⟨s1.heap.objs.size + 1, [s1.heap.objs.size + 1, s1.heap.objs.size], _, _, H1, rfl, I2, turn_enumT a (s1.heap.objs.size + 1) s1.heap.objs.size, ⟨⟨.none, he⟩, ⟨_, hit, rfl, rfl⟩, Nat.succ_ne_self _, Nat.ne_of_lt hal, Nat.ne_of_lt (Nat.lt_succ_of_lt hal)⟩, fun b hb => ?_, q⟩
    have e' : b = s1.heap.objs.size + 1 ∨ b = s1.heap.objs.size := by simpa using hb
    have hle : s1.heap.objs.size ≤ b := by
      rcases e' with z | z
      · rw [z]; exact Nat.le_add_right _ _
      · rw [z]; exact Nat.le_refl _
    exact I1.fpOk hle (I1.hok.fresh hle)
section
variable {K : PySem.W.Frag} {δ : Sl} {O O1 O2 O3 : Ow} {d x y z : D} {ta tb tc te tv : TE} {t : TA} {i j : Int} {p C : Addr} {ds es : List D} {nm nm' : List Str} {b : Bool} {R : DR} {E : XK} {P : D → Ow → Prop}
/-- the pairs that enumerate gives -/
def enumD (ds : List D) : List D := ds.mapIdx fun k d => .tup [.int (k : Nat), d]
theorem enumD_get {ds : List D} {k : Nat} : (enumD ds)[k]? = (ds[k]?).map fun d => .tup [.int (k : Nat), d] := by simp [enumD, List.getElem?_mapIdx]
theorem ei_enumT (h : EvA K t δ O [.tup ds] O1) : EvI K (iEnumT K t) δ O (enumD ds) O1 := fun G H σ w s R k =>
  h G H σ w s _ fun vs G1 H1 s1 i1 => by
    obtain ⟨v, rfl, p, xs, rfl, e, tl⟩ := isL1 i1
    refine ⟨p, xs, rfl, .inl (.inl (s1.wd.sub _ _ e)), k _ G1 H1 s1 fun G' O' H' sb w' i => ?_⟩
    have e' : SqT K H' p xs := .inl (.inl (w'.sub _ _ (sb _ _ e)))
    refine ⟨fun d hd => ?_, fun hn => ⟨xs, e', by rw [← tl.length]; rw [enumD_get, Option.map_eq_none_iff] at hn; exact List.getElem?_eq_none_iff.mp hn⟩⟩
    rw [enumD_get] at hd
    cases q : ds[i]? with
    | none => rw [q] at hd; cases hd
    | some d0 =>
      rw [q] at hd
      cases hd
      obtain ⟨u, hu, iu⟩ := tl.get q
      refine ⟨⟨xs, u, e', hu⟩, fun x H'' hy => ?_⟩
      obtain ⟨T, u', rfl, hT, rfl, fx⟩ := hy
      have ex : u = u' := Option.some.inj (hu.symm.trans (fx xs e'))
      subst ex
      have st := Stp.new (o := .tup [.int (i : Nat), u]) w' hT
      exact ⟨_, st, T, _, rfl, upd_same, _, _, rfl, rfl, _, _, rfl, (iu.mono sb).mono st.ex, rfl⟩
/-- the pairs that zip gives -/
def zipD (ds es : List D) : List D := (ds.zip es).map fun q => .tup [q.1, q.2]
theorem zipD_get {ds es : List D} {k : Nat} : (zipD ds es)[k]? = ((ds.zip es)[k]?).map fun q => .tup [q.1, q.2] := by simp [zipD]
theorem ei_zipL (h : EvA K t δ O [.lst ds, .lst es] O1) : EvI K (RZ.iZipA K t) δ O (zipD ds es) O1 := fun G H σ w s R k =>
  h G H σ w s _ fun vs G1 H1 s1 i1 => by
    obtain ⟨v, u, rfl, ⟨p, xs, rfl, e, tl⟩, ⟨q, ys, rfl, e2, tl2⟩⟩ := isL2 i1
    refine ⟨p, q, xs, ys, rfl, .inl ⟨.inl (.inl (s1.wd.sub _ _ e)), .inl (.inl (s1.wd.sub _ _ e2)), k _ G1 H1 s1 fun G' O' H' sb w' i => ?_⟩⟩
    have e' : SqL K H' p xs := .inl (.inl (w'.sub _ _ (sb _ _ e)))
    have e2' : SqL K H' q ys := .inl (.inl (w'.sub _ _ (sb _ _ e2)))
    refine ⟨fun d hd => ?_, fun hn => ⟨xs, ys, e', e2', ?_⟩⟩
    · rw [zipD_get] at hd
      cases h1 : ds[i]? with
      | none => rw [List.getElem?_eq_none (by rw [List.length_zip]; have := List.getElem?_eq_none_iff.mp h1; omega)] at hd; cases hd
      | some d1 =>
        cases h2 : es[i]? with
        | none => rw [List.getElem?_eq_none (by rw [List.length_zip]; have := List.getElem?_eq_none_iff.mp h2; omega)] at hd; cases hd
        | some d2 =>
          rw [(show (ds.zip es)[i]? = some (d1, d2) from List.getElem?_zip_eq_some.mpr ⟨h1, h2⟩)] at hd
          cases hd
          obtain ⟨u1, hu1, iu1⟩ := tl.get h1
          obtain ⟨u2, hu2, iu2⟩ := tl2.get h2
          refine ⟨⟨xs, ys, u1, u2, e', e2', hu1, hu2⟩, fun x H'' hy => ?_⟩
          obtain ⟨T, w1, w2, rfl, hT, rfl, fx, fy⟩ := hy
          have ex : u1 = w1 := Option.some.inj (hu1.symm.trans (fx xs e'))
          have ey : u2 = w2 := Option.some.inj (hu2.symm.trans (fy ys e2'))
          subst ex; subst ey
          have st := Stp.new (o := .tup [u1, u2]) w' hT
          exact ⟨_, st, T, _, rfl, upd_same, _, _, rfl, (iu1.mono sb).mono st.ex, _, _, rfl, (iu2.mono sb).mono st.ex, rfl⟩
    · rw [zipD_get, Option.map_eq_none_iff, List.getElem?_eq_none_iff, List.length_zip] at hn
      rw [← tl.length, ← tl2.length]
      omega
theorem ei_zipT (h : EvA K t δ O [.tup ds, .tup es] O1) : EvI K (RZ.iZipA K t) δ O (zipD ds es) O1 := fun G H σ w s R k =>
  h G H σ w s _ fun vs G1 H1 s1 i1 => by
    obtain ⟨v, u, rfl, ⟨p, xs, rfl, e, tl⟩, ⟨q, ys, rfl, e2, tl2⟩⟩ := isL2 i1
    refine ⟨p, q, xs, ys, rfl, .inr ⟨.inl (.inl (s1.wd.sub _ _ e)), .inl (.inl (s1.wd.sub _ _ e2)), k _ G1 H1 s1 fun G' O' H' sb w' i => ?_⟩⟩
    have e' : SqT K H' p xs := .inl (.inl (w'.sub _ _ (sb _ _ e)))
    have e2' : SqT K H' q ys := .inl (.inl (w'.sub _ _ (sb _ _ e2)))
    refine ⟨fun d hd => ?_, fun hn => ⟨xs, ys, e', e2', ?_⟩⟩
    · rw [zipD_get] at hd
      cases h1 : ds[i]? with
      | none => rw [List.getElem?_eq_none (by rw [List.length_zip]; have := List.getElem?_eq_none_iff.mp h1; omega)] at hd; cases hd
      | some d1 =>
        cases h2 : es[i]? with
        | none => rw [List.getElem?_eq_none (by rw [List.length_zip]; have := List.getElem?_eq_none_iff.mp h2; omega)] at hd; cases hd
        | some d2 =>
          rw [(show (ds.zip es)[i]? = some (d1, d2) from List.getElem?_zip_eq_some.mpr ⟨h1, h2⟩)] at hd
          cases hd
          obtain ⟨u1, hu1, iu1⟩ := tl.get h1
          obtain ⟨u2, hu2, iu2⟩ := tl2.get h2
          refine ⟨⟨xs, ys, u1, u2, e', e2', hu1, hu2⟩, fun x H'' hy => ?_⟩
          obtain ⟨T, w1, w2, rfl, hT, rfl, fx, fy⟩ := hy
          have ex : u1 = w1 := Option.some.inj (hu1.symm.trans (fx xs e'))
          have ey : u2 = w2 := Option.some.inj (hu2.symm.trans (fy ys e2'))
          subst ex; subst ey
          have st := Stp.new (o := .tup [u1, u2]) w' hT
          exact ⟨_, st, T, _, rfl, upd_same, _, _, rfl, (iu1.mono sb).mono st.ex, _, _, rfl, (iu2.mono sb).mono st.ex, rfl⟩
    · rw [zipD_get, Option.map_eq_none_iff, List.getElem?_eq_none_iff, List.length_zip] at hn
      rw [← tl.length, ← tl2.length]
      omega
/-! ### slices -/
def cutD (ds : List D) (lo hi : Option Int) : List D := (ds.drop (HT.sIx ds.length 0 lo)).take (HT.sIx ds.length ds.length hi - HT.sIx ds.length 0 lo)
theorem cut_is {G : Hp} {vs : List V} {lo hi : Option Int} (h : IsL K G ds vs) : IsL K G (cutD ds lo hi) (cutV vs lo hi) := by
  unfold cutD cutV
  rw [h.length]
  exact (h.drop _).take _
def EvO (K : PySem.W.Frag) (to : TO) (δ : Sl) (O : Ow) (o : Option Int) (O' : Ow) : Prop :=
  ∀ G H σ, Wd K G O H → SlIs K G δ σ → ∀ Q : Option Int → Hp → Prop, (∀ G' H', Stp K G O H G' O' H' → Q o H') → to σ H Q
theorem eo_none : EvO K tNoPart δ O none O := fun G H σ w s Q k => k G H (Stp.refl w)
theorem eo_some (h : Ev K te δ O (.int i) O1) : EvO K (tPart te) δ O (some i) O1 := fun G H σ w s Q k => h G H σ w s _ fun v G1 H1 s1 i1 => ⟨i, i1, k G1 H1 s1⟩
theorem ev_slL {tl th : TO} {lo hi : Option Int} (h : Ev K te δ O (.lst ds) O1) (h1 : EvO K tl δ O1 lo O2) (h2 : EvO K th δ O2 hi O3) : Ev K (tSl (rSlL K) te tl th) δ O (.lst (cutD ds lo hi)) O3 := fun G H σ w s Q k =>
  h G H σ w s _ fun v G1 H1 s1 i1 => h1 G1 H1 σ s1.wd (s.mono s1.ex) _ fun G2 H2 s2 => h2 G2 H2 σ s2.wd (s.mono (s1.ex.trans s2.ex)) _ fun G3 H3 s3 => by
    obtain ⟨p, xs, rfl, e, t⟩ := i1
    refine ⟨p, xs, rfl, .inl (.inl (s3.wd.sub _ _ (s3.ex _ _ (s2.ex _ _ e)))), fun l hl => ?_⟩
    have st := Stp.new (o := .lst (cutV xs lo hi)) s3.wd hl
    exact k _ _ _ (((s1.trans s2).trans s3).trans st) ⟨l, _, rfl, upd_same, ((cut_is t).mono (s2.ex.trans s3.ex)).mono st.ex⟩
/-! ### class constants, class methods, calls of instances -/
theorem ev_cval {mc : Value} {f : Str} {v : V} {u : Value} (h : Ev K te δ O (.ref C) O1) (r : ClX.CRead K C mc) (c : ClX.CVal K C mc f v u) (hv : v = vOf d) (hf : flatD d = true) : Ev K (ClX.tCVal K te f) δ O d O1 := fun G H σ w s Q k =>
  h G H σ w s _ fun x G1 H1 s1 i1 => ⟨C, mc, v, u, i1, r, c, k v G1 H1 s1 (by subst hv; cases d <;> first | rfl | cases hf)⟩
theorem evp_cmeth (h : Ev K ta δ O (.ref C) O1) (ht : EvA K t δ O1 es O2) (hr : R (.ref C :: es) O2 P) : EvP K (ClX.tCMeth C (SpD K R) E ta t) δ O P := fun G H σ w s Q k =>
  h G H σ w s _ fun v G1 H1 s1 i1 => ⟨i1, ht G1 H1 σ s1.wd (s.mono s1.ex) _ fun vs G2 H2 s2 i3 =>
    sp_run (ds := .ref C :: es) s2.wd ⟨_, _, rfl, rfl, i3⟩ hr fun d O' v G' H' hp st iv => k d O' v G' H' hp ((s1.trans s2).trans st) iv⟩
theorem ev_cmeth (h : Ev K ta δ O (.ref C) O1) (ht : EvA K t δ O1 es O2) (hr : R (.ref C :: es) O2 fun d' O' => d' = d ∧ O' = O3) : Ev K (ClX.tCMeth C (SpD K R) E ta t) δ O d O3 := (evp_cmeth h ht hr).ev
theorem evp_callO {X : Cx} (h : Ev K ta δ O (.ins C nm ds) O1) (ht : EvA K t δ O1 es O2) (hr : R (.ins C nm ds :: es) O2 P) : EvP K (StX.tCallO X C (SpD K R) E ta t) δ O P := fun G H σ w s Q k =>
  h G H σ w s _ fun v G1 H1 s1 i1 => by
    have i2 := i1
    obtain ⟨p, dx, xs, rfl, e, _, _⟩ := i2
    exact ⟨p, rfl, ht G1 H1 σ s1.wd (s.mono s1.ex) _ fun vs G2 H2 s2 i3 => ⟨.inr ⟨dx, _, s2.wd.sub _ _ (s2.ex _ _ e)⟩, sp_run (ds := .ins C nm ds :: es) s2.wd ⟨_, _, rfl, i1.mono s2.ex, i3⟩ hr fun d O' v G' H' hp st iv => k d O' v G' H' hp ((s1.trans s2).trans st) iv⟩⟩
theorem ev_callO {X : Cx} (h : Ev K ta δ O (.ins C nm ds) O1) (ht : EvA K t δ O1 es O2) (hr : R (.ins C nm ds :: es) O2 fun d' O' => d' = d ∧ O' = O3) : Ev K (StX.tCallO X C (SpD K R) E ta t) δ O d O3 := (evp_callO h ht hr).ev
/-! ### == of data -/
mutual
def toP : D → PyData
  | .non => .none
  | .bl b => .bool b
  | .int i => .int i
  | .str x => .str x
  | .lst xs => .list (toPs xs)
  | .tup xs => .tuple (toPs xs)
  | _ => .none
def toPs : List D → List PyData
  | [] => []
  | d :: r => toP d :: toPs r
end
mutual
def isP : D → Bool
  | .non => true | .bl _ => true | .int _ => true | .str _ => true
  | .lst xs => isPs xs
  | .tup xs => isPs xs
  | _ => false
def isPs : List D → Bool
  | [] => true
  | d :: r => isP d && isPs r
end
mutual
theorem dp_of {G H : Hp} (sb : Sub G H) : ∀ {d : D} {v : V}, isP d = true → Is K G d v → Dp K H v (toP d)
  | .non, _, _, h => by cases h; exact .non
  | .bl _, _, _, h => by cases h; exact .bl _
  | .int _, _, _, h => by cases h; exact .int _
  | .str _, _, _, h => by cases h; exact .str _
  | .lst _, _, q, h => by obtain ⟨p, xs, rfl, e, t⟩ := h; exact .lst (.inl (.inl (sb _ _ e))) (dps_of sb q t)
  | .tup _, _, q, h => by obtain ⟨p, xs, rfl, e, t⟩ := h; exact .tup (.inl (.inl (sb _ _ e))) (dps_of sb q t)
  | .ref _, _, q, _ => by cases q
  | .ty _, _, q, _ => by cases q
  | .ins _ _ _, _, q, _ => by cases q
  | .scr _, _, q, _ => by cases q
  | .sem _, _, q, _ => by cases q
theorem dps_of {G H : Hp} (sb : Sub G H) : ∀ {ds : List D} {vs : List V}, isPs ds = true → IsL K G ds vs → DpAll K H vs (toPs ds)
  | [], _, _, h => by cases h; exact .nil
  | d :: ds, _, q, ⟨v, r, rfl, a, b⟩ => by
    have q : (isP d && isPs ds) = true := q
    rw [Bool.and_eq_true] at q
    exact .cons (dp_of sb q.1 a) (dps_of sb q.2 b)
end
theorem r_eqD (h1 : isP x = true) (h2 : isP y = true) (s1 : SeqAt.shaped (toP x) = true) (s2 : SeqAt.shaped (toP y) = true) : R2D K (rEqD K) x y O (.bl (PyData.eqv (toP x) (toP y))) := fun G H v u w a b Q k =>
  ⟨toP x, toP y, dp_of w.sub h1 a, dp_of w.sub h2 b, s1, s2, k _ G H (Stp.refl w) rfl⟩
theorem r_neD (h1 : isP x = true) (h2 : isP y = true) (s1 : SeqAt.shaped (toP x) = true) (s2 : SeqAt.shaped (toP y) = true) : R2D K (rNeD K) x y O (.bl (!PyData.eqv (toP x) (toP y))) := fun G H v u w a b Q k =>
  ⟨toP x, toP y, dp_of w.sub h1 a, dp_of w.sub h2 b, s1, s2, k _ G H (Stp.refl w) rfl⟩
/-! ### isinstance -/
def tyD : D → Option String
  | .non => some "NoneType" | .bl _ => some "bool" | .int _ => some "int" | .str _ => some "str" | .lst _ => some "list" | .tup _ => some "tuple"
  | _ => none
theorem tyX_of {G H : Hp} {v : V} {T : String} (sb : Sub G H) (h : tyD x = some T) (i : Is K G x v) : TyX K H v (.type T) := by
  cases x with
  | non => cases h; cases i; exact .base .non
  | bl b => cases h; cases i; exact .base (.bl _)
  | int b => cases h; cases i; exact .base (.int _)
  | str b => cases h; cases i; exact .base (.str _)
  | lst b => cases h; obtain ⟨p, xs, rfl, e, _⟩ := i; exact .base (.lst (sb _ _ e))
  | tup b => cases h; obtain ⟨p, xs, rfl, e, _⟩ := i; exact .base (.tup (sb _ _ e))
  | _ => cases h
theorem c_isi {T c : String} (h : tyD x = some T) (e : kitB T c = some b) : RCD K (rIsi K) [x, .ty c] O (.bl b) := fun G H vs w a Q k => by
  obtain ⟨v, u, rfl, iv, iu⟩ := isL2 a
  cases iu
  exact ⟨v, _, _, _, b, rfl, .ty c, tyX_of w.sub h iv, kit_ty e, k _ G H (Stp.refl w) rfl⟩
theorem c_isi2 {T c1 c2 : String} {b1 b2 : Bool} (h : tyD x = some T) (e1 : kitB T c1 = some b1) (e2 : kitB T c2 = some b2) : RCD K (rIsiT K) [x, .tup [.ty c1, .ty c2]] O (.bl (b1 || b2)) := fun G H vs w a Q k => by
  obtain ⟨v, u, rfl, iv, p, xs, rfl, e, t⟩ := isL2 a
  obtain ⟨u1, u2, rfl, i1, i2⟩ := isL2 t
  cases i1; cases i2
  have hk : PySem.W.kitAny K (.type T) [.type c1, .type c2] = some (b1 || b2) := by
    cases b1 with
    | true => exact kitAny_cons (b := true) (kit_ty e1) (fun z => nomatch z) fun _ => rfl
    | false =>
      refine kitAny_cons (b := false) (kit_ty e1) (fun _ => ?_) (fun z => nomatch z)
      cases b2 with
      | true => exact kitAny_cons (b := true) (kit_ty e2) (fun z => nomatch z) fun _ => rfl
      | false => exact kitAny_cons (b := false) (kit_ty e2) (fun _ => kitAny_nil) (fun z => nomatch z)
  exact ⟨v, p, _, _, [.type c1, .type c2], _, rfl, w.sub _ _ e, .cons (.ty c1) (.cons (.ty c2) .nil), tyX_of w.sub h iv, hk, k _ G H (Stp.refl w) rfl⟩
end
end DL

set_option Elab.async false
set_option linter.all false
set_option maxRecDepth 100000
namespace DL
open PySem PySem.Spec L2
open PyProof.Rows hiding St
theorem cmul_l {i j : Int} (h1 : -18446744073709551616 < i) (h2 : i < 18446744073709551616) : CMul i j := .inl ⟨h1, h2⟩
theorem cmul_r {i j : Int} (h1 : -18446744073709551616 < j) (h2 : j < 18446744073709551616) : CMul i j := .inr ⟨h1, h2⟩
theorem cdivw {i j : Int} (h1 : 0 < j) (h2 : j ≤ 1000000000000000000000000000000) : CDivW i j := wide_div (b := 110) h1 (by
  have : j.natAbs ≤ 1000000000000000000000000000000 := by omega
  exact Nat.lt_of_le_of_lt this (by decide)) (by decide) (by decide)
theorem cmodp {i j : Int} (h1 : 0 < j) : (fun (_ j : Int) => 0 < j) i j := h1
theorem cpow {i j : Int} (h0 : 0 ≤ j) (h1 : j ≤ 1000000) (h2 : i.natAbs < 18446744073709551616) : CPow i j := ⟨h0, h1, h2⟩
section
variable {K : PySem.W.Frag} {δ : Sl} {O O1 O2 O3 : Ow} {d x y z : D} {ta tb tc te tv : TE} {t : TA} {i j : Int} {p C : Addr} {ds es : List D} {nm nm' : List Str} {b : Bool} {R : DR} {E : XK} {P : DE}
theorem sd_never {tu tw : TS} {tt : TT} (h : EvT K tt δ O b O1) (hb : b = false) (k : Sd K tw P δ O1) : Sd K (tIfS tt tu tw) P δ O := by subst hb; exact sd_ifF h k
theorem atI0 {α : Type} {a : α} {l : List α} : atI (a :: l) 0 = some a := atI_nat (j := 0) rfl
theorem atI1 {α : Type} {a b : α} {l : List α} : atI (a :: b :: l) 1 = some b := atI_nat (j := 1) rfl
theorem atI2 {α : Type} {a b c : α} {l : List α} : atI (a :: b :: c :: l) 2 = some c := atI_nat (j := 2) rfl
theorem atI3 {α : Type} {a b c e : α} {l : List α} : atI (a :: b :: c :: e :: l) 3 = some e := atI_nat (j := 3) rfl
theorem atI_of {α : Type} {l : List α} {i : Int} {k : Nat} {a : α} (hk : i = (k : Int)) (h : l[k]? = some a) : atI l i = some a := by subst hk; exact atI_nat h
theorem ixN_of {n : Nat} {i : Int} {k : Nat} (hk : i = (k : Int)) (h : k < n) : ixN n i = some k := by subst hk; exact Evl.ixN_nat h
theorem r_catA (hl : ds.length + es.length ≤ 100000) : R2D K (rCatA K) (.tup ds) (.tup es) O (.tup (ds ++ es)) := fun G H v u w a b Q k => by
  obtain ⟨p, xs, rfl, e, t⟩ := a
  obtain ⟨q, ys, rfl, e', t'⟩ := b
  refine ⟨p, q, xs, ys, rfl, rfl, .inl (.inl (w.sub _ _ e)), .inl (.inl (w.sub _ _ e')), by rw [← t.length, ← t'.length]; exact sz hl, fun z => ?_, fun _ z => ?_, fun _ _ l hl => k _ _ _ (Stp.new w hl) ⟨l, _, rfl, upd_same, (t.append t').mono (Stp.new w hl (o := .tup (xs ++ ys))).ex⟩⟩
  · subst z
    have z : ds = [] := List.eq_nil_of_length_eq_zero t.length
    subst z
    exact k _ G H (Stp.refl w) ⟨q, ys, rfl, e', t'⟩
  · subst z
    have z : es = [] := List.eq_nil_of_length_eq_zero t'.length
    subst z
    exact k _ G H (Stp.refl w) ⟨p, xs, rfl, e, by rw [List.append_nil]; exact t⟩
theorem ev_slT {tl th : TO} {lo hi : Option Int} (h : Ev K te δ O (.tup ds) O1) (h1 : EvO K tl δ O1 lo O2) (h2 : EvO K th δ O2 hi O3) : Ev K (tSl (rSlA K) te tl th) δ O (.tup (cutD ds lo hi)) O3 := fun G H σ w s Q k =>
  h G H σ w s _ fun v G1 H1 s1 i1 => h1 G1 H1 σ s1.wd (s.mono s1.ex) _ fun G2 H2 s2 => h2 G2 H2 σ s2.wd (s.mono (s1.ex.trans s2.ex)) _ fun G3 H3 s3 => by
    obtain ⟨p, xs, rfl, e, t⟩ := i1
    have e3 := s3.ex _ _ (s2.ex _ _ e)
    have t3 := t.mono (s2.ex.trans s3.ex)
    refine ⟨p, xs, rfl, .inl (.inl (s3.wd.sub _ _ e3)), fun z => ?_, fun z l hl => ?_⟩
    · have e5 : cutD ds lo hi = ds := by
        unfold cutD
        rw [t.length, z.1, z.2, Nat.sub_zero, List.drop_zero, ← t.length]
        exact List.take_length
      rw [e5] at k
      exact k _ _ _ ((s1.trans s2).trans s3) ⟨p, xs, rfl, e3, t3⟩
    · have st := Stp.new (o := .tup (cutV xs lo hi)) s3.wd hl
      exact k _ _ _ (((s1.trans s2).trans s3).trans st) ⟨l, _, rfl, upd_same, (cut_is t3).mono st.ex⟩
/-- isinstance of an own instance -/
theorem c_isiOwn {C' : Addr} (c : Cls K C) (ha : PySem.W.findIn K (.ref C) "__class__" = some (some (.builtin "object.__class__")))
      (hn : PySem.W.specialIn K (.builtin "object.__class__") "__get__" = some (some (.builtin "getset_descriptor.__get__"))) (htk : PySem.W.takesIn K (.builtin "object.__class__") = some true)
      (hm : PySem.W.mroIn K C (.type "object") = some true) (hk : PySem.W.kitOne K (.ref C) (.ref C') = some b) : RCD K (rIsi K) [.ins C nm ds, .ref C'] O (.bl b) := fun G H vs w a Q k => by
  obtain ⟨v, u, rfl, ⟨p, dx, xs, rfl, e, _, _⟩, iu⟩ := isL2 a
  cases iu
  exact ⟨_, _, _, _, b, rfl, .own C', .base (.ins (w.sub _ _ e) c ha hn htk hm), hk, k _ G H (Stp.refl w) rfl⟩
/-- isinstance of data of a built-in type and an own class -/
theorem c_isiT {T : String} {C' : Addr} (h : tyD x = some T) (hk : PySem.W.kitOne K (.type T) (.ref C') = some b) : RCD K (rIsi K) [x, .ref C'] O (.bl b) := fun G H vs w a Q k => by
  obtain ⟨v, u, rfl, iv, iu⟩ := isL2 a
  cases iu
  exact ⟨_, _, _, _, b, rfl, .own C', tyX_of w.sub h iv, hk, k _ G H (Stp.refl w) rfl⟩
theorem rgV_is {G : Hp} {lo hi : Int} : IsL K G (rng lo (hi - lo).toNat) (rgV lo hi) := by
  unfold rng rgV
  generalize List.range (hi - lo).toNat = l
  induction l with
  | nil => exact rfl
  | cons a r ih => exact ⟨_, _, rfl, rfl, ih⟩
theorem ev_listRg (h : Ev K te δ O (.int j) O1) (hj : 0 ≤ j ∧ j ≤ 100000) : Ev K (tLstRg (tRg1 te)) δ O (.lst (rng 0 j.toNat)) O1 := fun G H σ w s Q k =>
  h G H σ w s _ fun v G1 H1 s1 i1 => ⟨j, i1, RgOk.of_le (by omega) (by omega) (by omega) (by omega), fun q hq => by
    have st := Stp.new (o := .lst (rgV 0 j)) s1.wd hq
    have e : rng 0 j.toNat = rng 0 (j - 0).toNat := by rw [Int.sub_zero]
    exact k _ _ _ (s1.trans st) ⟨q, _, rfl, upd_same, by rw [e]; exact rgV_is⟩⟩
end
/-! ### defs with a star parameter -/
def Rstar (n : Nat) (R : DR) : DR := fun ds O Post => ∃ ws rest, ds = ws ++ rest ∧ ws.length = n ∧ rest.length ≤ 100000 ∧ R (ws ++ [.tup rest]) O Post
theorem isL_split {K : PySem.W.Frag} {G : Hp} : ∀ {ds es : List D} {vs : List V}, IsL K G (ds ++ es) vs → ∃ us ws, vs = us ++ ws ∧ IsL K G ds us ∧ IsL K G es ws
  | [], _, vs, h => ⟨[], vs, rfl, rfl, h⟩
  | d :: ds, es, _, ⟨v, r, rfl, a, b⟩ => by
    obtain ⟨us, ws, rfl, h1, h2⟩ := isL_split b
    exact ⟨v :: us, ws, rfl, ⟨v, us, rfl, a, h1⟩, h2⟩
theorem fnDS {P : Program} {w : World} {K : PySem.W.Frag} {mg : Str → Option Value} {base : Heap} {x qual pv : Str} {st : Stmt} {f : Addr} {fd : FuncData} {N ps : List Str} {k : Nat} {R : DR} (F : Fun K x qual st f fd) (S : FnScope N (ps ++ [pv]) (defScope st))
    (hb : ∀ us rest : List Value, us.length = ps.length → bindArgs fd ⟨us ++ rest, []⟩ = (newTuple rest >>= fun t => pure (ps.zip us ++ [(pv, t)])))
    (hbody : ∀ (cdv : Value) (A : Around) (outer : List Env) (s : Shared) (H : Hp) (E : XK), Room k (A.deeper (PyProof.Rows.envOfC qual (defScope st) s.heap.objs.size f cdv)) →
      ∃ t, PSs (cxOf (L2.CX P w) P w K mg base N qual (defScope st) f cdv A outer s H E) (defBody st) t ∧ ∀ ds O Post, R ds O Post → Sd K t ⟨fun _ O' => Post .non O', Post, fun _ _ => False, fun _ _ => False⟩ (startD N ds) O) :
    FnR P w K mg base (L2.CX P w) (k + 1) f (SpD K (Rstar ps.length R)) := by
  obtain ⟨oc, od, kV, doc, pm, an, cdv, ct, osl, rfl, lk, hcd⟩ := F.ex
  refine (StX.fn_star (sp := SpD K R) lk hcd S StX.cxUp hb fun A outer s H vs Q E hr h => ?_).imp fun vs H Q E h => ?_
  · obtain ⟨t, h1, h2⟩ := hbody cdv A outer s H E hr
    exact ⟨t, h1, body_of h h2⟩
  · obtain ⟨G, O, ds, Post, wd, i, ⟨ws, rest, rfl, hl, hz, hR⟩, kk⟩ := h
    obtain ⟨us, vs', rfl, i1, i2⟩ := isL_split i
    refine ⟨us, vs', rfl, by rw [← i1.length]; exact hl, by rw [← i2.length]; exact sz hz, fun p hp => ?_⟩
    have st := Stp.new (o := .tup vs') wd hp
    refine ⟨_, O, ws ++ [.tup rest], Post, st.wd, (i1.mono st.ex).append (show IsL K _ [.tup rest] [.ref p] from ⟨_, _, rfl, ⟨p, vs', rfl, upd_same, i2.mono st.ex⟩, rfl⟩), hR, fun d O' v G' H' hp' st' iv => kk d O' v G' H' hp' (st.trans st') iv⟩
end DL

set_option Elab.async false
set_option linter.all false
set_option maxRecDepth 100000
namespace DL
open PySem PySem.Spec L2
open PyProof.Rows hiding St
/-- plain data of a depth -/
inductive Pl : Nat → D → Prop
  | non {n : Nat} : Pl n .non
  | bl {n : Nat} {b : Bool} : Pl n (.bl b)
  | int {n : Nat} {i : Int} : Pl n (.int i)
  | str {n : Nat} {x : Str} (h : PyData.canLay0 (.str x) = true) : Pl n (.str x)
  | lst {n : Nat} {ds : List D} (h : ∀ d ∈ ds, Pl n d) : Pl (n + 1) (.lst ds)
  | tup {n : Nat} {ds : List D} (h : ∀ d ∈ ds, Pl n d) : Pl (n + 1) (.tup ds)
theorem pls_isP : ∀ {ds : List D}, (∀ d ∈ ds, isP d = true) → isPs ds = true
  | [], _ => rfl
  | d :: r, h => by
    show (isP d && isPs r) = true
    rw [h d (List.mem_cons_self ..), pls_isP fun x hx => h x (List.mem_cons_of_mem _ hx)]; rfl
theorem pls_can : ∀ {ds : List D}, (∀ d ∈ ds, (toP d).canLay0 = true) → PyData.canLayAll0 (toPs ds) = true
  | [], _ => rfl
  | d :: r, h => by
    show (PyData.canLay0 (toP d) && PyData.canLayAll0 (toPs r)) = true
    rw [h d (List.mem_cons_self ..), pls_can fun x hx => h x (List.mem_cons_of_mem _ hx)]; rfl
theorem pls_dep {n : Nat} : ∀ {ds : List D}, (∀ d ∈ ds, (toP d).depth ≤ n) → PyData.depthAll (toPs ds) ≤ n
  | [], _ => Nat.zero_le _
  | d :: r, h => by
    show max (PyData.depth (toP d)) (PyData.depthAll (toPs r)) ≤ n
    exact Nat.max_le.mpr ⟨h d (List.mem_cons_self ..), pls_dep fun x hx => h x (List.mem_cons_of_mem _ hx)⟩
theorem Pl.isP {n : Nat} {d : D} (h : Pl n d) : DL.isP d = true := by
  induction h with
  | lst _ ih => exact pls_isP ih
  | tup _ ih => exact pls_isP ih
  | _ => rfl
theorem Pl.can {n : Nat} {d : D} (h : Pl n d) : (toP d).canLay0 = true := by
  induction h with
  | lst _ ih => exact pls_can ih
  | tup _ ih => exact pls_can ih
  | str h => exact h
  | _ => rfl
theorem Pl.dep {n : Nat} {d : D} (h : Pl n d) : (toP d).depth ≤ n := by
  induction h with
  | lst _ ih => exact Nat.succ_le_succ (pls_dep ih)
  | tup _ ih => exact Nat.succ_le_succ (pls_dep ih)
  | _ => exact Nat.zero_le _
theorem Pl.shaped {n : Nat} {d : D} (h : Pl n d) (hn : n ≤ 60) : SeqAt.shaped (toP d) = true := by
  unfold SeqAt.shaped
  rw [h.can, decide_eq_true (Nat.le_trans h.dep (by omega))]; rfl
theorem Pl.mono {n : Nat} {d : D} (h : Pl n d) : ∀ {m : Nat}, n ≤ m → Pl m d := by
  induction h with
  | non => intro _ _; exact .non
  | bl => intro _ _; exact .bl
  | int => intro _ _; exact .int
  | str h => intro _ _; exact .str h
  | lst _ ih => intro m hm; obtain ⟨m', rfl⟩ : ∃ k, m = k + 1 := ⟨m - 1, by omega⟩; exact .lst fun d hd => ih d hd (by omega)
  | tup _ ih => intro m hm; obtain ⟨m', rfl⟩ : ∃ k, m = k + 1 := ⟨m - 1, by omega⟩; exact .tup fun d hd => ih d hd (by omega)
theorem Pl.ints (ns : List Int) : Pl 1 (.tup (ns.map .int)) := .tup fun d hd => by obtain ⟨i, _, rfl⟩ := List.mem_map.mp hd; exact .int
theorem Pl.intsL (ns : List Int) : Pl 1 (.lst (ns.map .int)) := .lst fun d hd => by obtain ⟨i, _, rfl⟩ := List.mem_map.mp hd; exact .int
theorem Pl.nilT : Pl 1 (.tup []) := .tup fun d hd => nomatch hd
theorem Pl.nilL : Pl 1 (.lst []) := .lst fun d hd => nomatch hd
def eqD (x y : D) : Bool := PyData.eqv (toP x) (toP y)
theorem eqD_self {n : Nat} {d : D} (h : Pl n d) : eqD d d = true := SeqAt.eqv_refl _ h.can
theorem eqD_nilT {ds : List D} : eqD (.tup ds) (.tup []) = ds.isEmpty := by cases ds <;> rfl
theorem eqD_nilL {ds : List D} : eqD (.lst ds) (.lst []) = ds.isEmpty := by cases ds <;> rfl
theorem eqD_int {i j : Int} : eqD (.int i) (.int j) = (i == j) := rfl
theorem eqvs_ints : ∀ (xs ys : List Int), PyData.eqvAll (toPs (xs.map .int)) (toPs (ys.map .int)) = decide (xs = ys)
  | [], [] => rfl
  | [], _ :: _ => by simp [toPs, PyData.eqvAll]
  | _ :: _, [] => by simp [toPs, PyData.eqvAll]
  | x :: xs, y :: ys => by
    show ((x == y) && PyData.eqvAll (toPs (xs.map .int)) (toPs (ys.map .int))) = _
    rw [eqvs_ints xs ys]
    by_cases h : x = y
    · subst h; simp
    · simp [h]
theorem eqD_ints (xs ys : List Int) : eqD (.tup (xs.map .int)) (.tup (ys.map .int)) = decide (xs = ys) := eqvs_ints xs ys
theorem eqD_intsL (xs ys : List Int) : eqD (.lst (xs.map .int)) (.lst (ys.map .int)) = decide (xs = ys) := eqvs_ints xs ys
section
variable {K : PySem.W.Frag} {δ : Sl} {O O1 O2 O3 : Ow} {d x y z : D} {ta tb tc te tv : TE} {t : TA} {i j : Int} {p C : Addr} {ds es : List D} {nm nm' : List Str} {b : Bool} {R : DR} {E : XK} {P : DE} {n m : Nat}
theorem ev_cvalI {mc : Value} {f : Str} {k : Int} {u : Value} (h : Ev K te δ O (.ref C) O1) (r : ClX.CRead K C mc) (c : ClX.CVal K C mc f (.int k) u) : Ev K (ClX.tCVal K te f) δ O (.int k) O1 := ev_cval h r c rfl rfl
theorem r_eqP (h1 : Pl n x) (h2 : Pl m y) (hn : n ≤ 60) (hm : m ≤ 60) : R2D K (rEqD K) x y O (.bl (eqD x y)) := r_eqD h1.isP h2.isP (h1.shaped hn) (h2.shaped hm)
theorem r_neP (h1 : Pl n x) (h2 : Pl m y) (hn : n ≤ 60) (hm : m ≤ 60) : R2D K (rNeD K) x y O (.bl (!eqD x y)) := r_neD h1.isP h2.isP (h1.shaped hn) (h2.shaped hm)
end
/-- a law's own promise, and the defs that walk_of wants -/
theorem fnO {P : Program} {w : World} {K : PySem.W.Frag} {mg : Str → Option Value} {base : Heap} {x qual : Str} {st : Stmt} {f : Addr} {fd : FuncData} {N ps : List Str} {k : Nat} {R : DR} (F : Fun K x qual st f fd) (S : FnScope N ps (defScope st))
    (len : ∀ ds O Post, R ds O Post → ds.length = ps.length)
    (hbody : ∀ (cdv : Value) (A : Around) (outer : List Env) (s : Shared) (H : Hp) (E : XK), Room k (A.deeper (PyProof.Rows.envOfC qual (defScope st) s.heap.objs.size f cdv)) →
      ∃ t, PSs (cxOf (L2.CX P w) P w K mg base N qual (defScope st) f cdv A outer s H E) (defBody st) t ∧ ∀ ds O Post, R ds O Post → Sd K t ⟨fun _ O' => Post .non O', Post, fun _ _ => False, fun _ _ => False⟩ (startD N ds) O) :
    FnOk P w K mg base (L2.CX P w) (k + 1) f fd ps (SpD K R) := by
  refine F.okX S (fun vs H Q E h => ?_) (fun cdv A outer s H vs Q E hr h => ?_)
  · obtain ⟨G, O, ds, Post, _, i, hr, _⟩ := h
    rw [← i.length]; exact len ds O Post hr
  · obtain ⟨t, h1, h2⟩ := hbody cdv A outer s H E hr
    exact ⟨t, h1, body_of h h2⟩
/-- nothing is promised -/
theorem fnR0 {P : Program} {w : World} {K : PySem.W.Frag} {mg : Str → Option Value} {base : Heap} {CX : CXT} {k : Nat} {f : Addr} : FnR P w K mg base CX k f (SpD K fun _ _ _ => False) := by
  intro A outer s H us vs Q E hr e0 r hs
  obtain ⟨_, _, _, _, _, _, z, _⟩ := hs
  exact z.elim
end DL

set_option Elab.async false
set_option linter.all false
set_option maxRecDepth 100000
/-! the rules whose reading bears the written part, told of a K (so that they serve within a comprehension's block) -/
namespace DL
open PySem PySem.Spec L2
open PyProof.Rows hiding St
section
variable {X : Cx} (K : PySem.W.Frag)
theorem op_inK (h : X.K = K := by rfl) : OpR X (compareOp .In) (rIn K false) := by subst h; exact op_in_seq
theorem op_notInK (h : X.K = K := by rfl) : OpR X (compareOp .NotIn) (rIn K true) := by subst h; exact op_notIn_seq
theorem ix_listK (h : X.K = K := by rfl) : IxR X (rIxL K) := by subst h; exact ix_list
theorem ix_tupK (h : X.K = K := by rfl) : IxR X (rIxT K) := by subst h; exact ix_tup
theorem call_lenK (h : X.K = K := by rfl) : CallR X (.builtin "len") (fun xs H Q => ∃ p ys, xs = [.ref p] ∧ (SqL K H p ys ∨ SqT K H p ys) ∧ Q (.int ys.length) H) := by subst h; exact call_len_seq
theorem call_listK (h : X.K = K := by rfl) : CallR X (.type "list") (fun xs H Q => ∃ p ys, xs = [.ref p] ∧ (SqL K H p ys ∨ SqT K H p ys) ∧ ∀ l, H l = none → Q (.ref l) (upd H l (.lst ys))) := by subst h; exact call_list_of
theorem call_tupleK (h : X.K = K := by rfl) : CallR X (.type "tuple") (fun xs H Q => ∃ p ys, xs = [.ref p] ∧ ((SqL K H p ys ∧ ∀ l, H l = none → Q (.ref l) (upd H l (.tup ys))) ∨ (SqT K H p ys ∧ Q (.ref p) H))) := by subst h; exact call_tuple_of
theorem cr_sumK (hc : X.calm = true) (h : X.K = K := by rfl) : CallR X (.builtin "sum") (rSum K) := by subst h; exact cr_sum hc
theorem cr_maxK (hc : X.calm = true) (h : X.K = K := by rfl) : CallR X (.builtin "max") (rMax K) := by subst h; exact cr_max hc
theorem cr_minK (hc : X.calm = true) (h : X.K = K := by rfl) : CallR X (.builtin "min") (rMin K) := by subst h; exact cr_min hc
theorem cr_anyK (hc : X.calm = true) (h : X.K = K := by rfl) : CallR X (.builtin "any") (rAny K) := by subst h; exact cr_any hc
theorem cr_allK (hc : X.calm = true) (h : X.K = K := by rfl) : CallR X (.builtin "all") (rAll K) := by subst h; exact cr_all hc
theorem mt_indexK (h : X.K = K := by rfl) : MtR X "list.index" (rIndex K) := by subst h; exact mt_index
theorem call_isiK1 (h : X.K = K := by rfl) : CallR X (.builtin "isinstance") (rIsi K) := by subst h; exact call_isi
theorem call_isiK2 (h : X.K = K := by rfl) : CallR X (.builtin "isinstance") (rIsiT K) := by subst h; exact call_isiT
theorem op_eqDK (hu : X.A.units + 64 < cLine) (h : X.K = K := by rfl) : OpR X (compareOp .Eq) (rEqD K) := by subst h; exact op_eqD hu
theorem op_neDK (hu : X.A.units + 64 < cLine) (h : X.K = K := by rfl) : OpR X (compareOp .NotEq) (rNeD K) := by subst h; exact op_neD hu
theorem op_catAK (h : X.K = K := by rfl) : OpR X (binaryOp .Add) (rCatA K) := by subst h; exact op_catA
theorem sl_listK (h : X.K = K := by rfl) : SlR X (rSlL K) := by subst h; exact sl_list
theorem sl_tupAK (h : X.K = K := by rfl) : SlR X (rSlA K) := by subst h; exact sl_tupA
variable {e o : Expr} {es elts : List Expr} {te ta : TE} {t : TA} {f : Str} {p pos tpos : Pos} {tg : Expr} {kk : Nat}
theorem pe_fldK (he : PE X e ta) (h : X.K = K := by rfl) (hb : attributeBase e f X.env (eval e X.env) = eval e X.env := by rfl) : PE X (.Attribute e f pos) (tFld K ta f) := by subst h; exact pe_fld he hb
theorem pe_cvalK (he : PE X e ta) (h : X.K = K := by rfl) (hb : attributeBase e f X.env (eval e X.env) = eval e X.env := by rfl) : PE X (.Attribute e f pos) (ClX.tCVal K ta f) := by subst h; exact ClX.pe_cval he hb
theorem pi_listK (hl : PE X e te) (h : X.K = K := by rfl) : PI X tg e (iList K te) := by subst h; exact pi_list hl
theorem pi_tupK (hl : PE X e te) (h : X.K = K := by rfl) : PI X tg e (iTup K te) := by subst h; exact pi_tup hl
theorem pi_enumTK (hm : X.mg "enumerate" = none) (ha : PA X [e] t) (h : X.K = K := by rfl) (hg : Gl X "enumerate" := by rfl) (hs : starEach [e] X.env = [(false, eval e X.env)] := by rfl) : PI X (.Tuple elts kk tpos) (.Call (.Name "enumerate" p) [e] [] pos) (iEnumT K t) := by
  subst h; exact pi_enumT hm ha hg hs
theorem pi_enumLK (hm : X.mg "enumerate" = none) (ha : PA X [e] t) (h : X.K = K := by rfl) (hg : Gl X "enumerate" := by rfl) (hs : starEach [e] X.env = [(false, eval e X.env)] := by rfl) : PI X (.Tuple elts kk tpos) (.Call (.Name "enumerate" p) [e] [] pos) (iEnum K t) := by
  subst h; exact pi_enum hg hm ha hs
theorem pi_zipK {e2 : Expr} (hm : X.mg "zip" = none) (ha : PA X [e, e2] t) (h : X.K = K := by rfl) (hg : Gl X "zip" := by rfl) (hs : starEach [e, e2] X.env = (false, eval e X.env) :: starEach [e2] X.env := by rfl) (hpl : (backTo pos (starEach [e2] X.env)).any (·.1) = false := by rfl) :
    PI X (.Tuple elts kk tpos) (.Call (.Name "zip" p) [e, e2] [] pos) (RZ.iZipA K t) := by subst h; exact RZ.pi_zipA hg hm ha hs hpl
theorem pa_starK (he : PE X e te) (hr : PA X es t) (h : X.K = K := by rfl) (hs : starEach (.Starred e p :: es) X.env = (true, eval e X.env) :: starEach es X.env := by rfl) : PA X (.Starred e p :: es) (StX.tStar K te t) := by subst h; exact StX.pa_star he hr hs
theorem pe_mkS1K {CX : CXT} {k : Nat} {f' C : Addr} {sp : Sp} {E : XK} {x : Str} {sp_ : Pos} (M : Mk X.K C f') (F : FnR X.prog X.w X.K X.mg X.base CX k f' sp) (hr : Room (k + 1) X.A) (hm : X.mg x = some (.ref C)) (hx : Passes CX X E) (he : PE X e te) (h : X.K = K := by rfl) (hg : Gl X x := by rfl) (hdb : (x == ("__debug__" : Str)) = false := by decide)
    (hst : starEach [.Starred e sp_] X.env = [(true, eval e X.env)] := by rfl) : PE X (.Call (.Name x p) [.Starred e sp_] [] pos) (StX.tMakeR C sp E (StX.tStar K te tNil)) := by subst h; exact pe_mkS1 M F hr hm hx he hg hdb hst
theorem pg_tupK {n : Nat} {gs : TGs} (hc : X.calm = true) (hgs : PGs X elts gs) (hn : (assignEach elts X.env).length = n := by rfl) (h : X.K = K := by rfl) (hst : (assignEach elts X.env).findIdx? (·.1) = none := by rfl) : PG X (.Tuple elts kk tpos) (gTup K n gs) := by subst h; exact pg_tup hc hgs hn hst
def tCallI (C : Addr) (sp : Sp) (E : XK) (tf : TE) (t : TA) : TE := fun σ H Q => tf σ H fun y H1 => ∃ a, y = V.ref a ∧ t σ H1 fun vs H2 => (∃ dx fs, H2 a = some (.ins C dx fs)) ∧ sp (V.ref a :: vs) H2 Q E
theorem pe_callI {CX : CXT} {k : Nat} {C g : Addr} {sp : Sp} {E : XK} {tf : TE} {fe : Expr} (hf : PE X fe tf) (c : StX.CallO X.K C g) (F : FnR X.prog X.w X.K X.mg X.base CX k g sp) (hr : Room k X.A) (hx : Passes CX X E) (ha : PA X (e :: es) t)
    (ht : eval (.Call fe (e :: es) [] pos) X.env = (do callWith pos (← eval fe X.env) [] (backTo pos (starEach (e :: es) X.env)) (backToKw pos (keywordEach [] X.env))) := by rfl)
    (he : starEach (e :: es) X.env = (false, eval e X.env) :: starEach es X.env := by rfl) (hpl : (backTo pos (starEach es X.env)).any (·.1) = false := by rfl) : PE X (.Call fe (e :: es) [] pos) (tCallI C sp E tf t) := by
  refine ⟨fun pins s σ H Q I h => ?_⟩
  rw [ht]
  refine wpAny_bind (thn (hf.run pins s σ H _ I h) fun v s1 ⟨y, H1, I1, ry, a, ey, q⟩ => ?_)
  subst ey
  obtain rfl : v = Value.ref a := ry
  refine StX.callO_with (thn (ha.run pos pins s1 σ H1 _ I1 q) fun us s2 ⟨vs, H2, I2, r, hi, hs⟩ => ?_) he hpl
  have hi' : StX.InsC X H2 a C := .inr hi
  obtain ⟨ox, od, J, hd⟩ := StX.insC_at I2 hi'
  exact ⟨⟨C, ox, od, J, hd⟩, StX.run_callO c F hr hx I2 hi' r hs⟩
end
section
variable {K : PySem.W.Frag} {δ : Sl} {O O1 O2 O3 : Ow} {d x y z : D} {ta tb tc te tv : TE} {t : TA} {i j : Int} {p C : Addr} {ds es : List D} {nm nm' : List Str} {b : Bool} {R : DR} {E : XK} {P : D → Ow → Prop}
theorem sd_yes {tu tw : TS} {tt : TT} {P : DE} (h : EvT K tt δ O b O1) (hb : b = true) (k : Sd K tu P δ O1) : Sd K (tIfS tt tu tw) P δ O := by subst hb; exact sd_ifT h k
theorem sd_no {tu tw : TS} {tt : TT} {P : DE} (h : EvT K tt δ O b O1) (hb : b = false) (k : Sd K tw P δ O1) : Sd K (tIfS tt tu tw) P δ O := by subst hb; exact sd_ifF h k
theorem EvA.is (h : EvA K t δ O ds O1) (e : ds = es) : EvA K t δ O es O1 := by subst e; exact h
theorem ev_neg (ha : Ev K ta δ O (.int i) O1) : Ev K (tUn (rU fun i => .int (-i)) ta) δ O (.int (-i)) O1 := fun G H σ w s Q k =>
  ha G H σ w s _ fun v G1 H1 s1 i1 => ⟨i, i1, k _ G1 H1 s1 rfl⟩
theorem r_inL0 (hx : flatD x = true) (ha : ds.all flatD = true) : R2D K (rIn K false) x (.lst ds) O (.bl (inD x ds)) := r_inL (neg := false) hx ha
theorem r_inT0 (hx : flatD x = true) (ha : ds.all flatD = true) : R2D K (rIn K false) x (.tup ds) O (.bl (inD x ds)) := r_inT (neg := false) hx ha
theorem r_inO0 (ho : O p = some (.lst ds)) (hx : flatD x = true) (ha : ds.all flatD = true) : R2D K (rIn K false) x (.ref p) O (.bl (inD x ds)) := r_inO (neg := false) ho hx ha
theorem r_inL1 (hx : flatD x = true) (ha : ds.all flatD = true) : R2D K (rIn K true) x (.lst ds) O (.bl (!inD x ds)) := r_inL (neg := true) hx ha
theorem r_inT1 (hx : flatD x = true) (ha : ds.all flatD = true) : R2D K (rIn K true) x (.tup ds) O (.bl (!inD x ds)) := r_inT (neg := true) hx ha
theorem r_inO1 (ho : O p = some (.lst ds)) (hx : flatD x = true) (ha : ds.all flatD = true) : R2D K (rIn K true) x (.ref p) O (.bl (!inD x ds)) := r_inO (neg := true) ho hx ha
theorem ev_ownIn0 {b : Bool} (ha : Ev K ta δ O y O1) (hb : Ev K tb δ O1 (.ins C nm ds) O2) (hr : R [.ins C nm ds, y] O2 fun d' O' => d' = .bl b ∧ O' = O3) : Ev K (tOp (rOwnIn C (SpD K R) E false) ta tb) δ O (.bl b) O3 := ev_ownIn (neg := false) ha hb hr
theorem flat_ints (ns : List Int) : (ns.map D.int).all flatD = true := by simp [flatD]
theorem rng0 (n : Nat) : rng 0 n = (List.range n).map fun (k : Nat) => D.int (k : Int) := by
  unfold rng
  refine List.map_congr_left fun k _ => ?_
  rw [Int.zero_add]
theorem ei_rngN (h : EvA K t δ O [.int j] O1) (hj : -1000000 ≤ j ∧ j ≤ 1000000) : EvI K (iRng1 t) δ O ((List.range j.toNat).map fun (k : Nat) => D.int (k : Int)) O1 := by
  rw [← rng0]; exact ei_rng1 h hj
theorem atI_neg1 {α : Type} {l : List α} {v : α} (h : l.getLast? = some v) : atI l (-1) = some v := by
  obtain ⟨ys, rfl⟩ := List.getLast?_eq_some_iff.mp h
  exact atI_last _ _
theorem evp_callI (h : Ev K ta δ O (.ins C nm ds) O1) (ht : EvA K t δ O1 es O2) (hr : R (.ins C nm ds :: es) O2 P) : EvP K (tCallI C (SpD K R) E ta t) δ O P := fun G H σ w s Q k =>
  h G H σ w s _ fun v G1 H1 s1 i1 => by
    have i2 := i1
    obtain ⟨p, dx, xs, rfl, e, _, _⟩ := i2
    exact ⟨p, rfl, ht G1 H1 σ s1.wd (s.mono s1.ex) _ fun vs G2 H2 s2 i3 => ⟨⟨dx, _, s2.wd.sub _ _ (s2.ex _ _ e)⟩, sp_run (ds := .ins C nm ds :: es) s2.wd ⟨_, _, rfl, i1.mono s2.ex, i3⟩ hr fun d O' v G' H' hp st iv => k d O' v G' H' hp ((s1.trans s2).trans st) iv⟩⟩
theorem ev_callI (h : Ev K ta δ O (.ins C nm ds) O1) (ht : EvA K t δ O1 es O2) (hr : R (.ins C nm ds :: es) O2 fun d' O' => d' = d ∧ O' = O3) : Ev K (tCallI C (SpD K R) E ta t) δ O d O3 := (evp_callI h ht hr).ev
theorem evp_op {r : R2} {P : D → Ow → Prop} (ha : EvP K ta δ O fun x O1 => EvP K tb δ O1 fun y O2 => ∃ z, R2D K r x y O2 z ∧ P z O2) : EvP K (tOp r ta tb) δ O P := fun G H σ w s Q k =>
  ha G H σ w s _ fun x O1 v G1 H1 hp s1 i1 => hp G1 H1 σ s1.wd (s.mono s1.ex) _ fun y O2 u G2 H2 hq s2 i2 => by
    obtain ⟨z, hr, hz⟩ := hq
    exact hr G2 H2 v u s2.wd (i1.mono s2.ex) i2 _ fun q G3 H3 s3 i3 => k z O2 q G3 H3 hz ((s1.trans s2).trans s3) i3
end
end DL

set_option Elab.async false
set_option linter.all false
set_option maxRecDepth 100000
namespace DL
open PySem PySem.Spec L2
open PyProof.Rows hiding St
section
variable {K : PySem.W.Frag} {δ : Sl} {O O1 O2 O3 : Ow} {d x y z : D} {ta tb tc te tv : TE} {t : TA} {i j : Int} {p C : Addr} {ds es : List D} {b : Bool} {P : D → Ow → Prop}
/-- a list times a number that is owned from now on -/
theorem evp_rep (ha : Ev K ta δ O (.lst ds) O1) (hb : Ev K tb δ O1 (.int i) O2) (h1 : -(2 ^ 63) ≤ i ∧ i < 2 ^ 63) (hl : ds.length * i.toNat ≤ 100000) (hp : ∀ p, O2 p = none → P (.ref p) (setO O2 p (.lst (List.replicate i.toNat ds).flatten))) : EvP K (tOp rRep ta tb) δ O P := fun G H σ w s Q k =>
  ha G H σ w s _ fun v G1 H1 s1 i1 => hb G1 H1 σ s1.wd (s.mono s1.ex) _ fun u G2 H2 s2 i2 => by
    obtain ⟨p, xs, rfl, e, t⟩ := i1.mono s2.ex
    exact ⟨p, i, xs, rfl, i2, s2.wd.sub _ _ e, h1.1, h1.2, by rw [← t.length]; exact sz hl, fun l hn => k _ _ _ _ _ (hp l (s2.wd.oNone hn)) ((s1.trans s2).trans (Stp.newO s2.wd hn ⟨_, upd_same, t.rep _⟩)) rfl⟩
theorem evp_ex {ι : Type} {Q : ι → Prop} {f : ι → D} {S : ι → Ow} (h : ∃ x, Q x ∧ Ev K te δ O (f x) (S x)) (k : ∀ x, Q x → P (f x) (S x)) : EvP K te δ O P := by
  obtain ⟨x, q, e⟩ := h; exact e.toP (k x q)
theorem ex_map {ι : Type} {Q : ι → Prop} {f f' : ι → D} {S : ι → Ow} {te' : TE} (h : ∃ x, Q x ∧ Ev K te δ O (f x) (S x)) (k : ∀ x, Ev K te δ O (f x) (S x) → Ev K te' δ O (f' x) (S x)) : ∃ x, Q x ∧ Ev K te' δ O (f' x) (S x) := by
  obtain ⟨x, q, e⟩ := h; exact ⟨x, q, k x e⟩
theorem evp_lc {wi : TI} {tt : TT} {vs : List Nat} {g : TG} {items : List D} (hi : EvI K wi δ O items O1) (hz : items.length ≤ 50000) (h : ∃ out O2, Cp K g tt te vs (wipeD δ vs) items O1 out O2 ∧ P (.lst out) O2) : EvP K (tLc wi g tt te vs) δ O P := by
  obtain ⟨out, O2, c, q⟩ := h
  exact (ev_lc hi c hz).toP q
/-- a filter whose test moves a hidden state -/
theorem cp_st {σ α : Type} {tt : TT} {vs : List Nat} {g : TG} (ok : σ → Prop) (S : σ → Ow) (enc f : α → D) (δ2 : α → Sl) (hg : ∀ a, Gc K g vs (enc a) δ (δ2 a)) : ∀ (l : List α), (∀ a ∈ l, ∀ s, ok s → ∃ b s', ok s' ∧ EvT K tt (δ2 a) (S s) b (S s') ∧ (b = true → Ev K te (δ2 a) (S s') (f a) (S s'))) → ∀ s, ok s → ∃ out s', ok s' ∧ List.Sublist out l ∧ Cp K g tt te vs δ (l.map enc) (S s) (out.map f) (S s')
  | [], _, s, hs => ⟨[], s, hs, List.Sublist.refl _, .nil⟩
  | a :: r, h, s, hs => by
    obtain ⟨b, s1, h1, h2, h3⟩ := h a (List.mem_cons_self ..) s hs
    obtain ⟨out, s2, h4, h5, h6⟩ := cp_st ok S enc f δ2 hg r (fun a ha => h a (List.mem_cons_of_mem _ ha)) s1 h1
    cases b with
    | true => exact ⟨a :: out, s2, h4, h5.cons_cons _, .yes (δ2 a) (hg a) h2 (h3 rfl) h6⟩
    | false => exact ⟨out, s2, h4, h5.cons _, .no (δ2 a) (hg a) h2 h6⟩
/-- a map whose value moves a hidden state -/
theorem cp_mst {σ α β : Type} {tt : TT} {vs : List Nat} {g : TG} (ok : σ → Prop) (S : σ → Ow) (enc : α → D) (V : β → Prop) (f : β → D) (δ2 : α → Sl) (hg : ∀ a, Gc K g vs (enc a) δ (δ2 a)) : ∀ (l : List α), (∀ a ∈ l, ∀ s, ok s → ∃ v s', ok s' ∧ V v ∧ EvT K tt (δ2 a) (S s) true (S s) ∧ Ev K te (δ2 a) (S s) (f v) (S s')) → ∀ s, ok s → ∃ (out : List β) (s' : σ), ok s' ∧ out.length = l.length ∧ (∀ v ∈ out, V v) ∧ Cp K g tt te vs δ (l.map enc) (S s) (out.map f) (S s')
  | [], _, s, hs => ⟨[], s, hs, rfl, (fun _ h => nomatch h), .nil⟩
  | a :: r, h, s, hs => by
    obtain ⟨b, s1, h1, h2, h3, h7⟩ := h a (List.mem_cons_self ..) s hs
    obtain ⟨out, s2, h4, h5, h8, h6⟩ := cp_mst ok S enc V f δ2 hg r (fun a ha => h a (List.mem_cons_of_mem _ ha)) s1 h1
    refine ⟨b :: out, s2, h4, by simp [h5], fun v hv => ?_, .yes (δ2 a) (hg a) h3 h7 h6⟩
    rcases List.mem_cons.mp hv with rfl | hv
    · exact h2
    · exact h8 v hv
theorem ex_lcSt {σ α : Type} {wi : TI} {tt : TT} {vs : List Nat} {g : TG} {s : σ} (ok : σ → Prop) (S : σ → Ow) (enc f : α → D) (δ2 : α → Sl) (l : List α) (hs : ok s) (hz : l.length ≤ 50000) (hi : EvI K wi δ O (l.map enc) (S s)) (hg : ∀ a, Gc K g vs (enc a) (wipeD δ vs) (δ2 a)) (h : ∀ a ∈ l, ∀ s, ok s → ∃ b s', ok s' ∧ EvT K tt (δ2 a) (S s) b (S s') ∧ (b = true → Ev K te (δ2 a) (S s') (f a) (S s'))) :
    ∃ x : List α × σ, (ok x.2 ∧ List.Sublist x.1 l) ∧ Ev K (tLc wi g tt te vs) δ O (.lst (x.1.map f)) (S x.2) := by
  obtain ⟨out, s', h1, h2, h3⟩ := cp_st ok S enc f δ2 hg l h s hs
  exact ⟨(out, s'), ⟨h1, h2⟩, ev_lc hi h3 (by rw [List.length_map]; exact hz)⟩
theorem ex_lcMst {σ α β : Type} {wi : TI} {tt : TT} {vs : List Nat} {g : TG} {s : σ} (ok : σ → Prop) (S : σ → Ow) (enc : α → D) (V : β → Prop) (f : β → D) (δ2 : α → Sl) (l : List α) (hs : ok s) (hz : l.length ≤ 50000) (hi : EvI K wi δ O (l.map enc) (S s)) (hg : ∀ a, Gc K g vs (enc a) (wipeD δ vs) (δ2 a)) (h : ∀ a ∈ l, ∀ s, ok s → ∃ v s', ok s' ∧ V v ∧ EvT K tt (δ2 a) (S s) true (S s) ∧ Ev K te (δ2 a) (S s) (f v) (S s')) :
    ∃ x : List β × σ, (ok x.2 ∧ x.1.length = l.length ∧ ∀ v ∈ x.1, V v) ∧ Ev K (tLc wi g tt te vs) δ O (.lst (x.1.map f)) (S x.2) := by
  obtain ⟨out, s', h1, h2, h3, h4⟩ := cp_mst ok S enc V f δ2 hg l h s hs
  exact ⟨(out, s'), ⟨h1, h2, h3⟩, ev_lc hi h4 (by rw [List.length_map]; exact hz)⟩
theorem ex_tupL {ι : Type} {Q : ι → Prop} {f : ι → List D} {S : ι → Ow} (h : ∃ x, Q x ∧ Ev K te δ O (.lst (f x)) (S x)) : ∃ x, Q x ∧ Ev K (tCB (fun xs H Q => ∃ p ys, xs = [.ref p] ∧ ((SqL K H p ys ∧ ∀ l, H l = none → Q (.ref l) (upd H l (.tup ys))) ∨ (SqT K H p ys ∧ Q (.ref p) H))) (tCons te tNil)) δ O (.tup (f x)) (S x) := by
  obtain ⟨x, q, e⟩ := h; exact ⟨x, q, ev_cb (ea_cons e ea_nil) c_tupL⟩
end
end DL

set_option Elab.async false
set_option linter.all false
set_option maxRecDepth 100000
namespace DL
open PySem PySem.Spec L2
open PyProof.Rows hiding St
section
variable {X : Cx} {o : Expr} {ta : TE} {f : Str} {pos : Pos}
/-- o.f = .. as one of several targets -/
def gFld (K : PySem.W.Frag) (ta : TE) (f : Str) : TG := fun v σ H Q => ta σ H fun x H1 => ∃ a C dx fs, x = .ref a ∧ H1 a = some (.ins C dx fs) ∧ Cls K C ∧ NoAttr K C f ∧ fs.length < 1000 ∧ Q σ (upd H1 a (.ins C dx (putF f v fs)))
theorem pg_fldK (K : PySem.W.Frag) (ha : PE X o ta) (h : X.K = K := by rfl) : PG X (.Attribute o f pos) (gFld K ta f) := by
  subst h
  refine ⟨fun pins s σ H v u Q I r h => ?_⟩
  refine PySem.W.kas_attr (thn (ha.run pins s σ H _ I h) fun ov s1 ⟨x, H1, I1, rx, a, C, dx, fs, ex, ea, c, n, l, q⟩ => ?_)
  subst ex
  obtain rfl : ov = Value.ref a := rx
  exact setattr_ok I1 ea c n l r fun s3 I3 => ⟨σ, _, I3, q⟩
end
section
variable {K : PySem.W.Frag} {δ : Sl} {O O1 O2 O3 : Ow} {d x y z : D} {ta tb tc te tv : TE} {t : TA} {i j : Int} {p q C : Addr} {ds es : List D} {nm nm' : List Str} {b : Bool} {R : DR} {E : XK} {P : D → Ow → Prop} {ts : TS} {PE : DE} {N : Sl → Ow → Prop}
theorem gd_fldN {f : Str} (h1 : Ev K ta δ O (.ref p) O2) (ho : O2 p = some (.ins C nm ds)) (c : Cls K C) (n : NoAttr K C f) (hf : f ∉ nm) (hz : nm.length < 1000) (k : N δ (setO O2 p (.ins C (nm ++ [f]) (ds ++ [d])))) : Gd K (gFld K ta f) d δ O N := fun G H σ v w s iv Q kk =>
  h1 G H σ w s _ fun u G1 H1 s1 i1 => by
    have i1 : u = .ref p := i1
    subst i1
    obtain ⟨_, dx, xs, e, hl, tl⟩ := s1.wd.own p _ ho
    refine ⟨p, C, dx, _, rfl, e, c, n, by rw [List.length_zip, hl, Nat.min_self]; exact hz, ?_⟩
    rw [putF_new hf hl]
    refine kk δ _ G1 _ σ k (s1.trans (Stp.write s1.wd ho ⟨dx, xs ++ [v], upd_same, by simp [hl], tl.append (.cons (iv.mono s1.ex) .nil)⟩)) (s.mono s1.ex)
theorem evp_tup {P : D → Ow → Prop} (h : EvAP K t δ O fun ds O1 => ds.length ≤ 100000 ∧ P (.tup ds) O1) : EvP K (tTup t) δ O P := fun G H σ w s Q k =>
  h G H σ w s _ fun ds O1 vs G1 H1 hp s1 i1 => ⟨by rw [← i1.length]; exact sz hp.1, fun p hn => k _ _ _ _ _ hp.2 (s1.trans (Stp.new s1.wd hn)) ⟨p, vs, rfl, upd_same, i1.mono (Stp.new s1.wd hn (o := .tup vs)).ex⟩⟩
theorem Stp.retag {G H : Hp} {m m' : MO} (w : Wd K G O H) (hp : O p = some m) (hm : MoIs K G H p m') : Stp K G O H G (setO O p m') H := by
  obtain ⟨ho, e⟩ := hm.there
  have eu : upd H p ho = H := by
    funext a
    unfold upd
    by_cases q : a = p
    · subst q; simp [e]
    · simp [q]
  have := Stp.write (o := ho) (m' := m') w hp (by rw [eu]; exact hm)
  rwa [eu] at this
/-- a list held by a field of an owned instance is handed on for good -/
theorem sd_pubF {jj : Nat} (ho : O p = some (.ins C nm ds)) (hj : ds[jj]? = some (.ref q)) (hq : O q = some (.lst es)) (hpq : p ≠ q) (h : Sd K ts PE δ (setO (delO O q) p (.ins C nm (ds.set jj (.lst es))))) : Sd K ts PE δ O := fun G H σ D w s r => by
  obtain ⟨_, xs, e, tl⟩ := w.own q _ hq
  have st := Stp.pub w hq e
  obtain ⟨_, dx, us, e2, hl2, tl2⟩ := w.own p _ ho
  obtain ⟨v, hv, iv⟩ := tl2.get hj
  have iv : v = .ref q := iv
  subst iv
  have es' : us = us.set jj (.ref q) := by
    refine List.ext_getElem? fun n => ?_
    by_cases z : jj = n
    · subst z; rw [List.getElem?_set_self (List.getElem?_eq_some_iff.mp hv).1, hv]
    · rw [List.getElem?_set_ne z]
  have st2 := Stp.retag (p := p) (m' := .ins C nm (ds.set jj (.lst es))) st.wd (by unfold delO; rw [if_neg hpq]; exact ho) ⟨dx, us, e2, hl2, by
    rw [es']
    exact (tl2.mono st.ex).set jj (show Is K _ (.lst es) (.ref q) from ⟨q, xs, rfl, upd_same, tl.mono st.ex⟩)⟩
  have st3 := st.trans st2
  exact h _ H σ D st3.wd (s.mono st3.ex) (r.step st3)
/-! ### methods of lists, max of two -/
theorem ev_index {jj : Nat} {x0 : Int} {ns : List Int} (h : Ev K ta δ O (.lst (ns.map .int)) O1) (ht : EvA K t δ O1 [.int x0] O2) (hj : ns[jj]? = some x0) (hm : ∀ m, m < jj → ns[m]? ≠ some x0) : Ev K (tBM K "list" (rIndex K) ta t) δ O (.int (jj : Nat)) O2 := fun G H σ w s Q k =>
  h G H σ w s _ fun v G1 H1 s1 i1 => by
    obtain ⟨p, xs, rfl, e, tl⟩ := i1
    have ex := tl.intsV
    subst ex
    refine ⟨.inl ⟨rfl, _, .inl (.inl (s1.wd.sub _ _ e))⟩, ht G1 H1 σ s1.wd (s.mono s1.ex) _ fun vs G2 H2 s2 i2 => ?_⟩
    obtain ⟨v, r, rfl, iv, ir⟩ := i2
    have ir : r = [] := ir
    subst ir
    have iv : v = .int x0 := iv
    subst iv
    refine ⟨p, ns.map .int, .int x0, jj, .int x0, rfl, rfl, .inl (.inl (s2.wd.sub _ _ (s2.ex _ _ e))), rfl, by simp [flatV], by rw [List.getElem?_map, hj]; rfl, by simp [eqV], fun m z' hl hz => ?_, k _ G2 H2 (s1.trans s2) rfl⟩
    rw [List.getElem?_map] at hz
    cases hn : ns[m]? with
    | none => rw [hn] at hz; cases hz
    | some i =>
      rw [hn] at hz
      cases hz
      have := hm m hl
      rw [hn] at this
      simp only [eqV]
      have hne : i ≠ x0 := fun z => this (by rw [z])
      simpa using hne
theorem c_max2 : RCD K (fun xs H Q => ∃ i j, xs = [V.int i, V.int j] ∧ Q (.int (if j > i then j else i)) H) [.int i, .int j] O (.int (if j > i then j else i)) := fun G H vs w a Q k => by
  obtain ⟨v, u, rfl, iv, iu⟩ := isL2 a
  cases iv; cases iu
  exact ⟨i, j, rfl, k _ G H (Stp.refl w) rfl⟩
end
end DL

set_option Elab.async false
set_option linter.all false
set_option maxRecDepth 100000
namespace DL
open PySem PySem.Spec L2
open PyProof.Rows hiding St
section
variable {prog : Program} {w : World} {A : Around} {E : Value → Shared → Prop} {s : Shared} {K : PySem.W.Frag} {x y C f : Addr} {ox : Obj} {od : Option Obj}
theorem ne_entry {Q : Fin → Shared → Prop} (X : K.In s.heap) (I : PySem.W.InstAt s.heap x ox C od) (hs : PySem.W.findIn K (.ref C) "__eq__" = some (some (.ref f))) (hf : PySem.W.isFn K (.ref f) = true) (hu : A.units < cLine)
    (hcall : wpAny (model prog w) A (call (.ref f) [.ref x, .ref y]) (fun v s' => ∃ b, v = .bool b ∧ Q (.done (.ret (.bool (!b)))) s') E s) :
    wpAny (model prog w) A (Builtin.«object.__ne__» ⟨[.ref x, .ref y], []⟩) Q E s := by
  unfold Builtin.«object.__ne__»
  repeat (first
    | with_reducible refine wpAny_cRoomFor hu ?_
    | (refine wpAny_bind (m := callSpecialIfBound? (.ref x) (Str.ofString "__eq__") [.ref y])
        (PySem.W.ifBound_K X I hs hf (wpAny_mono hcall (fun r s' hr => by
          obtain ⟨b, rfl, hq⟩ := hr
          repeat (first | exact hq | exact wpAny_pure hq | exact wpAny_truthy_bool hq | (refine wpAny_bind (m := truthy (.bool _)) (wpAny_truthy_bool ?_)) | wp_step)) fun _ _ e => e)))
    | wp_step)
theorem ne_ifBound {M : Model} {args : List Value} {Q : Option Value → Shared → Prop} (X : K.In s.heap) (I : PySem.W.InstAt s.heap x ox C od) (hs : PySem.W.findIn K (.ref C) "__ne__" = some (some (.builtin "object.__ne__")))
    (h : wpAny M A (call (.builtin "object.__ne__") (.ref x :: args)) (fun v => Q (some v)) E s) : wpAny M A (callSpecialIfBound? (.ref x) "__ne__" args) Q E s := by
  simp only [callSpecialIfBound?, bindSpecialIfBound?]
  refine wpAny_holding (wpAny_bind (wpAny_bind (wpAny_bind (I.type.here ((PySem.W.looks_findIn X hs).here ?_)))))
  refine wpAny_bind (wpAny_askSetting (wpAny_ite ?_))
  have fin : wpAny M A (call (.builtin "object.__ne__") ([.ref x] ++ args) >>= fun v => pure (some v)) Q E s := wpAny_bind (wpAny_mono h (fun v s' h' => wpAny_pure h') fun _ _ h' => h')
  split
  · exact wpAny_bind (wpAny_of_eq (F.cmp_object.ne.bind _) (wpAny_pure (by exact fin)))
  · exact wpAny_tryCatch (wpAny_bind (wpAny_of_eq (F.cmp_object.ne.bind _) (wpAny_pure (by exact fin))))
theorem ne_own {Q : Value → Shared → Prop} (hu : A.units + 1 < cLine) (X : K.In s.heap) (I : PySem.W.InstAt s.heap x ox C od) (hb : PySem.W.Looks (model prog w) s.heap (typeOf (.ref y)) (.ref C)) (hm : PySem.W.mroIn K C (.type "object") = some true)
    (hn : PySem.W.findIn K (.ref C) "__ne__" = some (some (.builtin "object.__ne__"))) (hs : PySem.W.findIn K (.ref C) "__eq__" = some (some (.ref f))) (hf : PySem.W.isFn K (.ref f) = true)
    (hcall : wpAny (model prog w) A.in1 (call (.ref f) [.ref x, .ref y]) (fun v s' => ∃ b, v = .bool b ∧ Q (.bool (!b)) s') E s) : wpAny (model prog w) A (richCompare .NotEq (.ref x) (.ref y)) Q E s := by
  have one : wpAny (model prog w) A (tryCompare (.ref x) "__ne__" (.ref y)) (fun r s' => ∃ b, r = some (.bool b) ∧ Q (.bool b) s') E s := by
    unfold tryCompare
    refine wpAny_bind (ne_ifBound X I hn (wpAny_call (codeAny_call_builtin F.cmp_object.ne.plain F.cmpEntry_ne (PySem.W.check_slot F.cmpKind_ne F.cmpSplit_ne (I.type.andThen (PySem.W.looks_mroIn X hm)) (F.cmpArgs_ne _ _) (ne_entry X I hs hf hu (wpAny_mono hcall (fun v s' hv => ?_) fun _ _ e => e))))))
    obtain ⟨b, rfl, hq⟩ := hv
    exact ⟨b, rfl, wpAny_pure ⟨_, rfl, hq⟩⟩
  simp only [richCompare, cmpInfo_NotEq, oneThing_ref]
  refine wpAny_holding (wpAny_bind (wpAny_cRoomFor (Nat.lt_of_succ_lt hu) ?_))
  refine wpAny_bind (I.type.here (wpAny_bind (hb.here ?_)))
  rw [show (Value.ref C != Value.ref C) = false from by simp]
  simp only [Bool.false_eq_true, if_false]
  refine wpAny_bind (wpAny_pure ?_)
  simp only [Bool.false_eq_true, if_false]
  refine wpAny_bind (wpAny_mono one (fun r s' z => ?_) fun _ _ e => e)
  obtain ⟨b, rfl, hq⟩ := z
  exact wpAny_pure hq
end
section
variable {X : Cx} {CX : CXT} {C f : Addr} {sp : Sp} {k : Nat} {E : XK}
def rOwnEq (C : Addr) (sp : Sp) (E : XK) (neg : Bool) : R2 := fun x y H Q => ∃ a dx fs b dy gs, x = .ref a ∧ y = .ref b ∧ H a = some (.ins C dx fs) ∧ H b = some (.ins C dy gs) ∧ sp [x, y] H (fun z H' => ∃ r, z = .bl r ∧ Q (.bl (if neg then !r else r)) H') E
theorem op_ownNe (hm : PySem.W.mroIn X.K C (.type "object") = some true) (hn : PySem.W.findIn X.K (.ref C) "__ne__" = some (some (.builtin "object.__ne__"))) (hs : PySem.W.findIn X.K (.ref C) "__eq__" = some (some (.ref f))) (hf : PySem.W.isFn X.K (.ref f) = true)
    (F : FnR X.prog X.w X.K X.mg X.base CX k f sp) (hr : Room (k + 1) X.A) (hx : ∀ (H : Hp) (s : Shared) (e : Value) (s' : Shared), CX X.stack H s E e s' → False) : OpR X (compareOp .NotEq) (rOwnEq C sp E true) := by
  intro pins s σ H x y v u Q I rx ry h
  obtain ⟨a, dx, fs, b, dy, gs, rfl, rfl, ha, hb, q⟩ := h
  cases (show v = Value.ref a from rx)
  cases (show u = Value.ref b from ry)
  obtain ⟨od, J⟩ := inst_at I ha
  obtain ⟨od', J'⟩ := inst_at I hb
  have hu : X.A.units + 64 < cLine := hr.units
  refine ne_own (by omega) I.kIn J J'.type hm hn hs hf ?_
  refine wpAny_call (codeAny_mono (F X.A.in1 X.stack s H [.ref a, .ref b] [.ref a, .ref b] _ E hr.in1 I.env0.in1 (.cons rfl (.cons rfl .nil)) q) fun r s' hq => ?_)
  cases r with
  | error e => exact (hx _ _ _ _ hq).elim
  | ok fl =>
    cases fl with
    | ret w =>
      obtain ⟨z, H', I', rz, r, ez, qz⟩ := I.after hq
      subst ez
      cases rz
      exact ⟨r, rfl, .bl (!r), H', I', rfl, qz⟩
    | next => exact False.elim hq
    | brk => exact False.elim hq
    | cont => exact False.elim hq
end
section
variable {K : PySem.W.Frag} {δ : Sl} {O O1 O2 O3 : Ow} {ta tb : TE} {C : Addr} {ds es : List D} {nm nm' : List Str} {R : DR} {E : XK}
theorem ev_ownNe {b : Bool} (ha : Ev K ta δ O (.ins C nm ds) O1) (hb : Ev K tb δ O1 (.ins C nm' es) O2) (hr : R [.ins C nm ds, .ins C nm' es] O2 fun d' O' => d' = .bl b ∧ O' = O3) : Ev K (tOp (rOwnEq C (SpD K R) E true) ta tb) δ O (.bl (!b)) O3 := fun G H σ w s Q k =>
  ha G H σ w s _ fun v G1 H1 s1 i1 => hb G1 H1 σ s1.wd (s.mono s1.ex) _ fun u G2 H2 s2 i2 => by
    have j1 := i1.mono s2.ex
    obtain ⟨p, dx, xs, rfl, e, _, _⟩ := id j1
    obtain ⟨p', dx', xs', rfl, e', _, _⟩ := id i2
    refine ⟨p, dx, _, p', dx', _, rfl, rfl, s2.wd.sub _ _ e, s2.wd.sub _ _ e', sp_run (ds := [.ins C nm ds, .ins C nm' es]) s2.wd ⟨_, _, rfl, j1, _, _, rfl, i2, rfl⟩ hr fun d O' v G' H' hp st iv => ?_⟩
    obtain ⟨rfl, rfl⟩ := hp
    have iv : v = .bl b := iv
    subst iv
    exact ⟨b, rfl, k _ G' H' ((s1.trans s2).trans st) rfl⟩
end
end DL

set_option Elab.async false
set_option linter.all false
set_option maxRecDepth 100000
namespace DL
open PySem PySem.Spec L2
open PyProof.Rows hiding St
theorem pe_methR0 {X : Cx} {CX : CXT} {k : Nat} {C f : Addr} {m : Str} {sp : Sp} {E : XK} {o : Expr} {ta : TE} {apos pos : Pos} {pl : Sem Bool} (he : PE X o ta) (c : Cls X.K C) (hm : Meth X.K C m f)
    (F : FnR X.prog X.w X.K X.mg X.base CX k f sp) (hr : Room k X.A) (hx : Passes CX X E)
    (ht : eval (.Call (.Attribute o m apos) [] [] pos) X.env = (do
      let ov ← eval o X.env
      standAt apos.atName
      let (g, first) ← holding [ov] (getMethod ov m pl)
      callWith pos g first (backTo pos (starEach [] X.env)) (backToKw pos (keywordEach [] X.env))) := by rfl) :
    PE X (.Call (.Attribute o m apos) [] [] pos) (tMethR C m sp E ta tNil) := by
  refine ⟨fun pins s σ H Q I h => ?_⟩
  refine PySem.W.methodCall_KW (pl := pl) (thn (he.run pins s σ H _ I h) fun u s1 ⟨x, H1, I1, rx, a, dx, fs, ex, ea, l, q⟩ => ?_) ht
  subst ex
  obtain rfl : u = Value.ref a := rx
  refine getmeth_ok I1 ea c hm l ?_
  exact PySem.W.callWith_K0 (first := [.ref a]) I1.kIn hm.kp (wpAny_call (run_fnR (us := [.ref a]) (vs := [.ref a]) F hr hx I1 (.cons rfl .nil) q))
section
variable {K : PySem.W.Frag} {δ : Sl} {O O1 O2 O3 : Ow} {d x y z : D} {ta tb tc te tv : TE} {t : TA} {i j : Int} {p q C : Addr} {ds es : List D} {nm nm' : List Str} {b : Bool} {R : DR} {E : XK} {P : D → Ow → Prop}
/-- a new instance that is plain data from then on; what it holds is not told by its arguments alone -/
theorem evp_mkI (h : EvA K t δ O ds O1) (hr : ∀ x, O1 x = none → R (.ref x :: ds) (setO O1 x (.ins C [] [])) fun d' O' => d' = .non ∧ ∃ nm es, O' = setO O1 x (.ins C nm es) ∧ P (.ins C nm es) O1) : EvP K (StX.tMakeR C (SpD K R) E t) δ O P := fun G H σ w s Q k => by
  refine evp_mk (P := fun d O' => ∃ x nm es, O1 x = none ∧ d = .ref x ∧ O' = setO O1 x (.ins C nm es) ∧ P (.ins C nm es) O1) h (fun x hx => ?_) G H σ w s Q fun d O' v G' H' hp st iv => ?_
  · have z := hr x hx
    have e : (fun (d' : D) (O' : Ow) => d' = .non ∧ ∃ x' nm es, O1 x' = none ∧ D.ref x = .ref x' ∧ O' = setO O1 x' (.ins C nm es) ∧ P (.ins C nm es) O1) = fun d' O' => d' = .non ∧ ∃ nm es, O' = setO O1 x (.ins C nm es) ∧ P (.ins C nm es) O1 := by
      funext d' O'
      refine propext ⟨fun ⟨a, x', nm, es, b, c, e, f⟩ => ?_, fun ⟨a, nm, es, e, f⟩ => ⟨a, x, nm, es, hx, rfl, e, f⟩⟩
      cases c
      exact ⟨a, nm, es, e, f⟩
    rw [e]
    exact z
  · obtain ⟨x, nm, es, hx, rfl, rfl, hP⟩ := hp
    have iv : v = .ref x := iv
    subst iv
    obtain ⟨_, dx, xs, e, hl, tl⟩ := st.wd.own x _ setO_same
    have st2 := Stp.pubI st.wd setO_same e
    rw [delO_setO hx] at st2
    exact k _ _ _ _ _ hP (st.trans st2) ⟨x, dx, xs, rfl, upd_same, hl, tl.mono st2.ex⟩
theorem evp_methP {m : Str} (h : EvP K ta δ O fun d O1 => ∃ nm ds es O2, d = .ins C nm ds ∧ m ∉ nm ∧ EvA K t δ O1 es O2 ∧ R (.ins C nm ds :: es) O2 P) : EvP K (tMethR C m (SpD K R) E ta t) δ O P := fun G H σ w s Q k =>
  h G H σ w s _ fun d O1 v G1 H1 hp s1 i1 => by
    obtain ⟨nm, ds, es, O2, rfl, hm, ht, hr⟩ := hp
    have i2 := i1
    obtain ⟨p, dx, xs, rfl, e, _, _⟩ := i2
    refine ⟨p, dx, _, rfl, s1.wd.sub _ _ e, lookup_none (G := G) hm, ht G1 H1 σ s1.wd (s.mono s1.ex) _ fun vs G2 H2 s2 i3 => ?_⟩
    exact sp_run (ds := .ins C nm ds :: es) s2.wd ⟨_, _, rfl, i1.mono s2.ex, i3⟩ hr fun d O' v G' H' hp st iv => k d O' v G' H' hp ((s1.trans s2).trans st) iv
end
end DL

set_option Elab.async false
set_option linter.all false
set_option maxRecDepth 100000
namespace DL
open PySem PySem.Spec L2
open PyProof.Rows hiding St
section
variable {X : Cx}
/-- xs[::0 - 1] -/
theorem pe_revZ {e : Expr} {te : TE} {k k2 : Nat} {p1 p2 p3 pos p4 : Pos} (K : PySem.W.Frag) (he : PE X e te) (hK : X.K = K := by rfl) : PE X (.Subscript e (.Slice none none (some (.BinOp (.Constant (.int 0) k p1) .Sub (.Constant (.int 1) k2 p2) p4)) p3) pos) (tRevL K te) := by
  subst hK
  refine ⟨fun pins s σ H Q I h => ?_⟩
  refine Subscript_ (thn (he.run pins s σ H _ I h) fun v s1 ⟨x, H1, I1, r1, q1⟩ => ?_)
  obtain ⟨a, xs, ex, hx, q⟩ := q1
  subst ex
  cases r1
  have hst : PO X (some (.BinOp (.Constant (.int 0) k p1) .Sub (.Constant (.int 1) k2 p2) p4)) (tPart (tOp (rI0 fun i j => .int (i - j)) (tC (.int 0)) (tC (.int 1)))) := po_some (pe_op op_sub pe_int pe_int)
  refine wpAny_Slice (thn (po_none.run pins s1 σ H1 (fun o H2 => o = none ∧ H2 = H1) I1 ⟨rfl, rfl⟩) fun vl s2 ⟨l, H2, I2, pl, el, e2⟩ => ?_)
  subst el e2
  refine thn (po_none.run pins s2 σ H2 (fun o H3 => o = none ∧ H3 = H2) I2 ⟨rfl, rfl⟩) fun vu s3 ⟨u, H3, I3, pu, eu, e3⟩ => ?_
  subst eu e3
  refine thn (hst.run pins s3 σ H3 (fun o H4 => o = some (-1) ∧ H4 = H3) I3 ⟨0, 1, rfl, rfl, -1, rfl, rfl, rfl⟩) fun vs s4 ⟨o, H4, I4, ps, eo, e4⟩ => ?_
  subst eo e4
  have I5 : Inv X pins σ H4 { s4 with heap := s4.heap.push { cls := .type "slice", data := .fields #[vl, vu, vs] } } := I4.kept (t' := s4.toks) fun b ob q => Heap.get?_push_of_some _ q
  obtain ⟨its, r, ht, hz⟩ := I5.list hx
  have hlen := r.length
  show wpAny (model X.prog X.w) X.A (subscriptTail e (.Slice none none (some (.BinOp (.Constant (.int 0) k p1) .Sub (.Constant (.int 1) k2 p2) p4)) p3) (.ref a) (.ref s4.heap.objs.size)) (EP X pins σ Q) X.xe { s4 with heap := s4.heap.push { cls := .type "slice", data := .fields #[vl, vu, vs] } }
  refine tail_any (ops := [.ref a, .ref s4.heap.objs.size]) ht.isList.typeIs (PySem.slot_list_getitem.lookup) ?_ (by with_unfolding_all rfl)
  refine wpAny_getItem_list_slice ht.isList (Heap.IsSliceOf.new _ vl vu vs) pl pu ps (by decide) ?_ (by rw [List.size_toArray]; omega)
  rw [PySem.W.krv_pick]
  refine ⟨.ref _, _, I5.laid (t' := s4.toks) (o := .lst xs.reverse) (fun b ob q => Heap.get?_push_of_some _ q) (Nat.le_refl _) ?_, rfl, q _ (I5.hok.fresh (Nat.le_refl _))⟩
  exact ⟨by rw [List.length_reverse]; exact hz, _, 0, r.reverse, Heap.get?_push_size _ rfl⟩
end
section
variable {K : PySem.W.Frag} {δ : Sl} {O O1 O2 : Ow} {te : TE} {ds : List D} {P : DE} {M : Int} {ns : List Int}
theorem ev_revL (h : Ev K te δ O (.lst ds) O1) : Ev K (tRevL K te) δ O (.lst ds.reverse) O1 := fun G H σ w s Q k =>
  h G H σ w s _ fun v G1 H1 s1 i1 => by
    obtain ⟨p, xs, rfl, e, tl⟩ := i1
    refine ⟨p, xs, rfl, .inl (.inl (s1.wd.sub _ _ e)), fun q hq => ?_⟩
    have st := Stp.new (o := .lst xs.reverse) s1.wd hq
    refine k _ _ _ (s1.trans st) ⟨q, _, rfl, upd_same, ?_⟩
    have : ∀ {ds : List D} {xs : List V}, IsL K G1 ds xs → IsL K G1 ds.reverse xs.reverse := fun {ds} => by
      induction ds with
      | nil => intro xs h; cases h; exact .nil
      | cons d r ih =>
        intro xs h
        obtain ⟨v, vs, rfl, a, b⟩ := h
        rw [List.reverse_cons, List.reverse_cons]
        exact (ih b).append (.cons a .nil)
    exact (this tl).mono st.ex
theorem sd_par3P {i j l : Nat} {ta : TA} (h : EvAP K ta δ O fun ds O' => ∃ a b c, ds = [a, b, c] ∧ P.nx (((δ.set i (some a)).set j (some b)).set l (some c)) O') : Sd K (tPar3 i j l ta) P δ O := fun G H σ D w s r =>
  h G H σ w s _ fun ds O' vs G1 H1 hp s1 i1 => by
    obtain ⟨a, b, c, rfl, hn⟩ := hp
    obtain ⟨u, r1, rfl, iu, t1⟩ := i1
    obtain ⟨v, r2, rfl, iv, t2⟩ := t1
    obtain ⟨x, r3, rfl, ix, t3⟩ := t2
    have t3 : r3 = [] := t3
    subst t3
    exact ⟨u, v, x, rfl, r.nx _ O' G1 H1 _ hn s1 ((((s.mono s1.ex).set iu).set iv).set ix)⟩
theorem c_maxL (h1 : M ∈ ns) (h2 : ∀ y ∈ ns, y ≤ M) : RCD K (rMax K) [.lst (ns.map .int)] O (.int M) := fun G H vs w a Q k => by
  obtain ⟨v, r, rfl, ⟨p, xs, rfl, e, tl⟩, hr⟩ := a
  have hr : r = [] := hr
  subst hr
  have ex := tl.intsV
  subst ex
  refine ⟨p, ns, rfl, .inl (.inl (w.sub _ _ e)), List.length_pos_of_mem h1, fun m hm hle => ?_⟩
  have : m = M := Int.le_antisymm (h2 m hm) (hle M h1)
  subst this
  exact k _ G H (Stp.refl w) rfl
theorem c_minL (h1 : M ∈ ns) (h2 : ∀ y ∈ ns, M ≤ y) : RCD K (rMin K) [.lst (ns.map .int)] O (.int M) := fun G H vs w a Q k => by
  obtain ⟨v, r, rfl, ⟨p, xs, rfl, e, tl⟩, hr⟩ := a
  have hr : r = [] := hr
  subst hr
  have ex := tl.intsV
  subst ex
  refine ⟨p, ns, rfl, .inl (.inl (w.sub _ _ e)), List.length_pos_of_mem h1, fun m hm hle => ?_⟩
  have : m = M := Int.le_antisymm (hle M h1) (h2 m hm)
  subst this
  exact k _ G H (Stp.refl w) rfl
end
end DL

set_option Elab.async false
set_option linter.all false
set_option maxRecDepth 100000
/-! own len and abs; texts -/
namespace DL
open PySem PySem.Spec L2
open PyProof.Rows hiding St
section
variable {X : Cx} {CX : CXT} {k : Nat} {C f : Addr} {sp : Sp} {E : XK}
def rOwnLen (C : Addr) (sp : Sp) (E : XK) : List V → Hp → VK → Prop := fun xs H Q => ∃ a dx fs, xs = [.ref a] ∧ H a = some (.ins C dx fs) ∧ sp [.ref a] H (fun z H' => ∃ n : Int, z = .int n ∧ (0 ≤ n ∧ n < 2 ^ 63) ∧ Q (.int n) H') E
theorem call_lenOwn (hs : PySem.W.findIn X.K (.ref C) "__len__" = some (some (.ref f))) (hf : PySem.W.isFn X.K (.ref f) = true) (F : FnR X.prog X.w X.K X.mg X.base CX k f sp) (hr : Room (k + 1) X.A) (hx : Passes CX X E) : CallR X (.builtin "len") (rOwnLen C sp E) := by
  intro pins s σ H xs us Q I r h
  obtain ⟨a, dx, fs, rfl, ha, q⟩ := h
  obtain ⟨u, rfl, ru⟩ := vals1 r
  cases (show u = Value.ref a from ru)
  obtain ⟨od, J⟩ := inst_at I ha
  obtain ⟨m, hF⟩ := I.fr
  refine PySem.W.len_K hF I.ok.mod.kin J hs hf (wpAny_mono (wpAny_call (SlX.run_at (us := [.ref a]) (ws := [.ref a]) F hr.in1 I.env0.in1 hx I (.cons rfl .nil) q)) (fun w s' z => ?_) fun _ _ x => x)
  obtain ⟨z', H', I', rz, n, ez, hn, qz⟩ := z
  subst ez
  obtain ⟨t, rfl⟩ := (show ∃ t, w = Value.int n t from rz)
  exact ⟨hn, .int n, H', I'.tok _, ⟨_, rfl⟩, qz⟩
def rOwnAbs (C : Addr) (sp : Sp) (E : XK) : List V → Hp → VK → Prop := fun xs H Q => ∃ a dx fs, xs = [.ref a] ∧ H a = some (.ins C dx fs) ∧ sp [.ref a] H Q E
theorem call_absOwn (hs : PySem.W.findIn X.K (.ref C) "__abs__" = some (some (.ref f))) (hf : PySem.W.isFn X.K (.ref f) = true) (F : FnR X.prog X.w X.K X.mg X.base CX k f sp) (hr : Room (k + 1) X.A) (hx : Passes CX X E) : CallR X (.builtin "abs") (rOwnAbs C sp E) := by
  intro pins s σ H xs us Q I r h
  obtain ⟨a, dx, fs, rfl, ha, q⟩ := h
  obtain ⟨u, rfl, ru⟩ := vals1 r
  cases (show u = Value.ref a from ru)
  obtain ⟨od, J⟩ := inst_at I ha
  obtain ⟨m, hF⟩ := I.fr
  refine Calls.call_function_entry kind_abs plain_abs entry_abs (args_abs _) ?_
  unfold Builtin.«abs»
  refine wpAny_bind (m := oneArg "abs" _) (wpAny_pure ?_)
  refine wpAny_bind (m := callSpecial? (.ref a) (Str.ofString "__abs__")) (PySem.W.special_fn (I.ok.mod.kin.keeps hF.keep) J hs (beq_iff_eq.mp hf) (wpAny_mono (wpAny_call (SlX.run_at (us := [.ref a]) (ws := [.ref a]) F hr.in1 I.env0.in1 hx I (.cons rfl .nil) q)) (fun w s' z => ?_) fun _ _ x => x))
  exact wpAny_pure ⟨_, rfl, z⟩
end
/-! ### over data -/
section
variable {K : PySem.W.Frag} {δ : Sl} {O O1 O2 O3 : Ow} {d x y z : D} {ta tb tc te tv : TE} {t : TA} {i j : Int} {p q C : Addr} {ds es : List D} {nm nm' : List Str} {b : Bool} {R : DR} {E : XK} {P : D → Ow → Prop}
theorem c_lenOwn {n : Int} (hn : 0 ≤ n ∧ n < 2 ^ 63) (hr : R [.ins C nm ds] O fun d' O' => d' = .int n ∧ O' = O) : RCD K (rOwnLen C (SpD K R) E) [.ins C nm ds] O (.int n) := fun G H vs w a Q k => by
  obtain ⟨v, rfl, av⟩ := isL1 a
  obtain ⟨p, dx, xs, rfl, e, hl, tl⟩ := id av
  refine ⟨p, dx, _, rfl, w.sub _ _ e, sp_run (ds := [.ins C nm ds]) w ⟨_, _, rfl, av, rfl⟩ hr fun d O' v G' H' hp st iv => ?_⟩
  obtain ⟨rfl, rfl⟩ := hp
  exact ⟨n, iv, hn, k _ G' H' st rfl⟩
theorem c_absOwn {n : Int} (hr : R [.ins C nm ds] O fun d' O' => d' = .int n ∧ O' = O) : RCD K (rOwnAbs C (SpD K R) E) [.ins C nm ds] O (.int n) := fun G H vs w a Q k => by
  obtain ⟨v, rfl, av⟩ := isL1 a
  obtain ⟨p, dx, xs, rfl, e, hl, tl⟩ := id av
  refine ⟨p, dx, _, rfl, w.sub _ _ e, sp_run (ds := [.ins C nm ds]) w ⟨_, _, rfl, av, rfl⟩ hr fun d O' v G' H' hp st iv => ?_⟩
  obtain ⟨rfl, rfl⟩ := hp
  exact k _ G' H' st iv
/-! texts -/
theorem IsL.strs : ∀ {l : List Str} {vs : List V} {G : Hp}, IsL K G (l.map D.str) vs → vs = l.map V.str
  | [], _, _, h => h
  | _ :: _, _, _, ⟨v, r, rfl, a, b⟩ => by rw [IsL.strs b, show v = _ from a]; rfl
theorem isL_strs {G : Hp} : ∀ (l : List Str), IsL K G (l.map D.str) (l.map V.str)
  | [] => rfl
  | _ :: r => ⟨_, _, rfl, rfl, isL_strs r⟩
theorem r_addS {a b : Str} (h : a.length + b.length ≤ 100000) : R2D K (fun x y H Q => ∃ i j, x = .str i ∧ y = .str j ∧ i.length + j.length ≤ sizeLine ∧ Q (.str (i ++ j)) H) (.str a) (.str b) O (.str (a ++ b)) := fun G H v u w e1 e2 Q k => ⟨a, b, e1, e2, sz h, k _ G H (Stp.refl w) rfl⟩
theorem c_strI (h : i.natAbs < 2 ^ 1000) : RCD K (fun xs H Q => ∃ i : Int, xs = [V.int i] ∧ i.natAbs.log2 < 1920 ∧ Q (.str (toString i)) H) [.int i] O (.str (toString i)) := fun G H vs w a Q k => by
  obtain ⟨v, rfl, av⟩ := isL1 a
  refine ⟨i, by rw [show v = _ from av], ?_, k _ G H (Stp.refl w) rfl⟩
  by_cases q : i.natAbs = 0
  · rw [q]; decide
  · have := (Nat.log2_lt q).mpr h
    omega
theorem c_lenStr {a : Str} (h : a.length ≤ 100000) : RCD K (fun xs H Q => ∃ z : Str, xs = [V.str z] ∧ z.length ≤ sizeLine ∧ Q (.int z.length) H) [.str a] O (.int (a.length : Int)) := fun G H vs w e Q k => by
  obtain ⟨v, rfl, av⟩ := isL1 e
  exact ⟨a, by rw [show v = _ from av], sz h, k _ G H (Stp.refl w) rfl⟩
theorem c_intStr {a : Str} {n : Int} (h : intText? a = some n) (hl : a.length ≤ 640) : RCD K (fun xs H Q => ∃ a n, xs = [V.str a] ∧ PySem.intText? a = some n ∧ a.length ≤ 640 ∧ Q (.int n) H) [.str a] O (.int n) := fun G H vs w e Q k => by
  obtain ⟨v, rfl, av⟩ := isL1 e
  exact ⟨a, n, by rw [show v = _ from av], h, hl, k _ G H (Stp.refl w) rfl⟩
theorem ev_join {a : Str} {l : List Str} (h : Ev K ta δ O (.str a) O1) (h2 : Ev K tb δ O1 (.lst (l.map .str)) O2) (hz : (l.map (·.length)).sum + l.length * a.length ≤ 16777216) :
    Ev K (tM1 (fun x xs H Q => ∃ a p, ∃ ys : List Str, x = .str a ∧ xs = [.ref p] ∧ (SqL K H p (ys.map V.str) ∨ SqT K H p (ys.map V.str)) ∧ (ys.map (·.length)).sum + ys.length * a.length ≤ 16777216 ∧ Q (.str (Txt.join a ys)) H) ta tb) δ O (.str (Txt.join a l)) O2 := fun G H σ w s Q k =>
  h G H σ w s _ fun v G1 H1 s1 i1 => ⟨⟨a, i1⟩, h2 G1 H1 σ s1.wd (s.mono s1.ex) _ fun u G2 H2 s2 i2 => by
    obtain ⟨p, xs, rfl, e, tl⟩ := i2
    have ex := tl.strs
    subst ex
    exact ⟨a, p, l, i1, rfl, .inl (.inl (.inl (s2.wd.sub _ _ e))), hz, k _ G2 H2 (s1.trans s2) rfl⟩⟩
theorem ev_joinO {a : Str} {l : List Str} (h : Ev K ta δ O (.str a) O1) (h2 : Ev K tb δ O1 (.ref p) O2) (ho : O2 p = some (.lst (l.map .str))) (hz : (l.map (·.length)).sum + l.length * a.length ≤ 16777216) :
    Ev K (tM1 (fun x xs H Q => ∃ a p, ∃ ys : List Str, x = .str a ∧ xs = [.ref p] ∧ (SqL K H p (ys.map V.str) ∨ SqT K H p (ys.map V.str)) ∧ (ys.map (·.length)).sum + ys.length * a.length ≤ 16777216 ∧ Q (.str (Txt.join a ys)) H) ta tb) δ O (.str (Txt.join a l)) O2 := fun G H σ w s Q k =>
  h G H σ w s _ fun v G1 H1 s1 i1 => ⟨⟨a, i1⟩, h2 G1 H1 σ s1.wd (s.mono s1.ex) _ fun u G2 H2 s2 i2 => by
    have i2 : u = .ref p := i2
    subst i2
    obtain ⟨_, xs, e, tl⟩ := s2.wd.own p _ ho
    have ex := tl.strs
    subst ex
    exact ⟨a, p, l, i1, rfl, .inl (.inl (.inl e)), hz, k _ G2 H2 (s1.trans s2) rfl⟩⟩
theorem ev_split {a c : Str} (h : Ev K ta δ O (.str a) O1) (h2 : Ev K tb δ O1 (.str c) O2) (hc : (c.length == 0) = false) (hz : a.length + 2 ≤ 100000) :
    Ev K (tM1 (fun x xs H Q => ∃ a b, x = .str a ∧ xs = [.str b] ∧ (b.length == 0) = false ∧ a.length + 2 ≤ sizeLine ∧ rNewStrs (Txt.split a b) H Q) ta tb) δ O (.lst ((Txt.split a c).map .str)) O2 := fun G H σ w s Q k =>
  h G H σ w s _ fun v G1 H1 s1 i1 => ⟨⟨a, i1⟩, h2 G1 H1 σ s1.wd (s.mono s1.ex) _ fun u G2 H2 s2 i2 => by
    have i1 : v = .str a := i1
    have i2 : u = .str c := i2
    subst i1 i2
    exact ⟨a, c, rfl, rfl, hc, sz hz, fun p hp => k _ _ _ ((s1.trans s2).trans (Stp.new s2.wd hp)) ⟨p, _, rfl, upd_same, (isL_strs _)⟩⟩⟩
theorem r_ixStr {a : Str} {c : Nat} (hz : a.length ≤ 100000) (h : atI a.cps.toList i = some c) : R2D K rIxS (.str a) (.int i) O (.str ⟨#[c]⟩) := fun G H v u w e1 e2 Q k => ⟨a, i, c, e1, e2, sz hz, h, k _ G H (Stp.refl w) rfl⟩
theorem r_inSign {c : Nat} {a : Str} : R2D K (fun x y H Q => ∃ (c : Nat) (z : Str), x = V.str ⟨#[c]⟩ ∧ y = V.str z ∧ Q (.bl (decide (c ∈ z.cps.toList))) H) (.str ⟨#[c]⟩) (.str a) O (.bl (decide (c ∈ a.cps.toList))) := fun G H v u w e1 e2 Q k => ⟨c, a, e1, e2, k _ G H (Stp.refl w) rfl⟩
theorem r_notInSign {c : Nat} {a : Str} : R2D K (fun x y H Q => ∃ (c : Nat) (z : Str), x = V.str ⟨#[c]⟩ ∧ y = V.str z ∧ Q (.bl (!decide (c ∈ z.cps.toList))) H) (.str ⟨#[c]⟩) (.str a) O (.bl (!decide (c ∈ a.cps.toList))) := fun G H v u w e1 e2 Q k => ⟨c, a, e1, e2, k _ G H (Stp.refl w) rfl⟩
theorem ei_str {a : Str} (h : Ev K te δ O (.str a) O1) : EvI K (iStr te) δ O (a.cps.toList.map fun c => .str ⟨#[c]⟩) O1 := fun G H σ w s R k =>
  h G H σ w s _ fun v G1 H1 s1 i1 => by
    refine ⟨a, i1, k _ G1 H1 s1 fun G' O' H' sb w' i => ?_⟩
    refine ⟨fun d hd => ?_, fun hn => ?_⟩
    · rw [List.getElem?_map] at hd
      cases q : a.cps.toList[i]? with
      | none => rw [q] at hd; cases hd
      | some c =>
        rw [q] at hd
        cases hd
        have ha : a.cps[i]? = some c := by rw [← Array.getElem?_toList]; exact q
        refine ⟨(Array.getElem?_eq_some_iff.mp ha).1, fun x H'' hy => ?_⟩
        obtain ⟨rfl, c', hc', rfl⟩ := hy
        rw [ha] at hc'
        cases hc'
        exact ⟨G', Stp.refl w', rfl⟩
    · rw [List.getElem?_map] at hn
      show a.cps.size ≤ i
      cases q : a.cps.toList[i]? with
      | none => simpa using List.getElem?_eq_none_iff.mp q
      | some c => rw [q] at hn; cases hn
theorem c_any {bs : List Bool} : RCD K (rAny K) [.lst (bs.map .bl)] O (.bl (bs.any id)) := fun G H vs w a Q k => by
  obtain ⟨v, rfl, p, xs, rfl, e, tl⟩ := isL1 a
  have ex := tl.bls
  subst ex
  exact ⟨p, bs, rfl, .inl (.inl (w.sub _ _ e)), k _ G H (Stp.refl w) rfl⟩
theorem r_eqIN : R2D K rEq (.int i) .non O (.bl false) := fun G H v u w a b Q k => by
  cases a; cases b
  exact ⟨rfl, k _ G H (Stp.refl w) rfl⟩
theorem r_catO (ho : O p = some (.lst ds)) (hl : ds.length + es.length ≤ 100000) : R2D K rCat (.ref p) (.lst es) O (.lst (ds ++ es)) := fun G H v u w a b Q k => by
  have a : v = .ref p := a
  subst a
  obtain ⟨_, xs, e, tl⟩ := w.own p _ ho
  obtain ⟨q, ys, rfl, e', tl'⟩ := b
  exact ⟨p, q, xs, ys, rfl, rfl, e, w.sub _ _ e', by rw [← tl.length, ← tl'.length]; exact sz hl, fun l hl => k _ _ _ (Stp.new w hl) ⟨l, _, rfl, upd_same, (tl.append tl').mono (Stp.new w hl (o := .lst (xs ++ ys))).ex⟩⟩
theorem evp_listS {ns : List Int} (h : Ev K te δ O (.scr ns) O1) (hp : ∀ p, O1 p = none → P (.ref p) (setO O1 p (.lst (ns.map .int)))) : EvP K (tCB (fun xs H Q => ∃ p ys, xs = [.ref p] ∧ (SqL K H p ys ∨ SqT K H p ys) ∧ ∀ l, H l = none → Q (.ref l) (upd H l (.lst ys))) (tCons te tNil)) δ O P := fun G H σ w s Q k =>
  h G H σ w s _ fun v G1 H1 s1 i1 => by
    obtain ⟨p, rfl, e⟩ := i1
    exact ⟨p, _, rfl, .inl (Evl.ex_l s1.wd.sub e), fun l hl => k _ _ _ _ _ (hp l (s1.wd.oNone hl)) (s1.trans (Stp.newO s1.wd hl ⟨_, upd_same, .ints⟩)) rfl⟩
theorem evp_lstP {P : D → Ow → Prop} (h : EvAP K t δ O fun ds O1 => ds.length ≤ 100000 ∧ ∀ p, O1 p = none → P (.ref p) (setO O1 p (.lst ds))) : EvP K (tLst t) δ O P := fun G H σ w s Q k =>
  h G H σ w s _ fun ds O1 vs G1 H1 hp s1 i1 => ⟨by rw [← i1.length]; exact sz hp.1, fun p hn => k _ _ _ _ _ (hp.2 p (s1.wd.oNone hn)) (s1.trans (Stp.newO s1.wd hn ⟨vs, upd_same, i1⟩)) rfl⟩
end
end DL

set_option Elab.async false
set_option linter.all false
set_option maxRecDepth 100000
/-! joins, tuple(range), o[i] += e -/
namespace DL
open PySem PySem.Spec L2
open PyProof.Rows hiding St
section
variable {X : Cx} {K : PySem.W.Frag}
theorem pe_joinK {o e : Expr} {to te : TE} {apos pos : Pos} (K : PySem.W.Frag) (ho : PE X o to) (he : PE X e te) (hK : X.K = K := by rfl) (hs : starEach [e] X.env = [(false, eval e X.env)] := by rfl) (hbase : attributeBase o "join" X.env (eval o X.env) = eval o X.env := by rfl) (hline : (apos.endLine == pos.line) = true := by rfl) :
    PE X (.Call (.Attribute o "join" apos) [e] [] pos) (tM1 (fun x xs H Q => ∃ a p, ∃ ys : List Str, x = .str a ∧ xs = [.ref p] ∧ (SqL K H p (ys.map V.str) ∨ SqT K H p (ys.map V.str)) ∧
      (ys.map (·.length)).sum + ys.length * a.length ≤ 16777216 ∧ Q (.str (Txt.join a ys)) H) to te) := by subst hK; exact pe_join ho he hs hbase hline
def rIxP (K : PySem.W.Frag) : R2 := fun x y H Q => ∃ p xs i v, x = .ref p ∧ y = .int i ∧ 0 ≤ i ∧ SqL K H p xs ∧ atI xs i = some v ∧ Q v H
theorem get_list (K : PySem.W.Frag) (hK : X.K = K := by rfl) : PGet X (rIxP K) := by
  subst hK
  intro pins s σ H x y v u Q I rx ry h
  obtain ⟨p, xs, i, z, rfl, rfl, h0, hq, he, q⟩ := h
  cases rx
  obtain ⟨t, rfl⟩ := ry
  obtain ⟨its, r, pl, hz⟩ := I.list hq
  obtain ⟨j, h1, h2, h3, h4, h5⟩ := atI_get he
  obtain ⟨w, ew, rw'⟩ := r.get h2
  have hl := r.length
  have hn := line63
  have fin : EP X pins σ Q w s := ⟨z, H, I, rw', q⟩
  have hj : i.toNat = j := by
    rw [seqIndex_of h0 h5] at h1
    exact Option.some.inj h1
  exact wpAny_getItem_list pl.isList h0 (by omega) (by rw [hj]; simpa using ew) fin
end
section
variable {K : PySem.W.Frag} {δ : Sl} {O O1 O2 O3 : Ow} {d x y z : D} {ta tb tc te tv : TE} {t : TA} {i j : Int} {p q l C : Addr} {ds es : List D} {nm nm' : List Str} {b : Bool} {R : DR} {E : XK} {P : DE}
theorem ev_tupRg (h : Ev K te δ O (.int j) O1) (hj : 0 ≤ j ∧ j ≤ 100000) : Ev K (tTupRg (tRg1 te)) δ O (.tup (rng 0 j.toNat)) O1 := fun G H σ w s Q k =>
  h G H σ w s _ fun v G1 H1 s1 i1 => ⟨j, i1, RgOk.of_le (by omega) (by omega) (by omega) (by omega), fun q hq => by
    have st := Stp.new (o := .tup (rgV 0 j)) s1.wd hq
    have e : rng 0 j.toNat = rng 0 (j - 0).toNat := by rw [Int.sub_zero]
    exact k _ _ _ (s1.trans st) ⟨q, _, rfl, upd_same, by rw [e]; exact rgV_is⟩⟩
theorem sd_augL {k : Nat} {a c : Int} (h1 : Ev K ta δ O (.ref l) O1) (h2 : Ev K tb δ O1 (.int i) O2) (h3 : O2 l = some (.lst ds)) (h0 : 0 ≤ i) (h4 : atI ds i = some (.int a)) (h5 : Ev K te δ O2 (.int c) O3) (h6 : O3 l = some (.lst es)) (hj : ixN es.length i = some k) (kk : P.nx δ (setO O3 l (.lst (es.set k (.int (a + c)))))) :
    Sd K (tAugS ta tb te (rIxP K) (ipI fun i j => i + j) rSetL) P δ O := fun G H σ D w s r =>
  h1 G H σ w s _ fun u G1 H1 s1 i1 => h2 G1 H1 σ s1.wd (s.mono s1.ex) _ fun q G2 H2 s2 i2 => by
    have i1 : u = .ref l := i1
    have i2 : q = .int i := i2
    subst i1 i2
    obtain ⟨_, xs, e, tt⟩ := s2.wd.own l _ h3
    obtain ⟨v, e1, e2⟩ := atI_is tt h4
    have e2 : v = .int a := e2
    subst e2
    refine ⟨l, xs, i, _, rfl, rfl, h0, .inl (.inl e), e1, h5 G2 H2 σ s2.wd (s.mono (s1.ex.trans s2.ex)) _ fun y G3 H3 s3 i3 => ?_⟩
    have i3 : y = .int c := i3
    subst i3
    refine ⟨a, c, rfl, rfl, ?_⟩
    obtain ⟨_, ys, e', t'⟩ := s3.wd.own l _ h6
    refine ⟨l, ys, i, k, rfl, rfl, e', by rw [← t'.length]; exact hj, ?_⟩
    have st := Stp.write (o := .lst (ys.set k (.int (a + c)))) (m' := .lst (es.set k (.int (a + c)))) s3.wd h6 ⟨_, upd_same, t'.set k rfl⟩
    exact r.nx _ _ _ _ _ kk (((s1.trans s2).trans s3).trans st) (s.mono (((s1.ex.trans s2.ex).trans s3.ex).trans st.ex))
end
end DL

set_option Elab.async false
set_option linter.all false
set_option maxRecDepth 100000
/-! max and min of a tuple of ints; enumerate of a list -/
namespace DL
open PySem PySem.Spec L2
open PyProof.Rows hiding St
section
variable {prog : Program} {w : World} {A : Around} {E : Value → Shared → Prop} {s : Shared} {l : Addr} {its : List Value} {ns : List Int} {Q : Value → Shared → Prop}
theorem maxT_raw (hh : A.handled = none) (hl : s.heap.IsTuple l its.toArray) (hi : IntsAre its ns) (hne : 0 < ns.length)
    (h : ∀ h' tk M t', (∀ b o, s.heap.get? b = some o → h'.get? b = some o) → M ∈ ns → (∀ a, a ∈ ns → a ≤ M) → Q (.int M t') { s with heap := h', toks := tk }) : wpAny (model prog w) A (call (.builtin "max") [.ref l]) Q E s := by
  obtain ⟨xs, e⟩ := hi.allInts.items
  have hn : numsOf (intItems xs).toList = ns := by rw [← e]; exact hi.numsOf
  rw [nums_intItems] at hn
  subst hn
  rw [e] at hl
  have hsz : 0 < xs.size := by simpa using hne
  have es : (intItems xs).size = xs.size := by simp [intItems]
  refine call_max_walkH (PySem.W.iter_tupleW (A := A.in1) hh hl fun s₂ e W st hfp hw hk => ?_)
  refine ⟨_, _, _, _, _, _, _, s.heap, _, rfl, W, st, hfp, by omega, hw, hk, fun i j vi vj s' Q' E' _ h1 h2 h3 => CmpOf.ints_gt (numAt xs) (fun _ _ => intItems_at) i j vi vj s' Q' E' h1 h2 h3, fun v s' hP m => ?_⟩
  obtain ⟨h', tk, rfl, hk'⟩ := PySem.W.moved_old e rfl m
  rw [es] at hP
  obtain ⟨t, rfl⟩ := intItems_at hP
  obtain ⟨h1, h2⟩ := argBest_gt (numAt xs) (xs.size - 1)
  refine h h' tk _ t hk' ?_ fun a ha => ?_
  · rw [numAt_eq]; exact PySem.getD_mem (by rw [List.length_map, Array.length_toList]; omega)
  · obtain ⟨j, hj, rfl⟩ := mem_getD ha
    rw [List.length_map, Array.length_toList] at hj
    rw [← numAt_eq]; exact h2 j (by omega)
theorem minT_raw (hh : A.handled = none) (hl : s.heap.IsTuple l its.toArray) (hi : IntsAre its ns) (hne : 0 < ns.length)
    (h : ∀ h' tk M t', (∀ b o, s.heap.get? b = some o → h'.get? b = some o) → M ∈ ns → (∀ a, a ∈ ns → M ≤ a) → Q (.int M t') { s with heap := h', toks := tk }) : wpAny (model prog w) A (call (.builtin "min") [.ref l]) Q E s := by
  obtain ⟨xs, e⟩ := hi.allInts.items
  have hn : numsOf (intItems xs).toList = ns := by rw [← e]; exact hi.numsOf
  rw [nums_intItems] at hn
  subst hn
  rw [e] at hl
  have hsz : 0 < xs.size := by simpa using hne
  have es : (intItems xs).size = xs.size := by simp [intItems]
  refine call_min_walkH (PySem.W.iter_tupleW (A := A.in1) hh hl fun s₂ e W st hfp hw hk => ?_)
  refine ⟨_, _, _, _, _, _, _, s.heap, _, rfl, W, st, hfp, by omega, hw, hk, fun i j vi vj s' Q' E' _ h1 h2 h3 => CmpOf.ints_lt (numAt xs) (fun _ _ => intItems_at) i j vi vj s' Q' E' h1 h2 h3, fun v s' hP m => ?_⟩
  obtain ⟨h', tk, rfl, hk'⟩ := PySem.W.moved_old e rfl m
  rw [es] at hP
  obtain ⟨t, rfl⟩ := intItems_at hP
  obtain ⟨h1, h2⟩ := argBest_lt (numAt xs) (xs.size - 1)
  refine h h' tk _ t hk' ?_ fun a ha => ?_
  · rw [numAt_eq]; exact PySem.getD_mem (by rw [List.length_map, Array.length_toList]; omega)
  · obtain ⟨j, hj, rfl⟩ := mem_getD ha
    rw [List.length_map, Array.length_toList] at hj
    rw [← numAt_eq]; exact h2 j (by omega)
end
section
variable {X : Cx}
def rMaxT (K : PySem.W.Frag) : List V → Hp → VK → Prop := fun vs H Q => ∃ (a : Addr) (ns : List Int), vs = [V.ref a] ∧ SqT K H a (ns.map V.int) ∧ 0 < ns.length ∧ ∀ m, m ∈ ns → (∀ y, y ∈ ns → y ≤ m) → Q (.int m) H
def rMinT (K : PySem.W.Frag) : List V → Hp → VK → Prop := fun vs H Q => ∃ (a : Addr) (ns : List Int), vs = [V.ref a] ∧ SqT K H a (ns.map V.int) ∧ 0 < ns.length ∧ ∀ m, m ∈ ns → (∀ y, y ∈ ns → m ≤ y) → Q (.int m) H
theorem cr_maxT (K : PySem.W.Frag) (hc : X.calm = true) (hK : X.K = K := by rfl) : CallR X (.builtin "max") (rMaxT K) := by
  subst hK
  intro pins s σ H vs us Q I r h
  obtain ⟨a, ns, rfl, hs, hne, q⟩ := h
  obtain ⟨its, rv, hl, _⟩ := I.tuple hs
  rw [Vals.ref1 r]
  exact maxT_raw (I.ok.hd hc) hl rv.ints hne fun h' tk m t' hk h1 h2 => ⟨.int _, H, I.kept hk, ⟨_, rfl⟩, q m h1 h2⟩
theorem cr_minT (K : PySem.W.Frag) (hc : X.calm = true) (hK : X.K = K := by rfl) : CallR X (.builtin "min") (rMinT K) := by
  subst hK
  intro pins s σ H vs us Q I r h
  obtain ⟨a, ns, rfl, hs, hne, q⟩ := h
  obtain ⟨its, rv, hl, _⟩ := I.tuple hs
  rw [Vals.ref1 r]
  exact minT_raw (I.ok.hd hc) hl rv.ints hne fun h' tk m t' hk h1 h2 => ⟨.int _, H, I.kept hk, ⟨_, rfl⟩, q m h1 h2⟩
end
section
variable {K : PySem.W.Frag} {δ : Sl} {O O1 O2 O3 : Ow} {d x y z : D} {ta tb tc te tv : TE} {t : TA} {i j M : Int} {p q l C : Addr} {ds es : List D} {nm nm' : List Str} {b : Bool} {R : DR} {E : XK} {P : DE} {ns : List Int}
theorem c_maxT (h1 : M ∈ ns) (h2 : ∀ y ∈ ns, y ≤ M) : RCD K (rMaxT K) [.tup (ns.map .int)] O (.int M) := fun G H vs w a Q k => by
  obtain ⟨v, rfl, p, xs, rfl, e, t⟩ := isL1 a
  rw [t.intsV] at e
  refine ⟨p, ns, rfl, .inl (.inl (w.sub _ _ e)), List.length_pos_of_mem h1, fun m hm hy => ?_⟩
  have : m = M := Int.le_antisymm (h2 m hm) (hy M h1)
  subst this
  exact k _ G H (Stp.refl w) rfl
theorem c_minT (h1 : M ∈ ns) (h2 : ∀ y ∈ ns, M ≤ y) : RCD K (rMinT K) [.tup (ns.map .int)] O (.int M) := fun G H vs w a Q k => by
  obtain ⟨v, rfl, p, xs, rfl, e, t⟩ := isL1 a
  rw [t.intsV] at e
  refine ⟨p, ns, rfl, .inl (.inl (w.sub _ _ e)), List.length_pos_of_mem h1, fun m hm hy => ?_⟩
  have : m = M := Int.le_antisymm (hy M h1) (h2 m hm)
  subst this
  exact k _ G H (Stp.refl w) rfl
theorem ei_enumL (h : EvA K t δ O [.lst ds] O1) : EvI K (iEnum K t) δ O (enumD ds) O1 := fun G H σ w s R k =>
  h G H σ w s _ fun vs G1 H1 s1 i1 => by
    obtain ⟨v, rfl, p, xs, rfl, e, tl⟩ := isL1 i1
    refine ⟨p, xs, rfl, .inl (.inl (s1.wd.sub _ _ e)), k _ G1 H1 s1 fun G' O' H' sb w' i => ?_⟩
    have e' : SqL K H' p xs := .inl (.inl (w'.sub _ _ (sb _ _ e)))
    refine ⟨fun d hd => ?_, fun hn => ⟨xs, e', by rw [← tl.length]; rw [enumD_get, Option.map_eq_none_iff] at hn; exact List.getElem?_eq_none_iff.mp hn⟩⟩
    rw [enumD_get] at hd
    cases q : ds[i]? with
    | none => rw [q] at hd; cases hd
    | some d0 =>
      rw [q] at hd
      cases hd
      obtain ⟨u, hu, iu⟩ := tl.get q
      refine ⟨⟨xs, u, e', hu⟩, fun x H'' hy => ?_⟩
      obtain ⟨T, u', rfl, hT, rfl, fx⟩ := hy
      have ex : u = u' := Option.some.inj (hu.symm.trans (fx xs e'))
      subst ex
      have st := Stp.new (o := .tup [.int (i : Nat), u]) w' hT
      exact ⟨_, st, T, _, rfl, upd_same, _, _, rfl, rfl, _, _, rfl, (iu.mono sb).mono st.ex, rfl⟩
end
end DL

set_option Elab.async false
set_option linter.all false
set_option maxRecDepth 100000
/-! comprehensions by an invariant -/
namespace DL
open PySem PySem.Spec L2
def EvTP (K : PySem.W.Frag) (tt : TT) (δ : Sl) (O : Ow) (P : Bool → Ow → Prop) : Prop :=
  ∀ G H σ, Wd K G O H → SlIs K G δ σ → ∀ Q : Bool → Hp → Prop, (∀ b O' G' H', P b O' → Stp K G O H G' O' H' → Q b H') → tt σ H Q
section
variable {K : PySem.W.Frag} {δ : Sl} {O O1 O2 O3 : Ow} {d x y z : D} {ta tb tc te tv : TE} {t : TA} {tt tt2 : TT} {i j M : Int} {p q l C : Addr} {ds es : List D} {b : Bool} {R : DR} {E : XK} {P : D → Ow → Prop} {B : Bool → Ow → Prop} {g : TG}
theorem EvT.toP (h : EvT K tt δ O b O1) (hp : B b O1) : EvTP K tt δ O B := fun G H σ w s Q k => h G H σ w s Q fun G' H' st => k b O1 G' H' hp st
theorem etp_yes (h : B true O) : EvTP K tYes δ O B := et_yes.toP h
theorem etp_test (h : EvP K te δ O fun d O' => ∃ b, d = .bl b ∧ B b O') : EvTP K (tTest te) δ O B := fun G H σ w s Q k => h G H σ w s _ fun d O' v G1 H1 hp s1 i1 => by
  obtain ⟨b, rfl, hb⟩ := hp
  exact ⟨b, i1, k b O' G1 H1 hb s1⟩
theorem etp_not (h : EvTP K tt δ O fun b O' => B (!b) O') : EvTP K (tNot tt) δ O B := fun G H σ w s Q k => h G H σ w s _ fun b O' G1 H1 hp s1 => k _ O' G1 H1 hp s1
theorem EvP.weak {P' : D → Ow → Prop} (h : EvP K te δ O P') (k : ∀ d O', P' d O' → P d O') : EvP K te δ O P := fun G H σ w s Q q => h G H σ w s Q fun d O' v G' H' hp => q d O' v G' H' (k d O' hp)
theorem sd_ifP {tu tw : TS} {PE : DE} (h : EvTP K tt δ O fun b O' => (b = true → Sd K tu PE δ O') ∧ (b = false → Sd K tw PE δ O')) : Sd K (tIfS tt tu tw) PE δ O := fun G H σ D w s r =>
  h G H σ w s _ fun b O' G1 H1 hp s1 => by
    cases b with
    | true => exact iteT (hp.1 rfl G1 H1 σ D s1.wd (s.mono s1.ex) (r.step s1))
    | false => exact iteF (hp.2 rfl G1 H1 σ D s1.wd (s.mono s1.ex) (r.step s1))
theorem etp_and (h : EvTP K tt δ O fun b O' => (b = true → EvTP K tt2 δ O' B) ∧ (b = false → B false O')) : EvTP K (tAnd tt tt2) δ O B := fun G H σ w s Q k => h G H σ w s _ fun b O' G1 H1 hp s1 => by
  cases b with
  | false => exact iteF (k _ _ G1 H1 (hp.2 rfl) s1)
  | true => exact iteT (hp.1 rfl G1 H1 σ s1.wd (s.mono s1.ex) _ fun b2 O2 G2 H2 hq s2 => k _ _ G2 H2 hq (s1.trans s2))
theorem etp_or (h : EvTP K tt δ O fun b O' => (b = false → EvTP K tt2 δ O' B) ∧ (b = true → B true O')) : EvTP K (tOr tt tt2) δ O B := fun G H σ w s Q k => h G H σ w s _ fun b O' G1 H1 hp s1 => by
  cases b with
  | true => exact iteT (k _ _ G1 H1 (hp.2 rfl) s1)
  | false => exact iteF (hp.1 rfl G1 H1 σ s1.wd (s.mono s1.ex) _ fun b2 O2 G2 H2 hq s2 => k _ _ G2 H2 hq (s1.trans s2))
theorem evp_opP {r : R2} (h : EvP K ta δ O fun x O1 => EvP K tb δ O1 fun y O2 => ∃ z, R2D K r x y O2 z ∧ P z O2) : EvP K (tOp r ta tb) δ O P := evp_op h
theorem evp_cbP {r : List V → Hp → VK → Prop} (h : EvAP K t δ O fun ds O1 => ∃ d, RCD K r ds O1 d ∧ P d O1) : EvP K (tCB r t) δ O P := fun G H σ w s Q k =>
  h G H σ w s _ fun ds O1 vs G1 H1 ⟨d, hr, hp⟩ s1 i1 => hr G1 H1 vs s1.wd i1 _ fun v G2 H2 s2 i2 => k d O1 v G2 H2 hp (s1.trans s2) i2
theorem evp_lstD (h : EvAP K t δ O fun ds O1 => ds.length ≤ 100000 ∧ P (.lst ds) O1) : EvP K (tLst t) δ O P := fun G H σ w s Q k =>
  h G H σ w s _ fun ds O1 vs G1 H1 hp s1 i1 => ⟨by rw [← i1.length]; exact sz hp.1, fun p hn => k _ _ _ _ _ hp.2 (s1.trans (Stp.new s1.wd hn)) ⟨p, vs, rfl, upd_same, i1.mono (Stp.new s1.wd hn (o := .lst vs)).ex⟩⟩
theorem evp_runP (h : EvAP K t δ O fun ds O1 => R ds O1 P) : EvP K (tRun (SpD K R) E t) δ O P := fun G H σ w s Q k =>
  h G H σ w s _ fun ds O1 vs G1 H1 hr s1 i1 => sp_run s1.wd i1 hr fun d O' v G' H' hp st iv => k d O' v G' H' hp (s1.trans st) iv
theorem evp_lcI {wi : TI} {vs : List Nat} {items : List D} (hi : EvI K wi δ O items O1) (hz : items.length ≤ 50000) (I : Nat → List D → Ow → Prop) (h0 : I 0 [] O1)
    (hs : ∀ i x acc O', items[i]? = some x → I i acc O' → ∃ δ2, Gc K g vs x (wipeD δ vs) δ2 ∧ EvTP K tt δ2 O' fun b O2 => (b = true → EvP K te δ2 O2 fun d O3 => I (i + 1) (acc ++ [d]) O3) ∧ (b = false → I (i + 1) acc O2))
    (hd : ∀ acc O', I items.length acc O' → P (.lst acc) O') : EvP K (tLc wi g tt te vs) δ O P := fun G H σ w s Q k =>
  hi G H σ w s _ fun J G1 H1 s1 ok D hD => by
    refine ⟨fun i m H' => i + m = items.length ∧ ∃ O' G' done acc, I i done O' ∧ done.length ≤ i ∧ Stp K G1 O1 H1 G' O' H' ∧ G' D = none ∧ O' D = none ∧ H' D = some (.lst acc) ∧ IsL K G' done acc,
      ⟨items.length, by omega, O1, G1, [], [], h0, Nat.le_refl _, Stp.newF s1.wd hD, s1.wd.gNone hD, s1.wd.oNone hD, upd_same, rfl⟩, fun i m H' hW => ?_⟩
    obtain ⟨em, O', G', done, acc, hI, ld, st, gD, oD, hD', il⟩ := hW
    obtain ⟨go, stop⟩ := ok G' O' H' st.ex st.wd i
    by_cases hl : i < items.length
    · obtain ⟨g1, g2⟩ := go items[i] (List.getElem?_eq_getElem hl)
      refine .inr ⟨g1, fun H2 => ∃ O' G' done acc, I (i + 1) done O' ∧ done.length ≤ i + 1 ∧ Stp K G1 O1 H1 G' O' H2 ∧ G' D = none ∧ O' D = none ∧ H2 D = some (.lst acc) ∧ IsL K G' done acc,
        fun H2 q => ⟨m - 1, by omega, by omega, q⟩, fun x H2 hy => ?_⟩
      obtain ⟨G2, st2, ix⟩ := g2 x H2 hy
      have d2 := st2.fresh D _ hD' oD gD
      have k2 := st2.keep D _ hD' oD
      have sl2 : SlIs K G2 (wipeD δ vs) (wipe σ vs) := wipeD_is (s.mono ((s1.ex.trans st.ex).trans st2.ex)) vs
      obtain ⟨δ2, h, h1⟩ := hs i _ done O' (List.getElem?_eq_getElem hl) hI
      refine h G2 H2 σ (wipe σ vs) x sl2 wipe_wipe st2.wd.sub ix _ fun σ2 ew sl => ⟨ew, h1 G2 H2 σ2 st2.wd sl _ fun b O3 G3 H3 hb s3 => ?_⟩
      have d3 := s3.fresh D _ k2 d2.2 d2.1
      have k3 := s3.keep D _ k2 d2.2
      cases b with
      | true =>
        refine iteT (hb.1 rfl G3 H3 σ2 s3.wd (sl.mono s3.ex) _ fun d O4 y G4 H4 hI4 s4 iy => ?_)
        have d4 := s4.fresh D _ k3 d3.2 d3.1
        have k4 := s4.keep D _ k3 d3.2
        have sx := ((st.trans st2).trans s3).trans s4
        refine ⟨acc, k4, ?_, O4, G4, done ++ [d], acc ++ [y], hI4, by rw [List.length_append]; simp; exact ld, sx.writeF hD d4.1 d4.2, d4.1, d4.2, upd_same, (il.mono (st2.ex.trans (s3.ex.trans s4.ex))).append ⟨y, [], rfl, iy, rfl⟩⟩
        rw [← il.length]
        exact Evl.sz_lt (by omega)
      | false => exact iteF ⟨O3, G3, done, acc, hb.2 rfl, by omega, (st.trans st2).trans s3, d3.1, d3.2, k3, il.mono (st2.ex.trans s3.ex)⟩
    · refine .inl ⟨stop (List.getElem?_eq_none (by omega)), ?_⟩
      have e : i = items.length := by omega
      subst e
      have sp := st.pubF hD gD oD hD'
      exact k _ _ _ _ _ (hd _ _ hI) (s1.trans sp) ⟨D, acc, rfl, upd_same, il.mono fun b u e => by rw [upd_ne (ne_of_none e gD)]; exact e⟩
end
end DL

set_option Elab.async false
set_option linter.all false
set_option maxRecDepth 100000
/-! texts of numbers, rows of words -/
namespace DL
open PySem PySem.Spec L2 TL
def numS (i : Int) : Str := Str.ofString (toString i)
theorem numS_tl {i : Int} (h : 0 ≤ i) : tl (numS i) = numL i.toNat := by
  obtain ⟨n, rfl⟩ := Int.eq_ofNat_of_zero_le h
  exact tl_num n
theorem tl_len (x : Str) : (tl x).length = x.length := by
  show x.cps.toList.length = x.cps.size
  simp
theorem numS_len {i : Int} (h : 0 ≤ i) (h2 : i ≤ 1000000000000) : 1 ≤ (numS i).length ∧ (numS i).length ≤ 13 := by
  rw [← tl_len, numS_tl h]
  refine ⟨List.length_pos_iff.mpr (numL_ne _), numL_len (by decide) ?_⟩
  have : i.toNat ≤ 1000000000000 := by omega
  exact Nat.lt_of_le_of_lt this (by decide)
theorem numS_read {i : Int} (h : 0 ≤ i) (h2 : i ≤ 1000000000000) : intText? (numS i) = some i := by
  have hl := numS_len h h2
  have e := PySem.intText_digits (x := numS i) (by show NumText.AllDigits (tl (numS i)); rw [numS_tl h]; exact numL_digits _) (by show tl (numS i) ≠ []; rw [numS_tl h]; exact numL_ne _) (by omega)
  rw [e]
  have : NumText.digitsVal (numS i).cps.toList = i.toNat := by
    show NumText.digitsVal (tl (numS i)) = _
    rw [numS_tl h, numL_val]
  rw [this, Int.toNat_of_nonneg h]
theorem numL_head {n : Nat} : ∀ {c : Nat} {r : List Nat}, numL n = c :: r → r ≠ [] → c ≠ 48 := by
  induction n using Nat.strongRecOn with
  | _ n ih =>
    intro c r e hr
    by_cases h : n < 10
    · rw [numL_lt h] at e
      cases e
      exact absurd rfl hr
    · rw [numL_step (by omega)] at e
      by_cases h2 : n / 10 < 10
      · rw [numL_lt h2] at e
        simp only [List.cons_append, List.cons.injEq] at e
        omega
      · cases q : numL (n / 10) with
        | nil => exact absurd q (numL_ne _)
        | cons a l =>
          rw [q] at e
          simp only [List.cons_append, List.cons.injEq] at e
          obtain ⟨rfl, _⟩ := e
          refine ih (n / 10) (by omega) q ?_
          intro z
          subst z
          rw [numL_step (by omega)] at q
          cases q3 : numL (n / 10 / 10) with
          | nil => exact absurd q3 (numL_ne _)
          | cons b l => rw [q3] at q; cases l <;> cases q
theorem digits_in {c : Nat} (h : 48 ≤ c ∧ c ≤ 57) : c ∈ ("0123456789" : Str).cps.toList := by
  have : ("0123456789" : Str).cps.toList = [48, 49, 50, 51, 52, 53, 54, 55, 56, 57] := by decide +kernel
  rw [this]
  have : c = 48 ∨ c = 49 ∨ c = 50 ∨ c = 51 ∨ c = 52 ∨ c = 53 ∨ c = 54 ∨ c = 55 ∨ c = 56 ∨ c = 57 := by omega
  rcases this with rfl | rfl | rfl | rfl | rfl | rfl | rfl | rfl | rfl | rfl <;> decide
theorem numS_digit {i : Int} (h : 0 ≤ i) {c : Nat} (hc : c ∈ (numS i).cps.toList) : 48 ≤ c ∧ c ≤ 57 := by
  have hc : c ∈ tl (numS i) := hc
  rw [numS_tl h] at hc
  exact numL_digits _ c hc
theorem numS_free {i : Int} (h : 0 ≤ i) {s : Nat} (hs : s < 48 ∨ 57 < s) : s ∉ tl (numS i) := by
  rw [numS_tl h]; exact numL_free hs
/-- a row's words are free of blanks and line ends -/
def Wd1 (x : Str) : Prop := 32 ∉ tl x ∧ 10 ∉ tl x
theorem numS_w {i : Int} (h : 0 ≤ i) : Wd1 (numS i) := ⟨numS_free h (by omega), numS_free h (by omega)⟩
theorem table_w : Wd1 "table" := by unfold Wd1; constructor <;> decide +kernel
theorem bill_w : Wd1 "bill" := by unfold Wd1; constructor <;> decide +kernel
theorem join_len (y : Str) : ∀ (parts : List Str), (Txt.join y parts).length ≤ (parts.map (·.length)).sum + parts.length * y.length
  | [] => by rw [join_eq]; exact Nat.zero_le _
  | [x] => by
    rw [join_eq, ← tl_len, tl_join]
    show (tl x).length ≤ _
    rw [tl_len]; simp
  | x :: z :: r => by
    have ih := join_len y (z :: r)
    rw [join_eq, ← tl_len, tl_join] at ih ⊢
    show (tl x ++ (tl y ++ joinL (tl y) ((z :: r).map tl))).length ≤ _
    rw [List.length_append, List.length_append, tl_len, tl_len]
    simp only [List.map_cons, List.sum_cons, List.length_cons, Nat.add_mul, Nat.one_mul] at ih ⊢
    omega
theorem join_free {y : Str} {s : Nat} (hy : s ∉ tl y) : ∀ {parts : List Str}, (∀ p ∈ parts, s ∉ tl p) → s ∉ tl (Txt.join y parts)
  | [], _ => by rw [join_eq, tl_join]; exact List.not_mem_nil
  | [x], h => by rw [join_eq, tl_join]; exact h x (List.mem_singleton.mpr rfl)
  | x :: z :: r, h => by
    have ih := join_free hy (parts := z :: r) fun p hp => h p (List.mem_cons_of_mem _ hp)
    rw [join_eq, tl_join] at ih ⊢
    show s ∉ tl x ++ (tl y ++ joinL (tl y) ((z :: r).map tl))
    rw [List.mem_append, List.mem_append, not_or, not_or]
    exact ⟨h x (List.mem_cons_self ..), hy, ih⟩
theorem split_sp {ws : List Str} (hne : ws ≠ []) (h : ∀ x ∈ ws, Wd1 x) : Txt.split (Txt.join " " ws) " " = ws :=
  split_join (s := 32) (S := []) (by decide +kernel) (by decide +kernel) hne fun p hp => (h p hp).1
theorem split_nl {rows : List Str} (hne : rows ≠ []) (h : ∀ x ∈ rows, 10 ∉ tl x) : Txt.split (Txt.join "\n" rows) "\n" = rows :=
  split_join (s := 10) (S := []) (by decide +kernel) (by decide +kernel) hne h
theorem row_nl {ws : List Str} (h : ∀ x ∈ ws, Wd1 x) : 10 ∉ tl (Txt.join " " ws) := join_free (by decide +kernel) fun p hp => (h p hp).2
theorem head_join (x : Str) : ("table " : Str) ++ x = Txt.join " " ["table", x] := by
  rw [join_eq]
  show _ = ("table" : Str) ++ (" " : Str) ++ Str.join " " [x]
  have e : ("table" : Str) ++ (" " : Str) = "table " := by decide +kernel
  rw [e]
  rfl
theorem _root_.TL.numL_head' {i : Int} (h : 0 ≤ i) {c : Nat} {r : List Nat} (q : (numS i).cps.toList = c :: r) (hr : r ≠ []) : c ≠ 48 := by
  have q : tl (numS i) = c :: r := q
  rw [numS_tl h] at q
  exact numL_head q hr
end DL

set_option Elab.async false
set_option linter.all false
set_option maxRecDepth 100000
/-! a comprehension whose list is owned -/
namespace DL
open PySem PySem.Spec L2
section
variable {K : PySem.W.Frag} {δ : Sl} {O O1 O2 O3 : Ow} {d x y z : D} {ta tb tc te tv : TE} {t : TA} {tt tt2 : TT} {i j M : Int} {p q l C : Addr} {ds es : List D} {b : Bool} {R : DR} {E : XK} {P : D → Ow → Prop} {B : Bool → Ow → Prop} {g : TG}
theorem Stp.ownF {G G' H H' : Hp} {O' : Ow} {a : Addr} {m : MO} (s : Stp K G O H G' O' H') (h1 : H a = none) (h2 : G' a = none) (h3 : O' a = none) (hm : MoIs K G' H' a m) : Stp K G O H G' (setO O' a m) H' where
  wd := ⟨s.wd.sub, fun q n e => by
    by_cases z : q = a
    · subst z; rw [setO_same] at e; cases e; exact ⟨h2, hm⟩
    · rw [setO_ne z] at e; exact s.wd.own q n e⟩
  ex := s.ex
  keep := s.keep
  fresh := fun b u e n g => ⟨(s.fresh b u e n g).1, by rw [setO_ne (ne_of_none e h1)]; exact (s.fresh b u e n g).2⟩
theorem evp_lcO {wi : TI} {vs : List Nat} {items : List D} (hi : EvI K wi δ O items O1) (hz : items.length ≤ 50000) (I : Nat → List D → Ow → Prop) (h0 : I 0 [] O1)
    (hs : ∀ i x acc O', items[i]? = some x → I i acc O' → ∃ δ2, Gc K g vs x (wipeD δ vs) δ2 ∧ EvTP K tt δ2 O' fun b O2 => (b = true → EvP K te δ2 O2 fun d O3 => I (i + 1) (acc ++ [d]) O3) ∧ (b = false → I (i + 1) acc O2))
    (hd : ∀ acc O' D, I items.length acc O' → O' D = none → P (.ref D) (setO O' D (.lst acc))) : EvP K (tLc wi g tt te vs) δ O P := fun G H σ w s Q k =>
  hi G H σ w s _ fun J G1 H1 s1 ok D hD => by
    refine ⟨fun i m H' => i + m = items.length ∧ ∃ O' G' done acc, I i done O' ∧ done.length ≤ i ∧ Stp K G1 O1 H1 G' O' H' ∧ G' D = none ∧ O' D = none ∧ H' D = some (.lst acc) ∧ IsL K G' done acc,
      ⟨items.length, by omega, O1, G1, [], [], h0, Nat.le_refl _, Stp.newF s1.wd hD, s1.wd.gNone hD, s1.wd.oNone hD, upd_same, rfl⟩, fun i m H' hW => ?_⟩
    obtain ⟨em, O', G', done, acc, hI, ld, st, gD, oD, hD', il⟩ := hW
    obtain ⟨go, stop⟩ := ok G' O' H' st.ex st.wd i
    by_cases hl : i < items.length
    · obtain ⟨g1, g2⟩ := go items[i] (List.getElem?_eq_getElem hl)
      refine .inr ⟨g1, fun H2 => ∃ O' G' done acc, I (i + 1) done O' ∧ done.length ≤ i + 1 ∧ Stp K G1 O1 H1 G' O' H2 ∧ G' D = none ∧ O' D = none ∧ H2 D = some (.lst acc) ∧ IsL K G' done acc,
        fun H2 q => ⟨m - 1, by omega, by omega, q⟩, fun x H2 hy => ?_⟩
      obtain ⟨G2, st2, ix⟩ := g2 x H2 hy
      have d2 := st2.fresh D _ hD' oD gD
      have k2 := st2.keep D _ hD' oD
      have sl2 : SlIs K G2 (wipeD δ vs) (wipe σ vs) := wipeD_is (s.mono ((s1.ex.trans st.ex).trans st2.ex)) vs
      obtain ⟨δ2, h, h1⟩ := hs i _ done O' (List.getElem?_eq_getElem hl) hI
      refine h G2 H2 σ (wipe σ vs) x sl2 wipe_wipe st2.wd.sub ix _ fun σ2 ew sl => ⟨ew, h1 G2 H2 σ2 st2.wd sl _ fun b O3 G3 H3 hb s3 => ?_⟩
      have d3 := s3.fresh D _ k2 d2.2 d2.1
      have k3 := s3.keep D _ k2 d2.2
      cases b with
      | true =>
        refine iteT (hb.1 rfl G3 H3 σ2 s3.wd (sl.mono s3.ex) _ fun d O4 y G4 H4 hI4 s4 iy => ?_)
        have d4 := s4.fresh D _ k3 d3.2 d3.1
        have k4 := s4.keep D _ k3 d3.2
        have sx := ((st.trans st2).trans s3).trans s4
        refine ⟨acc, k4, ?_, O4, G4, done ++ [d], acc ++ [y], hI4, by rw [List.length_append]; simp; exact ld, sx.writeF hD d4.1 d4.2, d4.1, d4.2, upd_same, (il.mono (st2.ex.trans (s3.ex.trans s4.ex))).append ⟨y, [], rfl, iy, rfl⟩⟩
        rw [← il.length]
        exact Evl.sz_lt (by omega)
      | false => exact iteF ⟨O3, G3, done, acc, hb.2 rfl, by omega, (st.trans st2).trans s3, d3.1, d3.2, k3, il.mono (st2.ex.trans s3.ex)⟩
    · refine .inl ⟨stop (List.getElem?_eq_none (by omega)), ?_⟩
      have e : i = items.length := by omega
      subst e
      exact k _ _ _ _ _ (hd _ _ D hI oD) (s1.trans (st.ownF hD gD oD ⟨acc, hD', il⟩)) rfl
theorem evp_lcOM {α : Type} {wi : TI} {vs : List Nat} (l : List α) (enc f : α → D) (δ2 : α → Sl) (hi : EvI K wi δ O (l.map enc) O1) (hz : l.length ≤ 50000) (h : ∀ a ∈ l, Gc K g vs (enc a) (wipeD δ vs) (δ2 a) ∧ EvT K tt (δ2 a) O1 true O1 ∧ Ev K te (δ2 a) O1 (f a) O1)
    (hd : ∀ D, O1 D = none → P (.ref D) (setO O1 D (.lst (l.map f)))) : EvP K (tLc wi g tt te vs) δ O P := by
  refine evp_lcO hi (by rw [List.length_map]; exact hz) (fun i acc O' => O' = O1 ∧ acc = (l.take i).map f) ⟨rfl, by simp⟩ (fun i x acc O' hx hI => ?_) (fun acc O' D hI hn => ?_)
  · obtain ⟨rfl, rfl⟩ := hI
    rw [List.getElem?_map] at hx
    cases q : l[i]? with
    | none => rw [q] at hx; cases hx
    | some a =>
      rw [q] at hx; cases hx
      obtain ⟨h1, h2, h3⟩ := h a (List.mem_of_getElem? q)
      refine ⟨δ2 a, h1, h2.toP ⟨fun _ => h3.toP ⟨rfl, ?_⟩, fun z => nomatch z⟩⟩
      rw [List.take_add_one, q, List.map_append]; rfl
  · obtain ⟨rfl, rfl⟩ := hI
    rw [List.length_map, List.take_of_length_le (Nat.le_refl _)]
    exact hd D hn
end
end DL

set_option Elab.async false
set_option linter.all false
set_option maxRecDepth 100000
namespace DL
open PySem PySem.Spec L2
open PyProof.Rows hiding St
def rIxA (K : PySem.W.Frag) : R2 := fun x y H Q => rIxL K x y H Q ∨ rIxT K x y H Q
theorem ix_seqK {X : Cx} (K : PySem.W.Frag) (h : X.K = K := by rfl) : IxR X (rIxA K) := by
  subst h
  intro value slice pins s σ H x y v u Q I rx ry h hs
  rcases h with h | h
  · exact ix_list value slice pins s σ H x y v u Q I rx ry h hs
  · exact ix_tup value slice pins s σ H x y v u Q I rx ry h hs
section
variable {K : PySem.W.Frag} {O : Ow} {ds : List D} {d : D} {i : Int}
theorem r_ixAL (h : atI ds i = some d) : R2D K (rIxA K) (.lst ds) (.int i) O d := fun G H v u w a b Q k => .inl (r_ixL h G H v u w a b Q k)
theorem r_ixAT (h : atI ds i = some d) : R2D K (rIxA K) (.tup ds) (.int i) O d := fun G H v u w a b Q k => .inr (r_ixT h G H v u w a b Q k)
end
/-- data that a law compares with itself -/
inductive Sm : Nat → D → Prop
  | flat {n : Nat} {x : D} (h : Pl 0 x) : Sm n x
  | tup {n : Nat} {ds : List D} (hl : ds.length ≤ 50000) (h : ∀ d ∈ ds, Sm n d) : Sm (n + 1) (.tup ds)
  | lst {n : Nat} {ds : List D} (hl : ds.length ≤ 50000) (h : ∀ d ∈ ds, Sm n d) : Sm (n + 1) (.lst ds)
def R_same : Nat → DR
  | 0 => fun _ _ _ => False
  | n + 1 => fun ds O Post => ∃ x, ds = [x, x] ∧ Sm n x ∧ Post (.bl true) O
theorem Sm.int {n : Nat} {i : Int} : Sm n (.int i) := .flat .int
theorem Sm.bl {n : Nat} {i : Bool} : Sm n (.bl i) := .flat .bl
theorem Sm.ints {n : Nat} {ns : List Int} (h : ns.length ≤ 50000) : Sm (n + 1) (.tup (ns.map .int)) := .tup (by rw [List.length_map]; exact h) fun d hd => by obtain ⟨i, _, rfl⟩ := List.mem_map.mp hd; exact .int
theorem Sm.intsL {n : Nat} {ns : List Int} (h : ns.length ≤ 50000) : Sm (n + 1) (.lst (ns.map .int)) := .lst (by rw [List.length_map]; exact h) fun d hd => by obtain ⟨i, _, rfl⟩ := List.mem_map.mp hd; exact .int
end DL

set_option Elab.async false
set_option linter.all false
set_option maxRecDepth 100000
set_option maxHeartbeats 4000000
namespace DL
open PySem PySem.Spec L2
open PyProof.Rows hiding St
theorem tuple_mul1 (l : Addr) (items : Array Value) (n : Nat) (dd : Option Addr) (sl : Array (Option Value)) (x : Int) (u : Tok) (c0 : (decide (x < -(2 ^ 63)) || decide (x ≥ 2 ^ 63)) = false) (c1 : (items.isEmpty || x == 1) = true) :
    Meets (Builtin.«tuple.__mul__» ⟨[.ref l, .int x u], []⟩) (fun _ R s => s.heap.get? l = some { cls := .type "tuple", dict := dd, data := .seq items n, slots := sl } ∧ R (.ok (.ret (Value.ref l))) s) :=
  .of_wp fun prog w A R s h => by
    obtain ⟨hp, g, d, tk, os⟩ := s
    obtain ⟨hl, h⟩ := h
    have f1 := AutoSeq1.idx_int
    wp_walk using wpAny_loadPart' hl
    repeat (first
      | (refine wpAny_ite_false (decide_eq_false (by rw [c0]; exact Bool.false_ne_true)) ?_; wp_walk using wpAny_loadPart' hl)
      | (refine wpAny_ite_true (decide_eq_true (by rw [c1])) ?_; wp_walk using wpAny_loadPart' hl))
    exact ⟨_, rfl, h⟩
theorem tuple_mul0 (l : Addr) (items : Array Value) (n : Nat) (dd : Option Addr) (sl : Array (Option Value)) (x : Int) (u : Tok) (c0 : (decide (x < -(2 ^ 63)) || decide (x ≥ 2 ^ 63)) = false) (c1 : (items.isEmpty || x == 1) = false) (c2 : (decide (x ≤ 0) || items.isEmpty) = true) :
    Meets (Builtin.«tuple.__mul__» ⟨[.ref l, .int x u], []⟩) (fun _ R s => s.heap.get? l = some { cls := .type "tuple", dict := dd, data := .seq items n, slots := sl } ∧ R (.ok (.ret (Value.ref s.heap.objs.size))) { s with heap := s.heap.push { cls := Value.type "tuple", data := Data.seq #[] }, toks := s.toks }) :=
  .of_wp fun prog w A R s h => by
    obtain ⟨hp, g, d, tk, os⟩ := s
    obtain ⟨hl, h⟩ := h
    have f1 := AutoSeq1.idx_int
    wp_walk using wpAny_loadPart' hl
    repeat (first
      | (refine wpAny_ite_false (decide_eq_false (by rw [c0]; exact Bool.false_ne_true)) ?_; wp_walk using wpAny_loadPart' hl)
      | (refine wpAny_ite_false (decide_eq_false (by rw [c1]; exact Bool.false_ne_true)) ?_; wp_walk using wpAny_loadPart' hl)
      | (refine wpAny_ite_true (decide_eq_true (by rw [c2])) ?_; wp_walk using wpAny_loadPart' hl))
    exact ⟨_, rfl, h⟩
def rRepA (K : PySem.W.Frag) : R2 := fun x y H Q => ∃ l k xs, x = .ref l ∧ y = .int k ∧ SqT K H l xs ∧ 0 ≤ k ∧ k ≤ 1000 ∧ xs.length ≤ 1000 ∧ ((xs = [] ∨ k = 1) → Q (.ref l) H) ∧ (¬ (xs = [] ∨ k = 1) → ∀ p, H p = none → Q (.ref p) (upd H p (.tup (List.replicate k.toNat xs).flatten)))
theorem op_repA {X : Cx} (K : PySem.W.Frag) (hK : X.K = K := by rfl) : OpR X (binaryOp .Mult) (rRepA K) := by
  subst hK
  intro pins s σ H x y v u Q I rx ry h
  obtain ⟨l, k, xs, rfl, rfl, hT, h1, h2, hz, q1, q2⟩ := h
  by_cases hb : 2 ≤ k ∧ xs ≠ []
  · exact op_repT pins s σ H _ _ v u Q I rx ry ⟨l, k, xs, rfl, rfl, hT, hb.2, hb.1, h2, hz, q2 fun z => z.elim hb.2 (fun z => by omega)⟩
  cases rx
  obtain ⟨t, rfl⟩ := ry
  obtain ⟨its, r, ⟨⟨cls, dd, data, sl⟩, ho, hc, n, hd⟩, hs⟩ := I.tuple hT
  simp only at hc hd
  subst hc hd
  have hle : its.length = xs.length := r.length.symm
  have c0 : (decide (k < -(2 ^ 63)) || decide (k ≥ 2 ^ 63)) = false := by
    rw [decide_eq_false (by omega), decide_eq_false (by omega)] <;> rfl
  by_cases hc : xs = [] ∨ k = 1
  · have c1 : (its.toArray.isEmpty || k == 1) = true := by
      rcases hc with e | e
      · subst e
        have : its = [] := List.eq_nil_of_length_eq_zero hle
        subst this; rfl
      · subst e; simp
    exact wpAny_binaryOp_repeat_ref (T := "tuple") (U := "int") (by decide) ⟨_, ho, rfl⟩ (fun s' => typeIs_int s' k t) noFill_tuple_mul F.fills_int_mul F.slot_int_rmul repeat_tuple F.slot_int_index.lookup
      (call_meets F.slot_int_rmul (typeIs_int s k t) F.entry_int_rmul (F.args_int_rmul_2 _ _) (int_rmul_tuple k t l its.toArray n dd sl)
        ⟨ho, rfl, ⟨_, ho, rfl⟩, call_meets F.slot_tuple_mul ⟨_, ho, rfl⟩ F.entry_tuple_mul (F.args_tuple_mul_2 _ _) (tuple_mul1 l its.toArray n dd sl k t c0 c1) ⟨ho, ⟨.ref l, H, I, rfl, q1 hc⟩⟩⟩)
  · have hne : its ≠ [] := fun e => hc (.inl (by subst e; exact List.eq_nil_of_length_eq_zero hle.symm))
    have hi : its.toArray.isEmpty = false := by
      cases its with
      | nil => exact absurd rfl hne
      | cons a b => rfl
    have hk0 : k = 0 := by
      have : ¬ k = 1 := fun z => hc (.inr z)
      have h3 : ¬ 2 ≤ k := fun z => hb ⟨z, fun z2 => hc (.inl z2)⟩
      omega
    subst hk0
    have q3 := q2 hc
    exact wpAny_binaryOp_repeat_ref (T := "tuple") (U := "int") (by decide) ⟨_, ho, rfl⟩ (fun s' => typeIs_int s' 0 t) noFill_tuple_mul F.fills_int_mul F.slot_int_rmul repeat_tuple F.slot_int_index.lookup
      (call_meets F.slot_int_rmul (typeIs_int s 0 t) F.entry_int_rmul (F.args_int_rmul_2 _ _) (int_rmul_tuple 0 t l its.toArray n dd sl)
        ⟨ho, rfl, ⟨_, ho, rfl⟩, call_meets F.slot_tuple_mul ⟨_, ho, rfl⟩ F.entry_tuple_mul (F.args_tuple_mul_2 _ _) (tuple_mul0 l its.toArray n dd sl 0 t c0 (by rw [hi]; rfl) (by simp)) ⟨ho, ⟨.ref s.heap.objs.size, _, I.laid (t' := s.toks) (o := .tup []) (fun b ob q => Heap.get?_push_of_some _ q) (Nat.le_refl _) ⟨Nat.zero_le _, [], .nil, IsTup.new _ _⟩, rfl, q3 _ (I.hok.fresh (Nat.le_refl _))⟩⟩⟩)
theorem r_repA {K : PySem.W.Frag} {O : Ow} {ds : List D} {i : Int} (h : 0 ≤ i ∧ i ≤ 1000) (hl : ds.length ≤ 1000) : R2D K (rRepA K) (.tup ds) (.int i) O (.tup (List.replicate i.toNat ds).flatten) := fun G H v u w a b Q k => by
  obtain ⟨p, xs, rfl, e, t⟩ := a
  refine ⟨p, i, xs, rfl, b, .inl (.inl (w.sub _ _ e)), h.1, h.2, by rw [← t.length]; exact hl, fun hc => ?_, fun _ l hl => k _ _ _ (Stp.new w hl) ⟨l, _, rfl, upd_same, (t.rep _).mono (Stp.new w hl (o := .tup _)).ex⟩⟩
  rcases hc with e2 | e2
  · subst e2
    have : ds = [] := List.eq_nil_of_length_eq_zero t.length
    subst this
    exact k _ G H (Stp.refl w) ⟨p, [], rfl, e, by simp [IsL]⟩
  · subst e2
    exact k _ G H (Stp.refl w) ⟨p, xs, rfl, e, by simpa using t⟩
end DL

set_option Elab.async false
set_option linter.all false
set_option maxRecDepth 100000
/-! pop, lists joined to a new owned list, abs, while with a walrus, formatted texts -/
namespace DL
open PySem PySem.Spec L2
section
variable {K : PySem.W.Frag} {δ : Sl} {O O1 O2 O3 : Ow} {d x y z : D} {ta tb tc te tv : TE} {t : TA} {tt tt2 : TT} {i j M : Int} {p q l C : Addr} {ds es : List D} {b : Bool} {R : DR} {E : XK} {P : D → Ow → Prop} {B : Bool → Ow → Prop} {g : TG}
theorem IsL.erase {G : Hp} : ∀ {ds : List D} {vs : List V} (k : Nat), IsL K G ds vs → IsL K G (ds.eraseIdx k) (vs.eraseIdx k)
  | [], _, _, h => by cases h; exact rfl
  | _ :: _, _, 0, ⟨v, r, rfl, a, b⟩ => b
  | _ :: _, _, k + 1, ⟨v, r, rfl, a, b⟩ => ⟨v, r.eraseIdx k, rfl, a, IsL.erase k b⟩
theorem IsL.dropL {G : Hp} : ∀ {ds : List D} {vs : List V}, IsL K G ds vs → IsL K G ds.dropLast vs.dropLast
  | [], _, h => by cases h; exact rfl
  | [_], _, ⟨v, r, rfl, a, b⟩ => by cases b; exact rfl
  | d :: e :: ds, _, ⟨v, r, rfl, a, b⟩ => by
    obtain ⟨v2, r2, rfl, a2, b2⟩ := b
    exact ⟨v, (v2 :: r2).dropLast, rfl, a, IsL.dropL (ds := e :: ds) ⟨v2, r2, rfl, a2, b2⟩⟩
/-- o.pop(i) of an owned list -/
theorem evp_popAt {k : Nat} (h1 : Ev K ta δ O (.ref l) O1) (h0 : O1 l = some (.lst es)) (h2 : Ev K te δ O1 (.int i) O2) (h3 : O2 l = some (.lst ds)) (hi : -(2 ^ 63) ≤ i ∧ i < 2 ^ 63) (hk : seqIndex? i ds.length = some k) (hd : ds[k]? = some d) (kk : P d (setO O2 l (.lst (ds.eraseIdx k)))) :
    EvP K (tBM K "list" rPopAt ta (tCons te tNil)) δ O P := fun G H σ w s Q kq =>
  h1 G H σ w s _ fun v G1 H1 s1 i1 => by
    have i1 : v = .ref l := i1
    subst i1
    obtain ⟨_, xs0, e0, _⟩ := s1.wd.own l _ h0
    refine ⟨.inl ⟨rfl, xs0, .inl (.inl e0)⟩, h2 G1 H1 σ s1.wd (s.mono s1.ex) _ fun u G2 H2 s2 i2 => ?_⟩
    obtain ⟨_, xs, e, t⟩ := s2.wd.own l _ h3
    have i2 : u = .int i := i2
    subst i2
    obtain ⟨y, hy, iy⟩ := t.get hd
    refine ⟨l, xs, i, k, y, rfl, rfl, e, hi.1, hi.2, by rw [← t.length]; exact hk, hy, ?_⟩
    have st := Stp.write (o := .lst (xs.eraseIdx k)) (m' := .lst (ds.eraseIdx k)) s2.wd h3 ⟨_, upd_same, t.erase k⟩
    exact kq d _ y _ _ kk ((s1.trans s2).trans st) (iy.mono st.ex)
/-- o.pop() of an owned list -/
theorem evp_pop (h1 : Ev K ta δ O (.ref l) O1) (h0 : O1 l = some (.lst ds)) (hd : ds.getLast? = some d) (kk : P d (setO O1 l (.lst ds.dropLast))) :
    EvP K (tBM0 K "list" rPop ta) δ O P := fun G H σ w s Q kq =>
  h1 G H σ w s _ fun v G1 H1 s1 i1 => by
    have i1 : v = .ref l := i1
    subst i1
    obtain ⟨_, xs, e, t⟩ := s1.wd.own l _ h0
    rw [List.getLast?_eq_getElem?] at hd
    obtain ⟨y, hy, iy⟩ := t.get hd
    refine ⟨.inl ⟨rfl, xs, .inl (.inl e)⟩, l, xs, y, rfl, rfl, e, by rw [← t.length]; exact hy, ?_⟩
    have st := Stp.write (o := .lst xs.dropLast) (m' := .lst ds.dropLast) s1.wd h0 ⟨_, upd_same, t.dropL⟩
    exact kq d _ y _ _ kk (s1.trans st) (iy.mono st.ex)
/-- a + b, the new list is owned -/
theorem evp_catN (ha : Ev K ta δ O (.lst ds) O1) (hb : Ev K tb δ O1 (.lst es) O2) (hl : ds.length + es.length ≤ 100000) (hp : ∀ p, O2 p = none → P (.ref p) (setO O2 p (.lst (ds ++ es)))) : EvP K (tOp rCat ta tb) δ O P := fun G H σ w s Q k =>
  ha G H σ w s _ fun v G1 H1 s1 i1 => hb G1 H1 σ s1.wd (s.mono s1.ex) _ fun u G2 H2 s2 i2 => by
    obtain ⟨p, xs, rfl, e, t⟩ := i1.mono s2.ex
    obtain ⟨q, ys, rfl, e', t'⟩ := i2
    exact ⟨p, q, xs, ys, rfl, rfl, s2.wd.sub _ _ e, s2.wd.sub _ _ e', by rw [← t.length, ← t'.length]; exact sz hl, fun l hl => k _ _ _ _ _ (hp l (s2.wd.oNone hl)) ((s1.trans s2).trans (Stp.newO s2.wd hl ⟨_, upd_same, t.append t'⟩)) rfl⟩
/-- a of an owned list + b, new and plain -/
theorem c_abs : RCD K (fun xs H Q => ∃ i, xs = [V.int i] ∧ Q (.int (if i < 0 then -i else i)) H) [.int i] O (.int (if i < 0 then -i else i)) := fun G H vs w a Q k => by
  obtain ⟨v, rfl, e⟩ := isL1 a
  exact ⟨i, by rw [show v = _ from e], k _ G H (Stp.refl w) rfl⟩
/-! ### f-texts -/
theorem ev_fmtI (h : Ev K te δ O (.int i) O1) (hz : i.natAbs < 2 ^ 1000) : Ev K (tFmt te) δ O (.str (toString i)) O1 := fun G H σ w s Q k =>
  h G H σ w s _ fun v G1 H1 s1 i1 => .inr ⟨i, i1, by
    rcases Nat.eq_zero_or_pos i.natAbs with z | z
    · rw [z]; decide
    · exact Nat.lt_of_lt_of_le ((Nat.log2_lt (by omega)).mpr hz) (by decide), k _ G1 H1 s1 rfl⟩
theorem ev_fmtS {a : Str} (h : Ev K te δ O (.str a) O1) (hz : a.length ≤ 100000) : Ev K (tFmt te) δ O (.str a) O1 := fun G H σ w s Q k =>
  h G H σ w s _ fun v G1 H1 s1 i1 => .inl ⟨a, i1, sz hz, k _ G1 H1 s1 rfl⟩
/-- o.append(e), e by what it may give -/
theorem sd_appP {PE : DE} (h1 : Ev K ta δ O (.ref l) O1) (h0 : O1 l = some (.lst es)) (h2 : EvP K te δ O1 fun d O2 => ∃ ds, O2 l = some (.lst ds) ∧ ds.length < 100000 ∧ PE.nx δ (setO O2 l (.lst (ds ++ [d])))) :
    Sd K (tDrop (tBM K "list" rAppend ta (tCons te tNil))) PE δ O := fun G H σ D w s r =>
  h1 G H σ w s _ fun v G1 H1 s1 i1 => by
    have i1 : v = .ref l := i1
    subst i1
    obtain ⟨_, xs0, e0, _⟩ := s1.wd.own l _ h0
    refine ⟨.inl ⟨rfl, xs0, .inl (.inl e0)⟩, h2 G1 H1 σ s1.wd (s.mono s1.ex) _ fun d O2 u G2 H2 hp s2 i2 => ?_⟩
    obtain ⟨ds, h3, hz, k⟩ := hp
    obtain ⟨_, xs, e, t⟩ := s2.wd.own l _ h3
    refine ⟨l, xs, u, rfl, rfl, e, by rw [← t.length]; exact Evl.sz_lt hz, ?_⟩
    have st := Stp.write (o := .lst (xs ++ [u])) (m' := .lst (ds ++ [d])) s2.wd h3 ⟨_, upd_same, t.append ⟨u, [], rfl, i2, rfl⟩⟩
    exact r.nx _ _ _ _ _ k ((s1.trans s2).trans st) (s.mono ((s1.ex.trans s2.ex).trans st.ex))
theorem cutD_drop {ds : List D} {j : Nat} : DL.cutD ds (some (j : Int)) none = ds.drop j := by
  unfold DL.cutD
  rw [HT.sIx_none, HT.sIx_nat]
  by_cases q : j ≤ ds.length
  · rw [Nat.min_eq_left q, List.take_of_length_le (by rw [List.length_drop]; omega)]
  · rw [Nat.min_eq_right (by omega), List.drop_of_length_le (Nat.le_refl _), List.drop_of_length_le (by omega), List.take_nil]
/-! ### written tuples -/
theorem r_ixK {ns : List Int} {n : Int} (hK : ∀ H, SqT K H p (ns.map V.int)) (h : atI ns i = some n) : R2D K (rIxT K) (.ref p) (.int i) O (.int n) := fun G H v u w a b Q k => by
  have hm : atI (ns.map V.int) i = some (.int n) := by
    unfold atI at h ⊢
    rw [List.length_map]
    cases q : ixN ns.length i with
    | none => rw [q] at h; cases h
    | some j =>
      rw [q] at h
      have h : ns[j]? = some n := h
      show (ns.map V.int)[j]? = _
      rw [List.getElem?_map, h]; rfl
  exact ⟨p, _, i, _, a, b, hK H, hm, k _ G H (Stp.refl w) rfl⟩
theorem c_all {bs : List Bool} : RCD K (rAll K) [.lst (bs.map .bl)] O (.bl (bs.all id)) := fun G H vs w a Q k => by
  obtain ⟨v, rfl, p, xs, rfl, e, tl⟩ := isL1 a
  have ex := tl.bls
  subst ex
  exact ⟨p, bs, rfl, .inl (.inl (w.sub _ _ e)), k _ G H (Stp.refl w) rfl⟩
/-! ### x op= e -/
def ipM : TIp := fun x y H Q => ∃ i j, x = .int i ∧ y = .int j ∧ CMul i j ∧ Q (.int (i * j)) H
theorem ip_mul {X : Cx} : PIp X .Mult ipM := by
  intro pins s σ H x y v u Q I r1 r2 h
  obtain ⟨i, j, e1, e2, hc, q⟩ := h
  subst e1; subst e2
  obtain ⟨t, rfl⟩ := r1
  obtain ⟨t', rfl⟩ := r2
  exact PyProof.Rows.imul_int ⟨.int _, H, I.tok _, ⟨_, rfl⟩, q⟩ hc.ok
theorem sd_augI {PE : DE} {k : Nat} {f : Int → Int → Int} (hx : δ[k]? = some (some (.int i))) (h : Ev K te δ O (.int j) O1) (kk : PE.nx (δ.set k (some (.int (f i j)))) O1) : Sd K (tAug k te (ipI f)) PE δ O := fun G H σ D w s r => by
  obtain ⟨v, e, iv⟩ := s.at_ k _ hx
  have iv : v = .int i := iv
  subst iv
  exact ⟨_, e, h G H σ w s _ fun u G1 H1 s1 i1 => ⟨i, j, rfl, i1, r.nx _ _ _ _ _ kk s1 ((s.mono s1.ex).set rfl)⟩⟩
theorem sd_augM {PE : DE} {k : Nat} (hx : δ[k]? = some (some (.int i))) (h : Ev K te δ O (.int j) O1) (hc : CMul i j) (kk : PE.nx (δ.set k (some (.int (i * j)))) O1) : Sd K (tAug k te ipM) PE δ O := fun G H σ D w s r => by
  obtain ⟨v, e, iv⟩ := s.at_ k _ hx
  have iv : v = .int i := iv
  subst iv
  exact ⟨_, e, h G H σ w s _ fun u G1 H1 s1 i1 => ⟨i, j, rfl, i1, hc, r.nx _ _ _ _ _ kk s1 ((s.mono s1.ex).set rfl)⟩⟩
theorem sd_fldAug {PE : DE} {nm : List Str} {f : Str} {jj : Nat} {a c : Int} (h1 : Ev K ta δ O (.ref p) O1) (ho : O1 p = some (.ins C nm ds)) (cl : Cls K C) (n : NoAttr K C f) (hl : (nm.zip ds).lookup f = some (.int a)) (h2 : Ev K tv δ O1 (.int c) O2) (ho2 : O2 p = some (.ins C nm ds)) (hf : nm[jj]? = some f) (hk : ∀ k, k < jj → nm[k]? ≠ some f) (hz : nm.length < 1000)
    (k : PE.nx δ (setO O2 p (.ins C nm (ds.set jj (.int (a + c)))))) : Sd K (sFldAug K ta tv rAdd f) PE δ O := fun G H σ D w s r =>
  h1 G H σ w s _ fun v G1 H1 s1 i1 => by
    have i1 : v = .ref p := i1
    subst i1
    obtain ⟨_, dx, xs, e, l, t⟩ := s1.wd.own p _ ho
    obtain ⟨v, e2, iv⟩ := lookup_is t hl
    have iv : v = .int a := iv
    subst iv
    refine ⟨p, C, dx, _, _, rfl, e, cl, n, e2, h2 G1 H1 σ s1.wd (s.mono s1.ex) _ fun u G2 H2 s2 i2 => ?_⟩
    have i2 : u = .int c := i2
    subst i2
    obtain ⟨_, dx', xs', e', l', t'⟩ := s2.wd.own p _ ho2
    refine ⟨a, c, rfl, rfl, dx', _, e', by rw [List.length_zip, l', Nat.min_self]; exact hz, ?_⟩
    rw [putF_old hf hk l']
    have st := Stp.write (o := .ins C dx' (nm.zip (xs'.set jj (.int (a + c))))) (m' := .ins C nm (ds.set jj (.int (a + c)))) s2.wd ho2 ⟨dx', _, upd_same, by simp [l'], t'.set jj rfl⟩
    exact r.nx _ _ _ _ _ k ((s1.trans s2).trans st) (s.mono ((s1.ex.trans s2.ex).trans st.ex))
/-! ### while (x := e) op b -/
theorem sd_whileW {PE : DE} {tu : TS} {r : R2} {ii : Nat} (W : Nat → Sl → Ow → Prop) (m0 : Nat) (h0 : W m0 δ O)
    (hs : ∀ m δ' O', W m δ' O' → EvP K te δ' O' fun d O1 => ∃ y O2 b, Ev K tb (δ'.set ii (some d)) O1 y O2 ∧ R2D K r d y O2 (.bl b) ∧ (b = true → Sd K tu { PE with nx := fun δ2 O2 => ∃ m', m' < m ∧ W m' δ2 O2, ct := fun δ2 O2 => ∃ m', m' < m ∧ W m' δ2 O2, bk := PE.nx } (δ'.set ii (some d)) O2) ∧ (b = false → PE.nx (δ'.set ii (some d)) O2)) :
    Sd K (tWhileW (wCmp r (wNm (wE te) ii) tb) tu tNext) PE δ O := fun G H σ D w s rr => by
  refine ⟨fun m σ' H' => ∃ δ' O' G', W m δ' O' ∧ Stp K G O H G' O' H' ∧ SlIs K G' δ' σ', ⟨m0, δ, O, G, h0, Stp.refl w, s⟩, fun m σ' H' hW => ?_⟩
  obtain ⟨δ', O', G', hI, st, sl⟩ := hW
  refine hs m δ' O' hI G' H' σ' st.wd sl _ fun d O1 v G1 H1 hp s1 iv => ?_
  obtain ⟨y, O2, b, hb, hr, ht, hf⟩ := hp
  have sl1 := (sl.mono s1.ex).set (i := ii) iv
  refine hb G1 H1 _ s1.wd sl1 _ fun u G2 H2 s2 iu => hr G2 H2 v u s2.wd (iv.mono s2.ex) iu _ fun z G3 H3 s3 iz => ⟨b, iz, ?_⟩
  have stx := ((st.trans s1).trans s2).trans s3
  have slx := sl1.mono (s2.ex.trans s3.ex)
  cases b with
  | false => exact iteF (rr.nx _ O2 G3 H3 _ (hf rfl) stx slx)
  | true =>
    refine iteT ⟨fun σ2 H2 => ∃ m', m' < m ∧ ∃ δ2 O2 G2, W m' δ2 O2 ∧ Stp K G O H G2 O2 H2 ∧ SlIs K G2 δ2 σ2, fun σ2 H2 ⟨m', a, q⟩ => ⟨m', a, q⟩, ?_⟩
    exact ht rfl G3 H3 _ _ s3.wd slx ⟨fun δ4 O4 G4 H4 σ4 ⟨m', a, p⟩ st4 sl4 => ⟨m', a, δ4, O4, G4, p, stx.trans st4, sl4⟩, fun d O4 G4 H4 v p st4 iv => rr.rt d O4 G4 H4 v p (stx.trans st4) iv,
        fun δ4 O4 G4 H4 σ4 p st4 sl4 => rr.nx δ4 O4 G4 H4 σ4 p (stx.trans st4) sl4, fun δ4 O4 G4 H4 σ4 ⟨m', a, p⟩ st4 sl4 => ⟨m', a, δ4, O4, G4, p, stx.trans st4, sl4⟩⟩
end
end DL

set_option Elab.async false
set_option linter.all false
set_option maxRecDepth 100000
/-! lists, owned or plain, read alike -/
namespace DL
open PySem PySem.Spec L2
section
variable {K : PySem.W.Frag} {δ : Sl} {O O1 O2 O3 : Ow} {d x y z : D} {ta tb tc te tv : TE} {t : TA} {tt tt2 : TT} {i j M : Int} {p q l C : Addr} {ds es : List D} {b : Bool} {R : DR} {E : XK} {P : D → Ow → Prop} {B : Bool → Ow → Prop} {g : TG}
def LstOf (O : Ow) (x : D) (ds : List D) : Prop := x = .lst ds ∨ ∃ p, x = .ref p ∧ O p = some (.lst ds)
theorem LstOf.lst : LstOf O (.lst ds) ds := .inl rfl
theorem LstOf.own (h : O p = some (.lst ds)) : LstOf O (.ref p) ds := .inr ⟨p, rfl, h⟩
theorem c_isiLs {c : String} (hx : LstOf O x ds) (e : kitB "list" c = some b) : RCD K (rIsi K) [x, .ty c] O (.bl b) := by
  rcases hx with rfl | ⟨p, rfl, ho⟩
  · exact c_isi rfl e
  · intro G H vs w a Q k
    obtain ⟨v, u, rfl, iv, iu⟩ := isL2 a
    cases iu
    have iv : v = .ref p := iv
    subst iv
    obtain ⟨_, xs, h, _⟩ := w.own p _ ho
    exact ⟨_, _, _, _, b, rfl, .ty c, .base (.lst h), kit_ty e, k _ G H (Stp.refl w) rfl⟩
theorem c_lenLs (hx : LstOf O x ds) : RCD K (fun xs H Q => ∃ p ys, xs = [.ref p] ∧ (SqL K H p ys ∨ SqT K H p ys) ∧ Q (.int ys.length) H) [x] O (.int (ds.length : Int)) := by
  rcases hx with rfl | ⟨p, rfl, ho⟩
  · exact c_lenL
  · exact c_lenO ho
theorem r_ixLs (hx : LstOf O x ds) (h : atI ds i = some d) : R2D K (rIxL K) x (.int i) O d := by
  rcases hx with rfl | ⟨p, rfl, ho⟩
  · exact r_ixL h
  · exact r_ixO ho h
theorem r_ixALs (hx : LstOf O x ds) (h : atI ds i = some d) : R2D K (rIxA K) x (.int i) O d := fun G H v u w a b Q k => .inl (r_ixLs hx h G H v u w a b Q k)
theorem r_isNLs (hx : LstOf O x ds) : R2D K (fun x y H Q => y = .non ∧ Q (.bl (decide (x = .non))) H) x .non O (.bl false) := by
  rcases hx with rfl | ⟨p, rfl, ho⟩
  · exact r_isN _ rfl
  · exact r_isN _ rfl
/-- a + b of lists however held, the new list is owned -/
theorem evp_catLs (ha : Ev K ta δ O x O1) (hb : Ev K tb δ O1 y O2) (hx : LstOf O2 x ds) (hy : LstOf O2 y es) (hl : ds.length + es.length ≤ 100000) (hp : ∀ p, O2 p = none → P (.ref p) (setO O2 p (.lst (ds ++ es)))) : EvP K (tOp rCat ta tb) δ O P := fun G H σ w s Q k =>
  ha G H σ w s _ fun v G1 H1 s1 i1 => hb G1 H1 σ s1.wd (s.mono s1.ex) _ fun u G2 H2 s2 i2 => by
    have get : ∀ {x : D} {ds : List D} {v : V}, LstOf O2 x ds → Is K G2 x v → ∃ p xs, v = .ref p ∧ H2 p = some (.lst xs) ∧ IsL K G2 ds xs := fun {x ds v} hx iv => by
      rcases hx with rfl | ⟨p, rfl, ho⟩
      · obtain ⟨p, xs, rfl, e, t⟩ := iv
        exact ⟨p, xs, rfl, s2.wd.sub _ _ e, t⟩
      · have iv : v = .ref p := iv
        obtain ⟨_, xs, h, t⟩ := s2.wd.own p _ ho
        exact ⟨p, xs, iv, h, t⟩
    obtain ⟨p, xs, rfl, e, t⟩ := get hx (i1.mono s2.ex)
    obtain ⟨q, ys, rfl, e', t'⟩ := get hy i2
    exact ⟨p, q, xs, ys, rfl, rfl, e, e', by rw [← t.length, ← t'.length]; exact sz hl, fun l hl => k _ _ _ _ _ (hp l (s2.wd.oNone hl)) ((s1.trans s2).trans (Stp.newO s2.wd hl ⟨_, upd_same, t.append t'⟩)) rfl⟩
/-- what is owned may be forgotten -/
theorem evp_drop (h : EvP K te δ O fun d O' => ∃ O2, OSub O2 O' ∧ P d O2) : EvP K te δ O P := fun G H σ w s Q k =>
  h G H σ w s Q fun d O' v G' H' ⟨O2, hs, hp⟩ st iv => k d O2 v G' H' hp (st.drop hs) iv
theorem ev_slLs {tl th : TO} {lo hi : Option Int} (h : Ev K te δ O x O1) (h1 : EvO K tl δ O1 lo O2) (h2 : EvO K th δ O2 hi O3) (hx : LstOf O3 x ds) : Ev K (tSl (rSlL K) te tl th) δ O (.lst (cutD ds lo hi)) O3 := fun G H σ w s Q k =>
  h G H σ w s _ fun v G1 H1 s1 i1 => h1 G1 H1 σ s1.wd (s.mono s1.ex) _ fun G2 H2 s2 => h2 G2 H2 σ s2.wd (s.mono (s1.ex.trans s2.ex)) _ fun G3 H3 s3 => by
    have get : ∃ p xs, v = .ref p ∧ H3 p = some (.lst xs) ∧ IsL K G3 ds xs := by
      have i1 := i1.mono (s2.ex.trans s3.ex)
      rcases hx with rfl | ⟨p, rfl, ho⟩
      · obtain ⟨p, xs, rfl, e, t⟩ := i1
        exact ⟨p, xs, rfl, s3.wd.sub _ _ e, t⟩
      · have iv : v = .ref p := i1
        obtain ⟨_, xs, h, t⟩ := s3.wd.own p _ ho
        exact ⟨p, xs, iv, h, t⟩
    obtain ⟨p, xs, rfl, e, t⟩ := get
    refine ⟨p, xs, rfl, .inl (.inl e), fun l hl => ?_⟩
    have st := Stp.new (o := .lst (cutV xs lo hi)) s3.wd hl
    exact k _ _ _ (((s1.trans s2).trans s3).trans st) ⟨l, _, rfl, upd_same, (cut_is t).mono st.ex⟩
/-- an owned list, or a plain one, walked -/
theorem ei_listLs (h : Ev K te δ O x O1) (hx : x = .lst ds) : EvI K (iList K te) δ O ds O1 := by subst hx; exact ei_list h
/-- behind a statement what is owned may be forgotten -/
theorem sd_nxD {PE : DE} {ts : TS} (h : Sd K ts { PE with nx := fun δ' O' => ∃ O2, OSub O2 O' ∧ PE.nx δ' O2 } δ O) : Sd K ts PE δ O := fun G H σ D w s r =>
  h G H σ D w s ⟨fun δ' O' G' H' σ' ⟨O2, hs, hp⟩ st sl => r.nx δ' O2 G' H' σ' hp (st.drop hs) sl, r.rt, r.bk, r.ct⟩
theorem OSub.set2 {m m' : MO} (hp : O p = none) : OSub (setO O q m') (setO (setO O p m) q m') := fun a n e => by
  by_cases z : a = q
  · subst z; rw [setO_same] at e ⊢; exact e
  · rw [setO_ne z] at e ⊢
    rw [setO_ne (fun z2 => by subst z2; rw [hp] at e; cases e)]; exact e
end
end DL

set_option Elab.async false
set_option linter.all false
set_option maxRecDepth 100000
set_option maxHeartbeats 2000000
/-! exceptions over data: what is raised, who takes it -/
namespace DL
open PySem PySem.Spec L2
/-- an exception: its class, and the fields of its own dict (none: it has none) -/
structure XD where
  cls : Addr
  fs : Option (List Str × List D)
def IsX (K : PySem.W.Frag) (G : Hp) (x : XD) (cls : Value) (d : Option Addr) : Prop := cls = .ref x.cls ∧ match x.fs with
  | none => d = none
  | some (nm, ds) => ∃ a xs, d = some a ∧ G a = some (.xd (nm.zip xs)) ∧ xs.length = nm.length ∧ IsL K G ds xs
/-- what a def that may raise promises -/
abbrev DRX := List D → Ow → (D → Ow → Prop) → (XD → Ow → Prop) → Prop
def SpDX (K : PySem.W.Frag) (R : DRX) : Sp := fun vs H Q E => ∃ G O ds Post XP, Wd K G O H ∧ IsL K G ds vs ∧ R ds O Post XP ∧ (∀ d O' v G' H', Post d O' → Stp K G O H G' O' H' → Is K G' d v → Q v H') ∧ ∀ x O' cls d G' H', XP x O' → Stp K G O H G' O' H' → IsX K G' x cls d → E cls d H'
/-- the wish of exceptions, told of data: by the slots where it is raised -/
def RealX (K : PySem.W.Frag) (W : WX) (XP : Sl → XD → Ow → Prop) (G : Hp) (O : Ow) (H : Hp) : Prop :=
  ∀ δ σ x O' cls d G' H', XP δ x O' → Stp K G O H G' O' H' → SlIs K G' δ σ → IsX K G' x cls d → W cls d σ H'
section
variable {K : PySem.W.Frag} {W : WX} {XP : Sl → XD → Ow → Prop} {G G1 H H1 : Hp} {O O1 : Ow}
theorem RealX.step (r : RealX K W XP G O H) (s : Stp K G O H G1 O1 H1) : RealX K W XP G1 O1 H1 := fun δ σ x O' cls d G' H' p st sl ix => r δ σ x O' cls d G' H' p (s.trans st) sl ix
end
def EvX (K : PySem.W.Frag) (W : WX) (te : TE) (XP : Sl → XD → Ow → Prop) (δ : Sl) (O : Ow) (P : D → Ow → Prop) : Prop :=
  ∀ G H σ, Wd K G O H → SlIs K G δ σ → RealX K W XP G O H → ∀ Q : VK, (∀ d O' v G' H', P d O' → Stp K G O H G' O' H' → Is K G' d v → Q v H') → te σ H Q
def EvTX (K : PySem.W.Frag) (W : WX) (tt : TT) (XP : Sl → XD → Ow → Prop) (δ : Sl) (O : Ow) (B : Bool → Ow → Prop) : Prop :=
  ∀ G H σ, Wd K G O H → SlIs K G δ σ → RealX K W XP G O H → ∀ Q : Bool → Hp → Prop, (∀ b O' G' H', B b O' → Stp K G O H G' O' H' → Q b H') → tt σ H Q
def SdX (K : PySem.W.Frag) (W : WX) (ts : TS) (P : DE) (XP : Sl → XD → Ow → Prop) (δ : Sl) (O : Ow) : Prop :=
  ∀ G H σ (D : Ends), Wd K G O H → SlIs K G δ σ → Real K P D G O H → RealX K W XP G O H → ts D σ H
section
variable {K : PySem.W.Frag} {W : WX} {XP : Sl → XD → Ow → Prop} {δ : Sl} {O O1 O2 O3 : Ow} {d x y z : D} {ta tb tc te tv : TE} {t : TA} {tt tt2 : TT} {tu tw ts : TS} {i j M : Int} {p q l C : Addr} {nm : List Str} {ds es : List D} {b : Bool} {RX : DRX} {R : DR} {E : XK} {P : D → Ow → Prop} {B : Bool → Ow → Prop} {g : TG} {PE : DE}
theorem EvP.tox (h : EvP K te δ O P) : EvX K W te XP δ O P := fun G H σ w s _ Q k => h G H σ w s Q k
theorem EvTP.tox (h : EvTP K tt δ O B) : EvTX K W tt XP δ O B := fun G H σ w s _ Q k => h G H σ w s Q k
theorem EvT.tox (h : EvT K tt δ O b O1) (hb : B b O1) : EvTX K W tt XP δ O B := (h.toP hb).tox
theorem Sd.tox (h : Sd K ts PE δ O) : SdX K W ts PE XP δ O := fun G H σ D w s r _ => h G H σ D w s r
theorem evx_op {r : R2} (ha : EvX K W ta XP δ O fun x O1 => EvX K W tb XP δ O1 fun y O2 => ∃ z, R2D K r x y O2 z ∧ P z O2) : EvX K W (tOp r ta tb) XP δ O P := fun G H σ w s rx Q k =>
  ha G H σ w s rx _ fun x O1 v G1 H1 hb s1 i1 => hb G1 H1 σ s1.wd (s.mono s1.ex) (rx.step s1) _ fun y O2 u G2 H2 hz s2 i2 => by
    obtain ⟨z, hr, hp⟩ := hz
    exact hr G2 H2 v u s2.wd (i1.mono s2.ex) i2 _ fun w' G3 H3 s3 i3 => k z O2 w' G3 H3 hp ((s1.trans s2).trans s3) i3
theorem evtx_test (h : EvX K W te XP δ O fun d O' => ∃ b, d = .bl b ∧ B b O') : EvTX K W (tTest te) XP δ O B := fun G H σ w s rx Q k => h G H σ w s rx _ fun d O' v G1 H1 hp s1 i1 => by
  obtain ⟨b, rfl, hb⟩ := hp
  exact ⟨b, i1, k b O' G1 H1 hb s1⟩
theorem evtx_not (h : EvTX K W tt XP δ O fun b O' => B (!b) O') : EvTX K W (tNot tt) XP δ O B := fun G H σ w s rx Q k => h G H σ w s rx _ fun b O' G1 H1 hp s1 => k _ O' G1 H1 hp s1
/-! ### calls that may raise -/
theorem spx_run {G H : Hp} {vs : List V} {Q : VK} {Post : D → Ow → Prop} {XPost : XD → Ow → Prop} (w : Wd K G O H) (i : IsL K G ds vs) (hr : RX ds O Post XPost) (k : ∀ d O' v G' H', Post d O' → Stp K G O H G' O' H' → Is K G' d v → Q v H') (kx : ∀ x O' cls d G' H', XPost x O' → Stp K G O H G' O' H' → IsX K G' x cls d → E cls d H') : SpDX K RX vs H Q E := ⟨G, O, ds, Post, XPost, w, i, hr, k, kx⟩
theorem evx_run (hE : ∀ cls d σ H, W cls d σ H → E cls d H) (h : EvA K t δ O ds O1) (hr : RX ds O1 P (XP δ)) : EvX K W (tRun (SpDX K RX) E t) XP δ O P := fun G H σ w s rx Q k =>
  h G H σ w s _ fun vs G1 H1 s1 i1 => spx_run s1.wd i1 hr (fun d O' v G' H' hp st iv => k d O' v G' H' hp (s1.trans st) iv) fun x O' cls d G' H' hp st ix => hE _ _ σ _ (rx δ σ x O' cls d G' H' hp (s1.trans st) (s.mono (s1.ex.trans st.ex)) ix)
theorem evx_meth {m : Str} (hE : ∀ cls d σ H, W cls d σ H → E cls d H) (h : Ev K ta δ O (.ins C nm ds) O1) (hm : m ∉ nm) (ht : EvA K t δ O1 es O2) (hr : RX (.ins C nm ds :: es) O2 P (XP δ)) : EvX K W (tMethR C m (SpDX K RX) E ta t) XP δ O P := fun G H σ w s rx Q k =>
  h G H σ w s _ fun v G1 H1 s1 i1 => by
    have i0 := i1
    obtain ⟨p, dx, xs, rfl, e, l, tl⟩ := i1
    refine ⟨p, dx, _, rfl, s1.wd.sub _ _ e, lookup_none (G := G) hm, ht G1 H1 σ s1.wd (s.mono s1.ex) _ fun vs G2 H2 s2 i3 => ?_⟩
    exact spx_run (ds := .ins C nm ds :: es) s2.wd ⟨_, _, rfl, i0.mono s2.ex, i3⟩ hr (fun d O' v G' H' hp st iv => k d O' v G' H' hp ((s1.trans s2).trans st) iv) fun x O' cls d G' H' hp st ix => hE _ _ σ _ (rx δ σ x O' cls d G' H' hp ((s1.trans s2).trans st) (s.mono ((s1.ex.trans s2.ex).trans st.ex)) ix)
theorem evx_methO {m : Str} (hE : ∀ cls d σ H, W cls d σ H → E cls d H) (h : Ev K ta δ O (.ref p) O1) (ho : O1 p = some (.ins C nm ds)) (hm : m ∉ nm) (ht : EvA K t δ O1 es O2) (hr : RX (.ref p :: es) O2 P (XP δ)) : EvX K W (tMethR C m (SpDX K RX) E ta t) XP δ O P := fun G H σ w s rx Q k =>
  h G H σ w s _ fun v G1 H1 s1 i1 => by
    have i1 : v = .ref p := i1
    subst i1
    obtain ⟨_, dx, xs, e, _, _⟩ := s1.wd.own p _ ho
    refine ⟨p, dx, _, rfl, e, lookup_none (G := G) hm, ht G1 H1 σ s1.wd (s.mono s1.ex) _ fun vs G2 H2 s2 i3 => ?_⟩
    exact spx_run (ds := .ref p :: es) s2.wd ⟨_, _, rfl, rfl, i3⟩ hr (fun d O' v G' H' hp st iv => k d O' v G' H' hp ((s1.trans s2).trans st) iv) fun x O' cls d G' H' hp st ix => hE _ _ σ _ (rx δ σ x O' cls d G' H' hp ((s1.trans s2).trans st) (s.mono ((s1.ex.trans s2.ex).trans st.ex)) ix)
/-! ### the same where the handler looks at the slots -/
def tRunX (sp : Sp) (W : WX) (t : TA) : TE := fun σ H Q => t σ H fun vs H1 => sp vs H1 Q fun cls d H' => W cls d σ H'
def tMethX (C : Addr) (m : Str) (sp : Sp) (W : WX) (ta : TE) (t : TA) : TE := fun σ H Q => ta σ H fun x H1 => ∃ a dx fs, x = .ref a ∧ H1 a = some (.ins C dx fs) ∧ fs.lookup m = none ∧ t σ H1 fun vs H2 => sp (x :: vs) H2 Q fun cls d H' => W cls d σ H'
theorem evx_runX (h : EvA K t δ O ds O1) (hr : RX ds O1 P (XP δ)) : EvX K W (tRunX (SpDX K RX) W t) XP δ O P := fun G H σ w s rx Q k =>
  h G H σ w s _ fun vs G1 H1 s1 i1 => spx_run s1.wd i1 hr (fun d O' v G' H' hp st iv => k d O' v G' H' hp (s1.trans st) iv) fun x O' cls d G' H' hp st ix => rx δ σ x O' cls d G' H' hp (s1.trans st) (s.mono (s1.ex.trans st.ex)) ix
theorem evx_methXO {m : Str} (h : Ev K ta δ O (.ref p) O1) (ho : O1 p = some (.ins C nm ds)) (hm : m ∉ nm) (ht : EvA K t δ O1 es O2) (hr : RX (.ref p :: es) O2 P (XP δ)) : EvX K W (tMethX C m (SpDX K RX) W ta t) XP δ O P := fun G H σ w s rx Q k =>
  h G H σ w s _ fun v G1 H1 s1 i1 => by
    have i1 : v = .ref p := i1
    subst i1
    obtain ⟨_, dx, xs, e, _, _⟩ := s1.wd.own p _ ho
    refine ⟨p, dx, _, rfl, e, lookup_none (G := G) hm, ht G1 H1 σ s1.wd (s.mono s1.ex) _ fun vs G2 H2 s2 i3 => ?_⟩
    exact spx_run (ds := .ref p :: es) s2.wd ⟨_, _, rfl, rfl, i3⟩ hr (fun d O' v G' H' hp st iv => k d O' v G' H' hp ((s1.trans s2).trans st) iv) fun x O' cls d G' H' hp st ix => rx δ σ x O' cls d G' H' hp ((s1.trans s2).trans st) (s.mono ((s1.ex.trans s2.ex).trans st.ex)) ix
/-! ### statements -/
theorem sdx_seq (h : SdX K W tu { PE with nx := fun δ' O' => SdX K W tw PE XP δ' O' } XP δ O) : SdX K W (tSeq tu tw) PE XP δ O := fun G H σ D w s r rx =>
  h G H σ _ w s ⟨fun δ' O' G' H' σ' hp st sl => hp G' H' σ' D st.wd sl (r.step st) (rx.step st), r.rt, r.bk, r.ct⟩ rx
theorem sdx_asgP {ii : Nat} (h : EvX K W te XP δ O fun d O' => PE.nx (δ.set ii (some d)) O') : SdX K W (tAsg te (gName ii)) PE XP δ O := fun G H σ D w s r rx =>
  h G H σ w s rx _ fun d O' v G' H' hp st iv => r.nx _ O' G' H' _ hp st ((s.mono st.ex).set iv)
theorem sdx_asgG (h : EvX K W te XP δ O fun d O' => Gd K g d δ O' PE.nx) : SdX K W (tAsg te g) PE XP δ O := fun G H σ D w s r rx =>
  h G H σ w s rx _ fun d O' v G' H' hg st iv => hg G' H' σ v st.wd (s.mono st.ex) iv _ fun δ2 O2 G2 H2 σ2 hp s2 sl => r.nx δ2 O2 G2 H2 σ2 hp (st.trans s2) sl
theorem sdx_retP (h : EvX K W te XP δ O PE.rt) : SdX K W (tRet te) PE XP δ O := fun G H σ D w s r rx => h G H σ w s rx _ fun d O' v G' H' hp st iv => r.rt d O' G' H' v hp st iv
theorem sdx_dropP (h : EvX K W te XP δ O fun _ O' => PE.nx δ O') : SdX K W (tDrop te) PE XP δ O := fun G H σ D w s r rx => h G H σ w s rx _ fun d O' v G' H' hp st iv => r.nx δ O' G' H' σ hp st (s.mono st.ex)
theorem sdx_if (h : EvTX K W tt XP δ O fun b O' => (b = true → SdX K W tu PE XP δ O') ∧ (b = false → SdX K W tw PE XP δ O')) : SdX K W (tIfS tt tu tw) PE XP δ O := fun G H σ D w s r rx =>
  h G H σ w s rx _ fun b O' G' H' hp st => by
    cases b with
    | true => exact iteT (hp.1 rfl G' H' σ D st.wd (s.mono st.ex) (r.step st) (rx.step st))
    | false => exact iteF (hp.2 rfl G' H' σ D st.wd (s.mono st.ex) (r.step st) (rx.step st))
/-- raise C("..") of a class without fields -/
theorem sdx_raise {C : Addr} (h : XP δ ⟨C, none⟩ O) : SdX K W (fun _ σ H => (fun _ H Q => Q (.ref C) none H : L2.St → Hp → XK → Prop) σ H fun cls d H' => W cls d σ H') PE XP δ O := fun G H σ D w s r rx => rx δ σ ⟨C, none⟩ O _ _ G H h (Stp.refl w) s ⟨rfl, rfl⟩
theorem sdx_for {wi : TI} {items : List D} (hi : EvI K wi δ O items O1) (I : Nat → Sl → Ow → Prop) (h0 : I 0 δ O1)
    (hs : ∀ i d δ' O', items[i]? = some d → I i δ' O' → Gd K g d δ' O' fun δ2 O2 => SdX K W tu { PE with nx := I (i + 1), ct := I (i + 1), bk := PE.nx } XP δ2 O2)
    (hd : ∀ δ' O', I items.length δ' O' → PE.nx δ' O') : SdX K W (tFor wi g tu) PE XP δ O := fun G H σ D w s r rx =>
  hi G H σ w s _ fun J G1 H1 s1 ok => by
    refine ⟨fun i m σ' H' => i + m = items.length ∧ ∃ δ' O' G', I i δ' O' ∧ Stp K G O H G' O' H' ∧ Sub G1 G' ∧ SlIs K G' δ' σ', ⟨items.length, by omega, δ, O1, G1, h0, s1, Sub.refl _, s.mono s1.ex⟩, fun i m σ' H' hW => ?_⟩
    obtain ⟨em, δ', O', G', hI, st, sb, sl⟩ := hW
    obtain ⟨go, stop⟩ := ok G' O' H' sb st.wd i
    by_cases hl : i < items.length
    · obtain ⟨g1, g2⟩ := go items[i] (List.getElem?_eq_getElem hl)
      refine .inr ⟨g1, fun σ2 H2 => ∃ δ2 O2 G2, I (i + 1) δ2 O2 ∧ Stp K G O H G2 O2 H2 ∧ Sub G1 G2 ∧ SlIs K G2 δ2 σ2, fun σ2 H2 ⟨δ2, O2, G2, a, b, c, e⟩ => ⟨m - 1, by omega, by omega, δ2, O2, G2, a, b, c, e⟩, fun x H2 hy => ?_⟩
      obtain ⟨G2, st2, ix⟩ := g2 x H2 hy
      refine hs i _ δ' O' (List.getElem?_eq_getElem hl) hI G2 H2 σ' x st2.wd (sl.mono st2.ex) ix _ fun δ3 O3 G3 H3 σ3 hb st3 sl3 => ?_
      have stx := (st.trans st2).trans st3
      exact hb G3 H3 σ3 _ st3.wd sl3 ⟨fun δ4 O4 G4 H4 σ4 p st4 sl4 => ⟨δ4, O4, G4, p, stx.trans st4, (sb.trans st2.ex).trans (st3.ex.trans st4.ex), sl4⟩, fun d O4 G4 H4 v p st4 iv => r.rt d O4 G4 H4 v p (stx.trans st4) iv,
        fun δ4 O4 G4 H4 σ4 p st4 sl4 => r.nx δ4 O4 G4 H4 σ4 p (stx.trans st4) sl4, fun δ4 O4 G4 H4 σ4 p st4 sl4 => ⟨δ4, O4, G4, p, stx.trans st4, (sb.trans st2.ex).trans (st3.ex.trans st4.ex), sl4⟩⟩ (rx.step stx)
    · have e : i = items.length := by omega
      refine .inl ⟨stop (List.getElem?_eq_none (by omega)), ?_⟩
      subst e
      exact r.nx δ' O' G' H' σ' (hd δ' O' hI) st sl
/-! ### the rules of the machine, where the handler looks at the slots -/
section
variable {X : Cx} {CX : CXT} {kk : Nat} {f : Addr} {sp : Sp}
theorem run_fnX {pins : List (Addr × Obj)} {σ : L2.St} {H : Hp} {s : Shared} {Q : VK} {E : XK} {us : List Value} {vs : List V} (F : FnR X.prog X.w X.K X.mg X.base CX kk f sp) (hr : Room kk X.A) (hx : PassesAt CX X σ E) (I : Inv X pins σ H s) (r : Vals vs us) (h : sp vs H Q E) :
    codeAny (model X.prog X.w) X.A (.call (.ref f) ⟨us, []⟩) (fun r s' => match r with | .ok (.ret v) => EP X pins σ Q v s' | .ok _ => False | .error e => X.xe e s') s := by
  refine codeAny_mono (F X.A X.stack s H us vs Q E hr I.env0 r h) fun rr s' hq => ?_
  match rr, hq with
  | .error e, hq => exact hx pins H s e s' I hq
  | .ok (.ret u), hq => exact I.after hq
theorem pe_runX {x : Str} {e : Expr} {es : List Expr} {t : TA} {p pos : Pos} {W : WX} (F : FnR X.prog X.w X.K X.mg X.base (L2.CX X.prog X.w) kk f sp) (hr : Room kk X.A) (hk : PySem.W.keepIn X.K (.ref f) = true) (hm : X.mg x = some (.ref f)) (tk : Takes X W) (ha : PA X (e :: es) t) (hg : Gl X x := by rfl) (hdb : (x == ("__debug__" : Str)) = false := by decide)
    (he : starEach (e :: es) X.env = (false, eval e X.env) :: starEach es X.env := by rfl) (hpl : (backTo pos (starEach es X.env)).any (·.1) = false := by rfl) :
    L2.PE X (.Call (.Name x p) (e :: es) [] pos) (tRunX sp W t) := ⟨fun pins s σ H Q I h =>
  wpAny_Call_Name_kw (ld_glob I hg hm (PySem.W.callWith_K (h₀ := X.base) I.ok.mod.kin hk (thn (ha.run pos pins s σ H _ I h) fun us s1 ⟨vs, H1, I1, r, q⟩ => ⟨I1.kIn, wpAny_call (run_fnX F hr (passAt tk σ) I1 r q)⟩) he hpl) hdb)⟩
theorem pe_methX {C : Addr} {m : Str} {o e : Expr} {es : List Expr} {ta : TE} {t : TA} {apos pos : Pos} {pl : Sem Bool} {W : WX} (ho : L2.PE X o ta) (c : Cls X.K C) (hm : Meth X.K C m f)
    (F : FnR X.prog X.w X.K X.mg X.base (L2.CX X.prog X.w) kk f sp) (hr : Room kk X.A) (tk : Takes X W) (ha : PA X (e :: es) t)
    (hst : starEach (e :: es) X.env = (false, eval e X.env) :: starEach es X.env := by rfl) (hpl : (backTo pos (starEach es X.env)).any (·.1) = false := by rfl)
    (ht : eval (.Call (.Attribute o m apos) (e :: es) [] pos) X.env = (eval o X.env >>= fun ov => standAt apos.atName >>= fun _ => holding [ov] (getMethod ov m pl) >>= fun ff =>
      callWith pos ff.1 ff.2 (backTo pos (starEach (e :: es) X.env)) (backToKw pos (keywordEach [] X.env))) := by rfl) :
    L2.PE X (.Call (.Attribute o m apos) (e :: es) [] pos) (tMethX C m sp W ta t) := ⟨fun pins s σ H Q I h => by
  refine PySem.W.methodCall_KW (pl := pl) (thn (ho.run pins s σ H _ I h) fun u s1 hx => ?_) ht
  obtain ⟨x, H1, I1, rx, a, dx, fs, rfl, ea, l, q⟩ := hx
  cases (show u = Value.ref a from rx)
  exact getmeth_ok I1 ea c hm l (PySem.W.callWith_K (first := [.ref a]) (h₀ := X.base) I.ok.mod.kin hm.kp (thn (ha.run pos pins s1 σ H1 _ I1 q) fun us s2 ⟨vs, H2, I2, r, q2⟩ => ⟨I2.kIn, wpAny_call (run_fnX (us := .ref a :: us) (vs := .ref a :: vs) F hr (passAt tk σ) I2 (.cons rfl r) q2)⟩) hst hpl)⟩
end
/-! ### defs that may raise -/
theorem body_ofX {K : PySem.W.Frag} {RX : DRX} {ts : TS} {N : List Str} {vs : List V} {H : Hp} {Q : VK} {E : XK} (hsp : SpDX K RX vs H Q E) (h : ∀ ds O Post XPost, RX ds O Post XPost → SdX K (fun cls d _ H => E cls d H) ts ⟨fun _ O' => Post .non O', Post, fun _ _ => False, fun _ _ => False⟩ (fun _ => XPost) (startD N ds) O) : ts { nx := fun _ H' => Q .non H', rt := Q } (start N vs) H := by
  obtain ⟨G, O, ds, Post, XPost, w, i, hr, k, kx⟩ := hsp
  exact h ds O Post XPost hr G H _ _ w (start_is i) ⟨fun δ' O' G' H' σ' hp st _ => k _ O' _ G' H' hp st rfl, fun d O' G' H' v hp st iv => k d O' v G' H' hp st iv, fun _ _ _ _ _ hp => hp.elim, fun _ _ _ _ _ hp => hp.elim⟩ fun _ _ x O' cls d G' H' hp st _ ix => kx x O' cls d G' H' hp st ix
theorem fnDX {P : Program} {w : World} {K : PySem.W.Frag} {mg : Str → Option Value} {base : Heap} {x qual : Str} {st : Stmt} {f : Addr} {fd : FuncData} {N ps : List Str} {k : Nat} {RX : DRX} (F : Fun K x qual st f fd) (S : FnScope N ps (defScope st)) (hb : Binds K fd ps [])
    (len : ∀ ds O Post XPost, RX ds O Post XPost → ds.length = ps.length)
    (hbody : ∀ (cdv : Value) (A : Around) (outer : List Env) (s : Shared) (H : Hp) (E : XK), Room k (A.deeper (PyProof.Rows.envOfC qual (defScope st) s.heap.objs.size f cdv)) →
      ∃ t, PSs (cxOf (L2.CX P w) P w K mg base N qual (defScope st) f cdv A outer s H E) (defBody st) t ∧ ∀ ds O Post XPost, RX ds O Post XPost → SdX K (fun cls d _ H => E cls d H) t ⟨fun _ O' => Post .non O', Post, fun _ _ => False, fun _ _ => False⟩ (fun _ => XPost) (startD N ds) O) :
    FnR P w K mg base (L2.CX P w) (k + 1) f (SpDX K RX) := by
  have F1 : FnOk P w K mg base (L2.CX P w) (k + 1) f fd ps (SpDX K RX) := by
    refine F.okX S (fun vs H Q E h => ?_) (fun cdv A outer s H vs Q E hr h => ?_)
    · obtain ⟨G, O, ds, Post, XPost, _, i, hr, _⟩ := h
      rw [← i.length]; exact len ds O Post XPost hr
    · obtain ⟨t, h1, h2⟩ := hbody cdv A outer s H E hr
      exact ⟨t, h1, body_ofX h h2⟩
  refine (F1.raw hb .nil).imp fun vs H Q E h => ?_
  rw [List.append_nil]; exact h
/-! ### try -/
def tTry (K : PySem.W.Frag) (c : Value) (ts : Addr → Value → Option Addr → TS) (Wout : WX) (tb : WX → TS) : TS := fun D σ H => tb (wOnly K c ts Wout D) D σ H
theorem ps_tryO (K : PySem.W.Frag) {X : Cx} {x : Str} {c : Value} {body suite : List Stmt} {b₀ : Stmt} {np pos pos' : Pos} {tb : WX → TS} {ts : Addr → Value → Option Addr → TS} {Wout : WX} (hs : X.stack = X.env :: X.outer) (hf : X.env.frame = some X.env.locals) (hc : Names X x c) (tk : Takes X Wout)
    (hb : ∀ (W : WX) (pn : List (Addr × Obj)) (xe : Value → Shared → Prop), Takes (X.tr pn xe) W → PassesOwn (model X.prog X.w) X.A X.env xe → PSs (X.tr pn xe) body (tb W))
    (hsu : ∀ (a : Addr) (oe : Obj) (cls : Value) (d : Option Addr) (pn : List (Addr × Obj)), Zc cls d oe → (∃ vs, oe.data = .fields vs) → PSs (X.suite a ((a, oe) :: pn)) (b₀ :: suite) (ts a cls d)) (hK : X.K = K := by rfl) :
    PS X (.Try body [.ExceptHandler (some (.Name x np)) none (b₀ :: suite) pos'] [] [] pos) (tTry K c ts Wout tb) := by subst hK; exact ps_try_only hs hf hc tk hb hsu
theorem sd_tryOnly {tb : WX → TS} {ts : Addr → Value → Option Addr → TS} {c : Value} {Wout : WX} (hb : ∀ W, SdX K W (tb W) PE XP δ O)
    (hx : ∀ δ' x O', XP δ' x O' → PySem.W.exmOne K (.ref x.cls) c = some true ∧ ∀ a d, Sd K (ts a (.ref x.cls) d) PE δ' O') : Sd K (tTry K c ts Wout tb) PE δ O := fun G H σ D w s r =>
  hb _ G H σ D w s r fun δ' σ' x O' cls d G' H' hp st sl ix => by
    obtain ⟨rfl, _⟩ := ix
    obtain ⟨e, hS⟩ := hx δ' x O' hp
    exact ⟨true, e, fun _ a _ => hS a d G' H' σ' D st.wd sl (r.step st), fun z => nomatch z⟩
end
end DL

set_option Elab.async false
set_option linter.all false
set_option maxRecDepth 100000
/-! classes of exceptions; lists copied -/
namespace DL
open PySem PySem.Spec L2
/-- what a class of exceptions brings -/
structure XC (K : PySem.W.Frag) (C : Addr) : Prop where
  made : PySem.W.excIn K C [.type "ValueError", .type "Exception", .type "BaseException", .type "object"] "ValueError.__new__" = true
  kp : PySem.W.keepIn K (.ref C) = true
  sub : PySem.W.subIn K (.ref C) (.type "BaseException") = some true
  ty : PySem.W.typeIn K (.ref C) = some (.type "type")
/-- an exception of the class S meets «except C» -/
theorem exm_sub {K : PySem.W.Frag} {S C : Addr} {b : Bool} (h1 : PySem.W.subIn K (.ref C) (.type "BaseException") = some true) (h2 : PySem.W.isClsIn K C = true) (h3 : PySem.W.typeIn K (.ref C) = some (.type "type")) (h4 : PySem.W.subIn K (.ref S) (.ref C) = some b) : PySem.W.exmOne K (.ref S) (.ref C) = some b := by
  have c1 : (PySem.W.subIn K (.ref C) (.type "BaseException") == some true) = true := by rw [h1]; rfl
  have c2 : ((PySem.W.clsIn K C).isSome && PySem.W.typeIn K (.ref C) == some (.type "type")) = true := by
    rw [show (PySem.W.clsIn K C).isSome = true from h2, h3]; rfl
  unfold PySem.W.exmOne
  rw [if_pos c1]
  show (if ((PySem.W.clsIn K C).isSome && PySem.W.typeIn K (.ref C) == some (.type "type")) = true then PySem.W.subIn K (.ref S) (.ref C) else none) = some b
  rw [if_pos c2]
  exact h4
section
variable {K : PySem.W.Frag} {δ : Sl} {O O1 O2 O3 : Ow} {d x y z : D} {ta tb tc te tv : TE} {t : TA} {tt tt2 : TT} {i j M : Int} {p q l C : Addr} {ds es : List D} {b : Bool} {R : DR} {E : XK} {P : D → Ow → Prop} {B : Bool → Ow → Prop} {g : TG}
theorem c_listLs (hx : LstOf O x ds) : RCD K (fun xs H Q => ∃ p ys, xs = [.ref p] ∧ (SqL K H p ys ∨ SqT K H p ys) ∧ ∀ l, H l = none → Q (.ref l) (upd H l (.lst ys))) [x] O (.lst ds) := by
  rcases hx with rfl | ⟨p, rfl, ho⟩
  · exact c_listL
  · intro G H vs w a Q k
    obtain ⟨v, rfl, iv⟩ := isL1 a
    have iv : v = .ref p := iv
    subst iv
    obtain ⟨_, xs, e, tl⟩ := w.own p _ ho
    exact ⟨p, xs, rfl, .inl (.inl (.inl e)), fun l hl => k _ _ _ (Stp.new w hl) ⟨l, _, rfl, upd_same, tl.mono (Stp.new (o := .lst xs) w hl).ex⟩⟩
/-- o.f = e, e by what it may give, the field new -/
theorem sd_fldNP {PE : DE} {f : Str} (c : Cls K C) (n : NoAttr K C f) (h : EvP K tv δ O fun d O1 => ∃ O2 nm ds, Ev K ta δ O1 (.ref p) O2 ∧ O2 p = some (.ins C nm ds) ∧ f ∉ nm ∧ nm.length < 1000 ∧ PE.nx δ (setO O2 p (.ins C (nm ++ [f]) (ds ++ [d])))) :
    Sd K (sFld K ta tv f) PE δ O := fun G H σ D w s r =>
  h G H σ w s _ fun d O1 v G1 H1 hh s1 i1 => by
    obtain ⟨O2, nm, ds, h1, ho, hf, hz, k⟩ := hh
    refine h1 G1 H1 σ s1.wd (s.mono s1.ex) _ fun u G2 H2 s2 i2 => ?_
    have i2 : u = .ref p := i2
    subst i2
    obtain ⟨_, dx, xs, e, hl, t⟩ := s2.wd.own p _ ho
    refine ⟨p, C, dx, _, rfl, e, c, n, by rw [List.length_zip, hl, Nat.min_self]; exact hz, ?_⟩
    rw [putF_new hf hl]
    have st := Stp.write (o := .ins C dx ((nm ++ [f]).zip (xs ++ [v]))) (m' := .ins C (nm ++ [f]) (ds ++ [d])) s2.wd ho ⟨dx, _, upd_same, by simp [hl], t.append ⟨v, [], rfl, i1.mono s2.ex, rfl⟩⟩
    exact r.nx _ _ _ _ _ k ((s1.trans s2).trans st) (s.mono ((s1.ex.trans s2.ex).trans st.ex))
end
end DL

set_option Elab.async false
set_option linter.all false
set_option maxRecDepth 100000
set_option maxHeartbeats 2000000
/-! lambdas over data: made, kept in lists, handed to a def that calls them -/
namespace DL
open PySem PySem.Spec PyProof.Rows L2
/-! ### a base that knows all that lies untouched -/
def BUp (b b' : Heap) : Prop := ∀ a o, b.get? a = some o → b'.get? a = some o
theorem env0_up {P : Program} {w : World} {K : PySem.W.Frag} {mg : Str → Option Value} {base : Heap} {A : Around} {outer : List Env} {s : Shared} {H : Hp} (e : Env0 P w K mg base A outer s H) :
    ∃ base', Env0 P w K mg base' A outer s H ∧ BUp base base' ∧ ∀ b o, s.heap.get? b = some o → H b = none → b ∉ frs outer → base'.get? b = some o := by
  have get : ∀ b o, s.heap.get? b = some o → H b = none → b ∉ frs outer → (PySem.W.hideAll s.heap (trk s.heap H ++ frs outer)).get? b = some o := fun b o h1 h2 h3 =>
    PySem.W.hideAll_get _ h1 fun hm => by
      rcases List.mem_append.mp hm with z | z
      · have q : (H b).isSome = true := (List.mem_filter.mp z).2
        rw [h2] at q; cases q
      · exact h3 z
  have up : BUp base (PySem.W.hideAll s.heap (trk s.heap H ++ frs outer)) := fun b o h => get b o (e.bs b o h).1 (e.bs b o h).2 fun z => by
    have q := (e.funs.mem z).1
    rw [h] at q; cases q
  refine ⟨_, ⟨e.frames, ⟨e.mod.kin.keeps up, e.mod.glob.keeps up, ?_, e.mod.nolimit.keeps up⟩, fun b o h => ?_, Nat.le_of_eq (PySem.W.hideAll_size _ _), ?_, e.frf, e.hok, e.bare⟩, up, get⟩
  · obtain ⟨mb, h1, h2⟩ := e.mod.blt
    exact ⟨mb, h1.keeps up, h2⟩
  · have h0 := PySem.W.of_hideAll _ h
    refine ⟨h0, ?_⟩
    cases q : H b with
    | none => rfl
    | some u =>
      have hm : b ∈ trk s.heap H ++ frs outer := List.mem_append_left _ (List.mem_filter.mpr ⟨List.mem_range.mpr (Heap.lt_size h0), by simp [q]⟩)
      rw [PySem.W.hideAll_none _ hm] at h
      cases h
  · exact PySem.W.funFrames_hide e.funs fun env he a ha => List.mem_append_right _ (List.mem_filterMap.mpr ⟨env, he, ha⟩)
/-! ### what the cells of a def hold, told of a heap -/
structure Cap (X : Cx) (σ : L2.St) (h : Heap) : Prop where
  inj : ∀ x y c, X.env.cells.lookup x = some c → X.env.cells.lookup y = some c → x = y
  has : ∀ x, (X.env.scope.names.lookup x = some .cell ∨ X.env.scope.names.lookup x = some .free) → ∃ c, X.env.cells.lookup x = some c
  cell : ∀ x c, X.env.cells.lookup x = some c → ∃ v, h.IsCell c v
  val : ∀ (i : Nat) (x : Str) (v : V) (c : Addr), X.N[i]? = some x → σ[i]? = some (some v) → (X.env.scope.names.lookup x = some .cell ∨ X.env.scope.names.lookup x = some .free) → X.env.cells.lookup x = some c → ∃ u, RelV v u ∧ h.IsCell c (some u)
  len : σ.length = X.N.length
/-- at a later heap, where the cells still lie as they lay -/
theorem Cap.of {X : Cx} {pins : List (Addr × Obj)} {σ : L2.St} {H : Hp} {s : Shared} {h : Heap} (I : Inv X pins σ H s) (k : ∀ x c v, X.env.cells.lookup x = some c → s.heap.IsCell c v → h.IsCell c v) : Cap X σ h where
  inj := I.ok.inj
  has := I.ok.has
  cell := fun x c e => let ⟨v, z⟩ := I.cell x c e; ⟨v, k x c v e z⟩
  val := fun i x v c e1 e2 e3 e4 => by
    obtain ⟨m, _, hl⟩ := I.loc
    obtain ⟨u, r, q⟩ := hl i x v e1 e2 (.inr e3)
    refine ⟨u, r, k x c _ e4 ?_⟩
    rcases q with ⟨k', _⟩ | ⟨_, c3, e', z⟩
    · have k' : X.env.scope.names.lookup x = some .local := k'
      rcases e3 with q | q <;> rw [q] at k' <;> cases k'
    · rw [e4] at e'
      cases e'
      exact z
  len := I.len
theorem cells_apart {X : Cx} {pins : List (Addr × Obj)} {σ : L2.St} {H : Hp} {s : Shared} (I : Inv X pins σ H s) (hfn : ∀ x, X.fn x = true) {x : Str} {c : Addr} (e : X.env.cells.lookup x = some c) : c ∉ frs X.stack := fun z => by
  rcases List.mem_cons.mp (I.stkSub c z) with q | q
  · exact I.cne x c e q
  · obtain ⟨_, o, ho, _⟩ := I.ok.funs.mem q
    exact absurd (Nat.lt_of_lt_of_le (Heap.lt_size ho) (I.ok.cab x c (hfn x) e)) (Nat.lt_irrefl _)
/-! ### the record of a lambda -/
structure LamR where
  params : Arguments
  body : Expr
  scope : Scope
  qual : Str
  cells : List (Str × Addr)
def LamO (f : Addr) (L : LamR) (dV : Value) (c : Addr) : HO := .ext fun h => ∃ doc pm ctv, h.get? f = some (PySem.W.kdv_obj "<lambda>" L.qual L.params (.expr L.body) L.scope L.cells dV doc pm c ctv)
def TupO (a : Addr) (x : Value) : HO := .ext fun h => h.get? a = some { cls := .type "tuple", data := .seq #[x] }
def DvOk (G : Hp) (dV : Value) : Option Str → Prop
  | none => dV = .none
  | some _ => ∃ T x, dV = .ref T ∧ G T = some (TupO T x)
/-- how its parameter is bound when nothing is handed over -/
def LmB (params : Arguments) (body : Expr) (scope : Scope) : Option Str → Prop
  | none => ∀ (q : Str) (cl : List (Str × Addr)) (doc pm cv ct : Value), bindArgs (PySem.W.kdv_fn "<lambda>" q params (.expr body) scope cl .none doc pm cv ct) ⟨[], []⟩ = pure []
  | some y => ∀ (q : Str) (cl : List (Str × Addr)) (doc pm cv ct : Value) (T : Addr), ∃ k, bindArgs (PySem.W.kdv_fn "<lambda>" q params (.expr body) scope cl (.ref T) doc pm cv ct) ⟨[], []⟩ = (seqItems? (.ref T) >>= k) ∧ ∀ x : Value, k (some #[x]) = pure [(y, x)]
/-- its names: captured ones, globals, its own parameter (which the maker does not know) -/
structure LmS (N : List Str) (sc scope : Scope) (y : Option Str) : Prop where
  kind : scope.kind = .function
  co : scope.isCoroutine = false
  gen : scope.isGenerator = false
  own : ∀ z ∈ scope.names, z.2 ≠ .cell ∧ (z.2 = .local → z.1 ∉ N)
  free : ∀ z ∈ scope.names, z.2 = .free → sc.names.lookup z.1 = some .cell ∨ sc.names.lookup z.1 = some .free
  par : ∀ z, y = some z → scope.names.lookup z = some .local
def lmSB (N : List Str) (sc scope : Scope) (y : Option Str) : Bool :=
  decide (scope.kind = .function) && !scope.isCoroutine && !scope.isGenerator && (scope.names.all fun z => !decide (z.2 = .cell) && (!decide (z.2 = .local) || !decide (z.1 ∈ N)) && (!decide (z.2 = .free) || decide (sc.names.lookup z.1 = some .cell) || decide (sc.names.lookup z.1 = some .free)))
    && (match y with | none => true | some z => decide (scope.names.lookup z = some .local))
theorem lmS_by {N : List Str} {sc scope : Scope} {y : Option Str} (h : lmSB N sc scope y = true) : LmS N sc scope y := by
  unfold lmSB at h
  simp only [Bool.and_eq_true, Bool.or_eq_true, Bool.not_eq_true', decide_eq_true_eq, decide_eq_false_iff_not, List.all_eq_true] at h
  obtain ⟨⟨⟨⟨h1, h2⟩, h3⟩, h4⟩, h5⟩ := h
  refine ⟨h1, h2, h3, fun z hz => ⟨(h4 z hz).1.1, fun e => ((h4 z hz).1.2).resolve_left fun q => q e⟩, fun z hz e => ?_, fun z e => ?_⟩
  · rcases (h4 z hz).2 with (q | q) | q
    · exact absurd e q
    · exact .inl q
    · exact .inr q
  · subst e
    simpa using h5
/-- the context of its body, over another base -/
abbrev lamX (X : Cx) (base' : Heap) (A : Around) (outer : List Env) (s : Shared) (H : Hp) (E : XK) (scope : Scope) (f c : Addr) : Cx := LamX.lamCx { X with base := base' } A outer s H E scope f c
theorem lam_begin {X : Cx} {base' : Heap} {σ : L2.St} {A : Around} {outer : List Env} {E : XK} {scope : Scope} {f c' : Addr} {h₁ : Heap} {tk : Nat} {s1 : Shared} {HZ : Hp} {y : Option Str} {binds : List (Str × Value)} (C : Cap X σ base') (L : LmS X.N X.env.scope scope y)
    (e0 : Env0 X.prog X.w X.K X.mg base' A outer s1 HZ) (hd : A.handled = none) (hns : h₁.Ns s1.heap.objs.size fun y => binds.reverse.lookup y) (kp : ∀ b o, s1.heap.get? b = some o → h₁.get? b = some o) :
    Inv (lamX X base' A outer s1 HZ E scope f c') [] σ HZ { s1 with heap := h₁, toks := tk } := by
  have hfree : ∀ z ∈ scope.names, z.2 = .free → ∃ c, X.env.cells.lookup z.1 = some c := fun z hz e => C.has _ (L.free z hz e)
  have back : ∀ {z c}, (cloFrom X.env.cells scope.names []).lookup z = some c → X.env.cells.lookup z = some c := fun {z c} e => by
    rcases cloFrom_mem (PySem.mem_of_lookup e) with hm | ⟨h1, h2⟩
    · cases hm
    · obtain ⟨c1, hc⟩ := hfree _ h1 rfl
      have hc : X.env.cells.lookup z = some c1 := hc
      rw [hc] at h2
      have h2 : c = c1 := h2
      rw [h2]; exact hc
  have fwd : ∀ {z}, scope.names.lookup z = some .free → ∃ c, (cloFrom X.env.cells scope.names []).lookup z = some c := fun {z} hl => mem_lookup (cloFrom_has (cells := X.env.cells) (acc := []) (PySem.mem_of_lookup hl))
  have cellK : ∀ {c : Addr} {v : Option Value}, base'.IsCell c v → h₁.IsCell c v ∧ HZ c = none := fun {c v} ⟨o, ho, hd⟩ => ⟨⟨o, kp _ _ (e0.bs _ _ ho).1, hd⟩, (e0.bs _ _ ho).2⟩
  have noA : ∀ b : Addr, b ∉ (lamX X base' A outer s1 HZ E scope f c').ex := fun b z => absurd (show b ∈ ([] : List Addr) from z) (by simp)
  have ok : (lamX X base' A outer s1 HZ E scope f c').Ok := {
    mod := e0.mod, kind := L.kind, glob := rfl, blt := rfl, above := Nat.le_refl _
    inj := fun y z c e1 e2 => C.inj y z c (back e1) (back e2)
    has := fun z hz => by
      have hz : scope.names.lookup z = some .cell ∨ scope.names.lookup z = some .free := hz
      rcases hz with q | q
      · exact absurd rfl (L.own _ (PySem.mem_of_lookup q)).1
      · exact fwd q
    cab := fun z c q _ => by have q : false = true := q; cases q
    hd := fun _ => hd
    frames := Around.frames_deeper e0.frames
    stk := .inr ⟨rfl, rfl⟩
    exf := fun b z => absurd z (noA b)
    bs := e0.bs, bsz := e0.bsz
    noex := fun b _ _ => noA b
    exfs := fun b z => absurd z (noA b)
    funs := e0.funs, frf := e0.frf }
  refine ⟨ok, rfl, e0.bare, Un.kept kp, ⟨_, hns, fun i z v e1 e2 e3 => ?_⟩, fun z c e => ?_, e0.hok.fresh (Nat.le_refl _), fun z c e => ?_, fun q hq => absurd (show q ∈ ([] : List (Addr × Obj)) ++ [] from hq) (by simp), e0.hok.kept kp, C.len⟩
  · have e3 : Vis scope z := e3
    have e1 : X.N[i]? = some z := e1
    rcases e3 with q | q | q
    · exact absurd (List.mem_of_getElem? e1) ((L.own _ (PySem.mem_of_lookup q)).2 rfl)
    · exact absurd rfl (L.own _ (PySem.mem_of_lookup q)).1
    · obtain ⟨c2, h2⟩ := fwd q
      obtain ⟨u, r, hc⟩ := C.val i z v c2 e1 e2 (L.free _ (PySem.mem_of_lookup q) rfl) (back h2)
      exact ⟨u, r, .inr ⟨.inr q, c2, h2, (cellK hc).1⟩⟩
  · obtain ⟨v, z⟩ := C.cell z c (back e)
    exact ⟨v, (cellK z).1⟩
  · obtain ⟨v, z⟩ := C.cell z c (back e)
    exact (cellK z).2
/-! ### a value that may be called without arguments -/
/-- the promise of such a call, where the heap tells at least G -/
def SpAct (K : PySem.W.Frag) (G : Hp) (R : Ow → (D → Ow → Prop) → (XD → Ow → Prop) → Prop) : Sp := fun vs H Q E => vs = [] ∧ ∃ G' O Post XP, Sub G G' ∧ Wd K G' O H ∧ R O Post XP ∧ (∀ d O' v G2 H', Post d O' → Stp K G' O H G2 O' H' → Is K G2 d v → Q v H') ∧ ∀ x O' cls d G2 H', XP x O' → Stp K G' O H G2 O' H' → IsX K G2 x cls d → E cls d H'
/-- a function that promises R -/
def actD (P : Program) (w : World) (K : PySem.W.Frag) (mg : Str → Option Value) (base : Heap) (k : Nat) (R : Ow → (D → Ow → Prop) → (XD → Ow → Prop) → Prop) : D :=
  .sem fun G v => ∃ f L dV c, v = .ref f ∧ G f = some (LamO f L dV c) ∧ FnR P w K mg base (L2.CX P w) k f (SpAct K G R)
/-- what is known of a lambda when it was made by the def in X: te tells its body -/
def LamA (X : Cx) (k : Nat) (L : LamR) (y : Option Str) (te : XK → TE) : Prop :=
  LmS X.N X.env.scope L.scope y ∧ LmB L.params L.body L.scope y ∧ L.qual = X.env.qual ++ "<lambda>" ∧ L.cells = cloFrom X.env.cells L.scope.names [] ∧
  ∀ (base' : Heap) (A : Around) (outer : List Env) (s : Shared) (H : Hp) (E : XK) (f c : Addr), BUp X.base base' → Room k (A.deeper (LamX.lamEnv X L.scope s.heap.objs.size f c)) → L2.PE (lamX X base' A outer s H E L.scope f c) L.body (te E)
/-- the lambda as a datum -/
def lamD (X : Cx) (k : Nat) (te : XK → TE) : D := .sem fun G v => ∃ f L dV c y, v = .ref f ∧ G f = some (LamO f L dV c) ∧ G c = some (LamX.CodeO c L.qual) ∧ DvOk G dV y ∧ LamA X k L y te
/-- and with the slots of its maker -/
def bndD (X : Cx) (σ : L2.St) (δ : Sl) (k : Nat) (te : XK → TE) : D := .sem fun G v => (∃ f L dV c y, v = .ref f ∧ G f = some (LamO f L dV c) ∧ G c = some (LamX.CodeO c L.qual) ∧ DvOk G dV y ∧ LamA X k L y te) ∧ SlIs X.K G δ σ
theorem bnd_of {X : Cx} {σ : L2.St} {δ : Sl} {k : Nat} {te : XK → TE} {G : Hp} {v : V} (s : SlIs X.K G δ σ) (h : Is X.K G (lamD X k te) v) : Is X.K G (bndD X σ δ k te) v := by
  obtain ⟨G1, sb, f, L, dV, c, y, e, h1, h2, h3, h4⟩ := h
  refine ⟨G, Sub.refl _, ⟨f, L, dV, c, y, e, sb _ _ h1, sb _ _ h2, ?_, h4⟩, s⟩
  cases y with
  | none => exact h3
  | some y => obtain ⟨T, x, a, b⟩ := h3; exact ⟨T, x, a, sb _ _ b⟩
/-- what its body promises at the maker's slots -/
def RAct (K : PySem.W.Frag) (te : XK → TE) (δ : Sl) : Ow → (D → Ow → Prop) → (XD → Ow → Prop) → Prop := fun O Post XP => ∀ E : XK, EvX K (fun cls d _ H => E cls d H) (te E) (fun _ => XP) δ O Post
theorem act_of {X : Cx} {σ : L2.St} {δ : Sl} {k : Nat} {te : XK → TE} {base' : Heap} {G : Hp} {v : V} (hu : BUp X.base base') (C : Cap X σ base') (h : Is X.K G (bndD X σ δ k te) v) : Is X.K G (actD X.prog X.w X.K X.mg base' (k + 1) (RAct X.K te δ)) v := by
  obtain ⟨G1, sb, ⟨f, L, dV, c, y, e, h1, h2, h3, S, B, hq, hcl, hbody⟩, sl⟩ := h
  refine ⟨G1, sb, f, L, dV, c, e, h1, fun A outer s H us vs Q E hr e0 r hs => ?_⟩
  obtain ⟨rfl, G2, O, Post, XP, s2, w, hR, kP, kX⟩ := hs
  cases r
  obtain ⟨⟨doc, pm, ctv, of1⟩, _, _⟩ := e0.hok f _ (w.sub _ _ (s2 _ _ h1))
  obtain ⟨⟨oc, vs, t, hoc, hdc, hvc⟩, _, _⟩ := e0.hok c _ (w.sub _ _ (s2 _ _ h2))
  have go : ∀ binds : List (Str × Value), (∀ z ∈ binds, L.scope.names.lookup z.1 = some .local) → BindsTo s (PySem.W.kdv_fn "<lambda>" L.qual L.params (.expr L.body) L.scope L.cells dV doc pm (.ref c) ctv) ⟨[], []⟩ binds →
      codeAny (model X.prog X.w) A (.call (.ref f) ⟨[], []⟩) (CR (L2.CX X.prog X.w) outer X.prog X.w H s Q E) s := fun binds hl hb => by
    refine PySem.W.kla_callFunE hr.depth of1 rfl S.co S.gen rfl ⟨c, oc, vs, t, rfl, hoc, hdc, hvc⟩ (hb _ _ _ _ ?_)
    refine wpAny_newFunctionEnv (fun z hz => (S.own z hz).1) hl (fun h₁ hns hsb => ⟨(e0.mod.nolimit.keeps fun b o e => (e0.bs b o e).1).fresh _ hsb, ?_⟩) S.kind
    have kp : ∀ b o, s.heap.get? b = some o → h₁.get? b = some o := fun b o e => hsb.extBut b o (Nat.ne_of_lt (Heap.lt_size e)) (Heap.get?_push_of_some _ e)
    have J : Inv (lamX X base' A outer s H E L.scope f c) [] σ H { s with heap := h₁, toks := s.toks + binds.length } := lam_begin C S e0 hr.hd hns kp
    rw [hq, hcl]
    show codeAny _ _ (.expr L.body (LamX.lamEnv X L.scope s.heap.objs.size f c)) _ _
    have ht : te E σ H Q := hR E G2 H σ w (sl.mono s2) (fun _ _ x O' cls d G' H' hp st _ ix => kX x O' cls d G' H' hp st ix) Q kP
    refine PySem.W.kla_codeExpr (wpAny_mono ((hbody base' A outer s H E f c hu (hr.deeper _)).run [] _ _ H Q J ht) (fun v s' hq' => ?_) fun e s' hq' => hq')
    obtain ⟨w', H', J', rv, q⟩ := hq'
    exact ⟨w', H', J'.os, J'.bare, J'.base, J'.hok, rv, q⟩
  cases y with
  | none =>
    have h3 : dV = .none := h3
    subst h3
    exact go [] (fun z hz => absurd hz (by simp)) (.of_eq (B _ _ _ _ _ _))
  | some y =>
    obtain ⟨T, x, rfl, hT⟩ := h3
    obtain ⟨eT, _, _⟩ := e0.hok T _ (w.sub _ _ (s2 _ _ hT))
    obtain ⟨kk, b1, b2⟩ := B L.qual L.cells doc pm (.ref c) ctv T
    exact go [(y, x)] (fun z hz => by rw [List.mem_singleton] at hz; rw [hz]; exact S.par y rfl) (BindsTo.of_defaults rfl eT rfl b1 (b2 x))
end DL

set_option Elab.async false
set_option linter.all false
set_option maxRecDepth 100000
set_option maxHeartbeats 2000000
/-! lambdas: the rules -/
namespace DL
open PySem PySem.Spec PyProof.Rows L2
/-- a table of code objects, owned: those it tells bear the name q -/
def tabM (q : Str) : MO := .sem fun G o => ∃ ps : Array Value, o = .tbl ps ∧ TriplesOk ps.toList ∧ ∀ (pos : Pos) (cv : Value), codeAmong pos ps.toList = some cv → ∃ c, cv = .ref c ∧ G c = some (LamX.CodeO c q)
/-- what the heap is when the lambda at f was made -/
structure Mk (H H1 : Hp) (P : Addr) (q : Str) (ps ps' : Array Value) (f c : Addr) (L : LamR) (dV : Value) (y : Option Str) : Prop where
  tab : H1 P = some (.tbl ps')
  tri : TriplesOk ps'.toList
  cod : ∀ (pos : Pos) (cv : Value), codeAmong pos ps'.toList = some cv → codeAmong pos ps.toList = some cv ∨ (cv = .ref c ∧ H c = none)
  keep : ∀ b o, b ≠ P → H b = some o → H1 b = some o
  newF : H f = none
  lam : H1 f = some (LamO f L dV c)
  code : H1 c = some (LamX.CodeO c q)
  old : H c = none ∨ ∃ pos, codeAmong pos ps.toList = some (.ref c)
  dv : match y with | none => dV = .none | some _ => ∃ T x, dV = .ref T ∧ H T = none ∧ H1 T = some (TupO T x)
def tLam (X : Cx) (P : Addr) (k : Nat) (te : XK → TE) : TE := fun _ H Q => ∃ ps : Array Value, H P = some (.tbl ps) ∧ TriplesOk ps.toList ∧ (∀ (pos : Pos) (cv : Value), codeAmong pos ps.toList = some cv → ∃ c, cv = .ref c ∧ H c = some (LamX.CodeO c (X.env.qual ++ "<lambda>"))) ∧
  ∀ f c L dV y ps' H1, Mk H H1 P (X.env.qual ++ "<lambda>") ps ps' f c L dV y → L.qual = X.env.qual ++ "<lambda>" → LamA X k L y te → Q (.ref f) H1
theorem ev_lam {X : Cx} {P : Addr} {k : Nat} {te : XK → TE} {δ : Sl} {O : Ow} (hO : O P = some (tabM (X.env.qual ++ "<lambda>"))) : Ev X.K (tLam X P k te) δ O (lamD X k te) O := fun G H σ w s Q kk => by
  obtain ⟨gP, o, G1, hP, sb, ps, rfl, ht, hc⟩ := w.own P _ hO
  refine ⟨ps, hP, ht, fun pos cv h => ?_, fun f c L dV y ps' H1 m hq hA => ?_⟩
  · obtain ⟨c, e, g⟩ := hc pos cv h
    exact ⟨c, e, w.sub _ _ (sb _ _ g)⟩
  classical
  let G' : Hp := fun a => if H a = none then H1 a else G a
  have gN : ∀ {a}, H a = none → G' a = H1 a := fun {a} h => if_pos h
  have gO : ∀ {a o}, H a = some o → G' a = G a := fun {a o} h => if_neg (by rw [h]; simp)
  have up : Sub G G' := fun a o h => by rw [gO (w.sub _ _ h)]; exact h
  have nP : ∀ a o, G a = some o → a ≠ P := fun a o h z => by rw [z, gP] at h; cases h
  have cG : G' c = some (LamX.CodeO c (X.env.qual ++ "<lambda>")) := by
    rcases m.old with h | ⟨pos, h⟩
    · rw [gN h]; exact m.code
    · obtain ⟨c', e, g⟩ := hc pos _ h
      cases e
      exact up _ _ (sb _ _ g)
  have st : Stp X.K G O H G' O H1 := {
    wd := ⟨fun a o h => by
      cases q : H a with
      | none => rw [gN q] at h; exact h
      | some u =>
        rw [gO q] at h
        exact m.keep a o (nP a o h) (w.sub _ _ h), fun p mo e => by
      obtain ⟨g1, i1⟩ := w.own p mo e
      obtain ⟨u, hu⟩ := i1.there
      refine ⟨by rw [gO hu]; exact g1, ?_⟩
      by_cases z : p = P
      · subst z
        rw [hO] at e
        cases e
        refine ⟨_, G', m.tab, Sub.refl _, ps', rfl, m.tri, fun pos cv h => ?_⟩
        rcases m.cod pos cv h with h | ⟨rfl, h⟩
        · obtain ⟨c', e', g⟩ := hc pos cv h
          exact ⟨c', e', up _ _ (sb _ _ g)⟩
        · exact ⟨c, rfl, cG⟩
      · exact i1.mono up fun o h => m.keep p o z h⟩
    ex := up
    keep := fun a o h n => m.keep a o (fun z => by rw [z, hO] at n; cases n) h
    fresh := fun a o h n g => ⟨by rw [gO h]; exact g, n⟩ }
  refine kk _ G' H1 st ⟨G', Sub.refl _, f, L, dV, c, y, rfl, by rw [gN m.newF]; exact m.lam, by rw [hq]; exact cG, ?_, hA⟩
  have hd := m.dv
  cases y with
  | none => exact hd
  | some y =>
    obtain ⟨T, x, e, h1, h2⟩ := hd
    exact ⟨T, x, e, by rw [gN h1]; exact h2⟩
section
variable {X : Cx} {pins : List (Addr × Obj)} {σ : L2.St} {H : Hp} {s : Shared}
theorem lamO_ok {P : Program} {w : World} {H : Hp} {h : Heap} {f c : Addr} {L : LamR} {dV doc pm ctv : Value} (e : h.get? f = some (PySem.W.kdv_obj "<lambda>" L.qual L.params (.expr L.body) L.scope L.cells dV doc pm c ctv)) : ObjOk P w H h f (LamO f L dV c) :=
  ⟨⟨doc, pm, ctv, e⟩, ⟨_, e⟩, fun h1 h2 ⟨doc, pm, ctv, z⟩ st => ⟨doc, pm, ctv, st _ z⟩⟩
/-- the tail of the making -/
theorem lam_tail {c P : Addr} {params : Arguments} {body : Expr} {scope : Scope} {pos : Pos} {line : Nat} {dV : Value} {E : Value → Shared → Prop} {Q : Value → Shared → Prop} {ps : Array Value} (I : Inv X pins σ H s) (TB : LamX.TabB X.base X.mg c P) (hcode : X.env.code = .ref c)
    (hP : H P = some (.tbl ps)) (ht : TriplesOk ps.toList) (ha : ∀ (pos : Pos) (cv : Value), codeAmong pos ps.toList = some cv → ∃ c, cv = .ref c ∧ H c = some (LamX.CodeO c (X.env.qual ++ "<lambda>")))
    (hfree : ∀ y ∈ scope.names, y.2 = .free → ∃ c, X.env.cells.lookup y.1 = some c)
    (h : ∀ f c' ps' H1 s', Inv X pins σ H1 s' → H1 P = some (.tbl ps') → TriplesOk ps'.toList → (∀ (pos : Pos) (cv : Value), codeAmong pos ps'.toList = some cv → codeAmong pos ps.toList = some cv ∨ (cv = .ref c' ∧ H c' = none)) → (∀ b o, b ≠ P → H b = some o → H1 b = some o) → H f = none →
      H1 f = some (LamO f ⟨params, body, scope, X.env.qual ++ "<lambda>", cloFrom X.env.cells scope.names []⟩ dV c') → H1 c' = some (LamX.CodeO c' (X.env.qual ++ "<lambda>")) → (H c' = none ∨ ∃ pos, codeAmong pos ps.toList = some (.ref c')) → Q (.ref f) s') :
    wpAny (model X.prog X.w) X.A (makeTail "<lambda>" (X.env.qual ++ "<lambda>") params (.expr body) scope X.env dV .none none pos line) Q E s := by
  have bP : s.heap.BuiltinsAt X.mg P := TB.bm.keeps I.bk
  have hP' : s.heap.get? P = some { cls := .none, data := .fields ps } := I.hok P _ hP
  cases hc : codeAmong pos ps.toList with
  | none =>
    refine PySem.W.kdv_makeTail (mg := X.mg) (c := c) (P := P) (ps := ps) (closure_ok hfree) I.ok.glob (I.mod.glob.keeps I.bk) hcode (TB.code.keeps I.bk) hP' ht hc TB.gP bP fun c' ctv doc h' tk hx hge hlt hrec htb => ?_
    obtain ⟨c2, oc, vs, t, e2, hoc, hd, hv⟩ := hrec
    cases e2
    have nC : H c' = none := I.hok.fresh hge
    have nPc : P ≠ c' := ne_of_none hP nC
    have I1 := LamX.inv_table (t' := tk) (more := #[rawInt pos.line, rawInt pos.col, .ref c']) (h' := h') (q := X.env.qual ++ "<lambda>") I hP (fun b o hb e => hx b o hb e) htb hge ⟨oc, vs, t, hoc, hd, hv⟩
    have nF : H h'.objs.size = none := I.hok.fresh (Nat.le_trans hge (Nat.le_of_lt hlt))
    have nFP : h'.objs.size ≠ P := fun z => by rw [z, hP] at nF; cases nF
    have nFc : h'.objs.size ≠ c' := Nat.ne_of_gt hlt
    have I2 := I1.laid (t' := tk) (a := h'.objs.size) (o := LamO h'.objs.size ⟨params, body, scope, X.env.qual ++ "<lambda>", cloFrom X.env.cells scope.names []⟩ dV c') (h' := h'.push (PySem.W.kdv_obj "<lambda>" (X.env.qual ++ "<lambda>") params (.expr body) scope (cloFrom X.env.cells scope.names []) dV doc ((X.mg "__name__").getD .none) c' ctv))
      (fun b u e => Heap.get?_push_of_some _ e) (Nat.le_refl _) (lamO_ok (Heap.get?_push_size _ rfl))
    have eL : (ps ++ #[rawInt pos.line, rawInt pos.col, .ref c']).toList = ps.toList ++ [rawInt pos.line, rawInt pos.col, .ref c'] := by simp
    refine h h'.objs.size c' (ps ++ #[rawInt pos.line, rawInt pos.col, .ref c']) _ _ I2 ?_ (by rw [eL]; exact PySem.TriplesOk_snoc _ _ _ _ ht) (fun p' cv hcv => ?_) (fun b o hb e => ?_) nF upd_same ?_ (.inl nC)
    · rw [upd_ne (Ne.symm nFP), upd_ne nPc, upd_same]
    · rw [eL] at hcv
      rcases LamX.among_app _ ht hcv with z | z
      · exact .inl z
      · exact .inr ⟨z, nC⟩
    · rw [upd_ne (ne_of_none e nF), upd_ne (ne_of_none e nC), upd_ne hb]; exact e
    · rw [upd_ne (Ne.symm nFc), upd_same]
  | some cv =>
    obtain ⟨c', e, hco⟩ := ha pos cv hc
    subst e
    refine PySem.W.kdv_makeTailHit (mg := X.mg) (c := c) (P := P) (ps := ps) (closure_ok hfree) I.ok.glob (I.mod.glob.keeps I.bk) hcode (TB.code.keeps I.bk) hP' ht hc bP fun ctv doc h' tk hx hsz => ?_
    have nF : H h'.objs.size = none := I.hok.fresh hsz
    have I2 := I.laid (t' := tk) (a := h'.objs.size) (o := LamO h'.objs.size ⟨params, body, scope, X.env.qual ++ "<lambda>", cloFrom X.env.cells scope.names []⟩ dV c') (h' := h'.push (PySem.W.kdv_obj "<lambda>" (X.env.qual ++ "<lambda>") params (.expr body) scope (cloFrom X.env.cells scope.names []) dV doc ((X.mg "__name__").getD .none) c' ctv))
      (fun b u e => Heap.get?_push_of_some _ (hx b u e)) hsz (lamO_ok (Heap.get?_push_size _ rfl))
    refine h h'.objs.size c' ps _ _ I2 ?_ ht (fun p' cv hcv => .inl hcv) (fun b o hb e => ?_) nF upd_same ?_ (.inr ⟨pos, hc⟩)
    · rw [upd_ne (ne_of_none hP nF)]; exact hP
    · rw [upd_ne (ne_of_none e nF)]; exact e
    · rw [upd_ne (ne_of_none hco nF)]; exact hco
end
section
variable {X : Cx} {c P : Addr} {params : Arguments} {body : Expr} {scope : Scope} {pos : Pos} {k : Nat} {te : XK → TE}
theorem pe_lam0 (TB : LamX.TabB X.base X.mg c P) (hcode : X.env.code = .ref c) (S : LmS X.N X.env.scope scope none) (B : LmB params body scope none)
    (hbody : ∀ (base' : Heap) (A : Around) (outer : List Env) (s : Shared) (H : Hp) (E : XK) (f c : Addr), BUp X.base base' → Room k (A.deeper (LamX.lamEnv X scope s.heap.objs.size f c)) → L2.PE (lamX X base' A outer s H E scope f c) body (te E))
    (hdef : defaultsOf params X.env = ([], []) := by rfl) : L2.PE X (.Lambda params body scope pos) (tLam X P k te) := ⟨fun pins s σ H Q I h => by
  obtain ⟨ps, hP, ht, ha, q⟩ := h
  refine PySem.W.kla_eval hdef ?_
  rw [makeFunction_eq]
  simp only [List.zip_nil_right, List.filterMap_nil, List.isEmpty_nil, if_true, pure_bind]
  refine lam_tail I TB hcode hP ht ha (fun y hy e => I.ok.has _ (S.free y hy e)) fun f c' ps' H1 s' I1 h1 h2 h3 h4 h5 h6 h7 h8 => ?_
  exact ⟨.ref f, H1, I1, rfl, q f c' _ .none none ps' H1 ⟨h1, h2, h3, h4, h5, h6, h7, h8, rfl⟩ rfl ⟨S, B, rfl, rfl, hbody⟩⟩⟩
theorem pe_lam1 {y : Str} {e0 : Expr} {i : Int} (TB : LamX.TabB X.base X.mg c P) (hcode : X.env.code = .ref c) (S : LmS X.N X.env.scope scope (some y)) (B : LmB params body scope (some y)) (he : L2.PE X e0 (tC (.int i)))
    (hbody : ∀ (base' : Heap) (A : Around) (outer : List Env) (s : Shared) (H : Hp) (E : XK) (f c : Addr), BUp X.base base' → Room k (A.deeper (LamX.lamEnv X scope s.heap.objs.size f c)) → L2.PE (lamX X base' A outer s H E scope f c) body (te E))
    (hd : params.defaults = [e0] := by rfl) (hk : params.kw_defaults = [] := by rfl) : L2.PE X (.Lambda params body scope pos) (tLam X P k te) := ⟨fun pins s σ H Q I h => by
  obtain ⟨ps, hP, ht, ha, q⟩ := h
  refine PySem.W.kdv_lam (by rw [hd]; rfl) hk ?_
  rw [hd]
  refine PySem.W.kdv_all1 (thn (he.run pins s σ H (fun v H1 => v = .int i ∧ H1 = H) I ⟨rfl, rfl⟩) fun u s1 hx => PySem.W.kdv_all0 ?_)
  obtain ⟨v, H1, I1, rv, _, eH⟩ := hx
  rw [eH] at I1
  rw [makeFunction_eq]
  simp only [List.zip_nil_right, List.filterMap_nil, List.isEmpty_nil, List.isEmpty_cons, Bool.false_eq_true, if_false, if_true, pure_bind]
  refine wpAny_bind (wpAny_newTextTuple ?_)
  have nT : H s1.heap.objs.size = none := I1.hok.fresh (Nat.le_refl _)
  have I2 := I1.laid (t' := s1.toks) (a := s1.heap.objs.size) (o := TupO s1.heap.objs.size u) (h' := s1.heap.push { cls := .type "tuple", data := .seq ([u] : List Value).toArray }) (fun b u e => Heap.get?_push_of_some _ e) (Nat.le_refl _)
    ⟨Heap.get?_push_size _ rfl, ⟨_, Heap.get?_push_size _ rfl⟩, fun h1 h2 z st => st _ z⟩
  have up : ∀ {b o}, H b = some o → upd H s1.heap.objs.size (TupO s1.heap.objs.size u) b = some o := fun {b o} e => by rw [upd_ne (ne_of_none e nT)]; exact e
  have nP : P ≠ s1.heap.objs.size := ne_of_none hP nT
  refine lam_tail I2 TB hcode (up hP) ht (fun pos cv h => let ⟨c, a, b⟩ := ha pos cv h; ⟨c, a, up b⟩) (fun y hy e => I.ok.has _ (S.free y hy e)) fun f c' ps' H3 s' I3 h1 h2 h3 h4 h5 h6 h7 h8 => ?_
  have dn : ∀ {b}, upd H s1.heap.objs.size (TupO s1.heap.objs.size u) b = none → H b = none := fun {b} e => by
    by_cases z : b = s1.heap.objs.size
    · rw [z]; exact nT
    · rw [upd_ne z] at e; exact e
  exact ⟨.ref f, H3, I3, rfl, q f c' _ (.ref s1.heap.objs.size) (some y) ps' H3 ⟨h1, h2, fun p cv z => (h3 p cv z).imp id fun z => ⟨z.1, dn z.2⟩, fun b o hb e => h4 b o hb (up e), dn h5, h6, h7, h8.imp dn id, _, u, rfl, nT, h4 _ _ (Ne.symm nP) upd_same⟩ rfl ⟨S, B, rfl, rfl, hbody⟩⟩⟩
end
end DL

set_option Elab.async false
set_option linter.all false
set_option maxRecDepth 100000
set_option maxHeartbeats 2000000
/-! lambdas: handed over, called -/
namespace DL
open PySem PySem.Spec PyProof.Rows L2
/-- a call at which the def learns of all that lies untouched: σ, the slots of the def X that made the lambdas -/
def tRunV (X : Cx) (σ : L2.St) (k : Nat) (f : Addr) (t : TA) : TE := fun σ' H Q => t σ' H fun vs H1 => ∀ base', BUp X.base base' → Cap X σ base' → ∃ sp, FnR X.prog X.w X.K X.mg base' (L2.CX X.prog X.w) k f sp ∧ sp vs H1 Q fun _ _ _ => False
def tRunU (X : Cx) (k : Nat) (f : Addr) (t : TA) : TE := fun σ H Q => tRunV X σ k f t σ H Q
theorem cx_none {P : Program} {w : World} {outer : List Env} {H : Hp} {s : Shared} {e : Value} {s' : Shared} (h : L2.CX P w outer H s (fun _ _ _ => False) e s') : False := by
  obtain ⟨_, _, _, _, _, _, _, _, _, _, _, _, z⟩ := h
  exact z
section
variable {X : Cx} {k : Nat} {f : Addr} {x : Str} {e : Expr} {es : List Expr} {t : TA} {p pos : Pos}
theorem pe_runU (hfn : ∀ x, X.fn x = true) (hr : Room k X.A) (hk : PySem.W.keepIn X.K (.ref f) = true) (hm : X.mg x = some (.ref f)) (ha : PA X (e :: es) t) (hg : Gl X x := by rfl) (hdb : (x == ("__debug__" : Str)) = false := by decide)
    (he : starEach (e :: es) X.env = (false, eval e X.env) :: starEach es X.env := by rfl) (hpl : (backTo pos (starEach es X.env)).any (·.1) = false := by rfl) :
    L2.PE X (.Call (.Name x p) (e :: es) [] pos) (tRunU X k f t) := ⟨fun pins s σ H Q I h =>
  wpAny_Call_Name_kw (ld_glob I hg hm (PySem.W.callWith_K (h₀ := X.base) I.ok.mod.kin hk (thn (ha.run pos pins s σ H _ I h) fun us s1 ⟨vs, H1, I1, r, q⟩ => ⟨I1.kIn, wpAny_call (by
    obtain ⟨base', e0, up, get⟩ := env0_up I1.env0
    have C : Cap X σ base' := Cap.of I1 fun y c v ec ⟨o, ho, hd⟩ => ⟨o, get c o ho (I1.freeC y c ec) (cells_apart I1 hfn ec), hd⟩
    obtain ⟨sp, F, hs⟩ := q base' up C
    refine codeAny_mono (F X.A X.stack s1 H1 us vs Q _ hr e0 r hs) fun rr s' hq => ?_
    match rr, hq with
    | .error e, hq => exact (cx_none hq).elim
    | .ok (.ret u), hq => exact I1.after hq)⟩) he hpl) hdb)⟩
/-- the same within a comprehension's block, which began where X stood -/
theorem pe_runB {s0 : Shared} {H0 : Hp} {pins0 : List (Addr × Obj)} {σ0 : L2.St} {scope : Scope} {cenv : Env} {fp : List Addr} (hfn : ∀ x, X.fn x = true) (I0 : Inv X pins0 σ0 H0 s0) (hfp : ∀ b ∈ fp, ∀ x c, X.env.cells.lookup x = some c → c ≠ b) (hr : Room k X.A) (hk : PySem.W.keepIn X.K (.ref f) = true) (hm : X.mg x = some (.ref f))
    (ha : PA (X.blk s0 H0 scope cenv fp) (e :: es) t) (hg : Gl (X.blk s0 H0 scope cenv fp) x) (hdb : (x == ("__debug__" : Str)) = false := by decide)
    (he : starEach (e :: es) cenv = (false, eval e cenv) :: starEach es cenv := by rfl) (hpl : (backTo pos (starEach es cenv)).any (·.1) = false := by rfl) :
    L2.PE (X.blk s0 H0 scope cenv fp) (.Call (.Name x p) (e :: es) [] pos) (tRunV X σ0 k f t) := ⟨fun pins s σ H Q I h =>
  wpAny_Call_Name_kw (ld_glob I hg hm (PySem.W.callWith_K (h₀ := X.base) I.ok.mod.kin hk (thn (ha.run pos pins s σ H _ I h) fun us s1 ⟨vs, H1, I1, r, q⟩ => ⟨I1.kIn, wpAny_call (by
    obtain ⟨base', e0, up, get⟩ := env0_up I1.env0
    have C : Cap X σ0 base' := Cap.of I0 fun y c v ec ⟨o, ho, hd⟩ => by
      have nx : c ∉ (X.blk s0 H0 scope cenv fp).ex := fun z => hfp c z y c ec rfl
      obtain ⟨sl, h1⟩ := I1.base.any ho (I0.freeC y c ec) nx
      exact ⟨_, get c _ h1 (I1.base.free c o ho (I0.freeC y c ec) nx) (cells_apart I0 hfn ec), hd⟩
    obtain ⟨sp, F, hs⟩ := q base' up C
    refine codeAny_mono (F X.A X.stack s1 H1 us vs Q _ hr e0 r hs) fun rr s' hq => ?_
    match rr, hq with
    | .error e, hq => exact (cx_none hq).elim
    | .ok (.ret u), hq => exact I1.after hq)⟩) he hpl) hdb)⟩
end
/-! ### over data -/
section
variable {X : Cx} {δ : Sl} {O O1 O2 : Ow} {ds : List D} {t : TA} {k : Nat} {f : Addr} {P : D → Ow → Prop}
theorem evp_runV {σ0 : L2.St} (h : EvA X.K t δ O ds O1) (hr : ∀ base', BUp X.base base' → Cap X σ0 base' → ∃ R ds', (∀ G vs, IsL X.K G ds vs → IsL X.K G ds' vs) ∧ FnR X.prog X.w X.K X.mg base' (L2.CX X.prog X.w) k f (SpD X.K R) ∧ R ds' O1 P) : EvP X.K (tRunV X σ0 k f t) δ O P := fun G H σ w s Q kk =>
  h G H σ w s _ fun vs G1 H1 s1 i1 base' hu hC => by
    obtain ⟨R, ds', hi, F, hR⟩ := hr base' hu hC
    exact ⟨_, F, G1, O1, ds', P, s1.wd, hi G1 vs i1, hR, fun d O' v G' H' hp st iv => kk d O' v G' H' hp (s1.trans st) iv⟩
theorem evp_runU (h : EvA X.K t δ O ds O1) (hr : ∀ σ base', BUp X.base base' → Cap X σ base' → ∃ R ds', (∀ G vs, SlIs X.K G δ σ → IsL X.K G ds vs → IsL X.K G ds' vs) ∧ FnR X.prog X.w X.K X.mg base' (L2.CX X.prog X.w) k f (SpD X.K R) ∧ R ds' O1 P) : EvP X.K (tRunU X k f t) δ O P := fun G H σ w s Q kk =>
  h G H σ w s _ fun vs G1 H1 s1 i1 base' hu hC => by
    obtain ⟨R, ds', hi, F, hR⟩ := hr σ base' hu hC
    exact ⟨_, F, G1, O1, ds', P, s1.wd, hi G1 vs (s.mono s1.ex) i1, hR, fun d O' v G' H' hp st iv => kk d O' v G' H' hp (s1.trans st) iv⟩
/-- the lambda as the callee sees it -/
theorem lam_act {σ : L2.St} {te : XK → TE} {base' : Heap} {G : Hp} {v : V} (hu : BUp X.base base') (C : Cap X σ base') (s : SlIs X.K G δ σ) (h : Is X.K G (lamD X k te) v) : Is X.K G (actD X.prog X.w X.K X.mg base' (k + 1) (RAct X.K te δ)) v := act_of hu C (bnd_of s h)
end
/-! ### the call of what was handed over -/
def tAct (P : Program) (w : World) (K : PySem.W.Frag) (mg : Str → Option Value) (base : Heap) (i k : Nat) (W : WX) : TE := fun σ H Q => ∃ f L dV c sp, σ[i]? = some (some (.ref f)) ∧ H f = some (LamO f L dV c) ∧ FnR P w K mg base (L2.CX P w) k f sp ∧ sp [] H Q fun cls d H' => W cls d σ H'
theorem pe_act {X : Cx} {i k : Nat} {a : Str} {p pos : Pos} {W : WX} (P : Program) (w : World) (K : PySem.W.Frag) (mg : Str → Option Value) (base : Heap) (hr : Room k X.A) (tk : Takes X W) (hN : X.N[i]? = some a := by rfl) (hv : Vis X.env.scope a := by exact .inl rfl) (hd : (a == ("__debug__" : Str)) = false := by decide) (hcd : (a == ("__classdict__" : Str)) = false := by decide)
    (e1 : X.prog = P := by rfl) (e2 : X.w = w := by rfl) (e3 : X.K = K := by rfl) (e4 : X.mg = mg := by rfl) (e5 : X.base = base := by rfl) :
    L2.PE X (.Call (.Name a p) [] [] pos) (tAct P w K mg base i k W) := ⟨fun pins s σ H Q I h => by
  subst e1 e2 e3 e4 e5
  obtain ⟨f, L, dV, c, sp, hs, hf, F, q⟩ := h
  refine wpAny_Call_Name_kw (thn ((pe_var (pos := p) (i := i) hN hv hd hcd).run pins s σ H (fun v H1 => v = .ref f ∧ H1 = H) I ⟨.ref f, hs, rfl, rfl⟩) fun u s1 ⟨v, H1, I1, r1, q1⟩ => ?_)
  obtain ⟨ev, eH⟩ := q1
  subst ev
  rw [eH] at I1
  obtain rfl : u = Value.ref f := r1
  obtain ⟨⟨doc, pm, ctv, of1⟩, _, _⟩ := I1.hok f _ hf
  exact PySem.W.callWith_F0 ⟨_, _, _, _, of1⟩ (wpAny_call (run_fnX (us := []) (vs := []) F hr (passAt tk σ) I1 .nil q))⟩
theorem evx_act {P : Program} {w : World} {K : PySem.W.Frag} {mg : Str → Option Value} {base : Heap} {i k : Nat} {W : WX} {XP : Sl → XD → Ow → Prop} {δ : Sl} {O : Ow} {Po : D → Ow → Prop} {R : Ow → (D → Ow → Prop) → (XD → Ow → Prop) → Prop} (h : δ[i]? = some (some (actD P w K mg base k R))) (hR : R O Po (XP δ)) :
    EvX K W (tAct P w K mg base i k W) XP δ O Po := fun G H σ wd s rx Q kk => by
  obtain ⟨v, hv, G1, sb, f, L, dV, c, rfl, hf, F⟩ := s.at_ i _ h
  exact ⟨f, L, dV, c, _, hv, wd.sub _ _ (sb _ _ hf), F, rfl, G, O, Po, XP δ, sb, wd, hR, kk, fun x O' cls d G2 H' hp st ix => rx δ σ x O' cls d G2 H' hp st (s.mono st.ex) ix⟩
end DL

set_option Elab.async false
set_option linter.all false
set_option maxRecDepth 100000
set_option maxHeartbeats 2000000
/-! a list comprehension whose element may lean on where its def stood when the block began -/
namespace DL
open PySem PySem.Spec PyProof.Rows L2
section
variable {X : Cx}
/-- [elt for tg in iter]: the element is told how the def stood at the block's beginning -/
theorem pe_lcU {elt tg iter : Expr} {scope : Scope} {own : List (Str × Nat)} {pos : Pos} {wi : TI} {g : TG} {te : L2.St → TE} (calm : X.calm = true) (nd : X.N.Nodup) (it_ok : PI X tg iter wi) (bk : BlkOk X.N X.env.scope scope own)
    (tgt : ∀ (s : Shared) (H : Hp) (C : Addr) (cl : List (Str × Addr)) (fp : List Addr), PG (X.blk s H scope (compEnvC scope cl C X.env) fp) tg g)
    (elm : ∀ (pins : List (Addr × Obj)) (σ : L2.St) (s : Shared) (H : Hp) (C : Addr) (cl : List (Str × Addr)) (fp : List Addr), Inv X pins σ H s → (∀ b ∈ fp, ∀ x c, X.env.cells.lookup x = some c → c ≠ b) → L2.PE (X.blk s H scope (compEnvC scope cl C X.env) fp) elt (te σ))
    (fold : ∀ x, foldedSetIterable iter X.env x = pure x := by intro _; rfl) :
    L2.PE X (.ListComp elt [⟨tg, iter, [], 0⟩] scope pos) (fun σ H Q => tLc wi g tYes (te σ) (own.map (·.2)) σ H Q) := ⟨fun pins s σ H Q I hyp => by
  have fr : ∀ y ∈ scope.names, y.2 = .free → ∃ c, X.env.cells.lookup y.1 = some c := fun y hy e => I.ok.has _ (bk.free y hy e)
  show wpAny _ X.A (comprehension (.ListComp elt [⟨tg, iter, [], 0⟩] scope pos) scope X.env _ (newList []) false (eval iter X.env) none) _ _ s
  refine wpAny_comprehension_free (use := none) rfl fold (closure_ok fr) bk.kind (fun y hy e => by rw [bk.uniq y hy, e]) ?_
  refine thn (it_ok.run pins s σ H _ I hyp) fun _ _ got => thn got fun _ s2 ⟨it, fp, tn, J, H2, isIt, I2, T, tn2, fp2, rest⟩ => ?_
  subst isIt
  refine wpAny_newObj_type (newEnv_comp ?_) (by show 0 ≤ sizeLine; decide)
  have fresh2 : H2 s2.heap.objs.size = none := I2.hok.fresh (Nat.le_refl _)
  obtain ⟨W, ⟨m0, w0⟩, turn⟩ := rest _ fresh2
  -- the accumulator, then the block
  have IA : Inv X pins σ (upd H2 s2.heap.objs.size (.lst [])) { s2 with heap := s2.heap.push { cls := .type "list", data := .seq ([] : List Value).toArray } } :=
    I2.laid (t' := s2.toks) (fun _ _ q => Heap.get?_push_of_some _ q) (Nat.le_refl _) ⟨Nat.zero_le _, [], 0, .nil, Heap.get?_push_size _ rfl⟩
  have below : ∀ b ∈ fp, b < s2.heap.objs.size := fun b hb => let ⟨_, q, _⟩ := T.obj _ _ tn2 b hb; Heap.lt_size q
  have fpA : ∀ b ∈ fp, FpOk X pins (upd H2 s2.heap.objs.size (.lst [])) b ∧ b < (s2.heap.push { cls := .type "list", data := .seq ([] : List Value).toArray }).objs.size := fun b hb =>
    ⟨⟨(upd_ne (Nat.ne_of_lt (below b hb))).trans (fp2 b hb).1, (fp2 b hb).2⟩, by rw [Heap.size_push]; exact Nat.lt_succ_of_lt (below b hb)⟩
  have tnA : tn 0 (s2.heap.push { cls := .type "list", data := .seq ([] : List Value).toArray }) := T.keep _ _ _ tn2 fun _ _ _ q => Heap.get?_push_of_some _ q
  generalize hH : upd H2 s2.heap.objs.size (.lst []) = HA at IA fpA w0
  generalize hD : s2.heap.objs.size = D at *
  generalize hA : ({ s2 with heap := s2.heap.push { cls := .type "list", data := .seq ([] : List Value).toArray } } : Shared) = sA at IA
  have heA : s2.heap.push { cls := .type "list", data := .seq ([] : List Value).toArray } = sA.heap := by rw [← hA]
  rw [heA] at fpA tnA
  have IB := block_start IA bk nd fpA
  have PGb := tgt sA HA sA.heap.objs.size (cellsFrom (sA.heap.objs.size + 1) scope.names (cloFrom X.env.cells scope.names [])) fp
  have PEb := elm pins σ sA HA sA.heap.objs.size (cellsFrom (sA.heap.objs.size + 1) scope.names (cloFrom X.env.cells scope.names [])) fp IA fun b hb => (fpA b hb).1.2.2.2.2.1
  show codeAny _ _ (.compStart (.ListComp elt [⟨tg, iter, [], 0⟩] scope pos) 0 (.ref it) (.ref D) (compEnvC scope (cellsFrom (sA.heap.objs.size + 1) scope.names (cloFrom X.env.cells scope.names [])) sA.heap.objs.size X.env)) (compPost (model X.prog X.w) X.A X.xe none _ (.ref D) sA.heap.objs.size)
    { sA with heap := pushCells (sA.heap.push { cls := .type "dict", data := .dict #[] }) scope.names }
  have tnB : tn 0 (pushCells (sA.heap.push { cls := .type "dict", data := .dict #[] }) scope.names) := T.keep _ _ _ tnA fun _ _ _ q => pushCells_keeps _ _ _ _ (Heap.get?_push_of_some _ q)
  generalize hE : compEnvC scope (cellsFrom (sA.heap.objs.size + 1) scope.names (cloFrom X.env.cells scope.names [])) sA.heap.objs.size X.env = ce at IB PGb PEb ⊢
  have ceL : ce.locals = sA.heap.objs.size := by rw [← hE]; rfl
  generalize hB : ({ sA with heap := pushCells (sA.heap.push { cls := .type "dict", data := .dict #[] }) scope.names } : Shared) = sB at IB ⊢
  have tnB : tn 0 sB.heap := by rw [← hB]; exact tnB
  let Y : Cx := X.blk sA HA scope ce fp
  have apart : ∀ {τ : L2.St} {H' : Hp} {s' : Shared}, Inv Y [] τ H' s' → (∀ b ∈ fp, H' b = none) → ∀ b ∈ fp, FpOk Y [] H' b := fun {τ H' s'} IY none_ b hb =>
    ⟨none_ b hb, (IY.ok.exf b hb).1, IY.ok.exfs b hb, .inl hb, (IY.ok.exf b hb).2, fun q hq => absurd (show q ∈ ([] : List (Addr × Obj)) ++ [] from hq) (by simp)⟩
  have loop : codeAny (model X.prog X.w) X.A (.compLoop (.ListComp elt [⟨tg, iter, [], 0⟩] scope pos) 0 (.ref it) (.ref D) ce) (compPost (model X.prog X.w) X.A X.xe none (EP X pins σ Q) (.ref D) sA.heap.objs.size) sB := by
    refine compLoop_any (fun n s' => ∃ i H', Inv Y [] (wipe σ (own.map (·.2))) H' s' ∧ tn i s'.heap ∧ (∀ b ∈ fp, H' b = none) ∧ W i n H') (fun n s5 ⟨i, H5, I5, tn5, no5, w5⟩ => ?_) m0 ⟨0, HA, IB, tnB, fun b hb => (fpA b hb).1.1, w0⟩
    rcases turn i n H5 w5 with ⟨stop, fin⟩ | ⟨go, Nx, hNx, step⟩
    · refine thnF (T.done Y rfl rfl rfl calm i [] s5 _ H5 (fun _ _ => False) I5 (apart I5 no5) tn5 stop) fun r s6 ⟨isr, I6⟩ => ?_
      subst isr
      have IX : Inv X pins σ H5 s6 := IA.call' (ch := fp) I6.os I6.base I6.hok I6.bare fun b hb => ⟨(fpA b hb).1.2.2.2.1, (fpA b hb).1.2.1, (fpA b hb).1.2.2.2.2.1, (fpA b hb).1.2.2.2.2.2⟩
      obtain ⟨m, ns, _⟩ := I6.loc
      have ns : s6.heap.Ns ce.locals m := ns
      have lz : H5 ce.locals = none := I6.free
      rw [ceL] at ns lz
      obtain ⟨_, g1, _, g3, g4, g5⟩ := IA.fpOk (H' := H5) (Nat.le_refl _) lz
      exact ⟨m, ns, fun h'' sb => ⟨.ref D, H5, IX.turned (t' := s6.toks) (fun b o hb e => (sb.2 b hb).trans e) lz g1 g3 g4 g5, rfl, fin⟩⟩
    · refine thnF (T.item Y rfl rfl rfl calm i [] s5 _ H5 (fun _ _ => False) I5 (apart I5 no5) tn5 go) fun r s6 ⟨u, isr, h6⟩ => ?_
      subst isr
      refine thnF h6 fun _ s7 ⟨xv, H7, I7, rx, y7, tn7, no7⟩ => ?_
      refine thnF (PGb.run _ s7 _ H7 xv u _ (I7.pinned (apart I7 no7) (T.obj _ _ tn7)) rx (step xv H7 y7)) fun _ s8 ⟨σ8, H8, I8, wp8, q8⟩ => ?_
      refine wpAny_tests_nil ?_
      have q8 : te σ σ8 H8 _ := (by simpa only [tYes, if_true] using q8)
      simp only [if_true]
      refine thnF (PEb.run _ s8 σ8 H8 _ I8 q8) fun z s9 ⟨yv, H9, I9, ry, acc, hD9, hz9, nx⟩ => ?_
      refine app_ok (X := Y) I9 hD9 hz9 ry fun s10 I10 => ?_
      obtain ⟨m', less, w'⟩ := hNx _ nx
      have held : ∀ b ∈ fp, ∀ o, s7.heap.get? b = some o → s10.heap.get? b = some o ∧ upd H9 D (.lst (acc ++ [yv])) b = none := fun b hb o q =>
        have z := I10.pin (b, o) (List.mem_append_right _ (List.mem_append_right _ (mem_pinsAt hb q)))
        ⟨z.1, z.2.1⟩
      refine ⟨m', less, i + 1, _, (I10.unpinned (pins := [])).weak (by rw [← wp8, wipe_length]) (fun j v q => ?_), T.keep _ _ _ tn7 fun b hb o q => (held b hb o q).1, fun b hb => ?_, w'⟩
      · rw [← wp8] at q
        exact (wipe_some q).1
      · obtain ⟨o, q, _⟩ := T.obj _ _ tn7 b hb
        exact (held b hb o q).2
  exact codeAny_compStart_list loop (T.self X.A 0 _ _ _ tnB loop)⟩
end
/-- over data: conv, how the items look with the def's slots -/
theorem ev_lcU {K : PySem.W.Frag} {wi : TI} {g : TG} {te : L2.St → TE} {vs : List Nat} {δ : Sl} {O O1 O2 : Ow} {items out : List D} (conv : L2.St → D → D) (hi : EvI K wi δ O items O1) (hconv : ∀ G σ d v, SlIs K G δ σ → d ∈ items → Is K G d v → Is K G (conv σ d) v)
    (hc : ∀ σ, Cp K g tYes (te σ) vs (wipeD δ vs) (items.map (conv σ)) O1 out O2) (hz : items.length ≤ 50000) : Ev K (fun σ H Q => tLc wi g tYes (te σ) vs σ H Q) δ O (.lst out) O2 := fun G H σ w s Q k => by
  have hi' : EvI K (fun σ' H R => σ' = σ → wi σ' H R) δ O (items.map (conv σ)) O1 := fun Ga Ha σ' wa sa R kk e => by
    refine hi Ga Ha σ' wa sa R fun J G' H' st ok => kk J G' H' st fun G2 O2 H2 sb w2 i => ?_
    obtain ⟨h1, h2⟩ := ok G2 O2 H2 sb w2 i
    refine ⟨fun d hd => ?_, fun hn => h2 (by simpa using hn)⟩
    rw [List.getElem?_map] at hd
    cases q : items[i]? with
    | none => rw [q] at hd; cases hd
    | some d0 =>
      rw [q] at hd
      cases hd
      obtain ⟨g1, g2⟩ := h1 d0 q
      refine ⟨g1, fun x H3 hy => ?_⟩
      obtain ⟨G3, s3, ix⟩ := g2 x H3 hy
      exact ⟨G3, s3, hconv G3 σ d0 x (e ▸ sa.mono (st.ex.trans (sb.trans s3.ex))) (List.mem_of_getElem? q) ix⟩
  exact ev_lc hi' (hc σ) (by rw [List.length_map]; exact hz) G H σ w s Q k rfl
end DL

set_option Elab.async false
set_option linter.all false
set_option maxRecDepth 100000
set_option maxHeartbeats 2000000
/-! defs that make lambdas; the end with their tables; promises that may raise, read as such that do not -/
namespace DL
open PySem PySem.Spec PyProof.Rows L2
section
variable {P : Program} {w : World} {K : PySem.W.Frag} {mg : Str → Option Value} {base : Heap} {x qual : Str} {st : Stmt} {f c : Addr} {fd : FuncData} {N ps : List Str} {k : Nat} {R : DR}
/-- a def whose code object is known -/
theorem fnOL (F : Fun K x qual st f fd) (S : FnScope N ps (defScope st)) (hc : fd.code = .ref c) (len : ∀ ds O Post, R ds O Post → ds.length = ps.length)
    (hbody : ∀ (cdv : Value) (A : Around) (outer : List Env) (s : Shared) (H : Hp) (E : XK), cdv = .ref c → Room k (A.deeper (PyProof.Rows.envOfC qual (defScope st) s.heap.objs.size f cdv)) →
      ∃ t, PSs (cxOf (L2.CX P w) P w K mg base N qual (defScope st) f cdv A outer s H E) (defBody st) t ∧ ∀ ds O Post, R ds O Post → Sd K t ⟨fun _ O' => Post .non O', Post, fun _ _ => False, fun _ _ => False⟩ (startD N ds) O) :
    FnOk P w K mg base (L2.CX P w) (k + 1) f fd ps (SpD K R) := by
  obtain ⟨oc, od, kV, doc, pm, an, cdv, ct, osl, rfl, lk, hcd⟩ := F.ex
  refine fn_of lk hcd S (fun vs H Q E h => ?_) fun A outer s H vs Q E hr h => ?_
  · obtain ⟨G, O, ds, Post, _, i, hr, _⟩ := h
    rw [← i.length]; exact len ds O Post hr
  · obtain ⟨t, h1, h2⟩ := hbody cdv A outer s H E hc hr
    exact ⟨t, h1, body_of h h2⟩
theorem fnDL (F : Fun K x qual st f fd) (S : FnScope N ps (defScope st)) (hb : Binds K fd ps []) (hc : fd.code = .ref c) (len : ∀ ds O Post, R ds O Post → ds.length = ps.length)
    (hbody : ∀ (cdv : Value) (A : Around) (outer : List Env) (s : Shared) (H : Hp) (E : XK), cdv = .ref c → Room k (A.deeper (PyProof.Rows.envOfC qual (defScope st) s.heap.objs.size f cdv)) →
      ∃ t, PSs (cxOf (L2.CX P w) P w K mg base N qual (defScope st) f cdv A outer s H E) (defBody st) t ∧ ∀ ds O Post, R ds O Post → Sd K t ⟨fun _ O' => Post .non O', Post, fun _ _ => False, fun _ _ => False⟩ (startD N ds) O) :
    FnR P w K mg base (L2.CX P w) (k + 1) f (SpD K R) := by
  refine ((fnOL F S hc len hbody).raw hb .nil).imp fun vs H Q E h => ?_
  rw [List.append_nil]; exact h
/-- what raises nothing here -/
theorem FnR.calm {RX : DRX} (F : FnR P w K mg base (L2.CX P w) k f (SpDX K RX)) (h : ∀ ds O Post, R ds O Post → RX ds O Post fun _ _ => False) : FnR P w K mg base (L2.CX P w) k f (SpD K R) :=
  F.imp fun vs H Q E ⟨G, O, ds, Post, w, i, hr, kk⟩ => ⟨G, O, ds, Post, fun _ _ => False, w, i, h ds O Post hr, kk, fun _ _ _ _ _ _ z => z.elim⟩
end
/-! ### the law's beginning, its tables owned -/
theorem mem_lk : ∀ {T : List (Addr × Str)} {p : Addr} {q : Str}, T.lookup p = some q → (p, q) ∈ T
  | [], _, _, h => by cases h
  | (a, b) :: T, p, q, h => by
    rw [List.lookup_cons] at h
    cases e : p == a with
    | true => rw [e] at h; cases h; rw [eq_of_beq e]; exact List.mem_cons_self ..
    | false => rw [e] at h; exact List.mem_cons_of_mem _ (mem_lk h)
def tabsO (T : List (Addr × Str)) : Ow := fun p => (T.lookup p).map tabM
theorem sp_tabs {K : PySem.W.Frag} {H : Hp} {a : Addr} {ns : List Int} {E : XK} {R : DR} (T : List (Addr × Str)) (hT : ∀ p ∈ T, H p.1 = some (.tbl #[])) (hS : SqL K H a (ns.map V.int)) (hR : R [.scr ns] (tabsO T) fun d _ => d = .bl true) :
    SpD K R [.ref a] H (fun v _ => v = .bl true) E := by
  have mem : ∀ {p : Addr} {q : Str}, T.lookup p = some q → H p = some (.tbl #[]) := fun {p q} h => hT (p, q) (mem_lk h)
  let G : Hp := fun p => if (T.lookup p).isSome then none else H p
  have gN : ∀ {p}, T.lookup p = none → G p = H p := fun {p} h => by show (if _ then _ else _) = _; rw [h]; rfl
  have gT : ∀ {p q}, T.lookup p = some q → G p = none := fun {p q} h => by show (if _ then _ else _) = _; rw [h]; rfl
  refine ⟨G, tabsO T, [.scr ns], fun d _ => d = .bl true, ⟨fun p o h => ?_, fun p m h => ?_⟩, ⟨_, _, rfl, ⟨a, rfl, ?_⟩, rfl⟩, hR, fun d O' v G' H' hd _ iv => by subst hd; exact iv⟩
  · cases q : T.lookup p with
    | none => rw [gN q] at h; exact h
    | some u => rw [gT q] at h; cases h
  · unfold tabsO at h
    cases q : T.lookup p with
    | none => rw [q] at h; cases h
    | some u =>
      rw [q] at h
      cases h
      exact ⟨gT q, _, G, mem q, Sub.refl _, #[], rfl, True.intro, fun pos cv z => by
        have z : codeAmong pos [] = some cv := z
        simp [codeAmong] at z⟩
  · have na : ∀ {o : HO}, H a = some o → (∀ ps, o ≠ .tbl ps) → G a = some o := fun {o} h n => by
      cases q : T.lookup a with
      | none => rw [gN q]; exact h
      | some u => rw [mem q] at h; exact absurd (Option.some.inj h).symm (n _)
    rcases hS with (h | ⟨o, h⟩) | h
    · exact .inl (.inl (na h fun _ z => by cases z))
    · exact .inl (.inr ⟨o, na h fun _ z => by cases z⟩)
    · exact .inr h
/-- the end: the tables of the module's own defs are known to be empty -/
theorem walk_ofTabs {l : PySem.W.OpenLaw} {n k : Nat} {q : Program} {loose : List Str} {XP : (Str → Option Value) → Heap → Prop} {YP : World → Heap → Prop} {d : DefRec} {K : Params → PySem.W.Frag} {CX : World → CXT} {x : Str}
    (most : l.most = some n) (small : n ≤ sizeLine) (nodef : d.params.defaults = []) (room : Room k callerA) (isK : ∀ (w : World) (h : Heap), YP w h → (K w.params).In h)
    (F : ∀ (w : World) (mg : Str → Option Value) (fa : Addr) (h : Heap), (K w.params).In h → h.Ns mainGlobals mg → mg d.name = some (.ref fa) → (∀ (y : Str) (c P : Addr), ((recsOf q).find? fun e => e.name == y).isSome = true → PySem.W.tabIn (K w.params) y = some (c, P) → PySem.W.CodeHd h c P ∧ h.get? P = some { cls := .none, data := .fields #[] }) →
      LamX.LawAtS l w (K w.params) (CX w) k n x mg fa h)
    (noX : ∀ (w : World) (H : Hp) (s : Shared) (e : Value) (s' : Shared), CX w [] H s (fun _ _ _ => False) e s' → False) :
    PySem.W.WalkO q loose XP YP l.row.toRowW d [] (fun f vs => PySem.call f vs) :=
  Att.attach_callB most nodef fun w s₀ s₁ mg mb fa o pm cd doc a vs ns G Y ho hd hcd hmg hobj hints hlen hbits hg =>
    have inK := isK w _ Y
    have ⟨fd, cs, sp, hT, nT, C, hb, hsp, hF⟩ := F w mg fa _ inK G.T.g hmg fun y c P hy ht => by
      obtain ⟨dy, e⟩ := Option.isSome_iff_exists.mp hy
      exact PySem.W.tab_of G.T inK e ht
    LamX.law_callTs inK G.T.g G.T.b G.T.builtins G.T.nolimit hg hT nT C G.T.bmain hobj hints
      (Nat.le_trans hlen small) room hF hb (fun H hH hS => hsp H a ns hlen hbits hH hS) fun H e s' => noX w H s₁ e s'
theorem lk_none {a : Addr} : ∀ {K : PySem.W.Frag}, (K.map (·.1)).contains a = false → K.lookup a = none
  | [], _ => rfl
  | (b, o) :: K, h => by
    rw [List.map_cons, List.contains_cons, Bool.or_eq_false_iff] at h
    rw [List.lookup_cons, h.1]
    exact lk_none h.2
theorem tab_mk {K : PySem.W.Frag} {x : Str} {f c P : Addr} {oc e : Value} {od dd : Option Addr} {fd : FuncData} {vs : Array Value} {sl sl2 : Array (Option Value)} (ns : PySem.W.nsIn K mainGlobals x = some (some (.ref f))) (l : K.lookup f = some ⟨oc, od, .func fd, sl⟩) (hc : fd.code = .ref c)
    (lc : K.lookup c = some ⟨e, dd, .fields vs, sl2⟩) (v : vs[11]? = some (.ref P)) : PySem.W.tabIn K x = some (c, P) := by
  unfold PySem.W.tabIn
  simp only [ns, l, hc, lc, v]
/-! ### range with a step of -1 -/
def rngD (hi : Int) (n : Nat) : List D := (List.range n).map fun k => .int (hi + (k : Nat) * (-1))
theorem ei_rngDown {K : PySem.W.Frag} {δ : Sl} {O O1 : Ow} {ta : TA} {i j : Int} (h : EvA K ta δ O [.int i, .int j, .int (-1)] O1) (hi : -1000000 ≤ i ∧ i ≤ 1000000) (hj : -1000000 ≤ j ∧ j ≤ 1000000) : EvI K (iRng3 ta) δ O (rngD i (i - j).toNat) O1 := fun G H σ w s R k =>
  h G H σ w s _ fun vs G1 H1 s1 i1 => by
    obtain ⟨v, _, rfl, a, u, _, rfl, b, z, _, rfl, c, e⟩ := i1
    cases a; cases b; cases c; cases e
    refine ⟨i, j, -1, (i - j).toNat, rfl, RgC.neg (by omega) (by omega) (by omega) (by omega), k _ G1 H1 s1 fun G' O' H' sb w' m => ⟨fun d hd => ?_, fun hn => ?_⟩⟩
    · unfold rngD at hd
      rw [List.getElem?_map] at hd
      by_cases hm : m < (i - j).toNat
      · rw [List.getElem?_range hm] at hd
        cases hd
        refine ⟨hm, fun x H'' hy => ?_⟩
        obtain ⟨rfl, rfl⟩ := hy
        exact ⟨G', Stp.refl w', rfl⟩
      · rw [List.getElem?_eq_none (by simpa using hm)] at hd; cases hd
    · unfold rngD at hn
      rw [List.getElem?_eq_none_iff, List.length_map, List.length_range] at hn
      exact hn
end DL

set_option Elab.async false
set_option linter.all false
set_option maxRecDepth 100000
set_option maxHeartbeats 2000000
/-! operators of own classes that may raise; try with several clauses; == of own classes -/
namespace DL
open PySem PySem.Spec L2
open PyProof.Rows hiding St
section
variable {K : PySem.W.Frag} {W : WX} {XP : Sl → XD → Ow → Prop} {δ : Sl} {O O1 O2 O3 : Ow} {d x y z : D} {ta tb te : TE} {C : Addr} {nm nm' : List Str} {ds es : List D} {RX : DRX} {E : XK} {P : D → Ow → Prop} {PE : DE} {i : Int}
theorem evx_ownS (hE : ∀ cls d σ H, W cls d σ H → E cls d H) (ha : Ev K ta δ O (.ins C nm ds) O1) (hb : Ev K tb δ O1 (.ins C nm' es) O2) (hr : RX [.ins C nm ds, .ins C nm' es] O2 P (XP δ)) : EvX K W (tOp (rOwnS C (SpDX K RX) E) ta tb) XP δ O P := fun G H σ w s rx Q k =>
  ha G H σ w s _ fun v G1 H1 s1 i1 => hb G1 H1 σ s1.wd (s.mono s1.ex) _ fun u G2 H2 s2 i2 => by
    have j1 := i1.mono s2.ex
    obtain ⟨p, dx, xs, rfl, e, _, _⟩ := id j1
    obtain ⟨q, dy, ys, rfl, e', _, _⟩ := id i2
    exact ⟨p, dx, _, q, dy, _, rfl, rfl, s2.wd.sub _ _ e, s2.wd.sub _ _ e', spx_run (ds := [.ins C nm ds, .ins C nm' es]) s2.wd ⟨_, _, rfl, j1, _, _, rfl, i2, rfl⟩ hr (fun d O' v G' H' hp st iv => k d O' v G' H' hp ((s1.trans s2).trans st) iv) fun x O' cls d G' H' hp st ix => hE _ _ σ _ (rx δ σ x O' cls d G' H' hp ((s1.trans s2).trans st) (s.mono ((s1.ex.trans s2.ex).trans st.ex)) ix)⟩
theorem evx_ownX (hE : ∀ cls d σ H, W cls d σ H → E cls d H) (ha : Ev K ta δ O (.ins C nm ds) O1) (hb : Ev K tb δ O1 y O2) (hr : RX [.ins C nm ds, y] O2 P (XP δ)) : EvX K W (tOp (rOwnX C (SpDX K RX) E) ta tb) XP δ O P := fun G H σ w s rx Q k =>
  ha G H σ w s _ fun v G1 H1 s1 i1 => hb G1 H1 σ s1.wd (s.mono s1.ex) _ fun u G2 H2 s2 i2 => by
    have j1 := i1.mono s2.ex
    obtain ⟨p, dx, xs, rfl, e, _, _⟩ := id j1
    exact ⟨p, dx, _, rfl, s2.wd.sub _ _ e, spx_run (ds := [.ins C nm ds, y]) s2.wd ⟨_, _, rfl, j1, _, _, rfl, i2, rfl⟩ hr (fun d O' v G' H' hp st iv => k d O' v G' H' hp ((s1.trans s2).trans st) iv) fun x O' cls d G' H' hp st ix => hE _ _ σ _ (rx δ σ x O' cls d G' H' hp ((s1.trans s2).trans st) (s.mono ((s1.ex.trans s2.ex).trans st.ex)) ix)⟩
theorem evx_ownI (hE : ∀ cls d σ H, W cls d σ H → E cls d H) (ha : Ev K ta δ O (.ins C nm ds) O1) (hb : Ev K tb δ O1 (.int i) O2) (hr : RX [.ins C nm ds, .int i] O2 P (XP δ)) : EvX K W (tOp (rOwnI C (SpDX K RX) E) ta tb) XP δ O P := fun G H σ w s rx Q k =>
  ha G H σ w s _ fun v G1 H1 s1 i1 => hb G1 H1 σ s1.wd (s.mono s1.ex) _ fun u G2 H2 s2 i2 => by
    have j1 := i1.mono s2.ex
    obtain ⟨p, dx, xs, rfl, e, _, _⟩ := id j1
    exact ⟨p, dx, _, i, rfl, i2, s2.wd.sub _ _ e, spx_run (ds := [.ins C nm ds, .int i]) s2.wd ⟨_, _, rfl, j1, _, _, rfl, i2, rfl⟩ hr (fun d O' v G' H' hp st iv => k d O' v G' H' hp ((s1.trans s2).trans st) iv) fun x O' cls d G' H' hp st ix => hE _ _ σ _ (rx δ σ x O' cls d G' H' hp ((s1.trans s2).trans st) (s.mono ((s1.ex.trans s2.ex).trans st.ex)) ix)⟩
end
theorem kit_sub {K : PySem.W.Frag} {T : String} {C : Addr} {b : Bool} (hi : PySem.W.isClsIn K C = true) (ht : PySem.W.typeIn K (.ref C) = some (.type "type")) (hs : PySem.W.subIn K (.type T) (.ref C) = some b) : PySem.W.kitOne K (.type T) (.ref C) = some b := by
  unfold PySem.W.kitOne PySem.W.kitCls
  rw [if_neg (by simp)]
  have h : ((PySem.W.clsIn K C).isSome && PySem.W.typeIn K (.ref C) == some (.type "type")) = true := by
    rw [ht, Bool.and_eq_true]
    exact ⟨by unfold PySem.W.isClsIn at hi; exact hi, by simp⟩
  simp only [h, if_true]
  exact hs
/-! ### several clauses -/
abbrev Cls1 := Value × (Addr → Value → Option Addr → TS)
def tTryM (K : PySem.W.Frag) (l : List Cls1) (Wout : WX) (tb : WX → TS) : TS := fun D σ H => tb (wMany K Wout D l) D σ H
theorem ps_tryM (K : PySem.W.Frag) {X : Cx} {body : List Stmt} {h₀ : ExceptHandler} {hds : List ExceptHandler} {l : List Cls1} {pos : Pos} {tb : WX → TS} {Wout : WX} (hs : X.stack = X.env :: X.outer) (hf : X.env.frame = some X.env.locals) (tk : Takes X Wout)
    (hb : ∀ (W : WX) (pn : List (Addr × Obj)) (xe : Value → Shared → Prop), Takes (X.tr pn xe) W → PassesOwn (model X.prog X.w) X.A X.env xe → PSs (X.tr pn xe) body (tb W))
    (hh : HdsOk X (h₀ :: hds) l) (hK : X.K = K := by rfl) : PS X (.Try body (h₀ :: hds) [] [] pos) (tTryM K l Wout tb) := by subst hK; exact ps_try_many hs hf tk hb hh
/-- which clause takes an exception of the class c: the n-th -/
inductive Taken (K : PySem.W.Frag) (c : Addr) : List Cls1 → (Addr → Value → Option Addr → TS) → Prop
  | here {v : Value} {ts : Addr → Value → Option Addr → TS} {r : List Cls1} (h : PySem.W.exmOne K (.ref c) v = some true) : Taken K c ((v, ts) :: r) ts
  | next {v : Value} {ts ts' : Addr → Value → Option Addr → TS} {r : List Cls1} (h : PySem.W.exmOne K (.ref c) v = some false) (t : Taken K c r ts') : Taken K c ((v, ts) :: r) ts'
theorem Taken.many {K : PySem.W.Frag} {c : Addr} {l : List Cls1} {ts : Addr → Value → Option Addr → TS} {Wout : WX} {D : Ends} {d : Option Addr} {σ : L2.St} {H : Hp} (t : Taken K c l ts) (h : ∀ a, ts a (.ref c) d D σ H) : wMany K Wout D l (.ref c) d σ H := by
  induction t with
  | here e => exact ⟨true, e, fun _ a _ => h a, (fun z => nomatch z)⟩
  | next e _ ih => exact ⟨false, e, (fun z => nomatch z), fun _ => ih h⟩
theorem sd_tryMany {K : PySem.W.Frag} {tb : WX → TS} {l : List Cls1} {Wout : WX} {XP : Sl → XD → Ow → Prop} {δ : Sl} {O : Ow} {PE : DE} (hb : ∀ W, SdX K W (tb W) PE XP δ O)
    (hx : ∀ δ' x O', XP δ' x O' → ∃ ts, Taken K x.cls l ts ∧ ∀ a d, Sd K (ts a (.ref x.cls) d) PE δ' O') : Sd K (tTryM K l Wout tb) PE δ O := fun G H σ D w s r =>
  hb _ G H σ D w s r fun δ' σ' x O' cls d G' H' hp st sl ix => by
    obtain ⟨rfl, _⟩ := ix
    obtain ⟨ts, t, hS⟩ := hx δ' x O' hp
    exact t.many fun a => hS a d G' H' σ' D st.wd sl (r.step st)
/-! ### == by the class's own __eq__ -/
section
variable {X : Cx} {CX : CXT} {C f : Addr} {sp : Sp} {k : Nat} {E : XK}
/-- an object of the class, or a tuple -/
def rOwnEqT (K : PySem.W.Frag) (C : Addr) (sp : Sp) (E : XK) : R2 := fun x y H Q => ∃ a dx fs b, x = .ref a ∧ y = .ref b ∧ H a = some (.ins C dx fs) ∧ ((∃ dy gs, H b = some (.ins C dy gs)) ∨ ∃ ys, H b = some (.tup ys)) ∧ sp [x, y] H (fun z H' => ∃ r, z = .bl r ∧ Q (.bl r) H') E
theorem op_ownEq (K : PySem.W.Frag) (hs : PySem.W.findIn X.K (.ref C) "__eq__" = some (some (.ref f))) (hf : PySem.W.isFn X.K (.ref f) = true) (ht : PySem.W.subIn X.K (.type "tuple") (.ref C) = some false)
    (F : FnR X.prog X.w X.K X.mg X.base CX k f sp) (hr : Room (k + 1) X.A) (hx : ∀ (H : Hp) (s : Shared) (e : Value) (s' : Shared), CX X.stack H s E e s' → False) (hK : X.K = K := by rfl) : OpR X (compareOp .Eq) (rOwnEqT K C sp E) := by
  intro pins s σ H x y v u Q I rx ry h
  obtain ⟨a, dx, fs, b, rfl, rfl, ha, hb, q⟩ := h
  cases (show v = Value.ref a from rx)
  cases (show u = Value.ref b from ry)
  obtain ⟨od, J⟩ := inst_at I ha
  obtain ⟨m, hF⟩ := I.fr
  have hu : X.A.units + 64 < cLine := hr.units
  have hty : ∃ tb, PySem.W.Looks (model X.prog X.w) s.heap (typeOf (.ref b)) tb ∧ PySem.W.notFirst X.K C tb = true := by
    rcases hb with ⟨dy, gs, hb⟩ | ⟨ys, hb⟩
    · obtain ⟨od', J'⟩ := inst_at I hb
      exact ⟨_, J'.type, by simp [PySem.W.notFirst]⟩
    · obtain ⟨_, its, r, o, ho, hc, _⟩ := I.hok b _ hb
      exact ⟨.type "tuple", fun A Q E s k q => wpAny_typeOf_ref (k _ _ ho) (by rw [hc]; exact q), by simp [PySem.W.notFirst, ht]⟩
  obtain ⟨tb, lk, nf⟩ := hty
  refine PySem.W.cmp_K (op := .Eq) (tb := tb) (by omega) hF I.ok.mod.kin J lk nf hs hf ?_
  refine wpAny_call (codeAny_mono (F X.A X.stack s H [.ref a, .ref b] [.ref a, .ref b] _ E (hr.mono (by omega)) I.env0 (.cons rfl (.cons rfl .nil)) q) fun r s' hq => ?_)
  cases r with
  | error e => exact (hx _ _ _ _ hq).elim
  | ok fl =>
    cases fl with
    | ret w =>
      obtain ⟨z, H', I', rz, r, ez, qz⟩ := I.after hq
      subst ez
      cases rz
      exact ⟨.bl r, H', I', rfl, qz⟩
    | next => exact False.elim hq
    | brk => exact False.elim hq
    | cont => exact False.elim hq
end
section
variable {K : PySem.W.Frag} {δ : Sl} {O O1 O2 O3 : Ow} {ta tb : TE} {C : Addr} {ds es : List D} {nm nm' : List Str} {R : DR} {E : XK} {b : Bool}
theorem ev_ownEq (ha : Ev K ta δ O (.ins C nm ds) O1) (hb : Ev K tb δ O1 (.ins C nm' es) O2) (hr : R [.ins C nm ds, .ins C nm' es] O2 fun d' O' => d' = .bl b ∧ O' = O3) : Ev K (tOp (rOwnEqT K C (SpD K R) E) ta tb) δ O (.bl b) O3 := fun G H σ w s Q k =>
  ha G H σ w s _ fun v G1 H1 s1 i1 => hb G1 H1 σ s1.wd (s.mono s1.ex) _ fun u G2 H2 s2 i2 => by
    have j1 := i1.mono s2.ex
    obtain ⟨p, dx, xs, rfl, e, _, _⟩ := id j1
    obtain ⟨p', dx', xs', rfl, e', _, _⟩ := id i2
    refine ⟨p, dx, _, p', rfl, rfl, s2.wd.sub _ _ e, .inl ⟨_, _, s2.wd.sub _ _ e'⟩, sp_run (ds := [.ins C nm ds, .ins C nm' es]) s2.wd ⟨_, _, rfl, j1, _, _, rfl, i2, rfl⟩ hr fun d O' v G' H' hp st iv => ?_⟩
    obtain ⟨rfl, rfl⟩ := hp
    have iv : v = .bl b := iv
    subst iv
    exact ⟨b, rfl, k _ G' H' ((s1.trans s2).trans st) rfl⟩
theorem ev_ownEqT (ha : Ev K ta δ O (.ins C nm ds) O1) (hb : Ev K tb δ O1 (.tup es) O2) (hr : R [.ins C nm ds, .tup es] O2 fun d' O' => d' = .bl b ∧ O' = O3) : Ev K (tOp (rOwnEqT K C (SpD K R) E) ta tb) δ O (.bl b) O3 := fun G H σ w s Q k =>
  ha G H σ w s _ fun v G1 H1 s1 i1 => hb G1 H1 σ s1.wd (s.mono s1.ex) _ fun u G2 H2 s2 i2 => by
    have j1 := i1.mono s2.ex
    obtain ⟨p, dx, xs, rfl, e, _, _⟩ := id j1
    obtain ⟨p', ys, rfl, e', _⟩ := id i2
    refine ⟨p, dx, _, p', rfl, rfl, s2.wd.sub _ _ e, .inr ⟨_, s2.wd.sub _ _ e'⟩, sp_run (ds := [.ins C nm ds, .tup es]) s2.wd ⟨_, _, rfl, j1, _, _, rfl, i2, rfl⟩ hr fun d O' v G' H' hp st iv => ?_⟩
    obtain ⟨rfl, rfl⟩ := hp
    have iv : v = .bl b := iv
    subst iv
    exact ⟨b, rfl, k _ G' H' ((s1.trans s2).trans st) rfl⟩
end
/-! ### a def called with each lambda of a list -/
theorem ev_lcU2 {α : Type} {K : PySem.W.Frag} {wi : TI} {g : TG} {te : L2.St → TE} {vs : List Nat} {δ : Sl} {O O1 O2 : Ow} {out : List D} (l : List α) (e1 : α → D) (e2 : L2.St → α → D) (hi : EvI K wi δ O (l.map e1) O1) (hconv : ∀ G σ a v, SlIs K G δ σ → a ∈ l → Is K G (e1 a) v → Is K G (e2 σ a) v)
    (hc : ∀ σ, Cp K g tYes (te σ) vs (wipeD δ vs) (l.map (e2 σ)) O1 out O2) (hz : l.length ≤ 50000) : Ev K (fun σ H Q => tLc wi g tYes (te σ) vs σ H Q) δ O (.lst out) O2 := fun G H σ w s Q k => by
  have hi' : EvI K (fun σ' H R => σ' = σ → wi σ' H R) δ O (l.map (e2 σ)) O1 := fun Ga Ha σ' wa sa R kk e => by
    refine hi Ga Ha σ' wa sa R fun J G' H' st ok => kk J G' H' st fun G2 O2 H2 sb w2 i => ?_
    obtain ⟨h1, h2⟩ := ok G2 O2 H2 sb w2 i
    refine ⟨fun d hd => ?_, fun hn => h2 (by simpa using hn)⟩
    rw [List.getElem?_map] at hd
    cases q : l[i]? with
    | none => rw [q] at hd; cases hd
    | some a =>
      rw [q] at hd
      cases hd
      obtain ⟨g1, g2⟩ := h1 (e1 a) (by rw [List.getElem?_map, q]; rfl)
      refine ⟨g1, fun x H3 hy => ?_⟩
      obtain ⟨G3, s3, ix⟩ := g2 x H3 hy
      exact ⟨G3, s3, hconv G3 σ a x (e ▸ sa.mono (st.ex.trans (sb.trans s3.ex))) (List.mem_of_getElem? q) ix⟩
  exact ev_lc hi' (hc σ) (by rw [List.length_map]; exact hz) G H σ w s Q k rfl
theorem ev_lamOuts {X : Cx} {δ : Sl} {O : Ow} {k kf i j : Nat} {f : Addr} (l : List (XK → TE)) (out : D) (hi : δ[i]? = some (some (.lst (l.map (lamD X k))))) (hj : j < δ.length) (hl : l.length ≤ 50000)
    (hF : ∀ te ∈ l, ∀ base', BUp X.base base' → ∃ R, FnR X.prog X.w X.K X.mg base' (L2.CX X.prog X.w) kf f (SpD X.K R) ∧ R [actD X.prog X.w X.K X.mg base' (k + 1) (RAct X.K te δ)] O fun d' O' => d' = out ∧ O' = O) :
    Ev X.K (fun σ H Q => tLc (iList X.K (tVar i)) (gName j) tYes (tRunV X σ kf f (tCons (tVar j) tNil)) [j] σ H Q) δ O (.lst (l.map fun _ => out)) O := by
  refine ev_lcU2 (te := fun σ => tRunV X σ kf f (tCons (tVar j) tNil)) l (lamD X k) (fun σ te => bndD X σ δ k te) (ei_list (ev_var hi)) (fun G σ te v s _ h => bnd_of s h) (fun σ => ?_) hl
  refine cp_map l (fun te => bndD X σ δ k te) (fun _ => out) (fun te => (wipeD δ [j]).set j (some (bndD X σ δ k te))) fun te ht => ⟨gc_name (List.mem_singleton.mpr rfl), et_yes, EvP.ev (evp_runV (ds := [bndD X σ δ k te]) (ea_cons (ev_var ?_) ea_nil) fun base' hu hC => ?_)⟩
  · rw [List.getElem?_set_self (by simp [wipeD]; exact hj)]
  · obtain ⟨R, F, hR⟩ := hF te ht base' hu
    refine ⟨R, _, fun G vs iv => ?_, F, hR⟩
    obtain ⟨v, rfl, h⟩ := isL1 iv
    exact ⟨v, [], rfl, act_of hu hC h, rfl⟩
end DL

set_option Elab.async false
set_option linter.all false
set_option maxRecDepth 100000
set_option maxHeartbeats 2000000
/-! dicts with ints (or texts) as keys, owned -/
namespace DL
open PySem PySem.Spec L2
open PyProof.Rows hiding St
theorem _root_.L2.Room.un1 {k : Nat} {A : Around} (r : Room k A) : A.units + 1 < cLine := by have := r.un; omega
def dicM (K : PySem.W.Frag) (l : List (Key × D)) : MO := .sem fun G o => ∃ kvs : List (Key × V), o = .dK kvs ∧ kvs.map (·.1) = l.map (·.1) ∧ IsL K G (l.map (·.2)) (kvs.map (·.2))
def dgetD (l : List (Key × D)) (k : Key) : Option D := (l.find? fun kv => decide (kv.1 = k)).map (·.2)
theorem dget_is {K : PySem.W.Frag} {G : Hp} {k : Key} : ∀ {l : List (Key × D)} {kvs : List (Key × V)}, kvs.map (·.1) = l.map (·.1) → IsL K G (l.map (·.2)) (kvs.map (·.2)) → (∀ d, dgetD l k = some d → ∃ v, valV kvs k = some v ∧ Is K G d v) ∧ (dgetD l k = none → valV kvs k = none)
  | [], [], _, _ => ⟨(fun d h => by cases h), fun _ => rfl⟩
  | [], _ :: _, h, _ => by cases h
  | _ :: _, [], h, _ => by cases h
  | (a, d0) :: l, (b, v0) :: kvs, h, t => by
    have h1 : b = a := (List.cons.inj h).1
    have h2 : kvs.map (·.1) = l.map (·.1) := (List.cons.inj h).2
    obtain ⟨v, r, e, i0, t⟩ := t
    obtain ⟨rfl, rfl⟩ := List.cons.inj e
    obtain ⟨g1, g2⟩ := dget_is (k := k) h2 t
    subst h1
    unfold dgetD valV
    rw [List.find?_cons, List.find?_cons]
    cases q : decide (b = k) with
    | true => exact ⟨(fun d hd => by cases hd; exact ⟨_, rfl, i0⟩), fun z => by cases z⟩
    | false => exact ⟨g1, g2⟩
section
variable {K : PySem.W.Frag} {δ : Sl} {O O1 O2 O3 : Ow} {d : D} {td ty tv : TE} {p : Addr} {i : Int} {l : List (Key × D)} {PE : DE}
theorem evp_dnew {P : D → Ow → Prop} (hp : ∀ p, O p = none → P (.ref p) (setO O p (dicM K []))) : EvP K tDNewK δ O P := fun G H σ w s Q k p hn => k _ _ _ _ _ (hp p (w.oNone hn)) (Stp.newO w hn ⟨_, G, upd_same, Sub.refl _, [], rfl, rfl, rfl⟩) rfl
theorem ev_dget (h1 : Ev K td δ O (.ref p) O1) (h2 : Ev K ty δ O1 (.int i) O2) (ho : O2 p = some (dicM K l)) (hg : dgetD l (.inl i) = some d) : Ev K (tDGet td ty) δ O d O2 := fun G H σ w s Q k =>
  h1 G H σ w s _ fun x G1 H1 s1 i1 => h2 G1 H1 σ s1.wd (s.mono s1.ex) _ fun y G2 H2 s2 i2 => by
    obtain ⟨_, o, G3, e, sb, kvs, rfl, hk, hv⟩ := s2.wd.own p _ ho
    obtain ⟨v, e1, iv⟩ := (dget_is (k := .inl i) hk hv).1 d hg
    have i1 : x = .ref p := i1
    have i2 : y = .int i := i2
    subst i1 i2
    exact ⟨p, v, rfl, by rw [← e1]; exact DGet.k (k := .inl i) e, k v G2 H2 (s1.trans s2) (iv.mono sb)⟩
/-- a new key -/
theorem sd_dput (h0 : Ev K tv δ O d O1) (h1 : Ev K td δ O1 (.ref p) O2) (h2 : Ev K ty δ O2 (.int i) O3) (ho : O3 p = some (dicM K l)) (hn : dgetD l (.inl i) = none) (hl : l.length < 100000) (k : PE.nx δ (setO O3 p (dicM K (l ++ [(.inl i, d)])))) : Sd K (sDPut td ty tv) PE δ O := fun G H σ D w s r =>
  h0 G H σ w s _ fun v G0 H0 s0 i0 => h1 G0 H0 σ s0.wd (s.mono s0.ex) _ fun x G1 H1 s1 i1 => h2 G1 H1 σ s1.wd (s.mono (s0.ex.trans s1.ex)) _ fun y G2 H2 s2 i2 => by
    obtain ⟨g0, o, G3, e, sb, kvs, rfl, hk, hv⟩ := s2.wd.own p _ ho
    have e1 := (dget_is (k := .inl i) hk hv).2 hn
    have i1 : x = .ref p := i1
    have i2 : y = .int i := i2
    subst i1 i2
    have hlen : kvs.length = l.length := by have := congrArg List.length hk; simpa using this
    refine ⟨p, _, rfl, DPut.k (k := .inl i) e (by rw [hlen]; exact Evl.sz_lt hl), ?_⟩
    rw [putK_new _ e1]
    have st := Stp.write (m' := dicM K (l ++ [(.inl i, d)])) (o := .dK (kvs ++ [(.inl i, v)])) s2.wd ho ⟨_, G2, upd_same, Sub.refl _, kvs ++ [(.inl i, v)], rfl, by simp [hk], by
      rw [List.map_append, List.map_append]
      exact (hv.mono sb).append ⟨v, [], rfl, i0.mono (s1.ex.trans s2.ex), rfl⟩⟩
    exact r.nx δ _ G2 _ σ k (((s0.trans s1).trans s2).trans st) (s.mono ((s0.ex.trans s1.ex).trans s2.ex))
end
/-! ### a making that may raise; what was raised may forget what it owned -/
theorem evx_mk {K : PySem.W.Frag} {W : WX} {XP : Sl → XD → Ow → Prop} {δ : Sl} {O O1 : Ow} {t : TA} {C : Addr} {ds : List D} {RX : DRX} {E : XK} {P : D → Ow → Prop} (hE : ∀ cls d σ H, W cls d σ H → E cls d H) (h : EvA K t δ O ds O1)
    (hr : ∀ x, O1 x = none → RX (.ref x :: ds) (setO O1 x (.ins C [] [])) (fun d' O' => d' = .non ∧ P (.ref x) O') fun xd O' => ∃ O2, OSub O2 O' ∧ XP δ xd O2) : EvX K W (StX.tMakeR C (SpDX K RX) E t) XP δ O P := fun G H σ w s rx Q k =>
  h G H σ w s _ fun vs G1 H1 s1 i1 x dx hx hdx ne => by
    have hxd : (upd H1 dx (.own x)) x = none := by rw [upd_ne (Ne.symm ne)]; exact hx
    have st1 := Stp.newF (o := .own x) s1.wd hdx
    have st2 := Stp.newO (o := .ins C dx []) (m := .ins C [] []) st1.wd hxd ⟨dx, [], upd_same, rfl, rfl⟩
    refine spx_run (ds := .ref x :: ds) st2.wd ⟨_, _, rfl, rfl, i1.mono (st1.trans st2).ex⟩ (hr x (s1.wd.oNone hx)) (fun d O' v G' H' hp st iv => ?_) fun xd O' cls d G' H' hp st ix => ?_
    · obtain ⟨rfl, hp⟩ := hp
      exact ⟨iv, k (.ref x) O' _ G' H' hp (s1.trans ((st1.trans st2).trans st)) rfl⟩
    · obtain ⟨O2, sb, hx2⟩ := hp
      have sx := s1.trans ((st1.trans st2).trans st)
      exact hE _ _ σ _ (rx δ σ xd O2 cls d G' H' hx2 (sx.drop sb) (s.mono sx.ex) ix)
/-- each lambda with what comes of it -/
theorem ev_lamOutsP {X : Cx} {δ : Sl} {O : Ow} {k kf i j : Nat} {f : Addr} (l : List ((XK → TE) × D)) (hi : δ[i]? = some (some (.lst (l.map fun p => lamD X k p.1)))) (hj : j < δ.length) (hl : l.length ≤ 50000)
    (hF : ∀ p ∈ l, ∀ base', BUp X.base base' → ∃ R, FnR X.prog X.w X.K X.mg base' (L2.CX X.prog X.w) kf f (SpD X.K R) ∧ R [actD X.prog X.w X.K X.mg base' (k + 1) (RAct X.K p.1 δ)] O fun d' O' => d' = p.2 ∧ O' = O) :
    Ev X.K (fun σ H Q => tLc (iList X.K (tVar i)) (gName j) tYes (tRunV X σ kf f (tCons (tVar j) tNil)) [j] σ H Q) δ O (.lst (l.map (·.2))) O := by
  refine ev_lcU2 (te := fun σ => tRunV X σ kf f (tCons (tVar j) tNil)) l (fun p => lamD X k p.1) (fun σ p => bndD X σ δ k p.1) (ei_list (ev_var hi)) (fun G σ p v s _ h => bnd_of s h) (fun σ => ?_) hl
  refine cp_map l (fun p => bndD X σ δ k p.1) (·.2) (fun p => (wipeD δ [j]).set j (some (bndD X σ δ k p.1))) fun p hp => ⟨gc_name (List.mem_singleton.mpr rfl), et_yes, EvP.ev (evp_runV (ds := [bndD X σ δ k p.1]) (ea_cons (ev_var ?_) ea_nil) fun base' hu hC => ?_)⟩
  · rw [List.getElem?_set_self (by simp [wipeD]; exact hj)]
  · obtain ⟨R, F, hR⟩ := hF p hp base' hu
    refine ⟨R, _, fun G vs iv => ?_, F, hR⟩
    obtain ⟨v, rfl, h⟩ := isL1 iv
    exact ⟨v, [], rfl, act_of hu hC h, rfl⟩
end DL

set_option Elab.async false
set_option linter.all false
set_option maxRecDepth 100000
set_option maxHeartbeats 2000000
/-! lists that a call returns, owned by the caller; lambdas by a context that is known to be of K -/
namespace DL
open PySem PySem.Spec L2
open PyProof.Rows hiding St
section
variable {K : PySem.W.Frag} {δ : Sl} {O O1 O2 O3 : Ow} {d x y z : D} {ta tb tc te tv : TE} {t : TA} {i j : Int} {p q l C : Addr} {ds es : List D} {b : Bool} {R : DR} {E : XK} {P : D → Ow → Prop} {PE : DE}
/-- an owned list that an expression gives is plain data from now on -/
theorem evp_pub (h : EvP K te δ O fun d O' => ∃ p ds, d = .ref p ∧ O' p = some (.lst ds) ∧ P (.lst ds) (delO O' p)) : EvP K te δ O P := fun G H σ w s Q k =>
  h G H σ w s _ fun d O' v G' H' hh st i => by
    obtain ⟨p, ds, rfl, ho, hp⟩ := hh
    have i : v = .ref p := i
    subst i
    obtain ⟨_, xs, e, t⟩ := st.wd.own p _ ho
    have st2 := Stp.pub st.wd ho e
    exact k _ _ _ _ _ hp (st.trans st2) ⟨p, xs, rfl, upd_same, t.mono st2.ex⟩
/-- list(x), new and owned -/
theorem evp_listLs (h : Ev K te δ O x O1) (hx : LstOf O1 x ds) (hp : ∀ p, O1 p = none → P (.ref p) (setO O1 p (.lst ds))) : EvP K (tCB (fun xs H Q => ∃ p ys, xs = [.ref p] ∧ (SqL K H p ys ∨ SqT K H p ys) ∧ ∀ l, H l = none → Q (.ref l) (upd H l (.lst ys))) (tCons te tNil)) δ O P := fun G H σ w s Q k =>
  h G H σ w s _ fun v G1 H1 s1 i1 => by
    rcases hx with rfl | ⟨p, rfl, ho⟩
    · obtain ⟨p, xs, rfl, e, tl⟩ := i1
      exact ⟨p, xs, rfl, .inl (.inl (.inl (s1.wd.sub _ _ e))), fun l hl => k _ _ _ _ _ (hp l (s1.wd.oNone hl)) (s1.trans (Stp.newO s1.wd hl ⟨xs, upd_same, tl⟩)) rfl⟩
    · have i1 : v = .ref p := i1
      subst i1
      obtain ⟨_, xs, e, tl⟩ := s1.wd.own p _ ho
      exact ⟨p, xs, rfl, .inl (.inl (.inl e)), fun l hl => k _ _ _ _ _ (hp l (s1.wd.oNone hl)) (s1.trans (Stp.newO s1.wd hl ⟨xs, upd_same, tl⟩)) rfl⟩
/-- e1.append(e), e1 by what it may give -/
theorem sd_appE (h1 : EvP K ta δ O fun r O1 => ∃ l ds O2 d, r = .ref l ∧ O1 l = some (.lst ds) ∧ Ev K te δ O1 d O2 ∧ O2 l = some (.lst ds) ∧ ds.length < 100000 ∧ PE.nx δ (setO O2 l (.lst (ds ++ [d])))) :
    Sd K (tDrop (tBM K "list" rAppend ta (tCons te tNil))) PE δ O := fun G H σ D w s r =>
  h1 G H σ w s _ fun v0 O1 v G1 H1 hh s1 i1 => by
    obtain ⟨l, ds, O2, d, rfl, h0, h2, h3, hz, k⟩ := hh
    have i1 : v = .ref l := i1
    subst i1
    obtain ⟨_, xs0, e0, _⟩ := s1.wd.own l _ h0
    refine ⟨.inl ⟨rfl, xs0, .inl (.inl e0)⟩, h2 G1 H1 σ s1.wd (s.mono s1.ex) _ fun u G2 H2 s2 i2 => ?_⟩
    obtain ⟨_, xs, e, t⟩ := s2.wd.own l _ h3
    refine ⟨l, xs, u, rfl, rfl, e, by rw [← t.length]; exact Evl.sz_lt hz, ?_⟩
    have st := Stp.write (o := .lst (xs ++ [u])) (m' := .lst (ds ++ [d])) s2.wd h3 ⟨_, upd_same, t.append ⟨u, [], rfl, i2, rfl⟩⟩
    exact r.nx _ _ _ _ _ k ((s1.trans s2).trans st) (s.mono ((s1.ex.trans s2.ex).trans st.ex))
theorem ev_lamK {X : Cx} {k : Nat} {q : Str} {P1 : Addr} {te : XK → TE} (hK : X.K = K) (hq : X.env.qual ++ "<lambda>" = q) (hO : O P1 = some (tabM q)) : Ev K (tLam X P1 k te) δ O (lamD X k te) O := by
  subst hK
  subst hq
  exact ev_lam hO
end
/-! ### lambdas one by one with what comes of them -/
inductive Fa2 {α β : Type} (R : α → β → Prop) : List α → List β → Prop
  | nil : Fa2 R [] []
  | cons {a : α} {b : β} {as : List α} {bs : List β} (h : R a b) (t : Fa2 R as bs) : Fa2 R (a :: as) (b :: bs)
theorem Fa2.mem {α β : Type} {R : α → β → Prop} {as : List α} {bs : List β} (h : Fa2 R as bs) : ∀ p ∈ as.zip bs, R p.1 p.2 := by
  induction h with
  | nil => intro p hp; simp at hp
  | cons h t ih =>
    intro p hp
    rw [List.zip_cons_cons] at hp
    rcases List.mem_cons.mp hp with rfl | hp
    · exact h
    · exact ih p hp
theorem Fa2.fst {α β γ : Type} {R : α → β → Prop} {as : List α} {bs : List β} (h : Fa2 R as bs) (f : α → γ) : (as.zip bs).map (fun p => f p.1) = as.map f := by
  induction h with
  | nil => rfl
  | cons h t ih => rw [List.zip_cons_cons, List.map_cons, List.map_cons, ih]
theorem Fa2.snd {α β : Type} {R : α → β → Prop} {as : List α} {bs : List β} (h : Fa2 R as bs) : (as.zip bs).map (·.2) = bs := by
  induction h with
  | nil => rfl
  | cons h t ih => rw [List.zip_cons_cons, List.map_cons, ih]
theorem Fa2.len {α β : Type} {R : α → β → Prop} {as : List α} {bs : List β} (h : Fa2 R as bs) : as.length = bs.length := by
  induction h with
  | nil => rfl
  | cons h t ih => rw [List.length_cons, List.length_cons, ih]
theorem ev_lamOuts2 {X : Cx} {δ : Sl} {O : Ow} {k kf i j : Nat} {f : Addr} {tes : List (XK → TE)} {outs : List D} (hi : δ[i]? = some (some (.lst (tes.map (lamD X k))))) (hj : j < δ.length) (hl : tes.length ≤ 50000)
    (hF : Fa2 (fun te d => ∀ base', BUp X.base base' → ∃ R, FnR X.prog X.w X.K X.mg base' (L2.CX X.prog X.w) kf f (SpD X.K R) ∧ R [actD X.prog X.w X.K X.mg base' (k + 1) (RAct X.K te δ)] O fun d' O' => d' = d ∧ O' = O) tes outs) :
    Ev X.K (fun σ H Q => tLc (iList X.K (tVar i)) (gName j) tYes (tRunV X σ kf f (tCons (tVar j) tNil)) [j] σ H Q) δ O (.lst outs) O := by
  have h := ev_lamOutsP (δ := δ) (O := O) (k := k) (kf := kf) (i := i) (j := j) (f := f) (tes.zip outs) (by rw [hF.fst]; exact hi) hj (by rw [List.length_zip]; omega) (fun p hp => hF.mem p hp)
  rw [hF.snd] at h
  exact h
theorem Fa2.imp {α β : Type} {R S : α → β → Prop} {as : List α} {bs : List β} (h : Fa2 R as bs) (k : ∀ a b, R a b → S a b) : Fa2 S as bs := by
  induction h with
  | nil => exact .nil
  | cons h t ih => exact .cons (k _ _ h) ih
end DL

set_option Elab.async false
set_option linter.all false
set_option maxRecDepth 100000
set_option maxHeartbeats 2000000
/-! dicts with tuples of ints as keys; comprehensions with two fors -/
namespace DL
open PySem PySem.Spec L2
open PyProof.Rows hiding St
/-! ### {k: v}, k a tuple -/
def tDispT (tk tv : TE) : TE := fun σ H Q => ∀ p, H p = none → tk σ (upd H p (.dT [])) fun x H1 => tv σ H1 fun y H2 => H2 p = some (.dT []) ∧ ∃ (b : Addr) (ks : List Key), x = .ref b ∧ H2 b = some (.tup (ks.map kV)) ∧ Q (.ref p) (upd H2 p (.dT [(ks, y)]))
theorem pe_dispT {X : Cx} {pos : Pos} {k v : Expr} {tk tv : TE} (hu : X.A.units + 1 < cLine) (hk : L2.PE X k tk) (hv : L2.PE X v tv) : L2.PE X (.Dict [some k] [v] pos) (tDispT tk tv) := by
  refine ⟨fun pins s σ H Q I q => ?_⟩
  have hn := I.hok.fresh (Nat.le_refl s.heap.objs.size)
  have I1 := I.laid (a := s.heap.objs.size) (o := .dT []) (h' := s.heap.push { cls := .type "dict", data := .dict #[] }) (t' := s.toks) (fun _ _ q => Heap.get?_push_of_some _ q) (Nat.le_refl _) (dt_empty s.heap I.big)
  have hr : (tupleKind (mixKind X.prog X.w)).room X.A := Nat.lt_of_succ_lt hu
  have hshape : (evalEachOpt [some k] X.env).zip ((evalEach [v] X.env).map fun v => do let x ← v; standAt pos; pure x) = ([(eval k X.env, do let x ← eval v X.env; standAt pos; pure x)] : List (Sem Value × Sem Value)).map fun p => (some p.1, p.2) := rfl
  rw [arm_eval_Dict, hshape, dictDisplay_pairs _ (by simp) (by simp)]
  refine wpAny_bind (wpAny_standAt (wpAny_bind (wpAny_subDictH (knd := tupleKind (mixKind X.prog X.w)) (Q := fun d s' => wpAny (model X.prog X.w) X.A (pure (Value.ref d)) (EP X pins σ Q) X.xe s') hr (by simp) ?_)))
  refine evalPairs_cons (thn (hk.run pins _ σ _ _ I1 (q _ hn)) fun u s1 ⟨x, H1, I2, rx, q1⟩ => wpAny_bind (thn (hv.run pins s1 σ H1 _ I2 q1) fun w2 s2 ⟨y, H2, I3, ry, e, b, ks, ex, eb, q2⟩ => wpAny_bind (wpAny_standAt (wpAny_pure (evalPairs_nil ?_)))))
  subst ex
  cases (show u = Value.ref b from rx)
  obtain ⟨z, hd, xs, rel, dd⟩ := dt_of I3.hok e
  have hxs : xs = [] := by cases rel; rfl
  subst hxs
  refine ⟨[(ks, b, w2)], ⟨rfl, rfl, key_of I3.hok eb, trivial⟩, dd, fun h' tk dd' hs => wpAny_pure ⟨.ref s.heap.objs.size, _, ?_, rfl, q2⟩⟩
  have e3 : storedAllH ([] : List (List Key × Addr × Value)) [(ks, b, w2)] = [(ks, b, w2)] := rfl
  rw [e3] at dd'
  obtain ⟨o, es, ep, hq, h2, h3, h4, _, h5⟩ := dd'
  refine d_write I3 (by rw [e]; exact True.intro) hs ⟨o, hq⟩ ⟨(by show 1 ≤ sizeLine; decide), hd, _, ?_, o, es, ep, hq, h2, h3, h4, h5⟩
  have rp : KT H2 (putK [] ks y) (storedH [] ks b w2) := KT.put (xs := []) .nil ks eb ry
  exact rp.keeps fun c ys ec => by rw [upd_ne (ne_of ec e (fun z => nomatch z))]; exact ec
/-! ### over data -/
def dicT (K : PySem.W.Frag) (l : List (List Int × D)) : MO := .sem fun G o => ∃ kvs : List (List Key × V), o = .dT kvs ∧ kvs.map (·.1) = l.map (fun p => p.1.map Sum.inl) ∧ IsL K G (l.map (·.2)) (kvs.map (·.2))
def dgetT (l : List (List Int × D)) (k : List Int) : Option D := (l.find? fun kv => decide (kv.1 = k)).map (·.2)
theorem inl_inj {a b : List Int} : (a.map Sum.inl : List Key) = b.map Sum.inl ↔ a = b := ⟨fun h => by
  induction a generalizing b with
  | nil => cases b with | nil => rfl | cons _ _ => cases h
  | cons x r ih =>
    cases b with
    | nil => cases h
    | cons y t =>
      rw [List.map_cons, List.map_cons] at h
      obtain ⟨h1, h2⟩ := List.cons.inj h
      rw [Sum.inl.inj h1, ih h2], fun h => by rw [h]⟩
theorem dgetT_is {K : PySem.W.Frag} {G : Hp} {k : List Int} : ∀ {l : List (List Int × D)} {kvs : List (List Key × V)}, kvs.map (·.1) = l.map (fun p => p.1.map Sum.inl) → IsL K G (l.map (·.2)) (kvs.map (·.2)) → (∀ d, dgetT l k = some d → ∃ v, valV kvs (k.map Sum.inl) = some v ∧ Is K G d v) ∧ (dgetT l k = none → valV kvs (k.map Sum.inl) = none)
  | [], [], _, _ => ⟨(fun d h => by cases h), fun _ => rfl⟩
  | [], _ :: _, h, _ => by cases h
  | _ :: _, [], h, _ => by cases h
  | (a, d0) :: l, (b, v0) :: kvs, h, t => by
    have h1 : b = a.map Sum.inl := (List.cons.inj h).1
    have h2 : kvs.map (·.1) = l.map (fun p => p.1.map Sum.inl) := (List.cons.inj h).2
    obtain ⟨v, r, e, i0, t⟩ := t
    obtain ⟨rfl, rfl⟩ := List.cons.inj e
    obtain ⟨g1, g2⟩ := dgetT_is (k := k) h2 t
    subst h1
    unfold dgetT valV
    rw [List.find?_cons, List.find?_cons]
    have ed : decide ((a.map Sum.inl : List Key) = k.map Sum.inl) = decide (a = k) := decide_eq_decide.mpr inl_inj
    show (∀ d, Option.map _ (match decide (a = k) with | true => _ | false => _) = some d → ∃ v, Option.map _ (match decide ((a.map Sum.inl : List Key) = k.map Sum.inl) with | true => _ | false => _) = some v ∧ Is K G d v) ∧ _
    rw [ed]
    cases q : decide (a = k) with
    | true => exact ⟨(fun d hd => by cases hd; exact ⟨_, rfl, i0⟩), fun z => by cases z⟩
    | false => exact ⟨g1, g2⟩
theorem kV_ints (ks : List Int) : (ks.map Sum.inl : List Key).map kV = ks.map V.int := by rw [List.map_map]; rfl
section
variable {K : PySem.W.Frag} {δ : Sl} {O O1 O2 O3 : Ow} {d : D} {td ty tv tk : TE} {p : Addr} {ks : List Int} {l : List (List Int × D)} {PE : DE} {P : D → Ow → Prop}
theorem is_ints {G : Hp} {v : V} (h : Is K G (.tup (ks.map .int)) v) : ∃ b, v = .ref b ∧ G b = some (.tup ((ks.map Sum.inl : List Key).map kV)) := by
  obtain ⟨b, xs, rfl, e, t⟩ := h
  rw [t.intsV] at e
  exact ⟨b, rfl, by rw [kV_ints]; exact e⟩
theorem ev_dgetT (h1 : Ev K td δ O (.ref p) O1) (h2 : Ev K ty δ O1 (.tup (ks.map .int)) O2) (ho : O2 p = some (dicT K l)) (hg : dgetT l ks = some d) : Ev K (tDGet td ty) δ O d O2 := fun G H σ w s Q k =>
  h1 G H σ w s _ fun x G1 H1 s1 i1 => h2 G1 H1 σ s1.wd (s.mono s1.ex) _ fun y G2 H2 s2 i2 => by
    obtain ⟨_, o, G3, e, sb, kvs, rfl, hk, hv⟩ := s2.wd.own p _ ho
    obtain ⟨v, e1, iv⟩ := (dgetT_is (k := ks) hk hv).1 d hg
    have i1 : x = .ref p := i1
    obtain ⟨b, rfl, eb⟩ := is_ints i2
    subst i1
    exact ⟨p, v, rfl, by rw [← e1]; exact DGet.t e (s2.wd.sub _ _ eb), k v G2 H2 (s1.trans s2) (iv.mono sb)⟩
/-- a new key -/
theorem sd_dputT (h0 : Ev K tv δ O d O1) (h1 : Ev K td δ O1 (.ref p) O2) (h2 : Ev K ty δ O2 (.tup (ks.map .int)) O3) (ho : O3 p = some (dicT K l)) (hn : dgetT l ks = none) (hl : l.length < 100000) (k : PE.nx δ (setO O3 p (dicT K (l ++ [(ks, d)])))) : Sd K (sDPut td ty tv) PE δ O := fun G H σ D w s r =>
  h0 G H σ w s _ fun v G0 H0 s0 i0 => h1 G0 H0 σ s0.wd (s.mono s0.ex) _ fun x G1 H1 s1 i1 => h2 G1 H1 σ s1.wd (s.mono (s0.ex.trans s1.ex)) _ fun y G2 H2 s2 i2 => by
    obtain ⟨g0, o, G3, e, sb, kvs, rfl, hk, hv⟩ := s2.wd.own p _ ho
    have e1 := (dgetT_is (k := ks) hk hv).2 hn
    have i1 : x = .ref p := i1
    obtain ⟨b, rfl, eb⟩ := is_ints i2
    subst i1
    have hlen : kvs.length = l.length := by have := congrArg List.length hk; simpa using this
    refine ⟨p, _, rfl, DPut.t e (s2.wd.sub _ _ eb) (by rw [hlen]; exact Evl.sz_lt hl), ?_⟩
    rw [putK_new _ e1]
    have st := Stp.write (m' := dicT K (l ++ [(ks, d)])) (o := .dT (kvs ++ [(ks.map Sum.inl, v)])) s2.wd ho ⟨_, G2, upd_same, Sub.refl _, kvs ++ [(ks.map Sum.inl, v)], rfl, by simp [hk], by
      rw [List.map_append, List.map_append]
      exact (hv.mono sb).append ⟨v, [], rfl, i0.mono (s1.ex.trans s2.ex), rfl⟩⟩
    exact r.nx δ _ G2 _ σ k (((s0.trans s1).trans s2).trans st) (s.mono ((s0.ex.trans s1.ex).trans s2.ex))
/-- {k: v} -/
theorem evp_dispT (h1 : ∀ p, O p = none → Ev K tk δ (setO O p (dicT K [])) (.tup (ks.map .int)) (setO O p (dicT K []))) (h2 : ∀ p, O p = none → Ev K tv δ (setO O p (dicT K [])) d (setO O p (dicT K []))) (hp : ∀ p, O p = none → P (.ref p) (setO O p (dicT K [(ks, d)]))) : EvP K (tDispT tk tv) δ O P := fun G H σ w s Q k p hn => by
  have st := Stp.newO (o := .dT []) (m := dicT K []) w hn ⟨_, G, upd_same, Sub.refl _, [], rfl, rfl, rfl⟩
  have hO := w.oNone hn
  refine h1 p hO G _ σ st.wd s _ fun x G1 H1 s1 i1 => h2 p hO G1 H1 σ s1.wd (s.mono s1.ex) _ fun y G2 H2 s2 i2 => ?_
  obtain ⟨g0, o, G3, e, sb, kvs, rfl, hk, hv⟩ := s2.wd.own p _ setO_same
  have hk0 : kvs = [] := by cases kvs with | nil => rfl | cons _ _ => cases hk
  subst hk0
  obtain ⟨b, rfl, eb⟩ := is_ints i1
  refine ⟨e, b, _, rfl, s2.wd.sub _ _ (s2.ex _ _ eb), ?_⟩
  have st3 := Stp.write (m' := dicT K [(ks, d)]) (o := .dT [(ks.map Sum.inl, y)]) s2.wd setO_same ⟨_, G2, upd_same, Sub.refl _, [(ks.map Sum.inl, y)], rfl, rfl, ⟨y, [], rfl, i2, rfl⟩⟩
  rw [setO_setO] at st3
  exact k _ _ _ _ _ (hp p hO) (((st.trans s1).trans s2).trans st3) rfl
end
/-! ### the same, told by what is found under a key -/
def dicF (K : PySem.W.Frag) (n : Nat) (f : List Int → Option D) : MO := .sem fun G o => ∃ kvs : List (List Key × V), o = .dT kvs ∧ kvs.length ≤ n ∧ ∀ k : List Int, (∀ d, f k = some d → ∃ v, valV kvs (k.map Sum.inl) = some v ∧ Is K G d v) ∧ (f k = none → valV kvs (k.map Sum.inl) = none)
section
variable {K : PySem.W.Frag} {δ : Sl} {O O1 O2 O3 : Ow} {d : D} {td ty tv tk : TE} {p : Addr} {ks : List Int} {n : Nat} {f : List Int → Option D} {PE : DE} {P : D → Ow → Prop}
theorem ev_dgetF (h1 : Ev K td δ O (.ref p) O1) (h2 : Ev K ty δ O1 (.tup (ks.map .int)) O2) (ho : O2 p = some (dicF K n f)) (hg : f ks = some d) : Ev K (tDGet td ty) δ O d O2 := fun G H σ w s Q k =>
  h1 G H σ w s _ fun x G1 H1 s1 i1 => h2 G1 H1 σ s1.wd (s.mono s1.ex) _ fun y G2 H2 s2 i2 => by
    obtain ⟨_, o, G3, e, sb, kvs, rfl, hk, hv⟩ := s2.wd.own p _ ho
    obtain ⟨v, e1, iv⟩ := (hv ks).1 d hg
    have i1 : x = .ref p := i1
    obtain ⟨b, rfl, eb⟩ := is_ints i2
    subst i1
    exact ⟨p, v, rfl, by rw [← e1]; exact DGet.t e (s2.wd.sub _ _ eb), k v G2 H2 (s1.trans s2) (iv.mono sb)⟩
theorem sd_dputF (h0 : Ev K tv δ O d O1) (h1 : Ev K td δ O1 (.ref p) O2) (h2 : Ev K ty δ O2 (.tup (ks.map .int)) O3) (ho : O3 p = some (dicF K n f)) (hl : n < 100000) (k : PE.nx δ (setO O3 p (dicF K (n + 1) fun k' => if k' = ks then some d else f k'))) : Sd K (sDPut td ty tv) PE δ O := fun G H σ D w s r =>
  h0 G H σ w s _ fun v G0 H0 s0 i0 => h1 G0 H0 σ s0.wd (s.mono s0.ex) _ fun x G1 H1 s1 i1 => h2 G1 H1 σ s1.wd (s.mono (s0.ex.trans s1.ex)) _ fun y G2 H2 s2 i2 => by
    obtain ⟨g0, o, G3, e, sb, kvs, rfl, hk, hv⟩ := s2.wd.own p _ ho
    have i1 : x = .ref p := i1
    obtain ⟨b, rfl, eb⟩ := is_ints i2
    subst i1
    refine ⟨p, _, rfl, DPut.t e (s2.wd.sub _ _ eb) (Nat.lt_of_le_of_lt hk (Evl.sz_lt hl)), ?_⟩
    have hval : ∀ k' : List Int, valV (putK kvs (ks.map Sum.inl) v) (k'.map Sum.inl) = if k' = ks then some v else valV kvs (k'.map Sum.inl) := fun k' => by
      by_cases z : k' = ks
      · rw [if_pos z, z, valV_put, if_pos rfl]
      · rw [if_neg z, valV_put, if_neg (fun y => z (inl_inj.mp y))]
    have st := Stp.write (m' := dicF K (n + 1) fun k' => if k' = ks then some d else f k') (o := .dT (putK kvs (ks.map Sum.inl) v)) s2.wd ho ⟨_, G2, upd_same, Sub.refl _, _, rfl, Nat.le_trans (length_putK _ _ _) (Nat.succ_le_succ hk), fun k' => ⟨fun d' hd' => ?_, fun hd' => ?_⟩⟩
    · exact r.nx δ _ G2 _ σ k (((s0.trans s1).trans s2).trans st) (s.mono ((s0.ex.trans s1.ex).trans s2.ex))
    · rw [hval]
      dsimp only at hd'
      by_cases z : k' = ks
      · rw [if_pos z] at hd' ⊢
        cases hd'
        exact ⟨v, rfl, i0.mono (s1.ex.trans s2.ex)⟩
      · rw [if_neg z] at hd' ⊢
        obtain ⟨u, a, b⟩ := (hv k').1 d' hd'
        exact ⟨u, a, b.mono sb⟩
    · rw [hval]
      dsimp only at hd'
      by_cases z : k' = ks
      · rw [if_pos z] at hd'; cases hd'
      · rw [if_neg z] at hd' ⊢
        exact (hv k').2 hd'
theorem evp_dispF (h1 : ∀ p, O p = none → Ev K tk δ (setO O p (dicT K [])) (.tup (ks.map .int)) (setO O p (dicT K []))) (h2 : ∀ p, O p = none → Ev K tv δ (setO O p (dicT K [])) d (setO O p (dicT K []))) (hp : ∀ p, O p = none → P (.ref p) (setO O p (dicF K 1 fun k => if k = ks then some d else none))) : EvP K (tDispT tk tv) δ O P := fun G H σ w s Q k p hn => by
  have st := Stp.newO (o := .dT []) (m := dicT K []) w hn ⟨_, G, upd_same, Sub.refl _, [], rfl, rfl, rfl⟩
  have hO := w.oNone hn
  refine h1 p hO G _ σ st.wd s _ fun x G1 H1 s1 i1 => h2 p hO G1 H1 σ s1.wd (s.mono s1.ex) _ fun y G2 H2 s2 i2 => ?_
  obtain ⟨g0, o, G3, e, sb, kvs, rfl, hk, hv⟩ := s2.wd.own p _ setO_same
  have hk0 : kvs = [] := by cases kvs with | nil => rfl | cons _ _ => cases hk
  subst hk0
  obtain ⟨b, rfl, eb⟩ := is_ints i1
  refine ⟨e, b, _, rfl, s2.wd.sub _ _ (s2.ex _ _ eb), ?_⟩
  have st3 := Stp.write (m' := dicF K 1 fun k => if k = ks then some d else none) (o := .dT [(ks.map Sum.inl, y)]) s2.wd setO_same ⟨_, G2, upd_same, Sub.refl _, [(ks.map Sum.inl, y)], rfl, Nat.le_refl _, fun k' => ⟨fun d' hd' => ?_, fun hd' => ?_⟩⟩
  · rw [setO_setO] at st3
    exact k _ _ _ _ _ (hp p hO) (((st.trans s1).trans s2).trans st3) rfl
  · dsimp only at hd'
    by_cases z : k' = ks
    · rw [if_pos z] at hd'; cases hd'
      exact ⟨y, by rw [z]; simp [valV], i2⟩
    · rw [if_neg z] at hd'; cases hd'
  · dsimp only at hd'
    by_cases z : k' = ks
    · rw [if_pos z] at hd'; cases hd'
    · have : ¬ (ks.map Sum.inl : List Key) = k'.map Sum.inl := fun q => z (inl_inj.mp q).symm
      simp [valV, this]
end
/-! ### [e for x in xs for y in ys] -/
/-- one run of the inner loop -/
theorem cp_run {K : PySem.W.Frag} {g : TG} {tt : TT} {te : TE} {vs : List Nat} {δ : Sl} {O1 O2 : Ow} {G1 H1 : Hp} {J : It} {items out : List D} {D : Addr} {σ : L2.St} {Nx : Hp → Prop} {O0 : Ow} {G0 H0 : Hp} {done : List DL.D} {acc : List V}
    (hD : H1 D = none) (cp : Cp K g tt te vs (wipeD δ vs) items O0 out O2) (st : Stp K G1 O1 H1 G0 O0 H0) (gD : G0 D = none) (oD : O0 D = none) (hD0 : H0 D = some (.lst acc)) (il : IsL K G0 done acc) (hz : done.length + out.length ≤ sizeLine) (ok : ItOk K J G0 items) (s : SlIs K G0 δ σ)
    (hN : ∀ G2 H2 acc2, Stp K G1 O1 H1 G2 O2 H2 → Sub G0 G2 → G2 D = none → O2 D = none → H2 D = some (.lst acc2) → IsL K G2 (done ++ out) acc2 → Nx H2) :
    ∃ W : Nat → Nat → Hp → Prop, (∃ m, W 0 m H0) ∧ ∀ i m H, W i m H → (J.stop i H ∧ Nx H) ∨ (J.go i H ∧ ∃ Nx1 : Hp → Prop, (∀ H', Nx1 H' → ∃ m', m' < m ∧ W (i + 1) m' H') ∧ ∀ x H', J.yld i H x H' → g x (wipe σ vs) H' fun σ2 H2 => wipe σ2 vs = wipe σ vs ∧ tt σ2 H2 fun b H3 =>
      if b = true then te σ2 H3 fun y H4 => ∃ acc, H4 D = some (.lst acc) ∧ acc.length < sizeLine ∧ Nx1 (upd H4 D (.lst (acc ++ [y]))) else Nx1 H3) := by
  refine ⟨fun i m H' => i + m = items.length ∧ ∃ O' G' dn rest acc, Cp K g tt te vs (wipeD δ vs) (items.drop i) O' rest O2 ∧ dn ++ rest = done ++ out ∧ Stp K G1 O1 H1 G' O' H' ∧ Sub G0 G' ∧ G' D = none ∧ O' D = none ∧ H' D = some (.lst acc) ∧ IsL K G' dn acc,
    ⟨items.length, by omega, O0, G0, done, out, acc, cp, rfl, st, Sub.refl _, gD, oD, hD0, il⟩, fun i m H' hW => ?_⟩
  obtain ⟨em, O', G', dn, rest, acc, cp, eo, st, sb, gD, oD, hD', il⟩ := hW
  have hlen : dn.length + rest.length ≤ sizeLine := by have := congrArg List.length eo; rw [List.length_append, List.length_append] at this; omega
  obtain ⟨go, stop⟩ := ok G' O' H' sb st.wd i
  by_cases hl : i < items.length
  · obtain ⟨g1, g2⟩ := go items[i] (List.getElem?_eq_getElem hl)
    refine .inr ⟨g1, fun H2 => ∃ O' G' dn rest acc, Cp K g tt te vs (wipeD δ vs) (items.drop (i + 1)) O' rest O2 ∧ dn ++ rest = done ++ out ∧ Stp K G1 O1 H1 G' O' H2 ∧ Sub G0 G' ∧ G' D = none ∧ O' D = none ∧ H2 D = some (.lst acc) ∧ IsL K G' dn acc,
      fun H2 q => ⟨m - 1, by omega, by omega, q⟩, fun x H2 hy => ?_⟩
    obtain ⟨G2, st2, ix⟩ := g2 x H2 hy
    have d2 := st2.fresh D _ hD' oD gD
    have k2 := st2.keep D _ hD' oD
    rw [List.drop_eq_getElem_cons hl] at cp
    have sl2 : SlIs K G2 (wipeD δ vs) (wipe σ vs) := wipeD_is (s.mono (sb.trans st2.ex)) vs
    cases cp with
    | @yes _ O3 O4 _ _ d _ out' δ2 h h1 h2 t =>
      refine h G2 H2 σ (wipe σ vs) x sl2 wipe_wipe st2.wd.sub ix _ fun σ2 ew sl => ⟨ew, h1 G2 H2 σ2 st2.wd sl _ fun G3 H3 s3 => iteT (h2 G3 H3 σ2 s3.wd (sl.mono s3.ex) _ fun y G4 H4 s4 iy => ?_)⟩
      have d3 := s3.fresh D _ k2 d2.2 d2.1
      have k3 := s3.keep D _ k2 d2.2
      have d4 := s4.fresh D _ k3 d3.2 d3.1
      have k4 := s4.keep D _ k3 d3.2
      have sx := ((st.trans st2).trans s3).trans s4
      refine ⟨acc, k4, ?_, O4, G4, dn ++ [d], out', acc ++ [y], t, by rw [List.append_assoc]; exact eo, sx.writeF hD d4.1 d4.2, sb.trans (st2.ex.trans (s3.ex.trans s4.ex)), d4.1, d4.2, upd_same, (il.mono (st2.ex.trans (s3.ex.trans s4.ex))).append ⟨y, [], rfl, iy, rfl⟩⟩
      rw [← il.length]
      rw [List.length_cons] at hlen
      omega
    | @no _ O3 _ _ _ out' δ2 h h1 t =>
      refine h G2 H2 σ (wipe σ vs) x sl2 wipe_wipe st2.wd.sub ix _ fun σ2 ew sl => ⟨ew, h1 G2 H2 σ2 st2.wd sl _ fun G3 H3 s3 => iteF ?_⟩
      have d3 := s3.fresh D _ k2 d2.2 d2.1
      have k3 := s3.keep D _ k2 d2.2
      exact ⟨O3, G3, dn, rest, acc, t, eo, (st.trans st2).trans s3, sb.trans (st2.ex.trans s3.ex), d3.1, d3.2, k3, il.mono (st2.ex.trans s3.ex)⟩
  · refine .inl ⟨stop (List.getElem?_eq_none (by omega)), ?_⟩
    rw [List.drop_eq_nil_of_le (by omega)] at cp
    cases cp
    rw [List.append_nil] at eo
    subst eo
    exact hN G' H' acc st sb gD oD hD' il
inductive Cp2 (K : PySem.W.Frag) (g : TG) (tt : TT) (wi1 : TI) (g1 : TG) (tt1 : TT) (te : TE) (vs vs1 : List Nat) (δ : Sl) : List D → Ow → List D → Ow → Prop
  | nil {O : Ow} : Cp2 K g tt wi1 g1 tt1 te vs vs1 δ [] O [] O
  | yes {O O1 O2 O3 O4 : Ow} {x : D} {items its out outs : List D} (δ2 : Sl) (h : Gc K g vs x δ δ2) (h1 : EvT K tt δ2 O true O1) (hi : EvI K wi1 δ2 O1 its O2) (hc : Cp K g1 tt1 te vs1 (wipeD δ2 vs1) its O2 out O3) (t : Cp2 K g tt wi1 g1 tt1 te vs vs1 δ items O3 outs O4) : Cp2 K g tt wi1 g1 tt1 te vs vs1 δ (x :: items) O (out ++ outs) O4
theorem ev_lc2 {K : PySem.W.Frag} {wi wi1 : TI} {g g1 : TG} {tt tt1 : TT} {te : TE} {vs vs1 : List Nat} {δ : Sl} {O O1 O2 : Ow} {items out : List D} (hi : EvI K wi δ O items O1) (hc : Cp2 K g tt wi1 g1 tt1 te vs vs1 (wipeD δ vs) items O1 out O2) (hz : out.length ≤ sizeLine) : Ev K (tLc2 wi g tt wi1 g1 tt1 te vs vs1) δ O (.lst out) O2 := fun G H σ w s Q k =>
  hi G H σ w s _ fun J G1 H1 s1 ok D hD => by
    refine ⟨fun i m H' => i + m = items.length ∧ ∃ O' G' done rest acc, Cp2 K g tt wi1 g1 tt1 te vs vs1 (wipeD δ vs) (items.drop i) O' rest O2 ∧ done ++ rest = out ∧ Stp K G1 O1 H1 G' O' H' ∧ G' D = none ∧ O' D = none ∧ H' D = some (.lst acc) ∧ IsL K G' done acc,
      ⟨items.length, by omega, O1, G1, [], out, [], hc, rfl, Stp.newF s1.wd hD, s1.wd.gNone hD, s1.wd.oNone hD, upd_same, rfl⟩, fun i m H' hW => ?_⟩
    obtain ⟨em, O', G', done, rest, acc, cp, eo, st, gD, oD, hD', il⟩ := hW
    obtain ⟨go, stop⟩ := ok G' O' H' st.ex st.wd i
    by_cases hl : i < items.length
    · obtain ⟨go1, go2⟩ := go items[i] (List.getElem?_eq_getElem hl)
      refine .inr ⟨go1, fun H2 => ∃ O' G' done rest acc, Cp2 K g tt wi1 g1 tt1 te vs vs1 (wipeD δ vs) (items.drop (i + 1)) O' rest O2 ∧ done ++ rest = out ∧ Stp K G1 O1 H1 G' O' H2 ∧ G' D = none ∧ O' D = none ∧ H2 D = some (.lst acc) ∧ IsL K G' done acc,
        fun H2 q => ⟨m - 1, by omega, by omega, q⟩, fun x H2 hy => ?_⟩
      obtain ⟨G2, st2, ix⟩ := go2 x H2 hy
      have d2 := st2.fresh D _ hD' oD gD
      have k2 := st2.keep D _ hD' oD
      rw [List.drop_eq_getElem_cons hl] at cp
      have sl2 : SlIs K G2 (wipeD δ vs) (wipe σ vs) := wipeD_is (s.mono ((s1.ex.trans st.ex).trans st2.ex)) vs
      cases cp with
      | @yes _ O3 O4 O5 _ _ _ its out1 outs δ2 h h1 hi1 hc1 t =>
        refine h G2 H2 σ (wipe σ vs) x sl2 wipe_wipe st2.wd.sub ix _ fun σ2 ew sl => ⟨ew, h1 G2 H2 σ2 st2.wd sl _ fun G3 H3 s3 => iteT (hi1 G3 H3 σ2 s3.wd (sl.mono s3.ex) _ fun J1 G4 H4 s4 ok1 => ?_)⟩
        have d3 := s3.fresh D _ k2 d2.2 d2.1
        have k3 := s3.keep D _ k2 d2.2
        have d4 := s4.fresh D _ k3 d3.2 d3.1
        have k4 := s4.keep D _ k3 d3.2
        have sx := ((st.trans st2).trans s3).trans s4
        refine cp_run (done := done) hD hc1 sx d4.1 d4.2 k4 (il.mono (st2.ex.trans (s3.ex.trans s4.ex))) ?_ ok1 (sl.mono (s3.ex.trans s4.ex)) fun G5 H5 acc5 st5 _ a b c e => ⟨O5, G5, done ++ out1, outs, acc5, t, by rw [List.append_assoc]; exact eo, st5, a, b, c, e⟩
        have := congrArg List.length eo
        simp only [List.length_append] at this
        omega
    · refine .inl ⟨stop (List.getElem?_eq_none (by omega)), ?_⟩
      rw [List.drop_eq_nil_of_le (by omega)] at cp
      cases cp
      rw [List.append_nil] at eo
      subst eo
      have sp := st.pubF hD gD oD hD'
      exact k _ _ _ (s1.trans sp) ⟨D, acc, rfl, upd_same, il.mono fun b u e => by rw [upd_ne (ne_of_none e gD)]; exact e⟩
/-- over plain lists -/
theorem cp2_map {K : PySem.W.Frag} {wi1 : TI} {g g1 : TG} {tt1 : TT} {te : TE} {vs vs1 : List Nat} {δ : Sl} {O : Ow} {α : Type} (l : List α) (enc : α → D) (outs : α → List D) (δ2 : α → Sl) (its : α → List D)
    (h : ∀ a ∈ l, Gc K g vs (enc a) δ (δ2 a) ∧ EvI K wi1 (δ2 a) O (its a) O ∧ Cp K g1 tt1 te vs1 (wipeD (δ2 a) vs1) (its a) O (outs a) O) : Cp2 K g tYes wi1 g1 tt1 te vs vs1 δ (l.map enc) O (l.flatMap outs) O := by
  induction l with
  | nil => exact .nil
  | cons a r ih =>
    obtain ⟨h1, h2, h3⟩ := h a (List.mem_cons_self ..)
    rw [List.map_cons, List.flatMap_cons]
    exact .yes _ h1 et_yes h2 h3 (ih fun b hb => h b (List.mem_cons_of_mem _ hb))
end DL

set_option Elab.async false
set_option linter.all false
set_option maxRecDepth 100000
set_option maxHeartbeats 2000000
/-! lists, owned or plain, walked; compared with the empty list -/
namespace DL
open PySem PySem.Spec L2
open PyProof.Rows hiding St
def ItOkL (K : PySem.W.Frag) (J : It) (G : Hp) (x : D) (items : List D) : Prop :=
  ∀ G' O' H', Sub G G' → Wd K G' O' H' → LstOf O' x items → ∀ i : Nat, (∀ d, items[i]? = some d → J.go i H' ∧ ∀ x H'', J.yld i H' x H'' → ∃ G'', Stp K G' O' H' G'' O' H'' ∧ Is K G'' d x) ∧ (items[i]? = none → J.stop i H')
def EvIL (K : PySem.W.Frag) (wi : TI) (δ : Sl) (O : Ow) (x : D) (items : List D) (O' : Ow) : Prop :=
  ∀ G H σ, Wd K G O H → SlIs K G δ σ → ∀ R : It → Hp → Prop, (∀ J G' H', Stp K G O H G' O' H' → ItOkL K J G' x items → R J H') → wi σ H R
section
variable {K : PySem.W.Frag} {W : WX} {XP : Sl → XD → Ow → Prop} {δ : Sl} {O O1 O2 O3 : Ow} {d x y z : D} {ta tb tc te tv : TE} {t : TA} {tt : TT} {tu : TS} {i j : Int} {p q l C : Addr} {ds es : List D} {b : Bool} {R : DR} {E : XK} {P : DE} {g : TG} {wi : TI} {items : List D} {vs : List Nat}
theorem ei_L (h : Ev K te δ O x O1) (hx : LstOf O1 x ds) : EvIL K (iList K te) δ O x ds O1 := fun G H σ w s R k =>
  h G H σ w s _ fun v G1 H1 s1 i1 => by
    have key : ∀ {a : Addr} {G' : Hp} {O' : Ow} {H' : Hp} {xs : List V}, v = .ref a → Wd K G' O' H' → SqL K H' a xs → IsL K G' ds xs → ∀ i : Nat, (∀ d, ds[i]? = some d → (Itl K a).go i H' ∧ ∀ x H'', (Itl K a).yld i H' x H'' → ∃ G'', Stp K G' O' H' G'' O' H'' ∧ Is K G'' d x) ∧ (ds[i]? = none → (Itl K a).stop i H') := fun {a G' O' H' xs} _ w' e' t i => by
      refine ⟨fun d hd => ?_, fun hn => ⟨xs, e', by rw [← t.length]; exact List.getElem?_eq_none_iff.mp hn⟩⟩
      obtain ⟨u, hu, iu⟩ := t.get hd
      refine ⟨⟨xs, u, e', hu⟩, fun x H'' hy => ?_⟩
      obtain ⟨rfl, fx⟩ := hy
      have ex : u = x := Option.some.inj (hu.symm.trans (fx xs e'))
      subst ex
      exact ⟨G', Stp.refl w', iu⟩
    rcases hx with rfl | ⟨a, rfl, ho⟩
    · obtain ⟨a, xs, rfl, e, t⟩ := i1
      exact ⟨a, rfl, ⟨xs, .inl (.inl (s1.wd.sub _ _ e))⟩, k _ G1 H1 s1 fun G' O' H' sb w' _ i => key rfl w' (.inl (.inl (w'.sub _ _ (sb _ _ e)))) (t.mono sb) i⟩
    · have i1 : v = .ref a := i1
      subst i1
      obtain ⟨_, xs, e, t⟩ := s1.wd.own a _ ho
      refine ⟨a, rfl, ⟨xs, .inl (.inl e)⟩, k _ G1 H1 s1 fun G' O' H' sb w' hl i => ?_⟩
      rcases hl with z | ⟨a', z, ho'⟩
      · cases z
      · cases z
        obtain ⟨_, xs', e', t'⟩ := w'.own a _ ho'
        exact key rfl w' (.inl (.inl e')) t' i
theorem sd_forL (hi : EvIL K wi δ O x items O1) (I : Nat → Sl → Ow → Prop) (h0 : I 0 δ O1) (hO : ∀ i δ' O', I i δ' O' → LstOf O' x items)
    (hs : ∀ i d δ' O', items[i]? = some d → I i δ' O' → Gd K g d δ' O' fun δ2 O2 => Sd K tu { P with nx := I (i + 1), ct := I (i + 1), bk := P.nx } δ2 O2) (hd : ∀ δ' O', I items.length δ' O' → P.nx δ' O') : Sd K (tFor wi g tu) P δ O := fun G H σ D w s r =>
  hi G H σ w s _ fun J G1 H1 s1 ok => by
    refine ⟨fun i m σ' H' => i + m = items.length ∧ ∃ δ' O' G', I i δ' O' ∧ Stp K G O H G' O' H' ∧ Sub G1 G' ∧ SlIs K G' δ' σ', ⟨items.length, by omega, δ, O1, G1, h0, s1, Sub.refl _, s.mono s1.ex⟩, fun i m σ' H' hW => ?_⟩
    obtain ⟨em, δ', O', G', hI, st, sb, sl⟩ := hW
    obtain ⟨go, stop⟩ := ok G' O' H' sb st.wd (hO i δ' O' hI) i
    by_cases hl : i < items.length
    · obtain ⟨g1, g2⟩ := go items[i] (List.getElem?_eq_getElem hl)
      refine .inr ⟨g1, fun σ2 H2 => ∃ δ2 O2 G2, I (i + 1) δ2 O2 ∧ Stp K G O H G2 O2 H2 ∧ Sub G1 G2 ∧ SlIs K G2 δ2 σ2, fun σ2 H2 ⟨δ2, O2, G2, a, b, c, e⟩ => ⟨m - 1, by omega, by omega, δ2, O2, G2, a, b, c, e⟩, fun x H2 hy => ?_⟩
      obtain ⟨G2, st2, ix⟩ := g2 x H2 hy
      refine hs i _ δ' O' (List.getElem?_eq_getElem hl) hI G2 H2 σ' x st2.wd (sl.mono st2.ex) ix _ fun δ3 O3 G3 H3 σ3 hb st3 sl3 => ?_
      have stx := (st.trans st2).trans st3
      exact hb G3 H3 σ3 _ st3.wd sl3 ⟨fun δ4 O4 G4 H4 σ4 p st4 sl4 => ⟨δ4, O4, G4, p, stx.trans st4, (sb.trans st2.ex).trans (st3.ex.trans st4.ex), sl4⟩, fun d O4 G4 H4 v p st4 iv => r.rt d O4 G4 H4 v p (stx.trans st4) iv,
        fun δ4 O4 G4 H4 σ4 p st4 sl4 => r.nx δ4 O4 G4 H4 σ4 p (stx.trans st4) sl4, fun δ4 O4 G4 H4 σ4 p st4 sl4 => ⟨δ4, O4, G4, p, stx.trans st4, (sb.trans st2.ex).trans (st3.ex.trans st4.ex), sl4⟩⟩
    · have e : i = items.length := by omega
      refine .inl ⟨stop (List.getElem?_eq_none (by omega)), ?_⟩
      subst e
      exact r.nx δ' O' G' H' σ' (hd δ' O' hI) st sl
/-- the same where a turn may raise -/
theorem sdx_forL (hi : EvIL K wi δ O x items O1) (I : Nat → Sl → Ow → Prop) (h0 : I 0 δ O1) (hO : ∀ i δ' O', I i δ' O' → LstOf O' x items)
    (hs : ∀ i d δ' O', items[i]? = some d → I i δ' O' → Gd K g d δ' O' fun δ2 O2 => SdX K W tu { P with nx := I (i + 1), ct := I (i + 1), bk := P.nx } XP δ2 O2) (hd : ∀ δ' O', I items.length δ' O' → P.nx δ' O') : SdX K W (tFor wi g tu) P XP δ O := fun G H σ D w s r rx =>
  hi G H σ w s _ fun J G1 H1 s1 ok => by
    refine ⟨fun i m σ' H' => i + m = items.length ∧ ∃ δ' O' G', I i δ' O' ∧ Stp K G O H G' O' H' ∧ Sub G1 G' ∧ SlIs K G' δ' σ', ⟨items.length, by omega, δ, O1, G1, h0, s1, Sub.refl _, s.mono s1.ex⟩, fun i m σ' H' hW => ?_⟩
    obtain ⟨em, δ', O', G', hI, st, sb, sl⟩ := hW
    obtain ⟨go, stop⟩ := ok G' O' H' sb st.wd (hO i δ' O' hI) i
    by_cases hl : i < items.length
    · obtain ⟨g1, g2⟩ := go items[i] (List.getElem?_eq_getElem hl)
      refine .inr ⟨g1, fun σ2 H2 => ∃ δ2 O2 G2, I (i + 1) δ2 O2 ∧ Stp K G O H G2 O2 H2 ∧ Sub G1 G2 ∧ SlIs K G2 δ2 σ2, fun σ2 H2 ⟨δ2, O2, G2, a, b, c, e⟩ => ⟨m - 1, by omega, by omega, δ2, O2, G2, a, b, c, e⟩, fun x H2 hy => ?_⟩
      obtain ⟨G2, st2, ix⟩ := g2 x H2 hy
      refine hs i _ δ' O' (List.getElem?_eq_getElem hl) hI G2 H2 σ' x st2.wd (sl.mono st2.ex) ix _ fun δ3 O3 G3 H3 σ3 hb st3 sl3 => ?_
      have stx := (st.trans st2).trans st3
      exact hb G3 H3 σ3 _ st3.wd sl3 ⟨fun δ4 O4 G4 H4 σ4 p st4 sl4 => ⟨δ4, O4, G4, p, stx.trans st4, (sb.trans st2.ex).trans (st3.ex.trans st4.ex), sl4⟩, fun d O4 G4 H4 v p st4 iv => r.rt d O4 G4 H4 v p (stx.trans st4) iv,
        fun δ4 O4 G4 H4 σ4 p st4 sl4 => r.nx δ4 O4 G4 H4 σ4 p (stx.trans st4) sl4, fun δ4 O4 G4 H4 σ4 p st4 sl4 => ⟨δ4, O4, G4, p, stx.trans st4, (sb.trans st2.ex).trans (st3.ex.trans st4.ex), sl4⟩⟩ (rx.step stx)
    · have e : i = items.length := by omega
      refine .inl ⟨stop (List.getElem?_eq_none (by omega)), ?_⟩
      subst e
      exact r.nx δ' O' G' H' σ' (hd δ' O' hI) st sl
/-- [f a for a in l if q a], l owned or plain and left alone -/
theorem ev_lcL {α : Type} (l : List α) (enc f : α → D) (δ2 : α → Sl) (q : α → Bool) (hi : EvIL K wi δ O x (l.map enc) O1) (hx : LstOf O1 x (l.map enc)) (hz : l.length ≤ 50000)
    (h : ∀ a ∈ l, Gc K g vs (enc a) (wipeD δ vs) (δ2 a) ∧ EvT K tt (δ2 a) O1 (q a) O1 ∧ (q a = true → Ev K te (δ2 a) O1 (f a) O1)) : Ev K (tLc wi g tt te vs) δ O (.lst ((l.filter q).map f)) O1 := fun G H σ w s Q k =>
  hi G H σ w s _ fun J G1 H1 s1 ok D hD => by
    refine ⟨fun i m H' => i + m = l.length ∧ ∃ G' acc, Stp K G1 O1 H1 G' O1 H' ∧ G' D = none ∧ H' D = some (.lst acc) ∧ IsL K G' (((l.take i).filter q).map f) acc,
      ⟨l.length, by omega, G1, [], Stp.newF s1.wd hD, s1.wd.gNone hD, upd_same, by rw [List.take_zero]; rfl⟩, fun i m H' hW => ?_⟩
    obtain ⟨em, G', acc, st, gD, hD', il⟩ := hW
    have oD : O1 D = none := s1.wd.oNone hD
    obtain ⟨go, stop⟩ := ok G' O1 H' st.ex st.wd hx i
    by_cases hl : i < l.length
    · have hli : l[i]? = some l[i] := List.getElem?_eq_getElem hl
      have hmem : l[i] ∈ l := List.getElem_mem hl
      obtain ⟨g1, g2⟩ := go (enc l[i]) (by rw [List.getElem?_map, hli]; rfl)
      refine .inr ⟨g1, fun H2 => ∃ G' acc, Stp K G1 O1 H1 G' O1 H2 ∧ G' D = none ∧ H2 D = some (.lst acc) ∧ IsL K G' (((l.take (i + 1)).filter q).map f) acc,
        fun H2 qq => ⟨m - 1, by omega, by omega, qq⟩, fun x H2 hy => ?_⟩
      obtain ⟨G2, st2, ix⟩ := g2 x H2 hy
      have d2 := st2.fresh D _ hD' oD gD
      have k2 := st2.keep D _ hD' oD
      have sl2 : SlIs K G2 (wipeD δ vs) (wipe σ vs) := wipeD_is (s.mono ((s1.ex.trans st.ex).trans st2.ex)) vs
      obtain ⟨h1, h2, h3⟩ := h _ hmem
      have etk : l.take (i + 1) = l.take i ++ [l[i]] := by rw [List.take_add_one, hli]; rfl
      refine h1 G2 H2 σ (wipe σ vs) x sl2 wipe_wipe st2.wd.sub ix _ fun σ2 ew sl => ⟨ew, h2 G2 H2 σ2 st2.wd sl _ fun G3 H3 s3 => ?_⟩
      have d3 := s3.fresh D _ k2 d2.2 d2.1
      have k3 := s3.keep D _ k2 d2.2
      cases eq : q l[i] with
      | true =>
        refine iteT (h3 eq G3 H3 σ2 s3.wd (sl.mono s3.ex) _ fun y G4 H4 s4 iy => ?_)
        have d4 := s4.fresh D _ k3 d3.2 d3.1
        have k4 := s4.keep D _ k3 d3.2
        have sx := ((st.trans st2).trans s3).trans s4
        refine ⟨acc, k4, ?_, G4, acc ++ [y], sx.writeF hD d4.1 d4.2, d4.1, upd_same, ?_⟩
        · rw [← il.length, List.length_map]
          refine Evl.sz_lt (Nat.lt_of_le_of_lt (List.length_filter_le ..) ?_)
          rw [List.length_take]; omega
        · rw [etk, List.filter_append, List.map_append]
          refine (il.mono (st2.ex.trans (s3.ex.trans s4.ex))).append ?_
          rw [List.filter_cons_of_pos eq]
          exact ⟨y, [], rfl, iy, rfl⟩
      | false =>
        refine iteF ⟨G3, acc, (st.trans st2).trans s3, d3.1, k3, ?_⟩
        rw [etk, List.filter_append, List.filter_cons_of_neg (by simp [eq]), List.filter_nil, List.append_nil]
        exact il.mono (st2.ex.trans s3.ex)
    · refine .inl ⟨stop (List.getElem?_eq_none (by rw [List.length_map]; omega)), ?_⟩
      rw [List.take_of_length_le (by omega)] at il
      have sp := st.pubF hD gD oD hD'
      exact k _ _ _ (s1.trans sp) ⟨D, acc, rfl, upd_same, il.mono fun b u e => by rw [upd_ne (ne_of_none e gD)]; exact e⟩
theorem ev_lcLm {α : Type} (l : List α) (enc f : α → D) (δ2 : α → Sl) (hi : EvIL K wi δ O x (l.map enc) O1) (hx : LstOf O1 x (l.map enc)) (hz : l.length ≤ 50000)
    (h : ∀ a ∈ l, Gc K g vs (enc a) (wipeD δ vs) (δ2 a) ∧ Ev K te (δ2 a) O1 (f a) O1) : Ev K (tLc wi g tYes te vs) δ O (.lst (l.map f)) O1 := by
  have := ev_lcL (K := K) (tt := tYes) l enc f δ2 (fun _ => true) hi hx hz fun a ha => ⟨(h a ha).1, et_yes, fun _ => (h a ha).2⟩
  rwa [List.filter_eq_self.mpr (fun _ _ => rfl)] at this
/-- x is d, or an owned list that reads as d -/
def PlOf (O : Ow) (x d : D) : Prop := x = d ∨ ∃ p ds, x = .ref p ∧ d = .lst ds ∧ O p = some (.lst ds)
theorem PlOf.self : PlOf O x x := .inl rfl
theorem PlOf.own (h : O p = some (.lst ds)) : PlOf O (.ref p) (.lst ds) := .inr ⟨p, ds, rfl, rfl, h⟩
theorem LstOf.pl (h : LstOf O x ds) : PlOf O x (.lst ds) := by
  rcases h with rfl | ⟨p, rfl, h⟩
  · exact .self
  · exact .own h
theorem dp_ls {G H : Hp} {v : V} (hx : PlOf O x d) (w : Wd K G O H) (hp : isP d = true) (i : Is K G x v) : Dp K H v (toP d) := by
  rcases hx with rfl | ⟨p, ds, rfl, rfl, ho⟩
  · exact dp_of w.sub hp i
  · have i : v = .ref p := i
    subst i
    obtain ⟨_, xs, e, t⟩ := w.own p _ ho
    exact .lst (.inl (.inl e)) (dps_of w.sub hp t)
theorem r_eqLs {n m : Nat} {d e : D} (hx : PlOf O x d) (hy : PlOf O y e) (h1 : Pl n d) (h2 : Pl m e) (hn : n ≤ 60) (hm : m ≤ 60) : R2D K (rEqD K) x y O (.bl (eqD d e)) := fun G H v u w a b Q k =>
  ⟨toP d, toP e, dp_ls hx w h1.isP a, dp_ls hy w h2.isP b, h1.shaped hn, h2.shaped hm, k _ G H (Stp.refl w) rfl⟩
theorem r_neLs {n m : Nat} {d e : D} (hx : PlOf O x d) (hy : PlOf O y e) (h1 : Pl n d) (h2 : Pl m e) (hn : n ≤ 60) (hm : m ≤ 60) : R2D K (rNeD K) x y O (.bl (!eqD d e)) := fun G H v u w a b Q k =>
  ⟨toP d, toP e, dp_ls hx w h1.isP a, dp_ls hy w h2.isP b, h1.shaped hn, h2.shaped hm, k _ G H (Stp.refl w) rfl⟩
/-- l[i] = .. as one of several targets -/
theorem gd_sub {k : Nat} {N : Sl → Ow → Prop} (h1 : Ev K ta δ O (.ref l) O2) (h2 : Ev K tb δ O2 (.int i) O3) (h3 : O3 l = some (.lst ds)) (hj : ixN ds.length i = some k) (kk : N δ (setO O3 l (.lst (ds.set k d)))) : Gd K (gSub ta tb rSetL) d δ O N := fun G H σ v w s iv Q kq =>
  h1 G H σ w s _ fun u G2 H2 s2 i2 => h2 G2 H2 σ s2.wd (s.mono s2.ex) _ fun q G3 H3 s3 i3 => by
    have i2 : u = .ref l := i2
    subst i2
    have i3 : q = .int i := i3
    subst i3
    obtain ⟨_, xs, e, t⟩ := s3.wd.own l _ h3
    refine ⟨l, xs, i, k, rfl, rfl, e, by rw [← t.length]; exact hj, ?_⟩
    have st := Stp.write (o := .lst (xs.set k v)) (m' := .lst (ds.set k d)) s3.wd h3 ⟨_, upd_same, t.set k (iv.mono (s2.ex.trans s3.ex))⟩
    exact kq δ _ G3 _ σ kk ((s2.trans s3).trans st) (s.mono ((s2.ex.trans s3.ex).trans st.ex))
theorem ea_starLs (h : Ev K te δ O x O1) (hx : LstOf O1 x ds) (ht : EvA K t δ O1 es O2) : EvA K (StX.tStar K te t) δ O (ds ++ es) O2 := by
  rcases hx with rfl | ⟨p, rfl, ho⟩
  · exact ea_starL h ht
  · exact fun G H σ w s Q k => h G H σ w s _ fun v G1 H1 s1 i1 => by
      have i1 : v = .ref p := i1
      subst i1
      obtain ⟨_, xs, e, tl⟩ := s1.wd.own p _ ho
      exact ⟨p, xs, rfl, .inr (.inl (.inl e)), ht G1 H1 σ s1.wd (s.mono s1.ex) _ fun vs G2 H2 s2 i2 => k _ G2 H2 (s1.trans s2) ((tl.mono s2.ex).append i2)⟩
/-- list(t), new and owned -/
theorem evp_listT {P : D → Ow → Prop} (h : Ev K te δ O (.tup ds) O1) (hp : ∀ p, O1 p = none → P (.ref p) (setO O1 p (.lst ds))) : EvP K (tCB (fun xs H Q => ∃ p ys, xs = [.ref p] ∧ (SqL K H p ys ∨ SqT K H p ys) ∧ ∀ l, H l = none → Q (.ref l) (upd H l (.lst ys))) (tCons te tNil)) δ O P := fun G H σ w s Q k =>
  h G H σ w s _ fun v G1 H1 s1 i1 => by
    obtain ⟨p, xs, rfl, e, tl⟩ := i1
    exact ⟨p, xs, rfl, .inr (.inl (.inl (s1.wd.sub _ _ e))), fun l hl => k _ _ _ _ _ (hp l (s1.wd.oNone hl)) (s1.trans (Stp.newO s1.wd hl ⟨xs, upd_same, tl⟩)) rfl⟩
theorem atI_lastI {α β : Type} {f : α → β} {c : List α} {a : α} (h : c.getLast? = some a) : atI (c.map f) (-1) = some (f a) := by
  obtain ⟨r, rfl⟩ : ∃ r, c = r ++ [a] := List.getLast?_eq_some_iff.mp h
  rw [List.map_append]
  exact atI_last _ _
end
end DL

set_option Elab.async false
set_option linter.all false
set_option maxRecDepth 100000
set_option maxHeartbeats 2000000
/-! defs with keyword-only parameters that have defaults -/
namespace DL
open PySem PySem.Spec L2
open PyProof.Rows hiding St
/-- the defaults fill up -/
def Rdef (es : List D) (R : DR) : DR := fun ds O Post => R (ds ++ es) O Post
/-- both ways of binding: positional values and the defaults; keywords given -/
def KwB (K : PySem.W.Frag) (fd : FuncData) (ps : List Str) (n : Nat) (ks : List Str) (dvs : List V) : Prop :=
  (∃ ds, Vals dvs ds ∧ L2.Binds K fd ps ds) ∧ KBn K fd ps n ks (fun us ws => us ++ ws) (fun vs zs => vs ++ zs)
theorem funD_of {K : PySem.W.Frag} {x qual : Str} {st : Stmt} {f D : Addr} {oc : Value} {od an : Option Addr} {osl : Array (Option Value)} {doc pm cdv ct : Value} (kws : List (Str × V)) (l : K.lookup f = some ⟨oc, od, .func (PySem.W.fnOf x qual (defArgs st) (defBody st) (defScope st) .none (.ref D) doc pm an cdv ct), osl⟩)
    (c : PySem.W.codeIn K cdv qual = true) (k : PySem.W.keepIn K (.ref f) = true) (hq : ∀ q ∈ kws, ∃ u, PySem.W.nsIn K D q.1 = some (some u) ∧ RelV q.2 u) : FunD K x qual (defArgs st) (defBody st) (defScope st) [] kws f (PySem.W.fnOf x qual (defArgs st) (defBody st) (defScope st) .none (.ref D) doc pm an cdv ct) :=
  ⟨⟨oc, od, .none, .ref D, doc, pm, an, cdv, ct, osl, rfl, l, c, .inl ⟨rfl, rfl⟩, .inr ⟨D, rfl, hq⟩⟩, k⟩
/-- one keyword-only parameter with a default, two positional ones -/
theorem kwb_21 {K : PySem.W.Frag} {x qual : Str} {st : Stmt} {f D : Addr} {oc : Value} {od an : Option Addr} {osl : Array (Option Value)} {doc pm cdv ct u : Value} {a b y : Str} {d : V} (l : K.lookup f = some ⟨oc, od, .func (PySem.W.fnOf x qual (defArgs st) (defBody st) (defScope st) .none (.ref D) doc pm an cdv ct), osl⟩)
    (c : PySem.W.codeIn K cdv qual = true) (k : PySem.W.keepIn K (.ref f) = true) (hq : PySem.W.nsIn K D y = some (some u)) (hr : RelV d u)
    (h1 : ∀ (D : Addr) (doc pm : Value) (an : Option Addr) (cdv ct v1 v2 v3 : Value), KwChain D (([y] : List Str).zip [v3]) (bindArgs (PySem.W.fnOf x qual (defArgs st) (defBody st) (defScope st) .none (.ref D) doc pm an cdv ct) ⟨[v1, v2], []⟩) (([a, b, y] : List Str).zip ([v1, v2] ++ [v3])))
    (h2 : ∀ (D : Addr) (doc pm : Value) (an : Option Addr) (cdv ct v1 v2 v3 : Value), bindArgs (PySem.W.fnOf x qual (defArgs st) (defBody st) (defScope st) .none (.ref D) doc pm an cdv ct) ⟨[v1, v2], ([y] : List Str).zip [v3]⟩ = pure (([a, b, y] : List Str).zip ([v1, v2] ++ [v3]))) :
    KwB K (PySem.W.fnOf x qual (defArgs st) (defBody st) (defScope st) .none (.ref D) doc pm an cdv ct) [a, b, y] 2 [y] [d] := by
  have F := funD_of [(y, d)] l c k (fun q hq' => by rw [List.mem_singleton] at hq'; subst hq'; exact ⟨u, hq, hr⟩)
  refine ⟨?_, ?_⟩
  · exact F.binds0 (ps := [a, b, y]) 2 (by simp) rfl fun D doc pm an cdv ct us ks hl1 hl2 => by
      match us, ks, hl1, hl2 with
      | [v1, v2], [v3], _, _ => exact h1 D doc pm an cdv ct v1 v2 v3
  · obtain ⟨mv, hk⟩ := F.kbinds0 (ps := [a, b, y]) 2 [y] [] (fun us _ ws => us ++ ws) (by simp) (fun q hq' => by cases hq') (fun r1 _ r3 => r1.append r3) fun D doc pm an cdv ct us mv ws hl1 hl2 hl3 => by
      match us, mv, ws, hl1, hl2, hl3 with
      | [v1, v2], [], [v3], _, _, _ => exact h2 D doc pm an cdv ct v1 v2 v3
    exact ⟨hk.to, fun r1 r2 => r1.append r2⟩
section
variable {P : Program} {w : World} {K : PySem.W.Frag} {mg : Str → Option Value} {base : Heap} {k n : Nat} {f : Addr} {ps ks : List Str} {R : DR} {es : List D} {dvs : List V}
theorem fnR_def (h : ∃ fd, FnOk P w K mg base (L2.CX P w) k f fd ps (SpD K R) ∧ KwB K fd ps n ks dvs) (he : ∀ G, IsL K G es dvs) : FnR P w K mg base (L2.CX P w) k f (SpD K (Rdef es R)) := by
  obtain ⟨fd, F, ⟨ds, hv, hb⟩, _⟩ := h
  refine (F.raw hb hv).imp fun vs H Q E hs => ?_
  obtain ⟨G, O, xs, Post, wd, i, hr, kk⟩ := hs
  exact ⟨G, O, xs ++ es, Post, wd, i.append (he G), hr, kk⟩
/-- a def called with keywords -/
def FnK (P : Program) (w : World) (K : PySem.W.Frag) (mg : Str → Option Value) (base : Heap) (k : Nat) (f : Addr) (n : Nat) (ks : List Str) (sp : Sp) : Prop := ∃ fd ps, FnOk P w K mg base (L2.CX P w) k f fd ps sp ∧ KBn K fd ps n ks (fun us ws => us ++ ws) (fun vs zs => vs ++ zs)
theorem fnK_of {sp : Sp} (h : ∃ fd, FnOk P w K mg base (L2.CX P w) k f fd ps sp ∧ KwB K fd ps n ks dvs) : FnK P w K mg base k f n ks sp := by
  obtain ⟨fd, F, _, hk⟩ := h
  exact ⟨fd, ps, F, hk⟩
end
section
variable {X : Cx} {k n : Nat} {f C : Addr} {ks : List Str} {sp : Sp} {E : XK} {x : Str} {p pos : Pos} {e : Expr} {es : List Expr} {kws : List Keyword} {t tk : TA}
theorem pe_mkKw (M : L2.Mk X.K C f) (F : FnK X.prog X.w X.K X.mg X.base k f (n + 1) ks sp) (hr : Room (k + 1) X.A) (hg : Gl X x) (hm : X.mg x = some (.ref C)) (hx : Passes (L2.CX X.prog X.w) X E) (ha : PA X (e :: es) t) (hkw : PK X kws tk)
    (hall : (backToKw pos (keywordEach kws X.env)).all (·.1.isSome) = true := by rfl) (hks : (backToKw pos (keywordEach kws X.env)).filterMap (·.1) = ks := by rfl) (hdb : (x == ("__debug__" : Str)) = false := by decide)
    (he : starEach (e :: es) X.env = (false, eval e X.env) :: starEach es X.env := by rfl) (hpl : ((backTo pos (starEach (e :: es) X.env)).any (·.1) || (backToKw pos (keywordEach kws X.env)).any (·.1.isNone)) = false := by rfl) :
    L2.PE X (.Call (.Name x p) (e :: es) kws pos) (tMakeK C n ks.length sp (fun vs zs => vs ++ zs) E t tk) := by
  obtain ⟨fd, ps, F1, hb⟩ := F
  exact pe_makeK M F1 hr hg hm hb hx ha hkw hall hks hdb he hpl
end
section
variable {K : PySem.W.Frag} {δ : Sl} {O O1 O2 : Ow} {t tk : TA} {C : Addr} {ds zs : List D} {R : DR} {E : XK} {P : D → Ow → Prop} {n m : Nat}
theorem evp_mkKw (h : EvA K t δ O ds O1) (hk : EvA K tk δ O1 zs O2) (hn : ds.length = n) (hm : zs.length = m) (hr : ∀ x, O2 x = none → R (.ref x :: ds ++ zs) (setO O2 x (.ins C [] [])) fun d' O' => d' = .non ∧ P (.ref x) O') : EvP K (tMakeK C n m (SpD K R) (fun vs zs => vs ++ zs) E t tk) δ O P := fun G H σ w s Q k =>
  h G H σ w s _ fun vs G1 H1 s1 i1 => hk G1 H1 σ s1.wd (s.mono s1.ex) _ fun zs' G2 H2 s2 i2 => by
    refine ⟨by rw [← i1.length]; exact hn, by rw [← i2.length]; exact hm, fun x dx hx hdx ne => ?_⟩
    have s12 := s1.trans s2
    have hxd : (upd H2 dx (.own x)) x = none := by rw [upd_ne (Ne.symm ne)]; exact hx
    have st1 := Stp.newF (o := .own x) s12.wd hdx
    have st2 := Stp.newO (o := .ins C dx []) (m := .ins C [] []) st1.wd hxd ⟨dx, [], upd_same, rfl, rfl⟩
    have e12 := (st1.trans st2).ex
    refine sp_run (ds := .ref x :: ds ++ zs) st2.wd (IsL.append (ds := .ref x :: ds) ⟨_, _, rfl, rfl, i1.mono (s2.ex.trans e12)⟩ (i2.mono e12)) (hr x (s12.wd.oNone hx)) fun d O' v G' H' hp st iv => ?_
    obtain ⟨rfl, hp⟩ := hp
    exact ⟨iv, k (.ref x) O' _ G' H' hp (s12.trans ((st1.trans st2).trans st)) rfl⟩
theorem evp_propP {te : TE} (h : EvP K te δ O fun d O1 => ∃ p nm ds, d = .ref p ∧ O1 p = some (.ins C nm ds) ∧ R [.ref p] O1 P) : EvP K (tPropR C (SpD K R) E te) δ O P := fun G H σ w s Q k =>
  h G H σ w s _ fun d O1 v G1 H1 hh s1 i1 => by
    obtain ⟨p, nm, ds, rfl, ho, hr⟩ := hh
    have i1 : v = .ref p := i1
    subst i1
    obtain ⟨_, dx, xs, e, _, _⟩ := s1.wd.own p _ ho
    exact ⟨p, dx, _, rfl, e, sp_run (ds := [.ref p]) s1.wd ⟨_, _, rfl, rfl, rfl⟩ hr fun d O' v G' H' hp st iv => k d O' v G' H' hp (s1.trans st) iv⟩
end
end DL

set_option Elab.async false
set_option linter.all false
set_option maxRecDepth 100000
set_option maxHeartbeats 2000000
/-! match x: case ["word", a, b, *c]: .. over a tuple -/
namespace DL
open PySem PySem.Spec PySem.W L2
open PyProof.Rows hiding St
/-- slots stored from the left -/
def setS : L2.St → List Nat → List V → L2.St
  | σ, j :: js, v :: vs => setS (σ.set j (some v)) js vs
  | σ, _, _ => σ
/-- the cases of a match for a subject x -/
structure PCs (X : Cx) (cs : List MatchCase) (tc : V → TS) : Prop where
  run : ∀ (pins : List (Addr × Obj)) (s : Shared) (σ : L2.St) (H : Hp) (D : Ends) (x : V) (u : Value) (first : Bool), Inv X pins σ H s → RelV x u → tc x D σ H → wpAny (model X.prog X.w) X.A (matchCases cs X.env u first) (SP X pins D) X.xe s
variable {X : Cx}
theorem pcs_nil : PCs X [] (fun _ D σ H => D.nx σ H) := ⟨fun pins s σ H D x u first I r h => wpAny_matchCases_nil ⟨σ, H, I, h⟩⟩
theorem ps_match {e : Expr} {cs : List MatchCase} {pos : Pos} {te : TE} {tc : V → TS} (he : L2.PE X e te) (hc : PCs X cs tc) : PS X (.Match e cs pos) (fun D σ H => te σ H fun x H1 => tc x D σ H1) :=
  ⟨fun pins s σ H D I h => wpAny_Match (thn (he.run pins s σ H _ I h) fun u s1 ⟨x, H1, I1, r, q⟩ => hc.run pins s1 σ H1 D x u true I1 r q)⟩
/-- names captured one by one -/
inductive Caps (X : Cx) : List Pattern → List Str → List Nat → Prop
  | nil : Caps X [] [] []
  | cons {n : Str} {pos : Pos} {ps : List Pattern} {ns : List Str} {js : List Nat} (j : Nat) (hi : X.N[j]? = some n) (hx : Loc X.env.scope n) (hf : X.fn n = true ∨ X.env.scope.names.lookup n = some .local) (t : Caps X ps ns js) : Caps X (.MatchAs none (some n) pos :: ps) (n :: ns) (j :: js)
theorem Caps.len {ps : List Pattern} {ns : List Str} {js : List Nat} (c : Caps X ps ns js) : ns.length = ps.length ∧ js.length = ps.length := by
  induction c with
  | nil => exact ⟨rfl, rfl⟩
  | cons _ _ _ _ _ ih => exact ⟨by rw [List.length_cons, List.length_cons, ih.1], by rw [List.length_cons, List.length_cons, ih.2]⟩
theorem Caps.each {M : Model} {A : Around} {E : Value → Shared → Prop} {s : Shared} {env : Env} {Q : Option (List (Str × Value)) → Shared → Prop} {ps : List Pattern} {ns : List Str} {js : List Nat} (c : Caps X ps ns js) {more : List Pattern} : ∀ {us ws : List Value}, us.length = ps.length →
    wpAny M A (matchEach more env ws) (fun r s' => match r with | none => Q none s' | some bs => Q (some (ns.zip us ++ bs)) s') E s → wpAny M A (matchEach (ps ++ more) env (us ++ ws)) Q E s := by
  induction c generalizing Q with
  | nil =>
    intro us ws hl h
    have : us = [] := List.eq_nil_of_length_eq_zero hl
    subst this
    refine wpAny_mono h (fun r s' hq => ?_) fun _ _ z => z
    cases r <;> exact hq
  | @cons n pos ps ns js j hi hx hf t ih =>
    intro us ws hl h
    cases us with
    | nil => cases hl
    | cons u us =>
      have hl : us.length = ps.length := by simpa using hl
      refine wpAny_matchEach_cons (wpAny_matchPattern_Capture ?_)
      refine ih (Q := fun r' s₂ => match r' with | none => Q none s₂ | some more => Q (some ((Option.map (fun x => (x, u)) (some n)).toList ++ more)) s₂) hl (wpAny_mono h (fun r s' hq => ?_) fun _ _ z => z)
      cases r <;> exact hq
theorem Caps.bindM {pins : List (Addr × Obj)} {H : Hp} {Q : Unit → Shared → Prop} {ps : List Pattern} {ns : List Str} {js : List Nat} (hN : X.N.Nodup) (c : Caps X ps ns js) (more : List (Str × Value)) : ∀ {us : List Value} {vs : List V} {s : Shared} {σ : L2.St}, us.length = ps.length → Vals vs us → Inv X pins σ H s → (∀ s', Inv X pins (setS σ js vs) H s' → wpAny (model X.prog X.w) X.A (assignInOrder (more.map fun p => bindName X.env p.1) (more.map (·.2))) Q X.xe s') →
    wpAny (model X.prog X.w) X.A (assignInOrder ((ns.zip us ++ more).map fun p => bindName X.env p.1) ((ns.zip us ++ more).map (·.2))) Q X.xe s := by
  induction c with
  | nil =>
    intro us vs s σ hl r I k
    have : us = [] := List.eq_nil_of_length_eq_zero hl
    subst this
    cases r
    exact k s I
  | @cons n pos ps ns js j hi hx hf t ih =>
    intro us vs s σ hl r I k
    cases us with
    | nil => cases hl
    | cons u us =>
      cases r with
      | @cons v _ vs _ rv rt =>
        have hl : us.length = ps.length := by simpa using hl
        exact wpAny_assignInOrder_more (wpAny_bindName (store_ok I hN hi hx rv (fun s' I' => ih hl rt I' k) hf))
theorem Caps.bind {pins : List (Addr × Obj)} {H : Hp} {Q : Unit → Shared → Prop} {ps : List Pattern} {ns : List Str} {js : List Nat} (hN : X.N.Nodup) (c : Caps X ps ns js) {us : List Value} {vs : List V} {s : Shared} {σ : L2.St} (hl : us.length = ps.length) (r : Vals vs us) (I : Inv X pins σ H s) (k : ∀ s', Inv X pins (setS σ js vs) H s' → Q () s') :
    wpAny (model X.prog X.w) X.A (assignInOrder ((ns.zip us).map fun p => bindName X.env p.1) ((ns.zip us).map (·.2))) Q X.xe s := by
  have := c.bindM (Q := Q) hN [] hl r I fun s' I' => wpAny_assignInOrder_none (k s' I')
  rwa [List.append_nil] at this
/-- "word" at the front -/
theorem word_each {pins : List (Addr × Obj)} {σ : L2.St} {H : Hp} {s : Shared} {w0 : Str} {k0 : Nat} {vp pp : Pos} {more : List Pattern} {ws : List Value} {u : Value} {z : Str} {Q : Option (List (Str × Value)) → Shared → Prop} (I : Inv X pins σ H s) (hz : RelV (.str z) u)
    (h : ∀ s', Inv X pins σ H s' → if z = w0 then wpAny (model X.prog X.w) X.A (matchEach more X.env ws) Q X.xe s' else Q none s') :
    wpAny (model X.prog X.w) X.A (matchEach (.MatchValue (.Constant (.str w0) k0 vp) pp :: more) X.env (u :: ws)) Q X.xe s := by
  refine wpAny_matchEach_cons (wpAny_matchPattern_Value ?_)
  refine thn ((pe_str (X := X) (x := w0) (j := k0) (pos := vp)).run pins s σ H (fun x H' => x = .str w0 ∧ H' = H) I ⟨rfl, rfl⟩) fun v s1 ⟨x, H1, I1, rx, e1, e2⟩ => ?_
  subst e1 e2
  refine thn (op_eq (X := X) pins s1 σ H1 (.str z) (.str w0) u v (fun y H' => y = .bl (decide (z = w0)) ∧ H' = H1) I1 hz rx ⟨rfl, by rw [show decide (V.str z = V.str w0) = decide (z = w0) from decide_eq_decide.mpr ⟨fun h => V.str.inj h, fun h => by rw [h]⟩], rfl⟩) fun v2 s2 ⟨y, H2, I2, ry, e1, e2⟩ => ?_
  subst e1 e2
  cases ry
  refine wpAny_truthy_bool ?_
  have hh := h s2 I2
  by_cases q : z = w0
  · rw [if_pos q] at hh
    rw [decide_eq_true q]
    show wpAny _ _ _ _ _ _
    refine wpAny_mono hh (fun r s' hq => ?_) fun _ _ e => e
    cases r <;> exact hq
  · rw [if_neg q] at hh
    rw [decide_eq_false q]
    exact hh
theorem Caps.nostar {ps : List Pattern} {ns : List Str} {js : List Nat} (c : Caps X ps ns js) : ∀ p ∈ ps, p.isStar = false := by
  induction c with
  | nil => intro p hp; cases hp
  | cons _ _ _ _ _ ih =>
    intro p hp
    rcases List.mem_cons.mp hp with rfl | hp
    · rfl
    · exact ih p hp
theorem small63 {n : Nat} (h : n ≤ sizeLine) : ((n : Nat) : Int) < 2 ^ 63 := by
  have : sizeLine = 16777216 := by decide
  omega
/-- case ["word", a, b, ..] -/
theorem pcs_word {w0 : Str} {k0 : Nat} {vp pp sp : Pos} {caps : List Pattern} {ns : List Str} {js : List Nat} {body : List Stmt} {rest : List MatchCase} {tb : TS} {tr : V → TS} (hN : X.N.Nodup) (hc : X.calm = true) (hcap : Caps X caps ns js) (hb : PSs X body tb) (hr : PCs X rest tr) :
    PCs X (⟨.MatchSequence (.MatchValue (.Constant (.str w0) k0 vp) pp :: caps) sp, none, body⟩ :: rest) (fun x D σ H => ∃ a z xs, x = .ref a ∧ SqT X.K H a (.str z :: xs) ∧ if xs.length = caps.length ∧ z = w0 then tb D (setS σ js xs) H else tr x D σ H) := by
  refine ⟨fun pins s σ H D x u first I r h => ?_⟩
  obtain ⟨a, z, xs, rfl, hq, h⟩ := h
  obtain rfl : u = Value.ref a := r
  obtain ⟨its, rv, ht, hsz⟩ := I.tuple hq
  cases rv with
  | @cons _ uz _ us rz rs =>
  have hlen : xs.length = us.length := rs.length
  have hfit : (((uz :: us).toArray.size : Nat) : Int) < 2 ^ 63 := small63 (by rw [List.size_toArray, List.length_cons, ← hlen]; exact hsz)
  refine wpAny_matchCases_cons ?_
  have hst : (Pattern.MatchValue (.Constant (.str w0) k0 vp) pp :: caps).findIdx? (·.isStar) = none := List.findIdx?_eq_none_iff.mpr fun p hp => by
    rcases List.mem_cons.mp hp with rfl | hp
    · rfl
    · exact hcap.nostar p hp
  by_cases hl : xs.length = caps.length
  · refine matchSeq_tuple_hit ht hfit (by rw [List.size_toArray, List.length_cons, List.length_cons, ← hlen, hl]) ?_ hst rfl
    have hn : (Pattern.MatchValue (.Constant (.str w0) k0 vp) pp :: caps).length = (uz :: us).toArray.size := by rw [List.size_toArray, List.length_cons, List.length_cons, ← hlen, hl]
    rw [hn]
    have It : Inv X pins σ H { s with toks := s.toks + 1 + 1 } := I.tok _
    refine unpackItems_tuple (I.ok.hd hc) ht fun h' hx => ?_
    have I1 : Inv X pins σ H { s with heap := h', toks := s.toks + 1 + 1 } := I.kept fun b o e => hx b o (Nat.ne_of_lt (Heap.lt_size e)) e
    refine word_each I1 rz fun s' I' => ?_
    by_cases hw : z = w0
    · rw [if_pos hw]
      rw [if_pos ⟨hl, hw⟩] at h
      have hus : us.length = caps.length := by rw [← hlen]; exact hl
      have := hcap.each (X := X) (M := model X.prog X.w) (A := X.A) (E := X.xe) (s := s') (env := X.env) (more := []) (us := us) (ws := []) (Q := fun r s₁ => match (match r with | none => none | some more => some ([] ++ more) : Option (List (Str × Value))) with
        | none => wpAny (model X.prog X.w) X.A (matchCases rest X.env (Value.ref a) false) (SP X pins D) X.xe s₁
        | some bs => wpAny (model X.prog X.w) X.A (assignInOrder (bs.map fun (n, _) => bindName X.env n) (bs.map (·.2))) (fun _ s₂ => wpAny (model X.prog X.w) X.A (execs body X.env) (SP X pins D) X.xe s₂) X.xe s₁) hus (wpAny_matchEach_nil ?_)
      · rw [List.append_nil, List.append_nil] at this
        refine wpAny_mono this (fun r s₁ hq1 => ?_) fun _ _ e => e
        cases r <;> exact hq1
      · show wpAny _ _ (assignInOrder (([] ++ (ns.zip us ++ [])).map _) _) _ _ _
        rw [List.nil_append, List.append_nil]
        exact hcap.bind hN hus rs I' fun s₂ I₂ => hb.run pins s₂ _ H D I₂ h
    · rw [if_neg hw]
      rw [if_neg (fun q => hw q.2)] at h
      exact hr.run pins s' σ H D (.ref a) (.ref a) false I' rfl h
  · rw [if_neg (fun q => hl q.1)] at h
    refine matchSeq_tuple_miss ht hfit (by rw [List.size_toArray, List.length_cons, List.length_cons, ← hlen]; omega) ?_ hst rfl
    exact hr.run pins _ σ H D (.ref a) (.ref a) false (I.tok _) rfl h
/-! ### a star at the end -/
theorem unpackStarT {prog : Program} {w : World} {A : Around} {E : Value → Shared → Prop} {s : Shared} {l : Addr} {items : Array Value} {n i : Nat} {Q : List Value → Shared → Prop} (tu : IsTup s.heap l items) (calm : A.handled = none) (hin : i < n) (hnz : n ≤ items.size + 1) (few : items.size ≤ 16384)
    (go : ∀ hp tk, Heap.ExtBut s.heap.objs.size s.heap hp → wpAny (model prog w) A (newList ((items.toList.drop i).take (items.size + 1 - n)) >>= fun d => pure (items.toList.take i ++ [d] ++ (items.toList.drop i).drop (items.size + 1 - n))) Q E { s with heap := hp, toks := tk }) :
    wpAny (model prog w) A (unpackItems (.ref l) n (some i)) Q E s := by
  have l0 : l < s.heap.objs.size := let ⟨_, z, _⟩ := tu; Heap.lt_size z
  have l1 : l ≠ s.heap.objs.size := Nat.ne_of_lt l0
  unfold unpackItems; refine wpAny_bind ?_; unfold notIterableAtAll
  refine wpAny_bind (wpAny_specialOf tu.typeIs slot_tuple_iter.lookup (wpAny_pure ?_)); simp only [Bool.false_eq_true, if_false]
  refine wpAny_bind (wpAny_holding (iter_tuple tu (wpAny_bind (wpAny_holding (draw_tuple l1 i 0 _ _ ⟨_, Heap.get?_push_size _ rfl, rfl, rfl⟩ (tu.push _) (by omega) fun g1 at1 same1 => ?_)))))
  have tu1 : IsTup g1 l items := (tu.push _).extBut same1.extBut l1
  rw [Nat.zero_add] at at1
  have t1 : (items.toList.take i).length = i := by simp; omega
  rw [List.drop_zero, if_neg (by rw [t1]; omega)]
  refine wpAny_bind (wpAny_holding (kun_collect (s := { s with heap := g1 }) (T := "tuple_iterator") (.inr (.inr (.inr rfl))) (Walks.tuple (A := A.in1) calm s.heap.objs.size l l1 items) (fun _ _ q => q.1.typeIs) (k := i) (by omega) ⟨at1, tu1⟩ (let ⟨_, z, _⟩ := at1; Heap.lt_size z) (let ⟨_, z, _⟩ := tu1; Heap.lt_size z) (fun g2 tk kept => ?_) (by rw [sizeLine_eq]; omega)))
  have t2 : (items.toList.drop i).length = items.size - i := by simp
  have t3 : (items.toList.drop i).length - (n - 1 - i) = items.size + 1 - n := by omega
  show wpAny _ _ (if (items.toList.drop i).length < n - 1 - i then _ else newList ((items.toList.drop i).take ((items.toList.drop i).length - (n - 1 - i))) >>= fun d => pure (items.toList.take i ++ [d] ++ (items.toList.drop i).drop ((items.toList.drop i).length - (n - 1 - i)))) _ _ _
  rw [if_neg (by omega), t3]
  exact go g2 tk fun b o hb e => kept b o hb (same1.extBut b o hb (Heap.get?_push_of_some _ e))
/-- case ["word", a, .., *c] -/
theorem pcs_star {w0 nm : Str} {k0 j0 : Nat} {vp pp sp mp : Pos} {caps : List Pattern} {ns : List Str} {js : List Nat} {body : List Stmt} {rest : List MatchCase} {tb : TS} {tr : V → TS} (hN : X.N.Nodup) (hc : X.calm = true) (hcap : Caps X caps ns js) (hi : X.N[j0]? = some nm) (hx : Loc X.env.scope nm) (hf : X.fn nm = true ∨ X.env.scope.names.lookup nm = some .local) (hb : PSs X body tb) (hr : PCs X rest tr) :
    PCs X (⟨.MatchSequence (.MatchValue (.Constant (.str w0) k0 vp) pp :: (caps ++ [.MatchStar (some nm) mp])) sp, none, body⟩ :: rest) (fun x D σ H => ∃ a z xs, x = .ref a ∧ SqT X.K H a (.str z :: xs) ∧ xs.length ≤ 10000 ∧ (xs.length < caps.length → tr x D σ H) ∧ (caps.length ≤ xs.length → ∀ L, H L = none → if z = w0 then tb D ((setS σ js (xs.take caps.length)).set j0 (some (.ref L))) (upd H L (.lst (xs.drop caps.length))) else tr x D σ (upd H L (.lst (xs.drop caps.length))))) := by
  refine ⟨fun pins s σ H D x u first I r h => ?_⟩
  obtain ⟨a, z, xs, rfl, hq, hfew, h0, h⟩ := h
  obtain rfl : u = Value.ref a := r
  obtain ⟨its, rv, ht, hsz⟩ := I.tuple hq
  cases rv with
  | @cons _ uz _ us rz rs =>
  have hlen : xs.length = us.length := rs.length
  have hsize : (uz :: us).toArray.size = xs.length + 1 := by rw [List.size_toArray, List.length_cons, ← hlen]
  have hfit : (((uz :: us).toArray.size : Nat) : Int) < 2 ^ 63 := small63 (by rw [hsize]; exact hsz)
  refine wpAny_matchCases_cons ?_
  have hpl : (Pattern.MatchValue (.Constant (.str w0) k0 vp) pp :: (caps ++ [Pattern.MatchStar (some nm) mp])).length = caps.length + 2 := by simp
  have hst : (Pattern.MatchValue (.Constant (.str w0) k0 vp) pp :: (caps ++ [Pattern.MatchStar (some nm) mp])).findIdx? (·.isStar) = some (caps.length + 1) := by
    rw [List.findIdx?_eq_some_iff_getElem]
    refine ⟨by simp, by simp [Pattern.isStar], fun j hj => ?_⟩
    cases j with
    | zero => simp [Pattern.isStar]
    | succ j =>
      have hj : j < caps.length := by omega
      have : (caps ++ [Pattern.MatchStar (some nm) mp])[j]'(by simp; omega) = caps[j] := List.getElem_append_left hj
      simp only [List.getElem_cons_succ, this]
      rw [hcap.nostar _ (List.getElem_mem hj)]; simp
  by_cases hl : xs.length < caps.length
  · refine kun_fewT ht hfit hst (by rw [hpl]; omega) (by rw [hsize, hpl]; omega) ?_
    exact hr.run pins _ σ H D (.ref a) (.ref a) false (I.tok _) rfl (h0 hl)
  · have hl : caps.length ≤ xs.length := by omega
    refine kun_seqT ht hfit hst rfl ?_ (by rw [hpl]; omega) (by rw [hsize, hpl]; omega) ?_
    · have : (Pattern.MatchValue (.Constant (.str w0) k0 vp) pp :: (caps ++ [Pattern.MatchStar (some nm) mp]))[caps.length + 1]? = some (.MatchStar (some nm) mp) := by rw [List.getElem?_cons_succ, List.getElem?_append_right (Nat.le_refl _), Nat.sub_self]; rfl
      rw [this]; rfl
    rw [hpl]
    have It : Inv X pins σ H { s with toks := s.toks + 1 + 1 } := I.tok _
    refine unpackStarT ht (I.ok.hd hc) (by omega) (by rw [hsize]; omega) (by rw [hsize]; omega) fun hp tk hext => ?_
    have I1 : Inv X pins σ H { s with heap := hp, toks := tk } := I.kept fun b o e => hext b o (Nat.ne_of_lt (Heap.lt_size e)) e
    have e1 : ((uz :: us).toArray.toList.drop (caps.length + 1)).take ((uz :: us).toArray.size + 1 - (caps.length + 2)) = us.drop caps.length := by
      rw [hsize]
      show (us.drop caps.length).take _ = _
      exact List.take_of_length_le (by rw [List.length_drop]; omega)
    have e2 : ((uz :: us).toArray.toList.drop (caps.length + 1)).drop ((uz :: us).toArray.size + 1 - (caps.length + 2)) = [] := by
      rw [hsize]
      show (us.drop caps.length).drop _ = _
      exact List.drop_of_length_le (by rw [List.length_drop]; omega)
    have e3 : (uz :: us).toArray.toList.take (caps.length + 1) = uz :: us.take caps.length := rfl
    rw [e1, e2, e3]
    have hL : H hp.objs.size = none := I1.hok.fresh (Nat.le_refl _)
    refine wpAny_bind (wpAny_newList ?_ (by rw [List.length_drop, ← hlen, sizeLine_eq]; omega))
    refine wpAny_pure ?_
    have I2 : Inv X pins σ (upd H hp.objs.size (.lst (xs.drop caps.length))) { s with heap := hp.push { cls := .type "list", data := .seq (us.drop caps.length).toArray }, toks := tk } :=
      I1.laid (t' := tk) (fun b o e => Heap.get?_push_of_some _ e) (Nat.le_refl _) ⟨by rw [List.length_drop, sizeLine_eq]; omega, us.drop caps.length, 0, Vals.drop _ rs, Heap.get?_push_size _ rfl⟩
    have hh := h hl hp.objs.size hL
    rw [List.append_nil]
    show wpAny _ _ (matchEach (_ :: (caps ++ [_])) X.env (uz :: (us.take caps.length ++ [Value.ref hp.objs.size]))) _ _ _
    refine word_each I2 rz fun s' I' => ?_
    by_cases hw : z = w0
    · rw [if_pos hw]
      rw [if_pos hw] at hh
      have hus : (us.take caps.length).length = caps.length := by rw [List.length_take]; omega
      have := hcap.each (X := X) (M := model X.prog X.w) (A := X.A) (E := X.xe) (s := s') (env := X.env) (more := [.MatchStar (some nm) mp]) (us := us.take caps.length) (ws := [Value.ref hp.objs.size]) (Q := fun r s₁ => match (match r with | none => none | some more => some ([] ++ more) : Option (List (Str × Value))) with
        | none => wpAny (model X.prog X.w) X.A (matchCases rest X.env (Value.ref a) false) (SP X pins D) X.xe s₁
        | some bs => wpAny (model X.prog X.w) X.A (assignInOrder (bs.map fun (n, _) => bindName X.env n) (bs.map (·.2))) (fun _ s₂ => wpAny (model X.prog X.w) X.A (execs body X.env) (SP X pins D) X.xe s₂) X.xe s₁) hus (kun_each (wpAny_matchEach_nil ?_))
      · refine wpAny_mono this (fun r s₁ hq1 => ?_) fun _ _ e => e
        cases r <;> exact hq1
      · have hz : Vals (xs.take caps.length) (us.take caps.length) := Vals.take _ rs
        exact hcap.bindM hN [(nm, Value.ref hp.objs.size)] hus hz I' fun s₂ I₂ => wpAny_assignInOrder_more (wpAny_bindName (store_ok I₂ hN hi hx (v := .ref hp.objs.size) rfl (fun s₃ I₃ => wpAny_assignInOrder_none (hb.run pins s₃ _ _ D I₃ hh)) hf))
    · rw [if_neg hw]
      rw [if_neg hw] at hh
      exact hr.run pins s' σ _ D (.ref a) (.ref a) false I' rfl hh
end DL

set_option Elab.async false
set_option linter.all false
set_option maxRecDepth 100000
set_option maxHeartbeats 2000000
/-! match over data; o.m(a, b, *c) -/
namespace DL
open PySem PySem.Spec L2
open PyProof.Rows hiding St
def setSD : Sl → List Nat → List D → Sl
  | δ, j :: js, d :: ds => setSD (δ.set j (some d)) js ds
  | δ, _, _ => δ
theorem setS_is {K : PySem.W.Frag} {G : Hp} : ∀ {js : List Nat} {ds : List D} {vs : List V} {δ : Sl} {σ : L2.St}, SlIs K G δ σ → IsL K G ds vs → SlIs K G (setSD δ js ds) (setS σ js vs) := by
  intro js
  induction js with
  | nil =>
    intro ds vs δ σ s h
    have e1 : setSD δ [] ds = δ := by cases ds <;> rfl
    have e2 : setS σ [] vs = σ := by cases vs <;> rfl
    rw [e1, e2]; exact s
  | cons j js ih =>
    intro ds vs δ σ s h
    cases ds with
    | nil =>
      have : vs = [] := h
      subst this
      exact s
    | cons d ds =>
      obtain ⟨v, r, rfl, a, b⟩ := h
      exact ih (s.set a) b
/-- the cases of a match, at a datum -/
def Mc (K : PySem.W.Frag) (tc : V → TS) (P : DE) (x : D) (δ : Sl) (O : Ow) : Prop := ∀ G H σ v (D : Ends), Wd K G O H → SlIs K G δ σ → Is K G x v → Real K P D G O H → tc v D σ H
def McX (K : PySem.W.Frag) (W : WX) (tc : V → TS) (P : DE) (XP : Sl → XD → Ow → Prop) (x : D) (δ : Sl) (O : Ow) : Prop := ∀ G H σ v (D : Ends), Wd K G O H → SlIs K G δ σ → Is K G x v → Real K P D G O H → RealX K W XP G O H → tc v D σ H
section
variable {K : PySem.W.Frag} {W : WX} {XP : Sl → XD → Ow → Prop} {P : DE} {δ : Sl} {O O1 : Ow} {x : D} {te : TE} {tc tr : V → TS} {tb : TS} {z w0 : Str} {ds : List D} {js : List Nat} {n j0 : Nat}
theorem sd_match (h : Ev K te δ O x O1) (hc : Mc K tc P x δ O1) : Sd K (fun D σ H => te σ H fun x H1 => tc x D σ H1) P δ O := fun G H σ D w s r =>
  h G H σ w s _ fun v G1 H1 s1 i1 => hc G1 H1 σ v D s1.wd (s.mono s1.ex) i1 (r.step s1)
theorem sdx_match (h : Ev K te δ O x O1) (hc : McX K W tc P XP x δ O1) : SdX K W (fun D σ H => te σ H fun x H1 => tc x D σ H1) P XP δ O := fun G H σ D w s r rx =>
  h G H σ w s _ fun v G1 H1 s1 i1 => hc G1 H1 σ v D s1.wd (s.mono s1.ex) i1 (r.step s1) (rx.step s1)
theorem mc_nil (h : P.nx δ O) : Mc K (fun _ D σ H => D.nx σ H) P x δ O := fun G H σ v D w s _ r => r.nx δ O G H σ h (Stp.refl w) s
theorem mcx_nil (h : P.nx δ O) : McX K W (fun _ D σ H => D.nx σ H) P XP x δ O := fun G H σ v D w s _ r _ => r.nx δ O G H σ h (Stp.refl w) s
theorem tup_at {G H : Hp} {v : V} (w : Wd K G O H) (i : Is K G (.tup (.str z :: ds)) v) : ∃ a xs, v = .ref a ∧ SqT K H a (.str z :: xs) ∧ IsL K G ds xs := by
  obtain ⟨a, ys, rfl, e, y, r, rfl, iy, ir⟩ := i
  have iy : y = .str z := iy
  subst iy
  exact ⟨a, r, rfl, .inl (.inl (w.sub _ _ e)), ir⟩
theorem mc_wordY (hl : ds.length = n) (hw : z = w0) (h : Sd K tb P (setSD δ js ds) O) : Mc K (fun x D σ H => ∃ a z xs, x = .ref a ∧ SqT K H a (.str z :: xs) ∧ if xs.length = n ∧ z = w0 then tb D (setS σ js xs) H else tr x D σ H) P (.tup (.str z :: ds)) δ O := fun G H σ v D w s i r => by
  obtain ⟨a, xs, rfl, hq, ix⟩ := tup_at w i
  refine ⟨a, z, xs, rfl, hq, ?_⟩
  rw [if_pos ⟨by rw [← ix.length]; exact hl, hw⟩]
  exact h G H _ D w (setS_is s ix) r
theorem mc_wordN (hn : ¬ (ds.length = n ∧ z = w0)) (h : Mc K tr P (.tup (.str z :: ds)) δ O) : Mc K (fun x D σ H => ∃ a z xs, x = .ref a ∧ SqT K H a (.str z :: xs) ∧ if xs.length = n ∧ z = w0 then tb D (setS σ js xs) H else tr x D σ H) P (.tup (.str z :: ds)) δ O := fun G H σ v D w s i r => by
  obtain ⟨a, xs, rfl, hq, ix⟩ := tup_at w i
  refine ⟨a, z, xs, rfl, hq, ?_⟩
  rw [if_neg (by rw [← ix.length]; exact hn)]
  exact h G H σ _ D w s i r
theorem mcx_wordY (hl : ds.length = n) (hw : z = w0) (h : SdX K W tb P XP (setSD δ js ds) O) : McX K W (fun x D σ H => ∃ a z xs, x = .ref a ∧ SqT K H a (.str z :: xs) ∧ if xs.length = n ∧ z = w0 then tb D (setS σ js xs) H else tr x D σ H) P XP (.tup (.str z :: ds)) δ O := fun G H σ v D w s i r rx => by
  obtain ⟨a, xs, rfl, hq, ix⟩ := tup_at w i
  refine ⟨a, z, xs, rfl, hq, ?_⟩
  rw [if_pos ⟨by rw [← ix.length]; exact hl, hw⟩]
  exact h G H _ D w (setS_is s ix) r rx
theorem mcx_wordN (hn : ¬ (ds.length = n ∧ z = w0)) (h : McX K W tr P XP (.tup (.str z :: ds)) δ O) : McX K W (fun x D σ H => ∃ a z xs, x = .ref a ∧ SqT K H a (.str z :: xs) ∧ if xs.length = n ∧ z = w0 then tb D (setS σ js xs) H else tr x D σ H) P XP (.tup (.str z :: ds)) δ O := fun G H σ v D w s i r rx => by
  obtain ⟨a, xs, rfl, hq, ix⟩ := tup_at w i
  refine ⟨a, z, xs, rfl, hq, ?_⟩
  rw [if_neg (by rw [← ix.length]; exact hn)]
  exact h G H σ _ D w s i r rx
/-- the case with a star: taken -/
theorem mc_starY (hl : n ≤ ds.length) (hz : ds.length ≤ 10000) (hw : z = w0) (h : Sd K tb P ((setSD δ js (ds.take n)).set j0 (some (.lst (ds.drop n)))) O) :
    Mc K (fun x D σ H => ∃ a z xs, x = .ref a ∧ SqT K H a (.str z :: xs) ∧ xs.length ≤ 10000 ∧ (xs.length < n → tr x D σ H) ∧ (n ≤ xs.length → ∀ L, H L = none → if z = w0 then tb D ((setS σ js (xs.take n)).set j0 (some (.ref L))) (upd H L (.lst (xs.drop n))) else tr x D σ (upd H L (.lst (xs.drop n))))) P (.tup (.str z :: ds)) δ O := fun G H σ v D w s i r => by
  obtain ⟨a, xs, rfl, hq, ix⟩ := tup_at w i
  refine ⟨a, z, xs, rfl, hq, by rw [← ix.length]; exact hz, fun q => absurd hl (by rw [ix.length]; omega), fun _ L hL => ?_⟩
  rw [if_pos hw]
  have st := Stp.new (o := .lst (xs.drop n)) w hL
  exact h _ _ _ D st.wd ((setS_is (s.mono st.ex) ((ix.mono st.ex).take n)).set ⟨L, _, rfl, upd_same, (ix.mono st.ex).drop n⟩) (r.step st)
theorem mc_starN (hz : ds.length ≤ 10000) (hw : z ≠ w0) (h : Mc K tr P (.tup (.str z :: ds)) δ O) :
    Mc K (fun x D σ H => ∃ a z xs, x = .ref a ∧ SqT K H a (.str z :: xs) ∧ xs.length ≤ 10000 ∧ (xs.length < n → tr x D σ H) ∧ (n ≤ xs.length → ∀ L, H L = none → if z = w0 then tb D ((setS σ js (xs.take n)).set j0 (some (.ref L))) (upd H L (.lst (xs.drop n))) else tr x D σ (upd H L (.lst (xs.drop n))))) P (.tup (.str z :: ds)) δ O := fun G H σ v D w s i r => by
  obtain ⟨a, xs, rfl, hq, ix⟩ := tup_at w i
  refine ⟨a, z, xs, rfl, hq, by rw [← ix.length]; exact hz, fun _ => h G H σ _ D w s i r, fun _ L hL => ?_⟩
  rw [if_neg hw]
  have st := Stp.new (o := .lst (xs.drop n)) w hL
  exact h _ _ σ _ D st.wd (s.mono st.ex) (i.mono st.ex) (r.step st)
theorem mcx_starY (hl : n ≤ ds.length) (hz : ds.length ≤ 10000) (hw : z = w0) (h : SdX K W tb P XP ((setSD δ js (ds.take n)).set j0 (some (.lst (ds.drop n)))) O) :
    McX K W (fun x D σ H => ∃ a z xs, x = .ref a ∧ SqT K H a (.str z :: xs) ∧ xs.length ≤ 10000 ∧ (xs.length < n → tr x D σ H) ∧ (n ≤ xs.length → ∀ L, H L = none → if z = w0 then tb D ((setS σ js (xs.take n)).set j0 (some (.ref L))) (upd H L (.lst (xs.drop n))) else tr x D σ (upd H L (.lst (xs.drop n))))) P XP (.tup (.str z :: ds)) δ O := fun G H σ v D w s i r rx => by
  obtain ⟨a, xs, rfl, hq, ix⟩ := tup_at w i
  refine ⟨a, z, xs, rfl, hq, by rw [← ix.length]; exact hz, fun q => absurd hl (by rw [ix.length]; omega), fun _ L hL => ?_⟩
  rw [if_pos hw]
  have st := Stp.new (o := .lst (xs.drop n)) w hL
  exact h _ _ _ D st.wd ((setS_is (s.mono st.ex) ((ix.mono st.ex).take n)).set ⟨L, _, rfl, upd_same, (ix.mono st.ex).drop n⟩) (r.step st) (rx.step st)
theorem mcx_starN (hz : ds.length ≤ 10000) (hw : z ≠ w0) (h : McX K W tr P XP (.tup (.str z :: ds)) δ O) :
    McX K W (fun x D σ H => ∃ a z xs, x = .ref a ∧ SqT K H a (.str z :: xs) ∧ xs.length ≤ 10000 ∧ (xs.length < n → tr x D σ H) ∧ (n ≤ xs.length → ∀ L, H L = none → if z = w0 then tb D ((setS σ js (xs.take n)).set j0 (some (.ref L))) (upd H L (.lst (xs.drop n))) else tr x D σ (upd H L (.lst (xs.drop n))))) P XP (.tup (.str z :: ds)) δ O := fun G H σ v D w s i r rx => by
  obtain ⟨a, xs, rfl, hq, ix⟩ := tup_at w i
  refine ⟨a, z, xs, rfl, hq, by rw [← ix.length]; exact hz, fun _ => h G H σ _ D w s i r rx, fun _ L hL => ?_⟩
  rw [if_neg hw]
  have st := Stp.new (o := .lst (xs.drop n)) w hL
  exact h _ _ σ _ D st.wd (s.mono st.ex) (i.mono st.ex) (r.step st) (rx.step st)
end
/-! ### o.m(a, b, *c) -/
section
variable {X : Cx} {CX : CXT} {k : Nat} {C g : Addr} {m : Str} {sp : Sp} {E : XK} {o e1 e2 e3 : Expr} {ta t1 t2 t3 : TE} {p apos pos : Pos}
theorem starcall3 {M : Model} {A : Around} {Ex : Value → Shared → Prop} {s : Shared} {env : Env} {Q : Value → Shared → Prop} (base : attributeBase o m env (eval o env) = eval o env)
    (each : starEach [e1, e2, .Starred e3 p] env = [(false, eval e1 env), (false, eval e2 env), (true, eval e3 env)])
    (h : wpAny M A (eval o env) (fun ov s₁ => wpAny M A (getAttr ov m true) (fun f s₂ => wpAny M A (callWith pos f [] (backTo pos [(false, eval e1 env), (false, eval e2 env), (true, eval e3 env)]) []) Q Ex s₂) Ex s₁) Ex s) :
    wpAny M A (eval (.Call (.Attribute o m apos) [e1, e2, .Starred e3 p] [] pos) env) Q Ex s := by
  have f1 : backToKw pos (keywordEach [] env) = [] := rfl
  have f2 : methodCallForm ([e1, e2, Expr.Starred e3 p].length + ([] : List Keyword).length) (backTo pos [(false, eval e1 env), (false, eval e2 env), (true, eval e3 env)]) [] = false := rfl
  have f3 : methodCallPos false o env apos pos = pure pos := rfl
  have f4 : ∀ ov, calleeOf false o env ov m = (getAttr ov m true >>= fun v => pure (v, [])) := fun _ => rfl
  rw [arm_eval_Call, base, each, f1]
  refine wpAny_bind (wpAny_mono h (fun ov s₁ h₁ => wpAny_bind (wpAny_standAt ?_)) fun _ _ z => z)
  unfold methodCall; rw [f2, f3, f4]
  exact wpAny_bind (wpAny_holding (wpAny_bind (wpAny_mono h₁ (fun f s₂ h₂ => wpAny_pure (wpAny_bind (wpAny_pure h₂))) fun _ _ z => z)))
def tMethS3 (K : PySem.W.Frag) (C : Addr) (m : Str) (g : Addr) (sp : Sp) (E : XK) (ta t1 t2 t3 : TE) : TE := fun σ H Q => ta σ H fun x H1 => ∃ a dx fs, x = .ref a ∧ H1 a = some (.ins C dx fs) ∧ fs.lookup m = none ∧
  ∀ q, H1 q = none → t1 σ (upd H1 q (.met g a)) fun y1 H2 => t2 σ H2 fun y2 H3 => t3 σ H3 fun y3 H4 => ∃ b vs, y3 = .ref b ∧ (SqT K H4 b vs ∨ SqL K H4 b vs) ∧ H4 q = some (.met g a) ∧ sp (.ref a :: y1 :: y2 :: vs) H4 Q E
theorem pe_methS3 (K : PySem.W.Frag) (he : L2.PE X o ta) (c : Cls X.K C) (b : BMeth X.K C m g) (F : FnR X.prog X.w X.K X.mg X.base CX k g sp) (hr : Room k X.A)
    (hx : Passes CX X E) (h1 : L2.PE X e1 t1) (h2 : L2.PE X e2 t2) (h3 : L2.PE X e3 t3) (hK : X.K = K := by rfl) (base : attributeBase o m X.env (eval o X.env) = eval o X.env := by rfl)
    (each : starEach [e1, e2, .Starred e3 p] X.env = [(false, eval e1 X.env), (false, eval e2 X.env), (true, eval e3 X.env)] := by rfl) : L2.PE X (.Call (.Attribute o m apos) [e1, e2, .Starred e3 p] [] pos) (tMethS3 K C m g sp E ta t1 t2 t3) := by
  subst hK
  refine ⟨fun pins s σ H Q I h => starcall3 base each (thn (he.run pins s σ H _ I h) fun u s1 ⟨x, H1, I1, rx, a, dx, fs, ex, ea, l, q⟩ => ?_)⟩
  subst ex
  obtain rfl : u = Value.ref a := rx
  refine getbound_ok I1 ea c b l fun q1 s2 hq1 I2 => PySem.W.ks_call (P := PySem.W.MethP X.K q1 g (.ref a)) rfl (PySem.W.keeps_M b.fi) (Calls.evalArgs_plain (Calls.spliced_cons (thn (h1.run pins s2 σ _ _ I2 (q q1 hq1)) fun v1 s3 ⟨y1, H2, I3, r1, q2⟩ =>
    Calls.spliced_cons (thn (h2.run pins s3 σ H2 _ I3 q2) fun v2 s4 ⟨y2, H3, I4, r2, q3⟩ => PySem.W.ks_spliced (thn (h3.run pins s4 σ H3 _ I4 q3) fun v3 s5 ⟨y3, H4, I5, r3, t, vs, ey, ht, hm, hsp⟩ => ?_)))))
  subst ey
  obtain rfl : v3 = Value.ref t := r3
  refine StX.star_any I5 ht fun us s6 I6 rv => Calls.spliced_nil ?_
  show PySem.W.MethP X.K q1 g (.ref a) s6.heap ∧ wpAny (model X.prog X.w) X.A (call (.ref q1) (v1 :: v2 :: (us ++ [])) []) (EP X pins σ Q) X.xe s6
  rw [List.append_nil]
  exact ⟨met_P I6 hm, wpAny_call (PySem.W.method_call (met_P I6 hm).1 (run_fnR (us := Value.ref a :: v1 :: v2 :: us) (vs := V.ref a :: y1 :: y2 :: vs) F hr hx I6 (.cons rfl (.cons r1 (.cons r2 rv))) hsp))⟩
end
end DL

set_option Elab.async false
set_option linter.all false
set_option maxRecDepth 100000
set_option maxHeartbeats 2000000
/-! lists of anything held against the empty list, `o.m(a, b, *c)`, fields among several targets -/
namespace DL
open PySem PySem.Spec L2
open PyProof.Rows hiding St
section
variable {X : Cx}
theorem pe_bmK (K : PySem.W.Frag) {T : String} {r : V → List V → Hp → VK → Prop} {c : Expr} {to : TE} {t : TA} (h : PE X c (tBM X.K T r to t)) (hK : X.K = K := by rfl) : PE X c (tBM K T r to t) := hK ▸ h
def rNil (K : PySem.W.Frag) : R2 := fun x y H Q => ∃ l b xs, x = .ref l ∧ y = .ref b ∧ SqL K H l xs ∧ SqL K H b [] ∧ Q (.bl xs.isEmpty) H
theorem op_eqNil (K : PySem.W.Frag) (hu : X.A.units + 64 < cLine) (h : X.K = K := by rfl) : OpR X (compareOp .Eq) (rNil K) := by
  subst h
  intro pins s σ H x y v u Q I rx ry ⟨l, b, xs, ex, ey, hl, hb, q⟩
  subst ex ey
  cases (show v = Value.ref l from rx)
  cases (show u = Value.ref b from ry)
  obtain ⟨its, r, ⟨o, n, e, hc, _, hd⟩, _⟩ := I.list hl
  obtain ⟨jts, r2, ⟨o2, n2, e2, hc2, _, hd2⟩, _⟩ := I.list hb
  have il : s.heap.IsList l its.toArray := ⟨o, e, hc, n, hd⟩
  have ib : s.heap.IsList b jts.toArray := ⟨o2, e2, hc2, n2, hd2⟩
  have hj : jts = [] := by cases r2; rfl
  subst hj
  have hn := r.length
  cases xs with
  | nil =>
    have hi : its = [] := by cases r; rfl
    subst hi
    exact PySem.SeqAt.eq_listAt (e := fun _ => true) il ib rfl (by omega) (fun j h1 => absurd h1 (Nat.not_lt_zero j)) ⟨.bl true, H, I, rfl, q⟩
  | cons z zs =>
    refine PySem.SeqAt.eq_list_lengthsAt il ib ?_ (by omega) ⟨.bl false, H, I, rfl, q⟩
    cases r
    simp
end
section
variable {K : PySem.W.Frag} {δ : Sl} {O O1 O2 O3 O4 : Ow} {d x y z : D} {ta tb t1 t2 t3 : TE} {p q C g : Addr} {ds es : List D} {nm : List Str} {R : DR} {E : XK} {P : D → Ow → Prop} {N : Sl → Ow → Prop}
theorem delO_ne (h : q ≠ p) : delO O p q = O q := by unfold delO; rw [if_neg h]
theorem r_nil (hx : LstOf O x ds) (hy : LstOf O y []) : R2D K (rNil K) x y O (.bl ds.isEmpty) := fun G H v u w a b Q k => by
  have h1 : ∃ l xs, v = .ref l ∧ SqL K H l xs ∧ IsL K G ds xs := by
    rcases hx with rfl | ⟨p, rfl, ho⟩
    · obtain ⟨p, xs, rfl, e, t⟩ := a
      exact ⟨p, xs, rfl, .of (w.sub _ _ e), t⟩
    · have a : v = .ref p := a
      subst a
      obtain ⟨_, xs, e, t⟩ := w.own p _ ho
      exact ⟨p, xs, rfl, .of e, t⟩
  have h2 : ∃ l, u = .ref l ∧ SqL K H l [] := by
    rcases hy with rfl | ⟨p, rfl, ho⟩
    · obtain ⟨p, xs, rfl, e, t⟩ := b
      cases xs with
      | nil => exact ⟨p, rfl, .of (w.sub _ _ e)⟩
      | cons => cases t
    · have b : u = .ref p := b
      subst b
      obtain ⟨_, xs, e, t⟩ := w.own p _ ho
      cases xs with
      | nil => exact ⟨p, rfl, .of e⟩
      | cons => cases t
  obtain ⟨l, xs, rfl, hl, t⟩ := h1
  obtain ⟨b', rfl, hb⟩ := h2
  refine ⟨l, b', xs, rfl, rfl, hl, hb, k _ G H (Stp.refl w) ?_⟩
  have hn := t.length
  show V.bl _ = V.bl _
  cases ds <;> cases xs <;> simp_all
theorem gd_fldS {f : Str} {j : Nat} (h1 : Ev K ta δ O (.ref p) O2) (ho : O2 p = some (.ins C nm ds)) (c : Cls K C) (n : NoAttr K C f) (hf : nm[j]? = some f) (hk : ∀ k, k < j → nm[k]? ≠ some f) (hz : nm.length < 1000) (k : N δ (setO O2 p (.ins C nm (ds.set j d)))) : Gd K (gFld K ta f) d δ O N := fun G H σ v w s iv Q kk =>
  h1 G H σ w s _ fun u G1 H1 s1 i1 => by
    have i1 : u = .ref p := i1
    subst i1
    obtain ⟨_, dx, xs, e, hl, tl⟩ := s1.wd.own p _ ho
    refine ⟨p, C, dx, _, rfl, e, c, n, by rw [List.length_zip, hl, Nat.min_self]; exact hz, ?_⟩
    rw [putF_old hf hk hl]
    exact kk δ _ G1 _ σ k (s1.trans (Stp.write s1.wd ho ⟨dx, xs.set j v, upd_same, by simp [hl], tl.set j (iv.mono s1.ex)⟩)) (s.mono s1.ex)
/-- o.f = e, e by what it may give, the field there -/
theorem sd_fldSP {PE : DE} {tv : TE} {f : Str} (c : Cls K C) (n : NoAttr K C f) (h : EvP K tv δ O fun d O1 => ∃ O2 nm ds j, Ev K ta δ O1 (.ref p) O2 ∧ O2 p = some (.ins C nm ds) ∧ nm[j]? = some f ∧ (∀ k, k < j → nm[k]? ≠ some f) ∧ nm.length < 1000 ∧ PE.nx δ (setO O2 p (.ins C nm (ds.set j d)))) :
    Sd K (sFld K ta tv f) PE δ O := fun G H σ D w s r =>
  h G H σ w s _ fun d O1 v G1 H1 hh s1 i1 => by
    obtain ⟨O2, nm, ds, j, h1, ho, hf, hk, hz, k⟩ := hh
    refine h1 G1 H1 σ s1.wd (s.mono s1.ex) _ fun u G2 H2 s2 i2 => ?_
    have i2 : u = .ref p := i2
    subst i2
    obtain ⟨_, dx, xs, e, hl, t⟩ := s2.wd.own p _ ho
    refine ⟨p, C, dx, _, rfl, e, c, n, by rw [List.length_zip, hl, Nat.min_self]; exact hz, ?_⟩
    rw [putF_old hf hk hl]
    have st := Stp.write (o := .ins C dx (nm.zip (xs.set j v))) (m' := .ins C nm (ds.set j d)) s2.wd ho ⟨dx, _, upd_same, by simp [hl], t.set j (i1.mono s2.ex)⟩
    exact r.nx _ _ _ _ _ k ((s1.trans s2).trans st) (s.mono ((s1.ex.trans s2.ex).trans st.ex))
/-- o.m(a, b, *c): c a tuple or a list -/
theorem evp_methS3O {m : Str} (h : Ev K ta δ O (.ref p) O1) (ho : O1 p = some (.ins C nm ds)) (hm : m ∉ nm) (h1 : Ev K t1 δ O1 x O2) (h2 : Ev K t2 δ O2 y O3) (h3 : Ev K t3 δ O3 z O4) (hz : z = .tup es ∨ LstOf O4 z es) (hr : R (.ref p :: x :: y :: es) O4 P) :
    EvP K (tMethS3 K C m g (SpD K R) E ta t1 t2 t3) δ O P := fun G H σ w s Q k =>
  h G H σ w s _ fun v G1 H1 s1 i1 => by
    have i1 : v = .ref p := i1
    subst i1
    obtain ⟨_, dx, xs, e, _, _⟩ := s1.wd.own p _ ho
    refine ⟨p, dx, _, rfl, e, lookup_none (G := G) hm, fun q hq => ?_⟩
    have sb := Stp.newF (o := .met g p) s1.wd hq
    have hqo := s1.wd.oNone hq
    have hqg := s1.wd.gNone hq
    refine h1 G1 _ σ sb.wd (s.mono s1.ex) _ fun v1 G2 H2 s2 j1 => h2 G2 H2 σ s2.wd (s.mono (s1.ex.trans s2.ex)) _ fun v2 G3 H3 s3 j2 => h3 G3 H3 σ s3.wd (s.mono ((s1.ex.trans s2.ex).trans s3.ex)) _ fun v3 G4 H4 s4 j3 => ?_
    have st := (s2.trans s3).trans s4
    have hk : H4 q = some (.met g p) := st.keep q _ upd_same hqo
    have hv : ∃ b vs, v3 = .ref b ∧ (SqT K H4 b vs ∨ SqL K H4 b vs) ∧ IsL K G4 es vs := by
      rcases hz with rfl | rfl | ⟨p', rfl, ho'⟩
      · obtain ⟨p', xs, rfl, e, t⟩ := j3
        exact ⟨p', xs, rfl, .inl (.of (s4.wd.sub _ _ e)), t⟩
      · obtain ⟨p', xs, rfl, e, t⟩ := j3
        exact ⟨p', xs, rfl, .inr (.of (s4.wd.sub _ _ e)), t⟩
      · have j3 : v3 = .ref p' := j3
        subst j3
        obtain ⟨_, xs, e, t⟩ := s4.wd.own p' _ ho'
        exact ⟨p', xs, rfl, .inr (.of e), t⟩
    obtain ⟨b, vs, rfl, hb, t⟩ := hv
    refine ⟨b, vs, rfl, hb, hk, ?_⟩
    exact sp_run (ds := .ref p :: x :: y :: es) s4.wd ⟨_, _, rfl, rfl, _, _, rfl, j1.mono (s3.trans s4).ex, _, _, rfl, j2.mono s4.ex, t⟩ hr fun d O' v G' H' hp st' iv => k d O' v G' H' hp ((s1.trans (sb.trans st)).trans st') iv
end
end DL

set_option Elab.async false
set_option linter.all false
set_option maxRecDepth 100000
set_option maxHeartbeats 2000000
/-! list * int, owned from then on -/
namespace DL
open PySem PySem.Spec L2
open PyProof.Rows hiding St
/-- three positional parameters and a starred one -/
theorem bind3 {F : List Value → Sem (List (Str × Value))} {x1 x2 x3 xs : Str} (e : ∀ u v z, F [u, v, z] = (newTuple [] >>= fun t => pure [(x1, u), (x2, v), (x3, z), (xs, t)])) (f : ∀ u v z y ys, F (u :: v :: z :: y :: ys) = (newTuple (y :: ys) >>= fun t => pure [(x1, u), (x2, v), (x3, z), (xs, t)])) (us more : List Value) (hl : us.length = [x1, x2, x3].length) : F (us ++ more) = (newTuple more >>= fun t => pure ([x1, x2, x3].zip us ++ [(xs, t)])) := by
  match us, hl with
  | [u, v, z], _ =>
    cases more with
    | nil => exact e u v z
    | cons y ys => exact f u v z y ys
section
variable {K : PySem.W.Frag} {δ : Sl} {O O1 O2 : Ow} {ta tb : TE} {i : Int} {ds : List D} {P : D → Ow → Prop}
theorem evp_repO (ha : Ev K ta δ O (.lst ds) O1) (hb : Ev K tb δ O1 (.int i) O2) (h1 : -(2 ^ 63) ≤ i ∧ i < 2 ^ 63) (hl : ds.length * i.toNat ≤ 100000) (hp : ∀ p, O2 p = none → P (.ref p) (setO O2 p (.lst (List.replicate i.toNat ds).flatten))) : EvP K (tOp rRep ta tb) δ O P := fun G H σ w s Q k =>
  ha G H σ w s _ fun v G1 H1 s1 i1 => hb G1 H1 σ s1.wd (s.mono s1.ex) _ fun u G2 H2 s2 i2 => by
    obtain ⟨p, xs, rfl, e, t⟩ := i1.mono s2.ex
    exact ⟨p, i, xs, rfl, i2, s2.wd.sub _ _ e, h1.1, h1.2, by rw [← t.length]; exact sz hl, fun l hl => k _ _ _ _ _ (hp l (s2.wd.oNone hl)) ((s1.trans s2).trans (Stp.newO s2.wd hl ⟨_, upd_same, t.rep _⟩)) rfl⟩
end
end DL

set_option Elab.async false
set_option linter.all false
set_option maxRecDepth 100000
set_option maxHeartbeats 2000000
/-! is, is not of bools -/
namespace DL
open PySem PySem.Spec L2
open PyProof.Rows hiding St
section
variable {K : PySem.W.Frag} {O : Ow} {a b : Bool}
theorem r_isBl : R2D K rIsB (.bl a) (.bl b) O (.bl (decide (a = b))) := fun G H v u w h1 h2 Q k => by
  cases h1; cases h2
  exact ⟨a, b, rfl, rfl, k _ G H (Stp.refl w) rfl⟩
theorem r_notBl : R2D K rNotB (.bl a) (.bl b) O (.bl (!decide (a = b))) := fun G H v u w h1 h2 Q k => by
  cases h1; cases h2
  exact ⟨a, b, rfl, rfl, k _ G H (Stp.refl w) rfl⟩
end
end DL

set_option Elab.async false
set_option linter.all false
set_option maxRecDepth 100000
set_option maxHeartbeats 4000000
/-! raise C(k = e, ..): own exceptions with keyword-only parameters -/
namespace PySem
namespace DLX
open PySem.HandSPX PySem.W PySem.Calls PyProof.Rows PySem.Spec
section
variable {M : Model} {A : Around} {E : Value → Shared → Prop} {h : Heap} {g : Array GenState} {d : Drawn} {t : Nat} {os : OsState} {kw : List (Str × Value)} {us : List Value}
variable {nm q : Str} {C N : Addr} {bs bm bmB : List Value} {hdct : Bool} {sn : List Str} {sub : List Value} {ab : Bool} {col : Option Bool} {dd : Option Addr} {k0 k1 k2 k3 k5 : Option Value} {B nid iid : String}
/-- __new__ takes whatever keywords there are -/
theorem kwnew_check (F : ExcBaseFacts B nid iid bmB) (same : ∀ Y : String, bm.contains (.type Y) = bmB.contains (.type Y)) {Q : Unit → Shared → Prop}
    (lay : h.get? C = some (excClassObj nm q C N bs bm hdct sn sub ab col dd k0 k1 k2 k3 k5 nid)) (goal : Q () ⟨h, g, d, t, os⟩) : wpAny M A (checkBuiltinCall nid ⟨.ref C :: us, kw⟩) Q E ⟨h, g, d, t, os⟩ := by
  have up : (Value.ref C :: bm).contains (.type B) = true := by rw [List.contains_cons, same, F.hasB]; exact Bool.or_true _
  have nost := F.noStar
  simp only [checkBuiltinCall, F.newKind, F.newSplit, F.newRow]
  repeat (first
    | refine wpAny_loadPart_at lay ?_
    | (refine wpAny_isSubtype_exc lay ?_; rw [up])
    | refine wpAny_staticBase_exc lay ?_
    | refine wpAny_madeBy_exc lay ?_
    | simp only [bne_self_eq_false, Bool.false_eq_true, if_false]
    | wp_step)
  exact goal
theorem kwcall_check {Q : Unit → Shared → Prop} (lay : h.get? C = some (excClassObj nm q C N bs bm hdct sn sub ab col dd k0 k1 k2 k3 k5 nid)) (goal : Q () ⟨h, g, d, t, os⟩) :
    wpAny M A (checkBuiltinCall "type.__call__" ⟨.ref C :: us, kw⟩) Q E ⟨h, g, d, t, os⟩ := by
  have f3 := tc_sub
  have ty : (⟨h, g, d, t, os⟩ : Shared).TypeIs (.ref C) "type" := ⟨_, lay, rfl⟩
  simp only [checkBuiltinCall, tc_kind, tc_split]
  repeat (any_goals (first | assumption | with_reducible refine wpAny_loadPart_at lay ?_ | with_reducible refine wpAny_onRaise ?_ | with_reducible refine wpAny_map ?_ | wp_step))
end
section
variable {prog : Program} {w : World} {A : Around} {E : Value → Shared → Prop} {R : Result → Shared → Prop} {h : Heap} {g : Array GenState} {d : Drawn} {t : Nat} {os : OsState} {kw : List (Str × Value)} {us : List Value}
variable {nm q : Str} {C N : Addr} {bs bm bmB : List Value} {hdct : Bool} {sn : List Str} {sub : List Value} {ab : Bool} {col : Option Bool} {dd : Option Addr} {k0 k1 k2 k3 k5 : Option Value} {B nid iid : String}
theorem kwnew (F : ExcBaseFacts B nid iid bmB) (same : ∀ Y : String, bm.contains (.type Y) = bmB.contains (.type Y))
    (lay : h.get? C = some (excClassObj nm q C N bs bm hdct sn sub ab col dd k0 k1 k2 k3 k5 nid)) (room : us.length ≤ sizeLine)
    (goal : R (.ok (.ret (.ref (h.objs.size + 1)))) ⟨(h.push (W.kdv_tup us)).push (excO C h.objs.size), g, d, t, os⟩) :
    codeAny (model prog w) A (.builtin nid ⟨.ref C :: us, kw⟩) R ⟨h, g, d, t, os⟩ := by
  have fin := F.ends
  have u1 : (Value.ref C :: bm).contains (.type B) = true := by rw [List.contains_cons, same, F.hasB]; exact Bool.or_true _
  have u2 : (Value.ref C :: bm).contains (.type "AttributeError") = false := by rw [List.contains_cons, same, F.noAttr] <;> rfl
  have u3 : (Value.ref C :: bm).contains (.type "NameError") = false := by rw [List.contains_cons, same, F.noName] <;> rfl
  refine codeAny_builtinAt F.entry ?_
  unfold Builtin.«BaseException.__new__»
  refine wpAt_bind (show wpAt _ _ _ (stack >>= _) _ _ _ from ?_)
  refine wpAt_bind (wpAt_stack fun p r => wpAt_of_wpAny ?_)
  wp_walk
  apply wpAt_of_wpAny
  rw [F.owner]
  repeat (first
    | with_reducible refine wpAny_madeHere_exc F.canon lay ?_
    | with_reducible refine wpAny_loadPart_at lay ?_
    | (with_reducible refine wpAny_isSubtype_exc lay ?_; first | rw [u1] | rw [u2] | rw [u3])
    | wp_step)
  show R _ _
  rw [Heap.size_push]
  exact goal
theorem kwtype (F : ExcBaseFacts B nid iid bmB) (same : ∀ Y : String, bm.contains (.type Y) = bmB.contains (.type Y)) {f : Addr} {Q : Fin → Shared → Prop}
    (lay : h.get? C = some (excClassObj nm q C N bs bm hdct sn sub ab col dd k0 k1 k2 k3 k5 nid)) (room : us.length ≤ sizeLine)
    (ini : W.Looks (model prog w) h (typeLookup (.ref C) "__init__") (some (.ref f))) (bnd : ∀ self, W.Looks (model prog w) h (bindSpecial (.ref f) self) (.ref f, [self]))
    (goal : codeAny (model prog w) A (.call (.ref f) ⟨.ref (h.objs.size + 1) :: us, kw⟩)
      (fun r s' => match r with | .ok (.ret v) => v = .none ∧ Q (.done (.ret (.ref (h.objs.size + 1)))) s' | .ok _ => False | .error e => E e s')
      ⟨(h.push (W.kdv_tup us)).push (excO C h.objs.size), g, d, t, os⟩) :
    wpAny (model prog w) A (Builtin.«type.__call__» ⟨.ref C :: us, kw⟩) Q E ⟨h, g, d, t, os⟩ := by
  repeat (first | with_reducible refine wpAny_loadPart_at lay ?_ | with_reducible refine wpAny_madeBy_exc lay ?_ | wp_step)
  refine codeAny_call_builtin_code (Code.quiet_builtin _ F.quiet) (kwnew_check F same lay (kwnew F same lay room ?_))
  show wpAny _ _ _ _ _ _
  have up : ∀ b o, h.get? b = some o → ((h.push (W.kdv_tup us)).push (excO C h.objs.size)).get? b = some o := fun b o e => Heap.get?_push_of_some _ (Heap.get?_push_of_some _ e)
  have lay1 := up _ _ lay
  have there : ((h.push (W.kdv_tup us)).push (excO C h.objs.size)).get? (h.objs.size + 1) = some (excO C h.objs.size) := by heap_get
  have own : (Value.ref C :: bm).contains (.ref C) = true := by simp
  have ini1 := ini.keeps up
  have bnd1 := (bnd (.ref (h.objs.size + 1))).keeps up
  unfold isInstance
  repeat (first
    | with_reducible refine wpAny_loadPart_at there ?_
    | (with_reducible refine wpAny_isSubtype_exc lay1 ?_; rw [own])
    | wp_step)
  show wpAny _ _ (typeLookup (.ref C) _) _ _ _
  refine ini1.at (wpAny_holding (wpAny_bind (bnd1.at ?_)))
  refine wpAny_bind (wpAny_call (codeAny_mono goal fun r s' z => ?_))
  rcases r with e | (v | _ | _ | _) <;> first | exact z | exact z.elim | skip
  obtain ⟨rfl, z⟩ := z
  first
    | exact wpAny_pure (wpAny_pure z)
    | (wp_walk; exact z)
theorem kwcall (F : ExcBaseFacts B nid iid bmB) (same : ∀ Y : String, bm.contains (.type Y) = bmB.contains (.type Y)) {f : Addr}
    (lay : h.get? C = some (excClassObj nm q C N bs bm hdct sn sub ab col dd k0 k1 k2 k3 k5 nid)) (room : us.length ≤ sizeLine)
    (ini : W.Looks (model prog w) h (typeLookup (.ref C) "__init__") (some (.ref f))) (bnd : ∀ self, W.Looks (model prog w) h (bindSpecial (.ref f) self) (.ref f, [self]))
    (goal : codeAny (model prog w) (A.under (.builtin "type.__call__" ⟨.ref C :: us, kw⟩)) (.call (.ref f) ⟨.ref (h.objs.size + 1) :: us, kw⟩) (W.InitBack (h.objs.size + 1) R)
      ⟨(h.push (W.kdv_tup us)).push (excO C h.objs.size), g, d, t, os⟩) :
    codeAny (model prog w) A (.call (.ref C) ⟨us, kw⟩) R ⟨h, g, d, t, os⟩ := by
  have f1 := tc_lookup
  have f2 := tc_bind (.ref C)
  have ty : (⟨h, g, d, t, os⟩ : Shared).TypeIs (.ref C) "type" := ⟨_, lay, rfl⟩
  refine codeAny_of_tree (show wpAny _ _ (callAny (.ref C) _) _ _ _ from ?_)
  repeat (any_goals (first | assumption | with_reducible refine wpAny_loadPart_at lay ?_ | wp_step))
  refine ⟨rfl, codeAny_call_builtin_at (Code.quiet_builtin _ (by decide +kernel)) entry_typeCall (kwcall_check lay (kwtype F same lay room ini bnd (codeAny_mono goal fun r s' z => ?_)))⟩
  rcases r with e | (v | _ | _ | _) <;> exact z
end
end DLX
end PySem

set_option Elab.async false
set_option linter.all false
set_option maxRecDepth 100000
set_option maxHeartbeats 4000000
/-! raise C(k = e, ..) and except X as e -/
namespace DL
open PySem PySem.Spec L2
open PyProof.Rows hiding St
/-- C(k = e, ..), made to be raised -/
def tMkOK (C : Addr) (m : Nat) (sp : Sp) (tk : TA) : L2.St → Hp → XK → Prop := fun σ H Q => tk σ H fun zs H1 => zs.length = m ∧ ∀ a, H1 a = none → sp ([.ref a] ++ zs) (upd H1 a (exo a C none))
  (fun v H2 => v = .non ∧ ∃ (d : Addr) (fs : List (Str × V)), H2 a = some (exo a C (some d)) ∧ H2 d = some (exd d fs) ∧ H1 d = none ∧ Q (.ref C) (some d) (upd (del H2 a) d (.xd fs))) (fun _ _ _ => False)
section
variable {X : Cx} {x : Str} {C C0 f : Addr} {k : Nat} {ks : List Str} {sp : Sp} {kws : List Keyword} {ta tk : TA} {p p1 p2 pos : Pos} {o e : Expr} {es : List Expr}
theorem pmk_oexK (T : OexC X.K C) (iC : PySem.W.findIn X.K (.ref C) "__init__" = some (some (.ref f))) (tI : PySem.W.typeIn X.K (.ref f) = some (.type "function"))
    (F : FnK X.prog X.w X.K X.mg X.base k f 1 ks sp) (hr : Room (k + 1) X.A) (hx : Passes (L2.CX X.prog X.w) X (fun _ _ _ => False)) (hm : X.mg x = some (.ref C)) (hkw : PK X kws tk) (hg : Gl X x := by rfl)
    (hall : (backToKw pos (keywordEach kws X.env)).all (·.1.isSome) = true := by rfl) (hks : (backToKw pos (keywordEach kws X.env)).filterMap (·.1) = ks := by rfl) (hdb : (x == ("__debug__" : Str)) = false := by decide)
    (hpl : ((backTo pos (starEach [] X.env)).any (·.1) || (backToKw pos (keywordEach kws X.env)).any (·.1.isNone)) = false := by rfl) :
    PMk X (.Call (.Name x p) [] kws pos) (tMkOK C ks.length sp tk) := by
  intro pins s σ H Q I h
  obtain ⟨fd, ps, F1, hb⟩ := F
  obtain ⟨nm, q, N, bs, bm, sn, sub, ab, col, dd, k0, k1, k2, k3, k5, lay, refs⟩ := T.cls
  refine wpAny_Call_Name_kw (ld_glob I hg hm ?_ hdb)
  refine PySem.W.callWith_KW0 (h₀ := X.base) I.ok.mod.kin T.kC hall (thn (hkw.run pos pins s σ H _ I h) fun ws s1 ⟨zs, H1, I1, rz, lz, q1⟩ => ⟨I1.kIn, ?_⟩) hpl
  rw [hks]
  obtain ⟨hp, g, dr, tk', os⟩ := s1
  have le1 : hp.objs.size ≤ hp.objs.size + 1 := Nat.le_succ _
  have fresh : H1 (hp.objs.size + 1) = none := I1.hok.fresh le1
  have want := q1 _ fresh
  have keep : ∀ b u, hp.get? b = some u → ((hp.push (PySem.W.kdv_tup [])).push (PySem.HandSPX.excO C hp.objs.size)).get? b = some u := fun b u e => Heap.get?_push_of_some _ (Heap.get?_push_of_some _ e)
  have there : ((hp.push (PySem.W.kdv_tup [])).push (PySem.HandSPX.excO C hp.objs.size)).get? (hp.objs.size + 1) = some (PySem.HandSPX.excO C hp.objs.size) := by heap_get
  have I2 : Inv X pins σ (upd H1 (hp.objs.size + 1) (exo (hp.objs.size + 1) C none)) ⟨(hp.push (PySem.W.kdv_tup [])).push (PySem.HandSPX.excO C hp.objs.size), g, dr, tk', os⟩ :=
    I1.laid (t' := tk') (a := hp.objs.size + 1) (o := exo (hp.objs.size + 1) C none) (h' := (hp.push (PySem.W.kdv_tup [])).push (PySem.HandSPX.excO C hp.objs.size)) keep le1 (exo_ok there)
  have r2 : Vals ([V.ref (hp.objs.size + 1)] ++ zs) ([Value.ref (hp.objs.size + 1)] ++ ws) := show Vals (V.ref (hp.objs.size + 1) :: zs) (Value.ref (hp.objs.size + 1) :: ws) from .cons rfl rz
  have lw : ws.length = ks.length := (rz.length).symm.trans lz
  refine wpAny_call (PySem.DLX.kwcall F.excBase_ValueError (fun Y => PySem.HandSPX.refsVE_contains Y bm refs) (I1.kIn _ _ lay) (Nat.zero_le _) (PySem.W.looks_findIn I1.kIn iC) (fun self => PySem.W.bind_fn I1.kIn self tI)
    (codeAny_mono (F1.run _ X.stack _ _ ⟨[Value.ref (hp.objs.size + 1)], ks.zip ws⟩ ([Value.ref (hp.objs.size + 1)] ++ ws) _ _ (fun _ _ _ => False) (hr.make C [] (ks.zip ws)) (I2.env0.make C [] (ks.zip ws)) (hb.to _ [Value.ref (hp.objs.size + 1)] ws I2.kIn rfl lw) r2 want) fun r s' got => ?_))
  cases r with
  | error er => exact hx pins σ _ _ er s' I2 got
  | ok fl =>
    cases fl with
    | ret u =>
      obtain ⟨v, H2, os2, bare2, un2, hok2, rv, ev, d, fs, ea, ed, hd1, q2⟩ := got
      subst ev
      obtain ⟨h2, g2, d2, t2, os'⟩ := s'
      exact ⟨rv, mk_end (raises_own T.exC T.tyC) I1 le1 keep un2 hok2 os2 bare2 ea ed hd1 q2⟩
    | next => exact False.elim got
    | brk => exact False.elim got
    | cont => exact False.elim got
/-- B.__init__(self, ..), B an own class of exceptions over ValueError -/
theorem pe_binit {b : Expr} {mc : Value} {pl : Sem Bool} (hb : L2.PE X b (tC (.ref C0))) (r : ClX.CRead X.K C0 mc) (hv : PySem.W.findCls X.K (.ref C0) mc "__init__" = some (.val (.builtin "ValueError.__init__"))) (ha : PA X (e :: es) ta)
    (hc : eval (.Call (.Attribute b "__init__" p2) (e :: es) [] pos) X.env = (eval b X.env >>= fun ov => standAt p2.atName >>= fun _ => holding [ov] (getMethod ov "__init__" pl) >>= fun ff =>
      callWith pos ff.1 ff.2 (backTo pos (starEach (e :: es) X.env)) (backToKw pos (keywordEach [] X.env))) := by rfl)
    (he : starEach (e :: es) X.env = (false, eval e X.env) :: starEach es X.env := by rfl) (hpl : (backTo pos (starEach es X.env)).any (·.1) = false := by rfl) :
    L2.PE X (.Call (.Attribute b "__init__" p2) (e :: es) [] pos) (tVeI X.K ta) := by
  refine ⟨fun pins s σ H Q I h => ?_⟩
  refine PySem.W.methodCall_KW (pl := pl) (thn (hb.run pins s σ H (fun x H1 => x = .ref C0 ∧ H1 = H) I ⟨rfl, rfl⟩) fun u s0 hx => ?_) hc
  obtain ⟨x0, H0, I0, r0, rfl, rfl⟩ := hx
  obtain rfl : u = Value.ref C0 := r0
  refine PySem.W.method_cls I0.kIn r.ga (PySem.W.cls_value I0.kIn r.rd hv rfl ?_)
  show wpAny _ _ (callWith pos (Value.builtin "ValueError.__init__") [] (backTo pos (starEach (e :: es) X.env)) []) _ _ _
  refine PyProof.Rows.callWith_method1 (thn (ha.run pos pins _ σ _ _ (I0.tok _) h) fun us s1 ⟨vs, H1, I1, r1, a, C, ws, ev, hl, T, ea, q⟩ => ?_) he hpl
  subst ev
  cases r1 with
  | @cons _ u0 _ ur ra rw' =>
    obtain rfl : u0 = Value.ref a := ra
    exact oinit_ok T I1 ea (by rw [← Paired.length rw', sizeLine_eq]; omega) fun s' J => ⟨.non, H1, J, rfl, q⟩
end
/-! ### isinstance and fields of what was caught -/
/-- what a class of exceptions brings for isinstance -/
structure IxC (K : PySem.W.Frag) (C : Addr) : Prop where
  cl : (PySem.W.clsIn K C).isSome = true
  ga : PySem.W.findIn K (.ref C) "__getattribute__" = some (some (.builtin "BaseException.__getattribute__"))
  gt : PySem.W.findIn K (.ref C) "__getattr__" = some none
  sb : PySem.W.subIn K (.ref C) (.type "BaseException") = some true
  ca : PySem.W.findIn K (.ref C) "__class__" = some (some (.builtin "object.__class__"))
  cn : PySem.W.specialIn K (.builtin "object.__class__") "__get__" = some (some (.builtin "getset_descriptor.__get__"))
  ct : PySem.W.takesIn K (.builtin "object.__class__") = some true
  ob : PySem.W.mroIn K C (.type "object") = some true
/-- isinstance(e, c), e the exception at a -/
def rIsX (K : PySem.W.Frag) (a : Addr) (cls : Value) (d : Option Addr) : List V → Hp → VK → Prop := fun xs H Q => ∃ (c : V) (cv : Value) (C : Addr) (b : Bool), xs = [.ref a, c] ∧ (∀ u, RelV c u → u = cv) ∧ cls = .ref C ∧ IxC K C ∧ PySem.W.kitOne K (.ref C) cv = some b ∧ (d = none ∨ ∃ dd fs, d = some dd ∧ H dd = some (.xd fs)) ∧ Q (.bl b) H
theorem call_isX (K : PySem.W.Frag) {X : Cx} {a : Addr} {cls : Value} {d : Option Addr} {oe : Obj} {pn : List (Addr × Obj)} (hz : Zc cls d oe) (hf : ∃ vs, oe.data = .fields vs) (hK : X.K = K := by rfl) : CallR (X.suite a ((a, oe) :: pn)) (.builtin "isinstance") (rIsX K a cls d) := by
  subst hK
  intro pins s σ H xs us Q I r h
  obtain ⟨c, cv, C, b, rfl, hcv, rfl, T, e, hd, q⟩ := h
  cases r with
  | cons rx rr =>
    cases rr with
    | cons rt rr =>
      cases rr
      cases rx
      have ec := hcv _ rt
      subst ec
      obtain ⟨at_, _⟩ := I.pin (a, oe) (List.mem_append_left _ List.mem_cons_self)
      obtain ⟨vs, hv⟩ := hf
      have J : ∃ od, PySem.W.InstAt s.heap a oe C od := by
        have nc : PySem.W.notCls oe = true := by unfold PySem.W.notCls; rw [hv] <;> rfl
        rcases hd with rfl | ⟨dd, fs, rfl, ea⟩
        · exact ⟨none, at_, hz.1, nc, by rw [hz.2]; trivial⟩
        · have hx : ObjOk X.prog X.w H s.heap dd (.xd fs) := I.hok dd _ ea
          obtain ⟨mA, hns, _⟩ := hx
          obtain ⟨od, ho, _⟩ := lookIn_ns hns
          exact ⟨some od, at_, hz.1, nc, by rw [hz.2]; exact ho⟩
      obtain ⟨od, J⟩ := J
      exact PySem.W.kia_one (PySem.W.kitx_exc (od := od) T.cl T.ga T.gt T.sb T.ca T.cn T.ct T.ob) I.kIn J e (fun z => nomatch z) fun tk => ⟨.bl b, H, I.kept (t' := tk) fun _ _ z => z, rfl, q⟩
/-- e.f, the class of e known when it is read -/
def tXfD (K : PySem.W.Frag) (a : Addr) (cls : Value) (d : Option Addr) (f : Str) (te : TE) : TE := fun σ H Q => ∃ C, XfC K C ∧ PySem.W.findIn K (.ref C) f = some none ∧ tXf a cls d C f te σ H Q
theorem pe_xfD (K : PySem.W.Frag) {X : Cx} {a : Addr} {oe : Obj} {cls : Value} {d : Option Addr} {pn : List (Addr × Obj)} {e : Expr} {te : TE} {pos : Pos} {n : Str} (hz : Zc cls d oe) (hf : ∃ vs, oe.data = .fields vs) (he : L2.PE (X.suite a ((a, oe) :: pn)) e te)
    (hb : attributeBase e n X.env (eval e X.env) = eval e X.env := by rfl) (hK : X.K = K := by rfl) : L2.PE (X.suite a ((a, oe) :: pn)) (.Attribute e n pos) (tXfD K a cls d n te) := by
  subst hK
  exact ⟨fun pins s σ H Q I ⟨C, T, hno, h⟩ => (pe_xf T hno hz hf he hb).run pins s σ H Q I h⟩
/-! ### try .. except X as e -/
def tTryA (K : PySem.W.Frag) (c : Value) (i : Nat) (ts : Addr → Value → Option Addr → TS) (Wout : WX) (tb : WX → TS) : TS := fun D σ H => tb (wAs K c i ts Wout D) D σ H
theorem ps_tryA (K : PySem.W.Frag) {X : Cx} {x n : Str} {c : Value} {i : Nat} {body suite : List Stmt} {b₀ : Stmt} {np pos pos' : Pos} {tb : WX → TS} {ts : Addr → Value → Option Addr → TS} {Wout : WX} (hN : X.N.Nodup) (hs : X.stack = X.env :: X.outer) (hf : X.env.frame = some X.env.locals) (hi : X.N[i]? = some n) (hln : X.env.kindOf n = some .local) (hc : Names X x c) (tk : Takes X Wout)
    (hb : ∀ (W : WX) (pn : List (Addr × Obj)) (xe : Value → Shared → Prop), Takes (X.tr pn xe) W → PassesOwn (model X.prog X.w) X.A X.env xe → PSs (X.tr pn xe) body (tb W))
    (hsu : ∀ (a : Addr) (oe : Obj) (cls : Value) (d : Option Addr) (pn : List (Addr × Obj)), Zc cls d oe → (∃ vs, oe.data = .fields vs) → PSs (X.suite a ((a, oe) :: pn)) (b₀ :: suite) (ts a cls d)) (hK : X.K = K := by rfl) :
    PS X (.Try body [.ExceptHandler (some (.Name x np)) (some n) (b₀ :: suite) pos'] [] [] pos) (tTryA K c i ts Wout tb) := by subst hK; exact ps_try_as hs hf hN hi hln hc tk hb hsu
/-! ### over data -/
def exoM (a C : Addr) (d : Option Addr) : MO := .sem fun _ o => o = exo a C d
def exdM (K : PySem.W.Frag) (dx : Addr) (nm : List Str) (ds : List D) : MO := .sem fun G o => ∃ xs, o = exd dx (nm.zip xs) ∧ xs.length = nm.length ∧ IsL K G ds xs
/-- what was caught, at a -/
def exD (K : PySem.W.Frag) (a : Addr) (d : Option Addr) (x : XD) : D := .sem fun G v => v = .ref a ∧ IsX K G x (.ref x.cls) d
theorem IsX.mono {K : PySem.W.Frag} {G G1 : Hp} {x : XD} {cls : Value} {d : Option Addr} (e : Sub G G1) (h : IsX K G x cls d) : IsX K G1 x cls d := by
  obtain ⟨h1, h2⟩ := h
  refine ⟨h1, ?_⟩
  obtain ⟨C, fs⟩ := x
  cases fs with
  | none => exact h2
  | some p =>
    obtain ⟨a, xs, e1, e2, e3, e4⟩ := h2
    exact ⟨a, xs, e1, e _ _ e2, e3, e4.mono e⟩
theorem SlIs.setN {K : PySem.W.Frag} {G : Hp} {δ : Sl} {σ : L2.St} {i : Nat} (s : SlIs K G δ σ) : SlIs K G (δ.set i none) (σ.set i none) where
  len := by simp [s.len]
  at_ := fun j e q => by
    by_cases z : i = j
    · subst z
      by_cases l : i < δ.length
      · rw [List.getElem?_set_self l] at q; cases q
      · rw [List.getElem?_eq_none (by simpa using l)] at q; cases q
    · rw [List.getElem?_set_ne z] at q ⊢
      exact s.at_ j e q
section
variable {K : PySem.W.Frag} {W Wout : WX} {XP : Sl → XD → Ow → Prop} {δ : Sl} {O O1 O2 : Ow} {d : D} {te to : TE} {ta tk : TA} {a dx C : Addr} {nm : List Str} {ds zs : List D} {R : DR} {P : D → Ow → Prop} {PE : DE} {f : Str} {tb : WX → TS} {ts : Addr → Value → Option Addr → TS} {c : Value} {i : Nat} {b : Bool} {x : XD} {od : Option Addr} {E : XK}
theorem exo_own1 {G H : Hp} {od : Option Addr} (w : Wd K G O H) (h : O a = some (exoM a C od)) : H a = some (exo a C od) := by
  obtain ⟨o, G1, e, _, q⟩ := (w.own a _ h).2
  rw [e, show o = _ from q]
/-- B.__init__(self, ..) -/
theorem evp_binit (h : EvA K ta δ O (.ref a :: ds) O1) (T : OexC K C) (ho : O1 a = some (exoM a C none)) (hl : ds.length ≤ 1000) (hp : P .non O1) : EvP K (tVeI K ta) δ O P := fun G H σ w s Q k =>
  h G H σ w s _ fun vs G1 H1 s1 i1 => by
    obtain ⟨v, ws, rfl, iv, iw⟩ := i1
    have iv : v = .ref a := iv
    subst iv
    exact ⟨a, C, ws, rfl, by rw [← iw.length]; exact hl, T, exo_own1 s1.wd ho, k _ O1 _ G1 H1 hp s1 rfl⟩
/-- self.f = e, the first field -/
theorem sd_ostN (h : Ev K te δ O d O1) (h1 : Ev K to δ O1 (.ref a) O2) (T : OexC K C) (hno : PySem.W.findIn K (.ref C) f = some none) (ho : O2 a = some (exoM a C none)) (k : ∀ dx, dx ≠ a → O2 dx = none → PE.nx δ (setO (setO O2 dx (exdM K dx [f] [d])) a (exoM a C (some dx)))) : Sd K (tOst K f to te) PE δ O := fun G H σ D w s r =>
  h G H σ w s _ fun v G1 H1 s1 i1 => h1 G1 H1 σ s1.wd (s.mono s1.ex) _ fun u G2 H2 s2 i2 => by
    have i2 : u = .ref a := i2
    subst i2
    refine ⟨a, C, rfl, T, hno, .inl ⟨exo_own1 s2.wd ho, fun dx hd ne => ?_⟩⟩
    have st1 := Stp.newO (o := exd dx [(f, v)]) (m := exdM K dx [f] [d]) s2.wd hd ⟨_, G2, upd_same, Sub.refl _, [v], rfl, rfl, _, _, rfl, i1.mono s2.ex, rfl⟩
    have st2 := Stp.write (p := a) (o := exo a C (some dx)) (m' := exoM a C (some dx)) st1.wd (by rw [setO_ne ne.symm]; exact ho) ⟨_, G2, upd_same, Sub.refl _, rfl⟩
    have st := (s1.trans s2).trans (st1.trans st2)
    exact r.nx δ _ _ _ σ (k dx ne (s2.wd.oNone hd)) st (s.mono st.ex)
/-- a further field -/
theorem sd_ostS (h : Ev K te δ O d O1) (h1 : Ev K to δ O1 (.ref a) O2) (T : OexC K C) (hno : PySem.W.findIn K (.ref C) f = some none) (ho : O2 a = some (exoM a C (some dx))) (hd : O2 dx = some (exdM K dx nm ds)) (hl : nm.length ≤ 900) (k : PE.nx δ (setO O2 dx (exdM K dx (f :: nm) (d :: ds)))) : Sd K (tOst K f to te) PE δ O := fun G H σ D w s r =>
  h G H σ w s _ fun v G1 H1 s1 i1 => h1 G1 H1 σ s1.wd (s.mono s1.ex) _ fun u G2 H2 s2 i2 => by
    have i2 : u = .ref a := i2
    subst i2
    obtain ⟨o, G3, e3, sb3, xs, eo, hlx, ix⟩ := (s2.wd.own dx _ hd).2
    subst eo
    refine ⟨a, C, rfl, T, hno, .inr ⟨dx, nm.zip xs, exo_own1 s2.wd ho, e3, by rw [List.length_zip]; omega, ?_⟩⟩
    have st1 := Stp.write (p := dx) (o := exd dx ((f, v) :: nm.zip xs)) (m' := exdM K dx (f :: nm) (d :: ds)) s2.wd hd ⟨_, G2, upd_same, Sub.refl _, v :: xs, rfl, by simp [hlx], _, _, rfl, i1.mono s2.ex, ix.mono sb3⟩
    have st := (s1.trans s2).trans st1
    exact r.nx δ _ _ _ σ k st (s.mono st.ex)
/-- raise C(k = e, ..) -/
theorem sdx_raiseK {m : Nat} (h : EvA K tk δ O zs O1) (hm : zs.length = m) (hr : ∀ x, O1 x = none → R (.ref x :: zs) (setO O1 x (exoM x C none)) fun d' O' => d' = .non ∧ ∃ dd nm es, dd ≠ x ∧ O1 dd = none ∧ O' = setO (setO O1 dd (exdM K dd nm es)) x (exoM x C (some dd)) ∧ XP δ ⟨C, some (nm, es)⟩ O1) :
    SdX K W (fun _ σ H => tMkOK C m (SpD K R) tk σ H fun cls d H' => W cls d σ H') PE XP δ O := fun G H σ D w s r rx =>
  h G H σ w s _ fun vs G1 H1 s1 i1 => by
    refine ⟨by rw [← i1.length]; exact hm, fun x hx => ?_⟩
    have st1 := Stp.newO (o := exo x C none) (m := exoM x C none) s1.wd hx ⟨_, G1, upd_same, Sub.refl _, rfl⟩
    refine sp_run (ds := .ref x :: zs) st1.wd ⟨_, _, rfl, rfl, i1⟩ (hr x (s1.wd.oNone hx)) fun d O' v G2 H2 hp st2 iv => ?_
    obtain ⟨rfl, dd, nm, es, ne, hdn, rfl, hx2⟩ := hp
    have ex2 : H2 x = some (exo x C (some dd)) := exo_own1 st2.wd setO_same
    obtain ⟨gd, o, G3, e3, sb3, xs, eo, hlx, ix⟩ := st2.wd.own dd _ (show setO (setO O1 dd (exdM K dd nm es)) x (exoM x C (some dd)) dd = some (exdM K dd nm es) by rw [setO_ne ne]; exact setO_same)
    subst eo
    have hd1 : H1 dd = none := by
      cases q : H1 dd with
      | none => rfl
      | some u =>
        have q2 : (upd H1 x (exo x C none)) dd = some u := by rw [upd_ne ne]; exact q
        have n2 : (setO O1 x (exoM x C none)) dd = none := by rw [setO_ne ne]; exact hdn
        cases qg : G1 dd with
        | none =>
          have z := (st2.fresh dd u q2 n2 qg).2
          rw [setO_ne ne, setO_same] at z
          cases z
        | some g =>
          have z := st2.ex dd g qg
          rw [gd] at z
          cases z
    have gx : G2 x = none := (st2.wd.own x _ setO_same).1
    have gx1 : G1 x = none := s1.wd.gNone hx
    refine ⟨iv, dd, nm.zip xs, ex2, e3, hd1, ?_⟩
    have stF : Stp K G1 O1 H1 (upd G2 dd (.xd (nm.zip xs))) O1 (upd (del H2 x) dd (.xd (nm.zip xs))) := by
      refine ⟨⟨fun b u e => ?_, fun q m e => ?_⟩, fun b u e => ?_, fun b u e n => ?_, fun b u e n g => ?_⟩
      · by_cases hb : b = dd
        · subst hb; rw [upd_same] at e ⊢; exact e
        · rw [upd_ne hb] at e ⊢
          have hbx : b ≠ x := fun z => by rw [z, gx] at e; cases e
          rw [del_ne hbx]
          exact st2.wd.sub b u e
      · have hq1 : q ≠ x := fun z => by rw [z, s1.wd.oNone hx] at e; cases e
        have hq2 : q ≠ dd := fun z => by rw [z, hdn] at e; cases e
        have o2 := st2.wd.own q m (by rw [setO_ne hq1, setO_ne hq2]; exact e)
        refine ⟨by rw [upd_ne hq2]; exact o2.1, o2.2.mono (fun b u e => ?_) fun u e => ?_⟩
        · rw [upd_ne (fun z => by rw [z, gd] at e; cases e)]; exact e
        · rw [upd_ne hq2, del_ne hq1]; exact e
      · have hb : b ≠ dd := fun z => by rw [z, s1.wd.gNone hd1] at e; cases e
        rw [upd_ne hb]; exact st2.ex b u e
      · have hb : b ≠ dd := fun z => by rw [z, hd1] at e; cases e
        have hbx : b ≠ x := fun z => by rw [z, hx] at e; cases e
        rw [upd_ne hb, del_ne hbx]
        exact st2.keep b u (by rw [upd_ne hbx]; exact e) (by rw [setO_ne hbx]; exact n)
      · have hb : b ≠ dd := fun z => by rw [z, hd1] at e; cases e
        have hbx : b ≠ x := fun z => by rw [z, hx] at e; cases e
        rw [upd_ne hb]
        exact ⟨(st2.fresh b u (by rw [upd_ne hbx]; exact e) (by rw [setO_ne hbx]; exact n) g).1, n⟩
    have stAll := s1.trans stF
    refine rx δ σ ⟨C, some (nm, es)⟩ O1 _ _ _ _ hx2 stAll (s.mono stAll.ex) ⟨rfl, dd, xs, rfl, upd_same, hlx, ix.mono fun b u e => ?_⟩
    have e2 := sb3 b u e
    rw [upd_ne (fun z => by rw [z, gd] at e2; cases e2)]
    exact e2
theorem sd_tryAs (hb : ∀ W, SdX K W (tb W) PE XP δ O) (hx : ∀ δ' x O', XP δ' x O' → PySem.W.exmOne K (.ref x.cls) c = some true ∧ ∀ a d, Sd K (ts a (.ref x.cls) d) { PE with nx := fun δ2 O2 => PE.nx (δ2.set i none) O2, bk := fun δ2 O2 => PE.bk (δ2.set i none) O2, ct := fun δ2 O2 => PE.ct (δ2.set i none) O2 } (δ'.set i (some (exD K a d x))) O') :
    Sd K (tTryA K c i ts Wout tb) PE δ O := fun G H σ D w s r =>
  hb _ G H σ D w s r fun δ' σ' x O' cls d G' H' hp st sl ix => by
    have ix0 := ix
    obtain ⟨rfl, _⟩ := ix
    obtain ⟨e, hS⟩ := hx δ' x O' hp
    refine ⟨true, e, fun _ a _ => hS a d G' H' _ _ st.wd (sl.set (show Is K G' (exD K a d x) (.ref a) from ⟨G', Sub.refl _, rfl, ix0⟩)) ?_, fun z => nomatch z⟩
    have r' := r.step st
    exact ⟨fun δ2 O2 G2 H2 σ2 p st2 sl2 => r'.nx _ O2 G2 H2 _ p st2 sl2.setN, r'.rt, fun δ2 O2 G2 H2 σ2 p st2 sl2 => r'.bk _ O2 G2 H2 _ p st2 sl2.setN, fun δ2 O2 G2 H2 σ2 p st2 sl2 => r'.ct _ O2 G2 H2 _ p st2 sl2.setN⟩
/-- isinstance(e, c) -/
theorem c_isX {x : XD} {D2 : D} {cv : Value} {cs : V} (hD : ∀ G v, Is K G D2 v → v = cs) (hcv : ∀ u, RelV cs u → u = cv) (T : IxC K x.cls) (hk : PySem.W.kitOne K (.ref x.cls) cv = some b) : RCD K (rIsX K a (.ref x.cls) od) [exD K a od x, D2] O (.bl b) := fun G H vs w i Q k => by
  obtain ⟨v, u, rfl, iv, iu⟩ := isL2 i
  obtain ⟨G1, sb, rfl, _, ix⟩ := iv
  refine ⟨cs, cv, x.cls, b, by rw [hD G u iu], hcv, rfl, T, hk, ?_, k _ G H (Stp.refl w) rfl⟩
  obtain ⟨C, fs⟩ := x
  cases fs with
  | none => exact .inl ix
  | some p =>
    obtain ⟨dd, xs, e1, e2, _, _⟩ := ix
    exact .inr ⟨dd, _, e1, w.sub _ _ (sb _ _ e2)⟩
/-- e.f -/
theorem ev_xf {x : XD} {nm : List Str} {es : List D} (h : Ev K te δ O (exD K a od x) O1) (hx : x.fs = some (nm, es)) (T : XfC K x.cls) (hno : PySem.W.findIn K (.ref x.cls) f = some none) (hl : (nm.zip es).lookup f = some d) : Ev K (tXfD K a (.ref x.cls) od f te) δ O d O1 := fun G H σ w s Q k =>
  ⟨x.cls, T, hno, h G H σ w s _ fun v G1 H1 s1 i1 => by
    obtain ⟨G2, sb, rfl, _, ix⟩ := i1
    obtain ⟨C, fs⟩ := x
    dsimp only at hx
    subst hx
    obtain ⟨dd, xs, e1, e2, _, e4⟩ := ix
    obtain ⟨v, hv, iv⟩ := lookup_is e4 hl
    exact ⟨rfl, rfl, dd, _, v, e1, s1.wd.sub _ _ (sb _ _ e2), hv, k v G1 H1 s1 (iv.mono sb)⟩⟩
end
end DL

set_option Elab.async false
set_option linter.all false
set_option maxRecDepth 100000
set_option maxHeartbeats 4000000
/-! count and index of bools; keyword-only parameters behind self; which class an exception has -/
namespace DL
open PySem PySem.Spec L2
open PyProof.Rows hiding St
def rCountB (K : PySem.W.Frag) : V → List V → Hp → VK → Prop := fun x xs H Q => ∃ (a : Addr) (bs : List Bool) (b : Bool), x = .ref a ∧ xs = [.bl b] ∧ SqL K H a (bs.map V.bl) ∧ Q (.int (PySem.Spec.countIn (.bool b) (bs.map PyData.bool))) H
theorem vals_bls : ∀ {bs : List Bool} {us : List Value}, Vals (bs.map V.bl) us → us = bs.map Value.bool
  | [], _, h => by cases h; rfl
  | b :: bs, _, h => by
    cases h with
    | cons r t =>
      cases r
      rw [vals_bls t]; rfl
theorem reads_bls (h : Heap) : ∀ bs : List Bool, PySem.ReadsAll h (bs.map Value.bool) (bs.map PyData.bool) []
  | [] => .nil
  | b :: bs => .cons (as := []) (bs := []) (.bool b) (reads_bls h bs)
theorem mt_countB (K : PySem.W.Frag) {X : Cx} (hK : X.K = K := by rfl) : MtR X "list.count" (rCountB K) := by
  subst hK
  intro pins s σ H x xs v us Q I rx rxs h
  obtain ⟨a, bs, b, rfl, rfl, hs, q⟩ := h
  cases rx
  cases rxs with
  | cons ry rt =>
    cases rt
    cases ry
    obtain ⟨its, rv, il, _⟩ := I.list hs
    rw [vals_bls rv] at il
    obtain ⟨o, n, ho, hc, _, hd⟩ := il
    exact count_list_bools ⟨o, ho, hc, n, hd⟩ (reads_bls s.heap bs) (by rw [List.all_map, List.all_eq_true]; intro x _; rfl) ⟨V.int (PySem.Spec.countIn (.bool b) (bs.map PyData.bool)), H, I.tok _, ⟨_, rfl⟩, q⟩
section
variable {K : PySem.W.Frag} {δ : Sl} {O O1 O2 : Ow} {ta : TE} {t : TA} {bs : List Bool} {b : Bool} {jj : Nat}
theorem ev_countB (h : Ev K ta δ O (.lst (bs.map .bl)) O1) (ht : EvA K t δ O1 [.bl b] O2) : Ev K (tBM K "list" (rCountB K) ta t) δ O (.int (PySem.Spec.countIn (.bool b) (bs.map PyData.bool))) O2 := fun G H σ w s Q k =>
  h G H σ w s _ fun v G1 H1 s1 i1 => by
    obtain ⟨p, xs, rfl, e, tl⟩ := i1
    have ex := tl.bls
    subst ex
    refine ⟨.inl ⟨rfl, _, .inl (.inl (s1.wd.sub _ _ e))⟩, ht G1 H1 σ s1.wd (s.mono s1.ex) _ fun vs G2 H2 s2 i2 => ?_⟩
    obtain ⟨u, rfl, iu⟩ := isL1 i2
    have iu : u = .bl b := iu
    subst iu
    exact ⟨p, bs, b, rfl, rfl, .inl (.inl (s2.wd.sub _ _ (s2.ex _ _ e))), k _ G2 H2 (s1.trans s2) rfl⟩
theorem ev_indexB (h : Ev K ta δ O (.lst (bs.map .bl)) O1) (ht : EvA K t δ O1 [.bl b] O2) (hj : bs[jj]? = some b) (hm : ∀ m, m < jj → bs[m]? ≠ some b) : Ev K (tBM K "list" (rIndex K) ta t) δ O (.int (jj : Nat)) O2 := fun G H σ w s Q k =>
  h G H σ w s _ fun v G1 H1 s1 i1 => by
    obtain ⟨p, xs, rfl, e, tl⟩ := i1
    have ex := tl.bls
    subst ex
    refine ⟨.inl ⟨rfl, _, .inl (.inl (s1.wd.sub _ _ e))⟩, ht G1 H1 σ s1.wd (s.mono s1.ex) _ fun vs G2 H2 s2 i2 => ?_⟩
    obtain ⟨u, rfl, iu⟩ := isL1 i2
    have iu : u = .bl b := iu
    subst iu
    refine ⟨p, bs.map .bl, .bl b, jj, .bl b, rfl, rfl, .inl (.inl (s2.wd.sub _ _ (s2.ex _ _ e))), rfl, by simp [flatV], by rw [List.getElem?_map, hj]; rfl, by simp [eqV], fun m z hl hz => ?_, k _ G2 H2 (s1.trans s2) rfl⟩
    rw [List.getElem?_map] at hz
    cases hn : bs[m]? with
    | none => rw [hn] at hz; cases hz
    | some c =>
      rw [hn] at hz
      cases hz
      have := hm m hl
      rw [hn] at this
      cases b <;> cases c <;> first | rfl | exact absurd rfl this
end
/-! ### keyword-only parameters behind self, without defaults -/
section
variable {K : PySem.W.Frag} {x qual : Str} {st : Stmt} {f : Addr} {fd : FuncData} {a y z : Str}
theorem kbx1 (F : L2.Fun K x qual st f fd) (h : ∀ (kV doc pm : Value) (an : Option Addr) (cdv ct v1 v2 : Value), bindArgs (PySem.W.fnOf x qual (defArgs st) (defBody st) (defScope st) .none kV doc pm an cdv ct) ⟨[v1], [(y, v2)]⟩ = pure [(a, v1), (y, v2)]) :
    KBn K fd [a, y] 1 [y] (fun us ws => us ++ ws) (fun vs zs => vs ++ zs) := by
  obtain ⟨oc, od, kV, doc, pm, an, cdv, ct, osl, rfl, lk, hcd⟩ := F.ex
  refine ⟨fun s us ws _ h1 h2 => ?_, fun r1 r2 => r1.append r2⟩
  match us, ws, h1, h2 with
  | [v1], [v2], _, _ => exact .of_eq (h kV doc pm an cdv ct v1 v2)
theorem kbx2 (F : L2.Fun K x qual st f fd) (h : ∀ (kV doc pm : Value) (an : Option Addr) (cdv ct v1 v2 v3 : Value), bindArgs (PySem.W.fnOf x qual (defArgs st) (defBody st) (defScope st) .none kV doc pm an cdv ct) ⟨[v1], [(y, v2), (z, v3)]⟩ = pure [(a, v1), (y, v2), (z, v3)]) :
    KBn K fd [a, y, z] 1 [y, z] (fun us ws => us ++ ws) (fun vs zs => vs ++ zs) := by
  obtain ⟨oc, od, kV, doc, pm, an, cdv, ct, osl, rfl, lk, hcd⟩ := F.ex
  refine ⟨fun s us ws _ h1 h2 => ?_, fun r1 r2 => r1.append r2⟩
  match us, ws, h1, h2 with
  | [v1], [v2, v3], _, _ => exact .of_eq (h kV doc pm an cdv ct v1 v2 v3)
end
/-! ### isinstance of classes of exceptions -/
theorem kit_xne {K : PySem.W.Frag} {S C : Addr} {b : Bool} (hn : (Value.ref S == Value.ref C) = false) (hi : PySem.W.isClsIn K C = true) (ht : PySem.W.typeIn K (.ref C) = some (.type "type")) (hs : PySem.W.subIn K (.ref S) (.ref C) = some b) : PySem.W.kitOne K (.ref S) (.ref C) = some b := by
  have c2 : ((PySem.W.clsIn K C).isSome && PySem.W.typeIn K (.ref C) == some (.type "type")) = true := by
    rw [show (PySem.W.clsIn K C).isSome = true from hi, ht]; rfl
  unfold PySem.W.kitOne
  rw [hn]
  show (if ((PySem.W.clsIn K C).isSome && PySem.W.typeIn K (.ref C) == some (.type "type")) = true then PySem.W.subIn K (.ref S) (.ref C) else none) = some b
  rw [if_pos c2]
  exact hs
theorem kit_xv {K : PySem.W.Frag} {S : Addr} (hs : PySem.W.subIn K (.ref S) (.type "ValueError") = some true) : PySem.W.kitOne K (.ref S) (.type "ValueError") = some true := by
  unfold PySem.W.kitOne
  rw [show (Value.ref S == Value.type "ValueError") = false from rfl]
  show (if PySem.W.kitMeta "ValueError" = true then PySem.W.subIn K (.ref S) (.type "ValueError") else none) = some true
  rw [if_pos (by decide +kernel)]
  exact hs
end DL

set_option Elab.async false
set_option linter.all false
set_option maxRecDepth 100000
set_option maxHeartbeats 2000000
/-! what was raised may forget what is owned -/
namespace DL
open PySem PySem.Spec L2
open PyProof.Rows hiding St
section
variable {K : PySem.W.Frag} {W : WX} {XP XP' : Sl → XD → Ow → Prop} {δ : Sl} {O : Ow} {ts : TS} {PE : DE} {te : TE} {P : D → Ow → Prop}
theorem sdx_xw (h : SdX K W ts PE XP' δ O) (k : ∀ δ' x O', XP' δ' x O' → ∃ O2, OSub O2 O' ∧ XP δ' x O2) : SdX K W ts PE XP δ O := fun G H σ D w s r rx => h G H σ D w s r fun δ' σ' x O' cls d G' H' hp st sl ix => by
  obtain ⟨O2, sb, h2⟩ := k δ' x O' hp
  exact rx δ' σ' x O2 cls d G' H' h2 (st.drop sb) sl ix
theorem evx_xw (h : EvX K W te XP' δ O P) (k : ∀ δ' x O', XP' δ' x O' → ∃ O2, OSub O2 O' ∧ XP δ' x O2) : EvX K W te XP δ O P := fun G H σ w s rx Q kk => h G H σ w s (fun δ' σ' x O' cls d G' H' hp st sl ix => by
  obtain ⟨O2, sb, h2⟩ := k δ' x O' hp
  exact rx δ' σ' x O2 cls d G' H' h2 (st.drop sb) sl ix) Q kk
theorem EvX.weak {P' : D → Ow → Prop} (h : EvX K W te XP δ O P') (k : ∀ d O', P' d O' → P d O') : EvX K W te XP δ O P := fun G H σ w s rx Q kk => h G H σ w s rx Q fun d O' v G' H' hp st iv => kk d O' v G' H' (k d O' hp) st iv
end
end DL

set_option Elab.async false
set_option linter.all false
set_option maxRecDepth 100000
set_option maxHeartbeats 2000000
/-! an except clause that raises what it caught again -/
namespace DL
open PySem PySem.Spec L2 PyProof.Rows
/-- some objects that nobody knows are taken away -/
theorem inv_hide {X : Cx} {pins : List (Addr × Obj)} {σ : L2.St} {H : Hp} {s : Shared} {ch : List Addr} (I : Inv X pins σ H s)
    (hch : ∀ b ∈ ch, X.s_0.heap.get? b = none ∧ H b = none ∧ b ≠ X.env.locals ∧ b ∉ X.fs ∧ (∀ x c, X.env.cells.lookup x = some c → c ≠ b) ∧ ∀ p ∈ X.pn ++ pins, p.1 ≠ b) :
    Inv X pins σ H { s with heap := PySem.W.hideAll s.heap ch } := by
  have g : ∀ b o, b ∉ ch → s.heap.get? b = some o → (PySem.W.hideAll s.heap ch).get? b = some o := fun b o hb e => PySem.W.hideAll_get _ e hb
  have n0 : ∀ b o, X.s_0.heap.get? b = some o → b ∉ ch := fun b o e hb => by rw [(hch b hb).1] at e; cases e
  have cellK : ∀ x c, X.env.cells.lookup x = some c → ∀ v, s.heap.IsCell c v → (PySem.W.hideAll s.heap ch).IsCell c v := fun x c e v ⟨o, ho, hd⟩ => ⟨o, g c o (fun z => (hch c z).2.2.2.2.1 x c e rfl) ho, hd⟩
  refine ⟨I.ok, I.os, I.bare, ⟨fun b o e n hb hx => g b o (n0 b o e) (I.base.keep b o e n hb hx), fun b o e n hb hx => ?_, I.base.free, fun b o e hx => ?_, I.base.tups, I.base.frzs, I.base.tbls⟩, ?_, fun x c e => ?_, I.free, I.freeC, fun p hp => ?_, fun b o e => (I.hok b o e).stay (fun c u hc q => g c u (fun z => ?_) q) (fun _ q => q) (fun _ _ q => q), I.len⟩
  · obtain ⟨sl, q⟩ := I.base.slot b o e n hb hx
    exact ⟨sl, g b _ (n0 b o e) q⟩
  · obtain ⟨o', q⟩ := I.base.there b o e hx
    exact ⟨o', g b _ (n0 b o e) q⟩
  · obtain ⟨m, hn, hl⟩ := I.loc
    refine ⟨m, ?_, fun i x v e1 e2 e3 => ?_⟩
    · obtain ⟨o, es, ep, e, r⟩ := hn
      exact ⟨o, es, ep, g _ _ (fun z => (hch _ z).2.2.1 rfl) e, r⟩
    · obtain ⟨u, r, l⟩ := hl i x v e1 e2 e3
      refine ⟨u, r, ?_⟩
      rcases l with l | ⟨k, c, e, z⟩
      · exact .inl l
      · exact .inr ⟨k, c, e, cellK x c e _ z⟩
  · obtain ⟨v, z⟩ := I.cell x c e
    exact ⟨v, cellK x c e v z⟩
  · obtain ⟨e, n, ne, nf, d⟩ := I.pin p hp
    exact ⟨g _ _ (fun z => (hch _ z).2.2.2.2.2 p hp rfl) e, n, ne, nf, d⟩
  · have hn := (hch c z).2.1
    rcases hc with rfl | hc
    · rw [e] at hn; cases hn
    · rw [hc] at hn; cases hn
/-- after the suite's statement it flies again -/
def wRe (K : PySem.W.Frag) (c : Value) (ts : Addr → Value → Option Addr → TS) (Wout : WX) : WX := fun cls d σ H =>
  ∃ b, PySem.W.exmOne K cls c = some b ∧ (b = true → ∀ a, H a = none → ts a cls d ⟨fun σ' H' => Wout cls d σ' H', fun _ _ => False, fun _ _ => False, fun _ _ => False⟩ σ H) ∧ (b = false → Wout cls d σ H)
def tTryRe (K : PySem.W.Frag) (c : Value) (ts : Addr → Value → Option Addr → TS) (Wout : WX) (tb : WX → TS) : TS := fun D σ H => tb (wRe K c ts Wout) D σ H
section
variable {X : Cx} {x : Str} {c : Value} {body : List Stmt} {b₀ : Stmt} {np pos pos' pr : Pos} {tb : WX → TS} {ts : Addr → Value → Option Addr → TS} {Wout : WX}
theorem ps_try_re (hs : X.stack = X.env :: X.outer) (hf : X.env.frame = some X.env.locals) (hex : X.ex = []) (hc : Names X x c) (hpa : ∀ hd : Option Value, PassesOwnAt (model X.prog X.w) (X.A.mark hd) X.A X.env X.xe) (tk : Takes X Wout)
    (hb : ∀ (W : WX) (pn : List (Addr × Obj)) (xe : Value → Shared → Prop), Takes (X.tr pn xe) W → PassesOwn (model X.prog X.w) X.A X.env xe → PSs (X.tr pn xe) body (tb W))
    (hsu : ∀ (a : Addr) (oe : Obj) (cls : Value) (d : Option Addr) (pn : List (Addr × Obj)), Zc cls d oe → (∃ vs, oe.data = .fields vs) → PS (X.suite a ((a, oe) :: pn)) b₀ (ts a cls d)) :
    PS X (.Try body [.ExceptHandler (some (.Name x np)) none [b₀, .Raise none none pr] pos'] [] [] pos) (tTryRe X.K c ts Wout tb) := by
  refine ⟨fun pins s σ H D I h => ?_⟩
  have ok := I.ok
  have hfr : X.A.frames = some (X.env :: X.outer) := by rw [ok.frames, hs]
  refine wpAny_Try_except ?_
  refine wpAny_mono ((hb (wRe X.K c ts Wout) (X.pn ++ pins) (fun e s₁ => wpAny (model X.prog X.w) X.A (noteFrame e X.env) (fun _ s₂ => wpAny (model X.prog X.w) X.A (setFlight e none) (fun _ s₃ =>
    wpAny (model X.prog X.w) X.A (handleBy e X.env [.ExceptHandler (some (.Name x np)) none [b₀, .Raise none none pr] pos']) (SP X pins D) X.xe s₃) X.xe s₂) X.xe s₁) (fun u s' xx => ?_) PassesOwn.looking).run [] s σ H D (I.toTry _) h) (fun f s1 hsp => ?_) (fun e s1 he => he)
  · -- the catch
    obtain ⟨a, B, sI, pins', σ', H', cls, d, rfl, J', nb, up, sky, na, os, ag, b, hb1, hyes, hno⟩ := xx
    have J : Inv X pins σ' H' sI := J'.ofTry ok
    have sky' : Sky B (X.env :: X.outer) a (Zc cls d) X.env.locals s'.heap := by rw [← hs]; exact sky
    show wpAny (model X.prog X.w) X.A (noteFrame (.ref a) X.env) _ _ _
    refine Sky.land Zc.steady hfr hf sky' fun h3 fl3 up3 => ?_
    have J3 : Inv X pins σ' H' { s' with heap := h3 } := J.landed nb fl3.1 (up.trans up3) os ag
    obtain ⟨oe3, vs3, he3, hz3, hd3⟩ := fl3.there
    have notFr : ∀ {h : Heap} {a : Addr} {o : Obj} {vs : Array Value}, h.FunFrames B (X.env :: X.outer) → h.get? a = some o → o.data = .fields vs → a ∉ frs (X.env :: X.outer) := fun {h a o vs} ff e dd hm => by
      obtain ⟨_, o', e', hnf⟩ := ff.mem hm
      rw [e] at e'; cases e'
      exact hnf _ dd
    have notIn : ∀ {b : Addr}, b ∉ frs (X.env :: X.outer) → B.get? b = none → sI.heap.get? b = none := fun {b} h1 h2 => by
      cases q : sI.heap.get? b with
      | none => rfl
      | some o => have := nb b o q (by rw [hs]; exact h1); rw [h2] at this; cases this
    have not0 : ∀ {b : Addr}, sI.heap.get? b = none → X.s_0.heap.get? b = none := fun {b} h1 => by
      cases q : X.s_0.heap.get? b with
      | none => rfl
      | some o =>
        obtain ⟨o', e⟩ := J.base.there b o q (by rw [hex]; simp)
        rw [h1] at e; cases e
    have notP : ∀ {b : Addr}, sI.heap.get? b = none → ∀ p ∈ X.pn ++ pins, p.1 ≠ b := fun {b} h1 p hp z => by
      have e := (J.pin p hp).1
      rw [z, h1] at e; cases e
    have nL' : ∀ {b : Addr}, b ∉ frs (X.env :: X.outer) → b ≠ X.env.locals := fun {b} h z => h (List.mem_filterMap.mpr ⟨X.env, List.mem_cons_self, by rw [hf, z]⟩)
    have nF' : ∀ {b : Addr}, b ∉ frs (X.env :: X.outer) → b ∉ X.fs := fun {b} h hm => by
      obtain ⟨e, he, q⟩ := List.mem_filterMap.mp hm
      exact h (List.mem_filterMap.mpr ⟨e, List.mem_cons_of_mem _ he, q⟩)
    have nfr := notFr fl3.2.2.1 he3 hd3
    have nL := nL' nfr
    have nF := nF' nfr
    have S3 := J3.suite he3 hd3 na nL nF
    refine wpAny_handleBy_cons (codeAny_handlers_test ?_) (by intro q; cases q)
    have LT : PySem.W.Looks (model X.prog X.w) h3 (typeOf (.ref a)) cls := fun A Q E s k q => wpAny_typeOf_ref (k _ _ he3) (by rw [hz3.1]; exact q)
    have LM := PySem.W.exm_one (M := model X.prog X.w) (J3.kIn) LT hb1
    have test : ∀ {Q : Value → Shared → Prop} {E : Value → Shared → Prop}, Q c { s' with heap := h3 } → wpAny (model X.prog X.w) (X.A.mark (some (.ref a))) (eval (.Name x np) X.env) Q E { s' with heap := h3 } := fun {Q E} q => by
      obtain ⟨hg, hdbg, hm | ⟨hm, hv, hnn⟩⟩ := hc
      · exact ld_glob (X := X.suite a ((a, oe3) :: (X.pn ++ pins))) S3 hg hm q hdbg
      · exact ld_blt (X := X.suite a ((a, oe3) :: (X.pn ++ pins))) S3 hg hm hv q hnn hdbg
    refine test (LM.here ?_)
    cases b with
    | true =>
      refine codeAny_handlers_suite ?_
      refine HandSPX.lands_againZ fl3 fun h4 fl4 up4 => ?_
      have J4 : Inv X pins σ' H' { s' with heap := h4 } := J.landed nb fl4.1 ((up.trans up3).trans up4) os ag
      obtain ⟨k1, k2, k3, oe4, vs4, T, oT, ts', he4, hz4, hd4, h14, hnT, hTe, hT, hdT, h3T⟩ := id fl4
      have nfT := notFr k3 hT hdT
      have nsT := notIn nfT hnT
      have nsA := notIn nfr k2
      have naT : H' T = none := J.hok.gone nsT
      have S4 : Inv (X.suite a ((a, oe4) :: (T, oT) :: (X.pn ++ pins))) [] σ' H' { s' with heap := h4 } :=
        ⟨J4.ok.suite _ _, J4.os, J4.bare, J4.base, J4.loc, J4.cell, J4.free, J4.freeC, fun p hp => by
          have hp' : p ∈ (a, oe4) :: (T, oT) :: (X.pn ++ pins) := by rw [List.append_nil] at hp; exact hp
          rcases List.mem_cons.mp hp' with e | hp'
          · rw [e]; exact ⟨he4, na, nL, nF, fun v z => by have z' : oe4.data = .cell v := z; rw [hd4] at z'; cases z'⟩
          rcases List.mem_cons.mp hp' with e | hp'
          · rw [e]; exact ⟨hT, naT, nL' nfT, nF' nfT, fun v z => by have z' : oT.data = .cell v := z; rw [hdT] at z'; cases z'⟩
          · exact J4.pin p hp', J4.hok, J4.len⟩
      refine wpAny_mono (Q := SP X pins D) (E := X.xe) ?_ (fun _ _ z => z) (fun e6 s6 z => hpa (some (.ref a)) e6 s6 z)
      refine wpAny_execs_cons (wpAny_mono ((hsu a oe4 cls d ((T, oT) :: (X.pn ++ pins)) hz4 ⟨_, hd4⟩).run [] _ _ H' _ S4 (hyes rfl a na)) (fun f s6 hsp => ?_) (fun _ _ z => False.elim z))
      cases f with
      | next =>
        obtain ⟨σ6, H6, S6, q6⟩ := hsp
        have S6' : Inv (X.suite a ((a, oe4) :: (T, oT) :: (X.pn ++ pins))) [] σ6 H6 s6 := S6
        have pA := S6'.pin (a, oe4) (List.mem_append_left _ List.mem_cons_self)
        have pT := S6'.pin (T, oT) (List.mem_append_left _ (List.mem_cons_of_mem _ List.mem_cons_self))
        have J6 : Inv X pins σ6 H6 s6 := ⟨ok, S6'.os, S6'.bare, S6'.base, S6'.loc, S6'.cell, S6'.free, S6'.freeC, fun p hp => S6'.pin p (List.mem_append_left _ (List.mem_cons_of_mem _ (List.mem_cons_of_mem _ hp))), S6'.hok, S6'.len⟩
        have cA : ∀ x c, X.env.cells.lookup x = some c → c ≠ a := fun x c e z => by
          obtain ⟨v, o, ho, hd⟩ := J6.cell x c e
          rw [z, pA.1] at ho; cases ho
          rw [hd4] at hd; cases hd
        have cT : ∀ x c, X.env.cells.lookup x = some c → c ≠ T := fun x c e z => by
          obtain ⟨v, o, ho, hd⟩ := J6.cell x c e
          rw [z, pT.1] at ho; cases ho
          rw [hdT] at hd; cases hd
        have JG : Inv X pins σ6 H6 { s6 with heap := PySem.W.hideAll s6.heap [a, T] } := inv_hide J6 fun b hb => by
          rcases List.mem_cons.mp hb with rfl | hb
          · exact ⟨not0 nsA, pA.2.1, nL, nF, cA, notP nsA⟩
          · rw [List.mem_singleton] at hb
            subst hb
            exact ⟨not0 nsT, pT.2.1, nL' nfT, nF' nfT, cT, notP nsT⟩
        refine wpAny_execs_cons (PySem.wpAny_Raise_bare ?_)
        unfold PySem.raiseBare raiseStmt
        dsimp only
        refine wpAny_bind (wpAny_handled ?_)
        rw [show (X.A.mark (some (Value.ref a))).handled = some (.ref a) from rfl]
        dsimp only
        refine wpAny_bind (wpAny_rule ?_)
        refine wpAny_bind (wpAny_field pA.1 hd4 h14 ?_)
        rw [if_neg (show ¬ ((Value.ref T == Value.none) = true) from by simp)]
        obtain ⟨B6, hB6⟩ : ∃ B6, B6 = PySem.W.hideAll s6.heap (a :: T :: frs (X.env :: X.outer)) := ⟨_, rfl⟩
        have fl6 : HandSPX.FlyingZ B6 (X.env :: X.outer) a (Zc cls d) s6.heap := by
          refine ⟨fun b o e => by rw [hB6] at e; exact PySem.W.of_hideAll _ e, by rw [hB6]; exact PySem.W.hideAll_none _ (by simp), ?_, oe4, vs4, T, oT, ts', pA.1, hz4, hd4, h14, by rw [hB6]; exact PySem.W.hideAll_none _ (by simp), hTe, pT.1, hdT, h3T⟩
          have st6 := J6.stack
          rw [hs] at st6
          exact Heap.FunFrames.of_keeps (fun b o e _ => ⟨o, e, rfl⟩) (funFrames_none st6 fun b hb => by rw [hB6]; exact PySem.W.hideAll_none _ (List.mem_cons_of_mem _ (List.mem_cons_of_mem _ hb)))
        have fin : wpAny (model X.prog X.w) (X.A.mark (some (.ref a))) (setFlight (.ref a) X.env.frame) (fun _ s4 => wpAny (model X.prog X.w) (X.A.mark (some (.ref a))) (throw (.ref a) : Sem Flow) (SP X pins D) X.xe s4) X.xe s6 := by
          rw [hf]
          refine HandSPX.setFlight_upZ fl6 fun h7 hh7 up7 => wpAny_throw (tk _ _ ?_)
          refine ⟨a, B6, _, pins, σ6, H6, cls, d, rfl, JG, fun b o e hb => ?_, (Heap.UpToSlots.of_keeps fun b o e => PySem.W.of_hideAll _ e).trans up7, .inr (.inr (by rw [hs]; exact hh7)), pA.2.1, rfl, S6'.bare, q6⟩
          have e' : s6.heap.get? b = some o := PySem.W.of_hideAll [a, T] e
          rw [hs] at hb
          rw [hB6]
          refine PySem.W.hideAll_get _ e' fun hm => ?_
          rcases List.mem_cons.mp hm with rfl | hm
          · rw [PySem.W.hideAll_none [b, T] (by simp)] at e; cases e
          rcases List.mem_cons.mp hm with rfl | hm
          · rw [PySem.W.hideAll_none [a, b] (by simp)] at e; cases e
          · exact hb hm
        first
          | exact wpAny_bind (wpAny_pure (wpAny_bind fin))
          | exact wpAny_bind fin
      | brk =>
        obtain ⟨σ6, H6, S6, q6⟩ := hsp
        exact q6.elim
      | cont =>
        obtain ⟨σ6, H6, S6, q6⟩ := hsp
        exact q6.elim
      | ret u =>
        obtain ⟨v6, σ6, H6, S6, r6, q6⟩ := hsp
        exact q6.elim
    | false =>
      show wpAny _ X.A (handleBy (.ref a) X.env []) _ _ _
      refine wpAny_handleBy_nil ?_
      obtain ⟨k1, k2, k3, oe, vs, T, oT, ts', he, hz, hd, h1, hr⟩ := id fl3
      unfold PySem.passOn
      refine wpAny_bind (wpAny_field he hd h1 ?_)
      rw [if_neg (show ¬ ((Value.ref T == Value.none) = true) from by simp)]
      have fin : wpAny (model X.prog X.w) X.A (setFlight (.ref a) X.env.frame) (fun _ s4 => wpAny (model X.prog X.w) X.A (throw (.ref a) : Sem Flow) (SP X pins D) X.xe s4) X.xe { s' with heap := h3 } := by
        rw [hf]
        refine HandSPX.setFlight_upZ fl3 fun h4 hh4 up4 => wpAny_throw (tk _ _ ?_)
        exact ⟨a, B, sI, pins, σ', H', cls, d, rfl, J, nb, (up.trans up3).trans up4, .inr (.inr (by rw [hs]; exact hh4)), na, os, ag, hno rfl⟩
      first
        | exact wpAny_bind (wpAny_pure (wpAny_bind fin))
        | exact wpAny_bind fin
  · cases f with
    | next =>
      obtain ⟨σ', H', J', q⟩ := hsp
      exact wpAny_execs_nil ⟨σ', H', J'.ofTry ok, q⟩
    | brk =>
      obtain ⟨σ', H', J', q⟩ := hsp
      exact ⟨σ', H', J'.ofTry ok, q⟩
    | cont =>
      obtain ⟨σ', H', J', q⟩ := hsp
      exact ⟨σ', H', J'.ofTry ok, q⟩
    | ret u =>
      obtain ⟨v, σ', H', J', r, q⟩ := hsp
      exact ⟨v, σ', H', J'.ofTry ok, r, q⟩
theorem ps_tryRe (K : PySem.W.Frag) (hs : X.stack = X.env :: X.outer) (hf : X.env.frame = some X.env.locals) (hex : X.ex = []) (hc : Names X x c) (hpa : ∀ hd : Option Value, PassesOwnAt (model X.prog X.w) (X.A.mark hd) X.A X.env X.xe) (tk : Takes X Wout)
    (hb : ∀ (W : WX) (pn : List (Addr × Obj)) (xe : Value → Shared → Prop), Takes (X.tr pn xe) W → PassesOwn (model X.prog X.w) X.A X.env xe → PSs (X.tr pn xe) body (tb W))
    (hsu : ∀ (a : Addr) (oe : Obj) (cls : Value) (d : Option Addr) (pn : List (Addr × Obj)), Zc cls d oe → (∃ vs, oe.data = .fields vs) → PS (X.suite a ((a, oe) :: pn)) b₀ (ts a cls d)) (hK : X.K = K := by rfl) :
    PS X (.Try body [.ExceptHandler (some (.Name x np)) none [b₀, .Raise none none pr] pos'] [] [] pos) (tTryRe K c ts Wout tb) := by subst hK; exact ps_try_re hs hf hex hc hpa tk hb hsu
end
section
variable {K : PySem.W.Frag} {G G' : Hp} {XP XPo : Sl → XD → Ow → Prop} {δ : Sl} {O : Ow}
theorem sd_tryRe {tb : WX → TS} {ts : Addr → Value → Option Addr → TS} {c : Value} {Wout : WX} {PE : DE} (hb : ∀ W, SdX K W (tb W) PE XP δ O)
    (hx : ∀ δ' x O', XP δ' x O' → PySem.W.exmOne K (.ref x.cls) c = some true ∧ ∀ a d, Sd K (ts a (.ref x.cls) d) ⟨fun δ2 O2 => XPo δ2 x O2, fun _ _ => False, fun _ _ => False, fun _ _ => False⟩ δ' O') : SdX K Wout (tTryRe K c ts Wout tb) PE XPo δ O := fun G H σ D w s r rx =>
  hb _ G H σ D w s r fun δ' σ' x O' cls d G' H' hp st sl ix => by
    have ix2 := ix
    obtain ⟨rfl, _⟩ := ix2
    obtain ⟨e, hS⟩ := hx δ' x O' hp
    exact ⟨true, e, fun _ a _ => hS a d G' H' σ' _ st.wd sl ⟨fun δ2 O2 G2 H2 σ2 hn st2 sl2 => rx δ2 σ2 x O2 _ d G2 H2 hn (st.trans st2) sl2 (IsX.mono st2.ex ix), fun _ _ _ _ _ z => z.elim, fun _ _ _ _ _ z => z.elim, fun _ _ _ _ _ z => z.elim⟩, fun z => nomatch z⟩
end
end DL

set_option Elab.async false
set_option linter.all false
set_option maxRecDepth 100000
set_option maxHeartbeats 2000000
/-! x in t, a tuple of data of any depth -/
namespace DL
open PySem PySem.Spec L2 PyProof.Rows
def rInTD (K : PySem.W.Frag) : R2 := fun x y H Q => ∃ d ds, Dp K H x d ∧ Dp K H y (.tuple ds) ∧ SeqAt.shaped d = true ∧ SeqAt.shaped (.tuple ds) = true ∧ Q (.bl (ds.any fun z => PyData.eqv z d)) H
theorem op_inTD {X : Cx} (hu : X.A.units + 65 < cLine) : OpR X (compareOp .In) (rInTD X.K) := by
  intro pins s σ H x y v u Q I rx ry h
  obtain ⟨d, ds, hd, he, sd, se, q⟩ := h
  obtain ⟨as, r1⟩ := Dp.reads I d x v hd rx
  obtain ⟨bs, r2⟩ := Dp.reads I (.tuple ds) y u he ry
  exact SeqAt.in_tuple_reads r2 r1 (SeqAt.canLay_of_shaped se) (SeqAt.canLay_of_shaped sd) (room_in_shaped sd hu) ⟨.bl _, H, I, rfl, q⟩
theorem op_inTDK {X : Cx} (K : PySem.W.Frag) (hu : X.A.units + 65 < cLine) (h : X.K = K := by rfl) : OpR X (compareOp .In) (rInTD K) := by subst h; exact op_inTD hu
theorem op_inLDK {X : Cx} (K : PySem.W.Frag) (hu : X.A.units + 65 < cLine) (h : X.K = K := by rfl) : OpR X (compareOp .In) (rInD K) := by subst h; exact op_inD hu
theorem any_toPs (x : D) : ∀ ds : List D, (toPs ds).any (fun z => PyData.eqv z (toP x)) = ds.any fun z => eqD z x
  | [] => rfl
  | d :: r => by
    show (PyData.eqv (toP d) (toP x) || (toPs r).any _) = (eqD d x || r.any _)
    rw [any_toPs x r]; rfl
section
variable {K : PySem.W.Frag} {O : Ow} {x : D} {ds : List D} {n m : Nat}
theorem r_inTD (h1 : Pl n x) (h2 : Pl m (.tup ds)) (hn : n ≤ 60) (hm : m ≤ 60) : R2D K (rInTD K) x (.tup ds) O (.bl (ds.any fun z => eqD z x)) := fun G H v u w a b Q k =>
  ⟨toP x, toPs ds, dp_of w.sub h1.isP a, dp_of w.sub h2.isP b, h1.shaped hn, h2.shaped hm, by rw [any_toPs]; exact k _ G H (Stp.refl w) rfl⟩
theorem r_inLD (h1 : Pl n x) (h2 : Pl m (.lst ds)) (hn : n ≤ 60) (hm : m ≤ 60) : R2D K (rInD K) x (.lst ds) O (.bl (ds.any fun z => eqD z x)) := fun G H v u w a b Q k =>
  ⟨toP x, toPs ds, dp_of w.sub h1.isP a, dp_of w.sub h2.isP b, h1.shaped hn, h2.shaped hm, by rw [any_toPs]; exact k _ G H (Stp.refl w) rfl⟩
end
end DL

set_option Elab.async false
set_option linter.all false
set_option maxRecDepth 100000
set_option maxHeartbeats 2000000
/-! raising: defs with *args or keywords, classes called with keywords, methods called with *args -/
namespace DL
open PySem PySem.Spec L2 PyProof.Rows
def RstarX (n : Nat) (R : DRX) : DRX := fun ds O Post XPost => ∃ ws rest, ds = ws ++ rest ∧ ws.length = n ∧ rest.length ≤ 100000 ∧ R (ws ++ [.tup rest]) O Post XPost
theorem fnOX {P : Program} {w : World} {K : PySem.W.Frag} {mg : Str → Option Value} {base : Heap} {x qual : Str} {st : Stmt} {f : Addr} {fd : FuncData} {N ps : List Str} {k : Nat} {RX : DRX} (F : Fun K x qual st f fd) (S : FnScope N ps (defScope st))
    (len : ∀ ds O Post XPost, RX ds O Post XPost → ds.length = ps.length)
    (hbody : ∀ (cdv : Value) (A : Around) (outer : List Env) (s : Shared) (H : Hp) (E : XK), Room k (A.deeper (PyProof.Rows.envOfC qual (defScope st) s.heap.objs.size f cdv)) →
      ∃ t, PSs (cxOf (L2.CX P w) P w K mg base N qual (defScope st) f cdv A outer s H E) (defBody st) t ∧ ∀ ds O Post XPost, RX ds O Post XPost → SdX K (fun cls d _ H => E cls d H) t ⟨fun _ O' => Post .non O', Post, fun _ _ => False, fun _ _ => False⟩ (fun _ => XPost) (startD N ds) O) :
    FnOk P w K mg base (L2.CX P w) (k + 1) f fd ps (SpDX K RX) := by
  refine F.okX S (fun vs H Q E h => ?_) (fun cdv A outer s H vs Q E hr h => ?_)
  · obtain ⟨G, O, ds, Post, XPost, _, i, hr, _⟩ := h
    rw [← i.length]; exact len ds O Post XPost hr
  · obtain ⟨t, h1, h2⟩ := hbody cdv A outer s H E hr
    exact ⟨t, h1, body_ofX h h2⟩
theorem fnDSX {P : Program} {w : World} {K : PySem.W.Frag} {mg : Str → Option Value} {base : Heap} {x qual pv : Str} {st : Stmt} {f : Addr} {fd : FuncData} {N ps : List Str} {k : Nat} {RX : DRX} (F : Fun K x qual st f fd) (S : FnScope N (ps ++ [pv]) (defScope st))
    (hb : ∀ us rest : List Value, us.length = ps.length → bindArgs fd ⟨us ++ rest, []⟩ = (newTuple rest >>= fun t => pure (ps.zip us ++ [(pv, t)])))
    (hbody : ∀ (cdv : Value) (A : Around) (outer : List Env) (s : Shared) (H : Hp) (E : XK), Room k (A.deeper (PyProof.Rows.envOfC qual (defScope st) s.heap.objs.size f cdv)) →
      ∃ t, PSs (cxOf (L2.CX P w) P w K mg base N qual (defScope st) f cdv A outer s H E) (defBody st) t ∧ ∀ ds O Post XPost, RX ds O Post XPost → SdX K (fun cls d _ H => E cls d H) t ⟨fun _ O' => Post .non O', Post, fun _ _ => False, fun _ _ => False⟩ (fun _ => XPost) (startD N ds) O) :
    FnR P w K mg base (L2.CX P w) (k + 1) f (SpDX K (RstarX ps.length RX)) := by
  obtain ⟨oc, od, kV, doc, pm, an, cdv, ct, osl, rfl, lk, hcd⟩ := F.ex
  refine (StX.fn_star (sp := SpDX K RX) lk hcd S StX.cxUp hb fun A outer s H vs Q E hr h => ?_).imp fun vs H Q E h => ?_
  · obtain ⟨t, h1, h2⟩ := hbody cdv A outer s H E hr
    exact ⟨t, h1, body_ofX h h2⟩
  · obtain ⟨G, O, ds, Post, XPost, wd, i, ⟨ws, rest, rfl, hl, hz, hR⟩, kk, kx⟩ := h
    obtain ⟨us, vs', rfl, i1, i2⟩ := isL_split i
    refine ⟨us, vs', rfl, by rw [← i1.length]; exact hl, by rw [← i2.length]; exact sz hz, fun p hp => ?_⟩
    have st := Stp.new (o := .tup vs') wd hp
    exact ⟨_, O, ws ++ [.tup rest], Post, XPost, st.wd, (i1.mono st.ex).append (show IsL K _ [.tup rest] [.ref p] from ⟨_, _, rfl, ⟨p, vs', rfl, upd_same, i2.mono st.ex⟩, rfl⟩), hR, (fun d O' v G' H' hp' st' iv => kk d O' v G' H' hp' (st.trans st') iv), fun x O' cls d G' H' hp' st' ix => kx x O' cls d G' H' hp' (st.trans st') ix⟩
/-- the defaults behind the arguments, of a def that may raise -/
def RdefX (es : List D) (R : DRX) : DRX := fun ds O Post XPost => R (ds ++ es) O Post XPost
section
variable {P : Program} {w : World} {K : PySem.W.Frag} {mg : Str → Option Value} {base : Heap} {f : Addr} {k n : Nat} {ps ks : List Str} {es : List D} {dvs : List V} {RX : DRX}
theorem fnR_defX (h : ∃ fd, FnOk P w K mg base (L2.CX P w) k f fd ps (SpDX K RX) ∧ KwB K fd ps n ks dvs) (he : ∀ G, IsL K G es dvs) : FnR P w K mg base (L2.CX P w) k f (SpDX K (RdefX es RX)) := by
  obtain ⟨fd, F, ⟨ds, hv, hb⟩, _⟩ := h
  refine (F.raw hb hv).imp fun vs H Q E hs => ?_
  obtain ⟨G, O, xs, Post, XPost, wd, i, hr, kk, kx⟩ := hs
  exact ⟨G, O, xs ++ es, Post, XPost, wd, i.append (he G), hr, kk, kx⟩
theorem FnK.imp {sp sp' : Sp} (h : FnK P w K mg base k f n ks sp) (hi : ∀ vs H Q E, sp' vs H Q E → sp vs H Q E) : FnK P w K mg base k f n ks sp' := by
  obtain ⟨fd, ps, F, hk⟩ := h
  exact ⟨fd, ps, F.imp hi, hk⟩
theorem FnK.calm {R : DR} (F : FnK P w K mg base k f n ks (SpDX K RX)) (h : ∀ ds O Post, R ds O Post → RX ds O Post fun _ _ => False) : FnK P w K mg base k f n ks (SpD K R) :=
  F.imp fun vs H Q E ⟨G, O, ds, Post, wd, i, hr, kk⟩ => ⟨G, O, ds, Post, fun _ _ => False, wd, i, h ds O Post hr, kk, fun _ _ _ _ _ _ z => z.elim⟩
end
section
variable {X : Cx} {C f : Addr} {k n i : Nat} {ks : List Str} {sp : Sp} {E : XK} {x : Str} {e : Expr} {es : List Expr} {kws : List Keyword} {t tk : TA} {p pos : Pos}
/-- x(e, .., k = v, ..), x a local that holds the class -/
theorem pe_mkLKw (M : L2.Mk X.K C f) (F : FnK X.prog X.w X.K X.mg X.base k f (n + 1) ks sp) (hr : Room (k + 1) X.A) (hx : Passes (L2.CX X.prog X.w) X E) (ha : PA X (e :: es) t) (hkw : PK X kws tk) (hN : X.N[i]? = some x) (hv : Vis X.env.scope x) (hd : (x == ("__debug__" : Str)) = false := by decide) (hcd : (x == ("__classdict__" : Str)) = false := by decide)
    (hall : (backToKw pos (keywordEach kws X.env)).all (·.1.isSome) = true := by rfl) (hks : (backToKw pos (keywordEach kws X.env)).filterMap (·.1) = ks := by rfl)
    (he : starEach (e :: es) X.env = (false, eval e X.env) :: starEach es X.env := by rfl) (hpl : ((backTo pos (starEach (e :: es) X.env)).any (·.1) || (backToKw pos (keywordEach kws X.env)).any (·.1.isNone)) = false := by rfl) :
    L2.PE X (.Call (.Name x p) (e :: es) kws pos) (tIsC C i (tMakeK C n ks.length sp (fun vs zs => vs ++ zs) E t tk)) := by
  obtain ⟨fd, ps, F1, hb⟩ := F
  refine ⟨fun pins s σ H Q I h => ?_⟩
  obtain ⟨hs, h⟩ := h
  refine wpAny_Call_Name_kw (thn ((pe_var (pos := p) (i := i) hN hv hd hcd).run pins s σ H (fun v H1 => v = .ref C ∧ H1 = H) I ⟨.ref C, hs, rfl, rfl⟩) fun u s0 ⟨v, H0, I0, r1, q1⟩ => ?_)
  obtain ⟨ev, eH⟩ := q1
  subst ev
  rw [eH] at I0
  obtain rfl : u = Value.ref C := r1
  refine PySem.W.callWith_KW (h₀ := X.base) I.ok.mod.kin M.kp hall (thn (ha.run pos pins s0 σ H _ I0 h) fun us s1 ⟨vs, H1, I1, r, q⟩ => ?_) hpl he
  refine thn (hkw.run pos pins s1 σ H1 _ I1 q) fun ws s2 ⟨zs, H2, I2, rz, l1, l2, q2⟩ => ⟨I2.kIn, ?_⟩
  rw [hks]
  exact run_makeK M F1 hr hb hx I2 r rz l1 l2 q2
end
section
variable {K : PySem.W.Frag} {W : WX} {XP : Sl → XD → Ow → Prop} {δ : Sl} {O O1 O2 O3 O4 : Ow} {t tk : TA} {ta t1 t2 t3 te : TE} {C p g : Addr} {nm : List Str} {ds zs es : List D} {x y z : D} {RX : DRX} {E : XK} {P : D → Ow → Prop} {n m : Nat}
theorem evx_mkKw (hE : ∀ cls d σ H, W cls d σ H → E cls d H) (h : EvA K t δ O ds O1) (hk : EvA K tk δ O1 zs O2) (hn : ds.length = n) (hm : zs.length = m)
    (hr : ∀ x, O2 x = none → RX (.ref x :: ds ++ zs) (setO O2 x (.ins C [] [])) (fun d' O' => d' = .non ∧ P (.ref x) O') fun xd O' => ∃ O3, OSub O3 O' ∧ XP δ xd O3) : EvX K W (tMakeK C n m (SpDX K RX) (fun vs zs => vs ++ zs) E t tk) XP δ O P := fun G H σ w s rx Q k =>
  h G H σ w s _ fun vs G1 H1 s1 i1 => hk G1 H1 σ s1.wd (s.mono s1.ex) _ fun zs' G2 H2 s2 i2 => by
    refine ⟨by rw [← i1.length]; exact hn, by rw [← i2.length]; exact hm, fun x dx hx hdx ne => ?_⟩
    have s12 := s1.trans s2
    have hxd : (upd H2 dx (.own x)) x = none := by rw [upd_ne (Ne.symm ne)]; exact hx
    have st1 := Stp.newF (o := .own x) s12.wd hdx
    have st2 := Stp.newO (o := .ins C dx []) (m := .ins C [] []) st1.wd hxd ⟨dx, [], upd_same, rfl, rfl⟩
    have e12 := (st1.trans st2).ex
    refine spx_run (ds := .ref x :: ds ++ zs) st2.wd (IsL.append (ds := .ref x :: ds) ⟨_, _, rfl, rfl, i1.mono (s2.ex.trans e12)⟩ (i2.mono e12)) (hr x (s12.wd.oNone hx)) (fun d O' v G' H' hp st iv => ?_) fun xd O' cls d G' H' hp st ix => ?_
    · obtain ⟨rfl, hp⟩ := hp
      exact ⟨iv, k (.ref x) O' _ G' H' hp (s12.trans ((st1.trans st2).trans st)) rfl⟩
    · obtain ⟨O3, sb, hx2⟩ := hp
      have sx := s12.trans ((st1.trans st2).trans st)
      exact hE _ _ σ _ (rx δ σ xd O3 cls d G' H' hx2 (sx.drop sb) (s.mono sx.ex) ix)
theorem evx_isC {k : Nat} (hk : δ[k]? = some (some (.ref C))) (h : EvX K W te XP δ O P) : EvX K W (tIsC C k te) XP δ O P := fun G H σ w s rx Q kk => by
  obtain ⟨v, a, b⟩ := s.at_ k _ hk
  cases (show v = .ref C from b)
  exact ⟨a, h G H σ w s rx Q kk⟩
theorem evx_methS3O {m : Str} (hE : ∀ cls d σ H, W cls d σ H → E cls d H) (h : Ev K ta δ O (.ref p) O1) (ho : O1 p = some (.ins C nm ds)) (hm : m ∉ nm) (h1 : Ev K t1 δ O1 x O2) (h2 : Ev K t2 δ O2 y O3) (h3 : Ev K t3 δ O3 z O4) (hz : z = .tup es ∨ LstOf O4 z es) (hr : RX (.ref p :: x :: y :: es) O4 P (XP δ)) :
    EvX K W (tMethS3 K C m g (SpDX K RX) E ta t1 t2 t3) XP δ O P := fun G H σ w s rx Q k =>
  h G H σ w s _ fun v G1 H1 s1 i1 => by
    have i1 : v = .ref p := i1
    subst i1
    obtain ⟨_, dx, xs, e, _, _⟩ := s1.wd.own p _ ho
    refine ⟨p, dx, _, rfl, e, lookup_none (G := G) hm, fun q hq => ?_⟩
    have sb := Stp.newF (o := .met g p) s1.wd hq
    have hqo := s1.wd.oNone hq
    have hqg := s1.wd.gNone hq
    refine h1 G1 _ σ sb.wd (s.mono s1.ex) _ fun v1 G2 H2 s2 j1 => h2 G2 H2 σ s2.wd (s.mono (s1.ex.trans s2.ex)) _ fun v2 G3 H3 s3 j2 => h3 G3 H3 σ s3.wd (s.mono ((s1.ex.trans s2.ex).trans s3.ex)) _ fun v3 G4 H4 s4 j3 => ?_
    have st := (s2.trans s3).trans s4
    have hk : H4 q = some (.met g p) := st.keep q _ upd_same hqo
    have hv : ∃ b vs, v3 = .ref b ∧ (SqT K H4 b vs ∨ SqL K H4 b vs) ∧ IsL K G4 es vs := by
      rcases hz with rfl | rfl | ⟨p', rfl, ho'⟩
      · obtain ⟨p', xs, rfl, e, t⟩ := j3
        exact ⟨p', xs, rfl, .inl (.of (s4.wd.sub _ _ e)), t⟩
      · obtain ⟨p', xs, rfl, e, t⟩ := j3
        exact ⟨p', xs, rfl, .inr (.of (s4.wd.sub _ _ e)), t⟩
      · have j3 : v3 = .ref p' := j3
        subst j3
        obtain ⟨_, xs, e, t⟩ := s4.wd.own p' _ ho'
        exact ⟨p', xs, rfl, .inr (.of e), t⟩
    obtain ⟨b, vs, rfl, hb, t⟩ := hv
    refine ⟨b, vs, rfl, hb, hk, ?_⟩
    have sa := s1.trans (sb.trans st)
    exact spx_run (ds := .ref p :: x :: y :: es) s4.wd ⟨_, _, rfl, rfl, _, _, rfl, j1.mono (s3.trans s4).ex, _, _, rfl, j2.mono s4.ex, t⟩ hr (fun d O' v G' H' hp st' iv => k d O' v G' H' hp (sa.trans st') iv) fun x O' cls d G' H' hp st' ix => hE _ _ σ _ (rx δ σ x O' cls d G' H' hp (sa.trans st') (s.mono (sa.trans st').ex) ix)
end
end DL

set_option Elab.async false
set_option linter.all false
set_option maxRecDepth 100000
set_option maxHeartbeats 2000000
/-! statements whose parts may raise -/
namespace DL
open PySem PySem.Spec L2 PyProof.Rows
theorem units65 {k : Nat} {A : Around} (r : Room k A) : A.units + 65 < cLine := by have := r.un; omega
section
variable {K : PySem.W.Frag} {W : WX} {XP : Sl → XD → Ow → Prop} {δ : Sl} {O O1 O2 O3 O4 : Ow} {t tk : TA} {ta tb tv te : TE} {C p l : Addr} {nm : List Str} {ds zs es : List D} {x y z : D} {RX : DRX} {E : XK} {P : D → Ow → Prop} {PE : DE} {f : Str}
theorem evx_mkV (hE : ∀ cls d σ H, W cls d σ H → E cls d H) (h : EvA K t δ O ds O1)
    (hr : ∀ x, O1 x = none → RX (.ref x :: ds) (setO O1 x (.ins C [] [])) (fun d' O' => d' = .non ∧ O' = setO O1 x (.ins C nm es) ∧ P (.ins C nm es) O1) fun xd O' => ∃ O2, OSub O2 O' ∧ XP δ xd O2) : EvX K W (StX.tMakeR C (SpDX K RX) E t) XP δ O P := fun G H σ w s rx Q k => by
  refine evx_mk (P := fun d O' => ∃ x, O1 x = none ∧ d = .ref x ∧ O' = setO O1 x (.ins C nm es) ∧ P (.ins C nm es) O1) hE h (fun x hx => ?_) G H σ w s rx Q fun d O' v G' H' hp st iv => ?_
  · have z := hr x hx
    have e : (fun (d' : D) (O' : Ow) => d' = .non ∧ ∃ x', O1 x' = none ∧ D.ref x = .ref x' ∧ O' = setO O1 x' (.ins C nm es) ∧ P (.ins C nm es) O1) = fun d' O' => d' = .non ∧ O' = setO O1 x (.ins C nm es) ∧ P (.ins C nm es) O1 := by
      funext d' O'
      refine propext ⟨fun ⟨a, x', b, c, e⟩ => ?_, fun ⟨a, e⟩ => ⟨a, x, hx, rfl, e⟩⟩
      cases c
      exact ⟨a, e⟩
    rw [e]
    exact z
  · obtain ⟨x, hx, rfl, rfl, hP⟩ := hp
    have iv : v = .ref x := iv
    subst iv
    obtain ⟨_, dx, xs, e, hl, tl⟩ := st.wd.own x _ setO_same
    have st2 := Stp.pubI st.wd setO_same e
    rw [delO_setO hx] at st2
    exact k _ _ _ _ _ hP (st.trans st2) ⟨x, dx, xs, rfl, upd_same, hl, tl.mono st2.ex⟩
theorem sdx_fldNP (c : Cls K C) (n : NoAttr K C f) (h : EvX K W tv XP δ O fun d O1 => ∃ O2 nm ds, Ev K ta δ O1 (.ref p) O2 ∧ O2 p = some (.ins C nm ds) ∧ f ∉ nm ∧ nm.length < 1000 ∧ PE.nx δ (setO O2 p (.ins C (nm ++ [f]) (ds ++ [d])))) :
    SdX K W (sFld K ta tv f) PE XP δ O := fun G H σ D w s r rx =>
  h G H σ w s rx _ fun d O1 v G1 H1 hh s1 i1 => by
    obtain ⟨O2, nm, ds, h1, ho, hf, hz, k⟩ := hh
    refine h1 G1 H1 σ s1.wd (s.mono s1.ex) _ fun u G2 H2 s2 i2 => ?_
    have i2 : u = .ref p := i2
    subst i2
    obtain ⟨_, dx, xs, e, hl, t⟩ := s2.wd.own p _ ho
    refine ⟨p, C, dx, _, rfl, e, c, n, by rw [List.length_zip, hl, Nat.min_self]; exact hz, ?_⟩
    rw [putF_new hf hl]
    have st := Stp.write (o := .ins C dx ((nm ++ [f]).zip (xs ++ [v]))) (m' := .ins C (nm ++ [f]) (ds ++ [d])) s2.wd ho ⟨dx, _, upd_same, by simp [hl], t.append ⟨v, [], rfl, i1.mono s2.ex, rfl⟩⟩
    exact r.nx _ _ _ _ _ k ((s1.trans s2).trans st) (s.mono ((s1.ex.trans s2.ex).trans st.ex))
theorem sdx_appP (h1 : Ev K ta δ O (.ref l) O1) (h0 : O1 l = some (.lst es)) (h2 : EvX K W te XP δ O1 fun d O2 => ∃ ds, O2 l = some (.lst ds) ∧ ds.length < 100000 ∧ PE.nx δ (setO O2 l (.lst (ds ++ [d])))) :
    SdX K W (tDrop (tBM K "list" rAppend ta (tCons te tNil))) PE XP δ O := fun G H σ D w s r rx =>
  h1 G H σ w s _ fun v G1 H1 s1 i1 => by
    have i1 : v = .ref l := i1
    subst i1
    obtain ⟨_, xs0, e0, _⟩ := s1.wd.own l _ h0
    refine ⟨.inl ⟨rfl, xs0, .inl (.inl e0)⟩, h2 G1 H1 σ s1.wd (s.mono s1.ex) (rx.step s1) _ fun d O2 u G2 H2 hp s2 i2 => ?_⟩
    obtain ⟨ds, h3, hz, k⟩ := hp
    obtain ⟨_, xs, e, t⟩ := s2.wd.own l _ h3
    refine ⟨l, xs, u, rfl, rfl, e, by rw [← t.length]; exact Evl.sz_lt hz, ?_⟩
    have st := Stp.write (o := .lst (xs ++ [u])) (m' := .lst (ds ++ [d])) s2.wd h3 ⟨_, upd_same, t.append ⟨u, [], rfl, i2, rfl⟩⟩
    exact r.nx _ _ _ _ _ k ((s1.trans s2).trans st) (s.mono ((s1.ex.trans s2.ex).trans st.ex))
theorem evx_pub (h : EvX K W te XP δ O fun d O' => ∃ p ds, d = .ref p ∧ O' p = some (.lst ds) ∧ P (.lst ds) (delO O' p)) : EvX K W te XP δ O P := fun G H σ w s rx Q k =>
  h G H σ w s rx _ fun d O' v G' H' hh st i => by
    obtain ⟨p, ds, rfl, ho, hp⟩ := hh
    have i : v = .ref p := i
    subst i
    obtain ⟨_, xs, e, t⟩ := st.wd.own p _ ho
    have st2 := Stp.pub st.wd ho e
    exact k _ _ _ _ _ hp (st.trans st2) ⟨p, xs, rfl, upd_same, t.mono st2.ex⟩
theorem Ev.tox {d : D} (h : Ev K te δ O d O1) (hp : P d O1) : EvX K W te XP δ O P := EvP.tox (h.toP hp)
end
end DL

set_option Elab.async false
set_option linter.all false
set_option maxRecDepth 100000
set_option maxHeartbeats 4000000
/-! defs whose exceptions have no context; an except clause that takes a tuple apart, then raises again -/
namespace DL
open PySem PySem.Spec L2 PyProof.Rows
section
variable {P : Program} {w : World} {K : PySem.W.Frag} {mg : Str → Option Value} {base : Heap} {f : Addr} {k : Nat} {sp : Sp}
theorem cx_ofN {outer : List Env} {H : Hp} {s : Shared} {E : XK} {u : Value} {s' : Shared} : L2N.CX P w outer H s E u s' → L2.CX P w outer H s E u s' :=
  fun ⟨a, B, H', cls, d, e, fl, r⟩ => ⟨a, B, H', cls, d, e, L2H.flyingZ_imp (fun o z => z.zc) fl, r⟩
theorem FnR.ofN (F : FnR P w K mg base (L2N.CX P w) k f sp) : FnR P w K mg base (L2.CX P w) k f sp := fun A outer s H us vs Q E hr e0 r hs =>
  codeAny_mono (F A outer s H us vs Q E hr e0 r hs) fun r s' h => by
    cases r with
    | ok fl => cases fl <;> exact h
    | error e => exact cx_ofN h
theorem cxUpN : StX.CXUp (L2N.CX P w) := by
  rintro outer s H s2 H2 E e s' un kp ho ⟨a, B, H', cls, d, ea, fl, hok, ub, na, os, ag, he⟩
  refine ⟨a, B, H', cls, d, ea, fl, hok, ⟨fun b o q n hb => ub.keep b o (kp b o q) (un.free b o q n (by simp)) hb, fun b o q hb => ub.slot b o (kp b o q) hb, fun b o q n => ub.free b o (kp b o q) (un.free b o q n (by simp)),
    fun b o q hb => ub.there b o (kp b o q) hb, fun b xs q => ub.tups b xs (un.tups b xs q), fun b o xs q => ub.frzs b o xs (un.frzs b o xs q), fun b ps q => ?_⟩, na, os.trans ho, ag, he⟩
  obtain ⟨m1, e1⟩ := un.tbls b ps q
  obtain ⟨m2, e2⟩ := ub.tbls b _ e1
  exact ⟨m1 ++ m2, by rw [e2, Array.append_assoc]⟩
theorem okXN {x qual : Str} {st : Stmt} {fd : FuncData} {N ps : List Str} (F : Fun K x qual st f fd) (S : FnScope N ps (defScope st)) (len : ∀ vs H Q E, sp vs H Q E → vs.length = ps.length)
    (hbody : ∀ (cdv : Value) (A : Around) (outer : List Env) (s : Shared) (H : Hp) (vs : List V) (Q : VK) (E : XK), Room k (A.deeper (envOfC qual (defScope st) s.heap.objs.size f cdv)) → sp vs H Q E →
      ∃ t, PSs (cxOf (L2N.CX P w) P w K mg base N qual (defScope st) f cdv A outer s H E) (defBody st) t ∧ t { nx := fun _ H' => Q .non H', rt := Q } (start N vs) H) : FnOk P w K mg base (L2N.CX P w) (k + 1) f fd ps sp := by
  obtain ⟨oc, od, kV, doc, pm, an, cdv, ct, osl, rfl, lk, hcd⟩ := F.ex
  exact fn_of lk hcd S len fun A outer s H vs Q E hr hsp => hbody cdv A outer s H vs Q E hr hsp
end
theorem fnDXN {P : Program} {w : World} {K : PySem.W.Frag} {mg : Str → Option Value} {base : Heap} {x qual : Str} {st : Stmt} {f : Addr} {fd : FuncData} {N ps : List Str} {k : Nat} {RX : DRX} (F : Fun K x qual st f fd) (S : FnScope N ps (defScope st)) (hb : Binds K fd ps [])
    (len : ∀ ds O Post XPost, RX ds O Post XPost → ds.length = ps.length)
    (hbody : ∀ (cdv : Value) (A : Around) (outer : List Env) (s : Shared) (H : Hp) (E : XK), Room k (A.deeper (PyProof.Rows.envOfC qual (defScope st) s.heap.objs.size f cdv)) →
      ∃ t, PSs (cxOf (L2N.CX P w) P w K mg base N qual (defScope st) f cdv A outer s H E) (defBody st) t ∧ ∀ ds O Post XPost, RX ds O Post XPost → SdX K (fun cls d _ H => E cls d H) t ⟨fun _ O' => Post .non O', Post, fun _ _ => False, fun _ _ => False⟩ (fun _ => XPost) (startD N ds) O) :
    FnR P w K mg base (L2N.CX P w) (k + 1) f (SpDX K RX) := by
  have F1 : FnOk P w K mg base (L2N.CX P w) (k + 1) f fd ps (SpDX K RX) := by
    refine okXN F S (fun vs H Q E h => ?_) (fun cdv A outer s H vs Q E hr h => ?_)
    · obtain ⟨G, O, ds, Post, XPost, _, i, hr, _⟩ := h
      rw [← i.length]; exact len ds O Post XPost hr
    · obtain ⟨t, h1, h2⟩ := hbody cdv A outer s H E hr
      exact ⟨t, h1, body_ofX h h2⟩
  refine (F1.raw hb .nil).imp fun vs H Q E h => ?_
  rw [List.append_nil]; exact h
theorem fnDSXN {P : Program} {w : World} {K : PySem.W.Frag} {mg : Str → Option Value} {base : Heap} {x qual pv : Str} {st : Stmt} {f : Addr} {fd : FuncData} {N ps : List Str} {k : Nat} {RX : DRX} (F : Fun K x qual st f fd) (S : FnScope N (ps ++ [pv]) (defScope st))
    (hb : ∀ us rest : List Value, us.length = ps.length → bindArgs fd ⟨us ++ rest, []⟩ = (newTuple rest >>= fun t => pure (ps.zip us ++ [(pv, t)])))
    (hbody : ∀ (cdv : Value) (A : Around) (outer : List Env) (s : Shared) (H : Hp) (E : XK), Room k (A.deeper (PyProof.Rows.envOfC qual (defScope st) s.heap.objs.size f cdv)) →
      ∃ t, PSs (cxOf (L2N.CX P w) P w K mg base N qual (defScope st) f cdv A outer s H E) (defBody st) t ∧ ∀ ds O Post XPost, RX ds O Post XPost → SdX K (fun cls d _ H => E cls d H) t ⟨fun _ O' => Post .non O', Post, fun _ _ => False, fun _ _ => False⟩ (fun _ => XPost) (startD N ds) O) :
    FnR P w K mg base (L2N.CX P w) (k + 1) f (SpDX K (RstarX ps.length RX)) := by
  obtain ⟨oc, od, kV, doc, pm, an, cdv, ct, osl, rfl, lk, hcd⟩ := F.ex
  refine (StX.fn_star (sp := SpDX K RX) lk hcd S cxUpN hb fun A outer s H vs Q E hr h => ?_).imp fun vs H Q E h => ?_
  · obtain ⟨t, h1, h2⟩ := hbody cdv A outer s H E hr
    exact ⟨t, h1, body_ofX h h2⟩
  · obtain ⟨G, O, ds, Post, XPost, wd, i, ⟨ws, rest, rfl, hl, hz, hR⟩, kk, kx⟩ := h
    obtain ⟨us, vs', rfl, i1, i2⟩ := isL_split i
    refine ⟨us, vs', rfl, by rw [← i1.length]; exact hl, by rw [← i2.length]; exact sz hz, fun p hp => ?_⟩
    have st := Stp.new (o := .tup vs') wd hp
    exact ⟨_, O, ws ++ [.tup rest], Post, XPost, st.wd, (i1.mono st.ex).append (show IsL K _ [.tup rest] [.ref p] from ⟨_, _, rfl, ⟨p, vs', rfl, upd_same, i2.mono st.ex⟩, rfl⟩), hR, (fun d O' v G' H' hp' st' iv => kk d O' v G' H' hp' (st.trans st') iv), fun x O' cls d G' H' hp' st' ix => kx x O' cls d G' H' hp' (st.trans st') ix⟩
section
variable {X : Cx}
theorem mk_endN {pins : List (Addr × Obj)} {σ : L2.St} {H1 H2 : Hp} {Q : XK} {hp hp2 h2 : Heap} {g1 g2 : Array GenState} {d1 d2 : Drawn} {t1 t2 : Nat} {os1 os2 : OsState} {a C d : Addr} {fs : List (Str × V)} (T : Raises X (.ref C)) (I1 : Inv X pins σ H1 ⟨hp, g1, d1, t1, os1⟩)
    (ha : hp.objs.size ≤ a) (k : ∀ b o, hp.get? b = some o → hp2.get? b = some o) (un : Un (frs X.stack) [] (upd H1 a (exo a C none)) H2 hp2 h2) (hok : HOk X.prog X.w H2 h2) (ho : os2 = os1) (hb : AllBare g2)
    (ea : H2 a = some (exo a C (some d))) (ed : H2 d = some (exd d fs)) (hd1 : H1 d = none) (q : Q (.ref C) (some d) (upd (del H2 a) d (.xd fs))) : L2N.MkP X pins σ Q (.ref a) ⟨h2, g2, d2, t2, os2⟩ := by
  obtain ⟨t0, G, J, kG, ge, hoe, na⟩ := mk_end0 (d2 := d2) (t2 := t2) I1 ha k un hok ho hb ea ed hd1
  exact ⟨a, _, _, ⟨G, g2, d2, t2, os2⟩, _, .ref C, some d, rfl, J, kG, ge, hoe, ⟨rfl, rfl, fun vs e => by cases e; rfl⟩, rfl, rfl, na, rfl, hb, T, q⟩
end
section
variable {X : Cx} {x : Str} {C C0 f : Addr} {k : Nat} {ks : List Str} {sp : Sp} {kws : List Keyword} {ta tk : TA} {p p1 p2 pos : Pos} {o e : Expr} {es : List Expr}
theorem pmk_oexKN (T : OexC X.K C) (iC : PySem.W.findIn X.K (.ref C) "__init__" = some (some (.ref f))) (tI : PySem.W.typeIn X.K (.ref f) = some (.type "function"))
    (F : FnK X.prog X.w X.K X.mg X.base k f 1 ks sp) (hr : Room (k + 1) X.A) (hx : Passes (L2.CX X.prog X.w) X (fun _ _ _ => False)) (hm : X.mg x = some (.ref C)) (hkw : PK X kws tk) (hg : Gl X x := by rfl)
    (hall : (backToKw pos (keywordEach kws X.env)).all (·.1.isSome) = true := by rfl) (hks : (backToKw pos (keywordEach kws X.env)).filterMap (·.1) = ks := by rfl) (hdb : (x == ("__debug__" : Str)) = false := by decide)
    (hpl : ((backTo pos (starEach [] X.env)).any (·.1) || (backToKw pos (keywordEach kws X.env)).any (·.1.isNone)) = false := by rfl) :
    L2N.PMk X (.Call (.Name x p) [] kws pos) (tMkOK C ks.length sp tk) := by
  intro pins s σ H Q I h
  obtain ⟨fd, ps, F1, hb⟩ := F
  obtain ⟨nm, q, N, bs, bm, sn, sub, ab, col, dd, k0, k1, k2, k3, k5, lay, refs⟩ := T.cls
  refine wpAny_Call_Name_kw (ld_glob I hg hm ?_ hdb)
  refine PySem.W.callWith_KW0 (h₀ := X.base) I.ok.mod.kin T.kC hall (thn (hkw.run pos pins s σ H _ I h) fun ws s1 ⟨zs, H1, I1, rz, lz, q1⟩ => ⟨I1.kIn, ?_⟩) hpl
  rw [hks]
  obtain ⟨hp, g, dr, tk', os⟩ := s1
  have le1 : hp.objs.size ≤ hp.objs.size + 1 := Nat.le_succ _
  have fresh : H1 (hp.objs.size + 1) = none := I1.hok.fresh le1
  have want := q1 _ fresh
  have keep : ∀ b u, hp.get? b = some u → ((hp.push (PySem.W.kdv_tup [])).push (PySem.HandSPX.excO C hp.objs.size)).get? b = some u := fun b u e => Heap.get?_push_of_some _ (Heap.get?_push_of_some _ e)
  have there : ((hp.push (PySem.W.kdv_tup [])).push (PySem.HandSPX.excO C hp.objs.size)).get? (hp.objs.size + 1) = some (PySem.HandSPX.excO C hp.objs.size) := by heap_get
  have I2 : Inv X pins σ (upd H1 (hp.objs.size + 1) (exo (hp.objs.size + 1) C none)) ⟨(hp.push (PySem.W.kdv_tup [])).push (PySem.HandSPX.excO C hp.objs.size), g, dr, tk', os⟩ :=
    I1.laid (t' := tk') (a := hp.objs.size + 1) (o := exo (hp.objs.size + 1) C none) (h' := (hp.push (PySem.W.kdv_tup [])).push (PySem.HandSPX.excO C hp.objs.size)) keep le1 (exo_ok there)
  have r2 : Vals ([V.ref (hp.objs.size + 1)] ++ zs) ([Value.ref (hp.objs.size + 1)] ++ ws) := show Vals (V.ref (hp.objs.size + 1) :: zs) (Value.ref (hp.objs.size + 1) :: ws) from .cons rfl rz
  have lw : ws.length = ks.length := (rz.length).symm.trans lz
  refine wpAny_call (PySem.DLX.kwcall F.excBase_ValueError (fun Y => PySem.HandSPX.refsVE_contains Y bm refs) (I1.kIn _ _ lay) (Nat.zero_le _) (PySem.W.looks_findIn I1.kIn iC) (fun self => PySem.W.bind_fn I1.kIn self tI)
    (codeAny_mono (F1.run _ X.stack _ _ ⟨[Value.ref (hp.objs.size + 1)], ks.zip ws⟩ ([Value.ref (hp.objs.size + 1)] ++ ws) _ _ (fun _ _ _ => False) (hr.make C [] (ks.zip ws)) (I2.env0.make C [] (ks.zip ws)) (hb.to _ [Value.ref (hp.objs.size + 1)] ws I2.kIn rfl lw) r2 want) fun r s' got => ?_))
  cases r with
  | error er => exact hx pins σ _ _ er s' I2 got
  | ok fl =>
    cases fl with
    | ret u =>
      obtain ⟨v, H2, os2, bare2, un2, hok2, rv, ev, d, fs, ea, ed, hd1, q2⟩ := got
      subst ev
      obtain ⟨h2, g2, d2, t2, os'⟩ := s'
      exact ⟨rv, mk_endN (raises_own T.exC T.tyC) I1 le1 keep un2 hok2 os2 bare2 ea ed hd1 q2⟩
    | next => exact False.elim got
    | brk => exact False.elim got
    | cont => exact False.elim got
end
section
variable {X : Cx} {CX : CXT} {kk : Nat} {f : Addr} {sp : Sp}
theorem pe_methXN {C : Addr} {m : Str} {o e : Expr} {es : List Expr} {ta : TE} {t : TA} {apos pos : Pos} {pl : Sem Bool} {W : WX} (ho : L2.PE X o ta) (c : Cls X.K C) (hm : Meth X.K C m f)
    (F : FnR X.prog X.w X.K X.mg X.base (L2N.CX X.prog X.w) kk f sp) (hr : Room kk X.A) (tk : L2N.Takes X W) (ha : PA X (e :: es) t)
    (hst : starEach (e :: es) X.env = (false, eval e X.env) :: starEach es X.env := by rfl) (hpl : (backTo pos (starEach es X.env)).any (·.1) = false := by rfl)
    (ht : eval (.Call (.Attribute o m apos) (e :: es) [] pos) X.env = (eval o X.env >>= fun ov => standAt apos.atName >>= fun _ => holding [ov] (getMethod ov m pl) >>= fun ff =>
      callWith pos ff.1 ff.2 (backTo pos (starEach (e :: es) X.env)) (backToKw pos (keywordEach [] X.env))) := by rfl) :
    L2.PE X (.Call (.Attribute o m apos) (e :: es) [] pos) (tMethX C m sp W ta t) := ⟨fun pins s σ H Q I h => by
  refine PySem.W.methodCall_KW (pl := pl) (thn (ho.run pins s σ H _ I h) fun u s1 hx => ?_) ht
  obtain ⟨x, H1, I1, rx, a, dx, fs, rfl, ea, l, q⟩ := hx
  cases (show u = Value.ref a from rx)
  exact getmeth_ok I1 ea c hm l (PySem.W.callWith_K (first := [.ref a]) (h₀ := X.base) I.ok.mod.kin hm.kp (thn (ha.run pos pins s1 σ H1 _ I1 q) fun us s2 ⟨vs, H2, I2, r, q2⟩ => ⟨I2.kIn, wpAny_call (run_fnX (us := .ref a :: us) (vs := .ref a :: vs) F hr (L2N.passAt tk σ) I2 (.cons rfl r) q2)⟩) hst hpl)⟩
end
section
variable {X : Cx} {x : Str} {c : Value} {body : List Stmt} {b₀ : Stmt} {np pos pos' pr : Pos} {tb : WX → TS} {ts : Addr → Value → Option Addr → TS} {Wout : WX}
theorem ps_try_reN (hs : X.stack = X.env :: X.outer) (hf : X.env.frame = some X.env.locals) (hex : X.ex = []) (hc : Names X x c) (hpa : ∀ hd : Option Value, PassesOwnAt (model X.prog X.w) (X.A.mark hd) X.A X.env X.xe) (tk : Takes X Wout)
    (hb : ∀ (W : WX) (pn : List (Addr × Obj)) (xe : Value → Shared → Prop), L2N.Takes (X.tr pn xe) W → PassesOwn (model X.prog X.w) X.A X.env xe → PSs (X.tr pn xe) body (tb W))
    (hsu : ∀ (a : Addr) (oe : Obj) (cls : Value) (d : Option Addr) (pn : List (Addr × Obj)), Zc cls d oe → L2H.HotC (X.suite a ((a, oe) :: pn)) → PS (X.suite a ((a, oe) :: pn)) b₀ (ts a cls d)) :
    PS X (.Try body [.ExceptHandler (some (.Name x np)) none [b₀, .Raise none none pr] pos'] [] [] pos) (tTryRe X.K c ts Wout tb) := by
  refine ⟨fun pins s σ H D I h => ?_⟩
  have ok := I.ok
  have hfr : X.A.frames = some (X.env :: X.outer) := by rw [ok.frames, hs]
  refine wpAny_Try_except ?_
  refine wpAny_mono ((hb (wRe X.K c ts Wout) (X.pn ++ pins) (fun e s₁ => wpAny (model X.prog X.w) X.A (noteFrame e X.env) (fun _ s₂ => wpAny (model X.prog X.w) X.A (setFlight e none) (fun _ s₃ =>
    wpAny (model X.prog X.w) X.A (handleBy e X.env [.ExceptHandler (some (.Name x np)) none [b₀, .Raise none none pr] pos']) (SP X pins D) X.xe s₃) X.xe s₂) X.xe s₁) (fun u s' xx => ?_) PassesOwn.looking).run [] s σ H D (I.toTry _) h) (fun f s1 hsp => ?_) (fun e s1 he => he)
  · -- the catch
    obtain ⟨a, B, sI, pins', σ', H', cls, d, rfl, J', nb, up, sky, na, os, ag, b, hb1, hyes, hno⟩ := xx
    have J : Inv X pins σ' H' sI := J'.ofTry ok
    have sky' : Sky B (X.env :: X.outer) a (L2N.Zn cls d) X.env.locals s'.heap := by rw [← hs]; exact sky
    show wpAny (model X.prog X.w) X.A (noteFrame (.ref a) X.env) _ _ _
    refine L2N.Sky.land L2N.Zn.steady hfr hf sky' fun h3 fl3 up3 => ?_
    have J3 : Inv X pins σ' H' { s' with heap := h3 } := J.landed nb fl3.1 (up.trans up3) os ag
    obtain ⟨oe3, vs3, he3, hz3, hd3⟩ := fl3.there
    have notFr : ∀ {h : Heap} {a : Addr} {o : Obj} {vs : Array Value}, h.FunFrames B (X.env :: X.outer) → h.get? a = some o → o.data = .fields vs → a ∉ frs (X.env :: X.outer) := fun {h a o vs} ff e dd hm => by
      obtain ⟨_, o', e', hnf⟩ := ff.mem hm
      rw [e] at e'; cases e'
      exact hnf _ dd
    have notIn : ∀ {b : Addr}, b ∉ frs (X.env :: X.outer) → B.get? b = none → sI.heap.get? b = none := fun {b} h1 h2 => by
      cases q : sI.heap.get? b with
      | none => rfl
      | some o => have := nb b o q (by rw [hs]; exact h1); rw [h2] at this; cases this
    have not0 : ∀ {b : Addr}, sI.heap.get? b = none → X.s_0.heap.get? b = none := fun {b} h1 => by
      cases q : X.s_0.heap.get? b with
      | none => rfl
      | some o =>
        obtain ⟨o', e⟩ := J.base.there b o q (by rw [hex]; simp)
        rw [h1] at e; cases e
    have notP : ∀ {b : Addr}, sI.heap.get? b = none → ∀ p ∈ X.pn ++ pins, p.1 ≠ b := fun {b} h1 p hp z => by
      have e := (J.pin p hp).1
      rw [z, h1] at e; cases e
    have nL' : ∀ {b : Addr}, b ∉ frs (X.env :: X.outer) → b ≠ X.env.locals := fun {b} h z => h (List.mem_filterMap.mpr ⟨X.env, List.mem_cons_self, by rw [hf, z]⟩)
    have nF' : ∀ {b : Addr}, b ∉ frs (X.env :: X.outer) → b ∉ X.fs := fun {b} h hm => by
      obtain ⟨e, he, q⟩ := List.mem_filterMap.mp hm
      exact h (List.mem_filterMap.mpr ⟨e, List.mem_cons_of_mem _ he, q⟩)
    have nfr := notFr fl3.2.2.1 he3 hd3
    have nL := nL' nfr
    have nF := nF' nfr
    have S3 := J3.suite he3 hd3 na nL nF
    refine wpAny_handleBy_cons (codeAny_handlers_test ?_) (by intro q; cases q)
    have LT : PySem.W.Looks (model X.prog X.w) h3 (typeOf (.ref a)) cls := fun A Q E s k q => wpAny_typeOf_ref (k _ _ he3) (by rw [hz3.1]; exact q)
    have LM := PySem.W.exm_one (M := model X.prog X.w) (J3.kIn) LT hb1
    have test : ∀ {Q : Value → Shared → Prop} {E : Value → Shared → Prop}, Q c { s' with heap := h3 } → wpAny (model X.prog X.w) (X.A.mark (some (.ref a))) (eval (.Name x np) X.env) Q E { s' with heap := h3 } := fun {Q E} q => by
      obtain ⟨hg, hdbg, hm | ⟨hm, hv, hnn⟩⟩ := hc
      · exact ld_glob (X := X.suite a ((a, oe3) :: (X.pn ++ pins))) S3 hg hm q hdbg
      · exact ld_blt (X := X.suite a ((a, oe3) :: (X.pn ++ pins))) S3 hg hm hv q hnn hdbg
    refine test (LM.here ?_)
    cases b with
    | true =>
      refine codeAny_handlers_suite ?_
      refine HandSPX.lands_againZ fl3 fun h4 fl4 up4 => ?_
      have J4 : Inv X pins σ' H' { s' with heap := h4 } := J.landed nb fl4.1 ((up.trans up3).trans up4) os ag
      obtain ⟨k1, k2, k3, oe4, vs4, T, oT, ts', he4, hz4, hd4, h14, hnT, hTe, hT, hdT, h3T⟩ := id fl4
      have nfT := notFr k3 hT hdT
      have nsT := notIn nfT hnT
      have nsA := notIn nfr k2
      have naT : H' T = none := J.hok.gone nsT
      have S4 : Inv (X.suite a ((a, oe4) :: (T, oT) :: (X.pn ++ pins))) [] σ' H' { s' with heap := h4 } :=
        ⟨J4.ok.suite _ _, J4.os, J4.bare, J4.base, J4.loc, J4.cell, J4.free, J4.freeC, fun p hp => by
          have hp' : p ∈ (a, oe4) :: (T, oT) :: (X.pn ++ pins) := by rw [List.append_nil] at hp; exact hp
          rcases List.mem_cons.mp hp' with e | hp'
          · rw [e]; exact ⟨he4, na, nL, nF, fun v z => by have z' : oe4.data = .cell v := z; rw [hd4] at z'; cases z'⟩
          rcases List.mem_cons.mp hp' with e | hp'
          · rw [e]; exact ⟨hT, naT, nL' nfT, nF' nfT, fun v z => by have z' : oT.data = .cell v := z; rw [hdT] at z'; cases z'⟩
          · exact J4.pin p hp', J4.hok, J4.len⟩
      refine wpAny_mono (Q := SP X pins D) (E := X.xe) ?_ (fun _ _ z => z) (fun e6 s6 z => hpa (some (.ref a)) e6 s6 z)
      refine wpAny_execs_cons (wpAny_mono ((hsu a oe4 cls d ((T, oT) :: (X.pn ++ pins)) hz4.zc ⟨(a, oe4), ⟨rfl, vs4, hd4, hz4.2.2 vs4 hd4⟩, List.mem_cons_self⟩).run [] _ _ H' _ S4 (hyes rfl a na)) (fun f s6 hsp => ?_) (fun _ _ z => False.elim z))
      cases f with
      | next =>
        obtain ⟨σ6, H6, S6, q6⟩ := hsp
        have S6' : Inv (X.suite a ((a, oe4) :: (T, oT) :: (X.pn ++ pins))) [] σ6 H6 s6 := S6
        have pA := S6'.pin (a, oe4) (List.mem_append_left _ List.mem_cons_self)
        have pT := S6'.pin (T, oT) (List.mem_append_left _ (List.mem_cons_of_mem _ List.mem_cons_self))
        have J6 : Inv X pins σ6 H6 s6 := ⟨ok, S6'.os, S6'.bare, S6'.base, S6'.loc, S6'.cell, S6'.free, S6'.freeC, fun p hp => S6'.pin p (List.mem_append_left _ (List.mem_cons_of_mem _ (List.mem_cons_of_mem _ hp))), S6'.hok, S6'.len⟩
        have cA : ∀ x c, X.env.cells.lookup x = some c → c ≠ a := fun x c e z => by
          obtain ⟨v, o, ho, hd⟩ := J6.cell x c e
          rw [z, pA.1] at ho; cases ho
          rw [hd4] at hd; cases hd
        have cT : ∀ x c, X.env.cells.lookup x = some c → c ≠ T := fun x c e z => by
          obtain ⟨v, o, ho, hd⟩ := J6.cell x c e
          rw [z, pT.1] at ho; cases ho
          rw [hdT] at hd; cases hd
        have JG : Inv X pins σ6 H6 { s6 with heap := PySem.W.hideAll s6.heap [a, T] } := inv_hide J6 fun b hb => by
          rcases List.mem_cons.mp hb with rfl | hb
          · exact ⟨not0 nsA, pA.2.1, nL, nF, cA, notP nsA⟩
          · rw [List.mem_singleton] at hb
            subst hb
            exact ⟨not0 nsT, pT.2.1, nL' nfT, nF' nfT, cT, notP nsT⟩
        refine wpAny_execs_cons (PySem.wpAny_Raise_bare ?_)
        unfold PySem.raiseBare raiseStmt
        dsimp only
        refine wpAny_bind (wpAny_handled ?_)
        rw [show (X.A.mark (some (Value.ref a))).handled = some (.ref a) from rfl]
        dsimp only
        refine wpAny_bind (wpAny_rule ?_)
        refine wpAny_bind (wpAny_field pA.1 hd4 h14 ?_)
        rw [if_neg (show ¬ ((Value.ref T == Value.none) = true) from by simp)]
        obtain ⟨B6, hB6⟩ : ∃ B6, B6 = PySem.W.hideAll s6.heap (a :: T :: frs (X.env :: X.outer)) := ⟨_, rfl⟩
        have fl6 : HandSPX.FlyingZ B6 (X.env :: X.outer) a (Zc cls d) s6.heap := by
          refine ⟨fun b o e => by rw [hB6] at e; exact PySem.W.of_hideAll _ e, by rw [hB6]; exact PySem.W.hideAll_none _ (by simp), ?_, oe4, vs4, T, oT, ts', pA.1, hz4.zc, hd4, h14, by rw [hB6]; exact PySem.W.hideAll_none _ (by simp), hTe, pT.1, hdT, h3T⟩
          have st6 := J6.stack
          rw [hs] at st6
          exact Heap.FunFrames.of_keeps (fun b o e _ => ⟨o, e, rfl⟩) (funFrames_none st6 fun b hb => by rw [hB6]; exact PySem.W.hideAll_none _ (List.mem_cons_of_mem _ (List.mem_cons_of_mem _ hb)))
        have fin : wpAny (model X.prog X.w) (X.A.mark (some (.ref a))) (setFlight (.ref a) X.env.frame) (fun _ s4 => wpAny (model X.prog X.w) (X.A.mark (some (.ref a))) (throw (.ref a) : Sem Flow) (SP X pins D) X.xe s4) X.xe s6 := by
          rw [hf]
          refine HandSPX.setFlight_upZ fl6 fun h7 hh7 up7 => wpAny_throw (tk _ _ ?_)
          refine ⟨a, B6, _, pins, σ6, H6, cls, d, rfl, JG, fun b o e hb => ?_, (Heap.UpToSlots.of_keeps fun b o e => PySem.W.of_hideAll _ e).trans up7, .inr (.inr (by rw [hs]; exact hh7)), pA.2.1, rfl, S6'.bare, q6⟩
          have e' : s6.heap.get? b = some o := PySem.W.of_hideAll [a, T] e
          rw [hs] at hb
          rw [hB6]
          refine PySem.W.hideAll_get _ e' fun hm => ?_
          rcases List.mem_cons.mp hm with rfl | hm
          · rw [PySem.W.hideAll_none [b, T] (by simp)] at e; cases e
          rcases List.mem_cons.mp hm with rfl | hm
          · rw [PySem.W.hideAll_none [a, b] (by simp)] at e; cases e
          · exact hb hm
        first
          | exact wpAny_bind (wpAny_pure (wpAny_bind fin))
          | exact wpAny_bind fin
      | brk =>
        obtain ⟨σ6, H6, S6, q6⟩ := hsp
        exact q6.elim
      | cont =>
        obtain ⟨σ6, H6, S6, q6⟩ := hsp
        exact q6.elim
      | ret u =>
        obtain ⟨v6, σ6, H6, S6, r6, q6⟩ := hsp
        exact q6.elim
    | false =>
      show wpAny _ X.A (handleBy (.ref a) X.env []) _ _ _
      refine wpAny_handleBy_nil ?_
      obtain ⟨k1, k2, k3, oe, vs, T, oT, ts', he, hz, hd, h1, hr⟩ := id fl3
      unfold PySem.passOn
      refine wpAny_bind (wpAny_field he hd h1 ?_)
      rw [if_neg (show ¬ ((Value.ref T == Value.none) = true) from by simp)]
      have fin : wpAny (model X.prog X.w) X.A (setFlight (.ref a) X.env.frame) (fun _ s4 => wpAny (model X.prog X.w) X.A (throw (.ref a) : Sem Flow) (SP X pins D) X.xe s4) X.xe { s' with heap := h3 } := by
        rw [hf]
        refine HandSPX.setFlight_upZ (L2H.flyingZ_imp (fun o z => z.zc) fl3) fun h4 hh4 up4 => wpAny_throw (tk _ _ ?_)
        exact ⟨a, B, sI, pins, σ', H', cls, d, rfl, J, nb, (up.trans up3).trans up4, .inr (.inr (by rw [hs]; exact hh4)), na, os, ag, hno rfl⟩
      first
        | exact wpAny_bind (wpAny_pure (wpAny_bind fin))
        | exact wpAny_bind fin
  · cases f with
    | next =>
      obtain ⟨σ', H', J', q⟩ := hsp
      exact wpAny_execs_nil ⟨σ', H', J'.ofTry ok, q⟩
    | brk =>
      obtain ⟨σ', H', J', q⟩ := hsp
      exact ⟨σ', H', J'.ofTry ok, q⟩
    | cont =>
      obtain ⟨σ', H', J', q⟩ := hsp
      exact ⟨σ', H', J'.ofTry ok, q⟩
    | ret u =>
      obtain ⟨v, σ', H', J', r, q⟩ := hsp
      exact ⟨v, σ', H', J'.ofTry ok, r, q⟩
theorem ps_tryReN (K : PySem.W.Frag) (hs : X.stack = X.env :: X.outer) (hf : X.env.frame = some X.env.locals) (hex : X.ex = []) (hc : Names X x c) (hpa : ∀ hd : Option Value, PassesOwnAt (model X.prog X.w) (X.A.mark hd) X.A X.env X.xe) (tk : Takes X Wout)
    (hb : ∀ (W : WX) (pn : List (Addr × Obj)) (xe : Value → Shared → Prop), L2N.Takes (X.tr pn xe) W → PassesOwn (model X.prog X.w) X.A X.env xe → PSs (X.tr pn xe) body (tb W))
    (hsu : ∀ (a : Addr) (oe : Obj) (cls : Value) (d : Option Addr) (pn : List (Addr × Obj)), Zc cls d oe → L2H.HotC (X.suite a ((a, oe) :: pn)) → PS (X.suite a ((a, oe) :: pn)) b₀ (ts a cls d)) (hK : X.K = K := by rfl) :
    PS X (.Try body [.ExceptHandler (some (.Name x np)) none [b₀, .Raise none none pr] pos'] [] [] pos) (tTryRe K c ts Wout tb) := by subst hK; exact ps_try_reN hs hf hex hc hpa tk hb hsu
end
/-! ### a tuple taken apart where an exception is handled -/
section
variable {prog : Program} {w : World} {A : Around} {E : Value → Shared → Prop} {s : Shared}
theorem next_tuple_endH {it t x1 : Addr} {i : Nat} {items : Array Value} {Q : Option Value → Shared → Prop} (hot : HotX.HotAt A x1 s.heap) (hx1 : x1 ≠ it)
    (hit : IsTupIter s.heap it t i) (ht : IsTup s.heap t items) (hx : items[i]? = none)
    (hQ : ∀ h', Heap.ExtBut it s.heap h' → Q none { s with heap := h' }) : wpAny (model prog w) A (pyNext (.ref it)) Q E s := by
  obtain ⟨hh, o1, vs1, h1, d1, c1⟩ := hot
  obtain ⟨o, ho, hc, hd⟩ := id hit
  obtain ⟨ol, hol, _, nl, hdl⟩ := ht
  unfold pyNext
  refine wpAny_bind (wpAny_attempt (wpAny_callSpecial?_slot (name := Str.ofString "__next__") hit.typeIs slot_tupleiter_next
    (wpAny_call_entry slot_tupleiter_next hit.typeIs entry_tupleiter_next ?_ (args_tupleiter_next _))))
  show wpAny _ _ (field (.ref it) 0 >>= _) _ _ s
  refine wpAny_bind (wpAny_field ho hd (x := .ref t) rfl ?_)
  show wpAny _ _ (if (Value.ref t == Value.none) = true then _ else _) _ _ s
  rw [if_neg (show ¬ ((Value.ref t == Value.none) = true) from Bool.false_ne_true)]
  show wpAny _ _ (field (.ref it) 1 >>= _) _ _ s
  refine wpAny_bind (wpAny_field ho hd (x := .int i 0) rfl ?_)
  show wpAny _ _ (seqItems? (.ref t) >>= _) _ _ s
  refine wpAny_bind (wpAny_seqItems hol hdl ?_)
  simp only [Int.toNat_natCast, hx]
  refine wpAny_bind (wpAny_rule (wpAny_bind (wpAny_setField ho hd (by simp) ?_)))
  show wpAny _ _ (newExc (.type "StopIteration") [] >>= _) _ _ _
  refine wpAny_bind ?_
  simp only [newExc, newTuple]
  refine wpAny_bind (wpAny_newObj_type ?_ (by size_fits))
  refine wpAny_bind (m := firstArgMember _ _) (wpAny_of_eq (a := Value.none) (by first | rfl | (simp only [firstArgMember]; rfl)) ?_)
  refine wpAny_newObj_type ?_ (by size_fits)
  have g1 : ∀ {f : Obj → Obj} (b : Addr) (u : Obj), b ≠ it → s.heap.get? b = some u → (s.heap.update it f).get? b = some u := fun {f} b u hb e => by
    rw [Heap.get?_update_other _ _ (Ne.symm hb)]; exact e
  refine HotX.raiseNew_hot ⟨hh, o1, vs1, Heap.get?_push_of_some _ (Heap.get?_push_of_some _ (g1 _ _ hx1 h1)), d1, c1⟩ (Nat.ne_of_lt (Heap.lt_size (Heap.get?_push_of_some _ (g1 _ _ hx1 h1)))) (Heap.get?_push_size _ rfl) rfl (by first | (simp; done) | (simp; omega) | (simp only [Array.size_append]; simp; omega)) ?_
  refine wpAny_bind (wpAny_isInstance (T := "StopIteration") (b := true) ⟨_, Heap.get?_update_self _ (Heap.get?_push_size _ rfl) rfl, rfl⟩ isSubtype_stop ?_)
  refine wpAny_pure (hQ _ fun b u hb e => ?_)
  rw [Heap.get?_update_other _ _ (Nat.ne_of_gt (Heap.lt_size (Heap.get?_push_of_some _ (g1 _ _ hb e))))]
  exact Heap.get?_push_of_some _ (Heap.get?_push_of_some _ (g1 _ _ hb e))
theorem unpackItems_tupleH {t x1 : Addr} {items : Array Value} {Q : List Value → Shared → Prop} (hot : HotX.HotAt A x1 s.heap) (ht : IsTup s.heap t items)
    (hQ : ∀ h', Heap.ExtBut s.heap.objs.size s.heap h' → Q items.toList { s with heap := h' }) : wpAny (model prog w) A (unpackItems (.ref t) items.size none) Q E s := by
  have hlt : t ≠ s.heap.objs.size := by obtain ⟨o, ho, _⟩ := ht; exact Nat.ne_of_lt (Heap.lt_size ho)
  obtain ⟨hh, o1, vs1, h1, d1, c1⟩ := hot
  have hx1 : x1 ≠ s.heap.objs.size := Nat.ne_of_lt (Heap.lt_size h1)
  unfold unpackItems
  refine wpAny_bind ?_
  · unfold notIterableAtAll
    refine wpAny_bind (wpAny_specialOf ht.typeIs slot_tuple_iter.lookup ?_)
    refine wpAny_pure ?_
    simp only [Bool.false_eq_true, if_false]
    refine wpAny_bind (wpAny_holding (iter_tuple ht ?_))
    refine wpAny_bind (wpAny_holding (draw_tuple hlt items.size 0 _ _ ⟨_, Heap.get?_push_size _ rfl, rfl, rfl⟩ (ht.push _) (by omega) fun h₁ hit₁ hs₁ => ?_))
    have hall : List.take items.size (List.drop 0 items.toList) = items.toList := by
      rw [List.drop_zero]; exact List.take_of_length_le (by simp)
    rw [hall]
    rw [if_neg (by simp)]
    have ht₁ : IsTup h₁ t items := (ht.push _).extBut hs₁.extBut hlt
    refine wpAny_bind (wpAny_holding (next_tuple_endH (x1 := x1) ⟨hh, o1, vs1, hs₁.extBut _ _ hx1 (Heap.get?_push_of_some _ h1), d1, c1⟩ hx1 hit₁ ht₁ (by simp) fun h₂ he₂ => ?_))
    simp only [Option.isSome_none, Bool.false_eq_true, if_false]
    refine wpAny_pure (hQ h₂ fun b o hb e => he₂ b o hb (hs₁.extBut b o hb (Heap.get?_push_of_some _ e)))
theorem assign_Tuple_tupleH {env : Env} {elts : List Expr} {k} {pos : Pos} {t x1 : Addr} {items : Array Value} {Q : Unit → Shared → Prop} (hot : HotX.HotAt A x1 s.heap) (ht : IsTup s.heap t items)
    (hn : (assignEach elts env).length = items.size) (hstar : (assignEach elts env).findIdx? (·.1) = none)
    (h : ∀ h', Heap.ExtBut s.heap.objs.size s.heap h' → wpAny (model prog w) A (assignInOrder ((assignEach elts env).map (·.2)) items.toList) Q E { s with heap := h' }) :
    wpAny (model prog w) A (assign (.Tuple elts k pos) env (.ref t)) Q E s := by
  rw [assign_Tuple]
  refine wpAny_bind (wpAny_standAt ?_)
  unfold unpack
  rw [hn, hstar]
  exact wpAny_bind (wpAny_holding (unpackItems_tupleH hot ht h))
end
theorem pg_tupH {X : Cx} (K : PySem.W.Frag) {es : List Expr} {k : Nat} {pos : Pos} {t : TGs} {n : Nat} (hc : L2H.HotC X) (h : PGs X es t)
    (hn : (assignEach es X.env).length = n := by rfl) (hK : X.K = K := by rfl) (hst : (assignEach es X.env).findIdx? (·.1) = none := by rfl) : PG X (.Tuple es k pos) (gTup K n t) := by
  subst hK
  refine ⟨fun pins s σ H v u Q I r hw => ?_⟩
  obtain ⟨a, xs, e1, hq, hl, hw⟩ := hw
  subst e1
  cases r
  obtain ⟨its, rv, ht, hz⟩ := I.tuple hq
  obtain ⟨x1, hot⟩ := hc.at I
  refine assign_Tuple_tupleH hot ht (by simp [hn, ← hl, rv.length]) hst fun h' hx => ?_
  have I1 : Inv X pins σ H { s with heap := h' } := I.kept (t' := s.toks) fun b o e => hx b o (Nat.ne_of_lt (Heap.lt_size e)) e
  exact h.run pins _ σ H xs _ Q I1 (by simpa using rv) hw
section
variable {K : PySem.W.Frag} {XP XPo : Sl → XD → Ow → Prop} {δ : Sl} {O : Ow}
end
end DL

set_option Elab.async false
set_option linter.all false
set_option maxRecDepth 100000
set_option maxHeartbeats 2000000
namespace DL
open PySem PySem.Spec L2 PyProof.Rows
section
variable {K : PySem.W.Frag} {W : WX} {XP : Sl → XD → Ow → Prop} {δ : Sl} {O O1 O2 : Ow} {t : TA} {ta : TE} {C : Addr} {es : List D} {RX : DRX} {E : XK} {P : D → Ow → Prop}
theorem evx_cmeth (hE : ∀ cls d σ H, W cls d σ H → E cls d H) (h : Ev K ta δ O (.ref C) O1) (ht : EvA K t δ O1 es O2) (hr : RX (.ref C :: es) O2 P (XP δ)) : EvX K W (ClX.tCMeth C (SpDX K RX) E ta t) XP δ O P := fun G H σ w s rx Q k =>
  h G H σ w s _ fun v G1 H1 s1 i1 => ⟨i1, ht G1 H1 σ s1.wd (s.mono s1.ex) _ fun vs G2 H2 s2 i2 => spx_run (ds := .ref C :: es) s2.wd ⟨_, _, rfl, rfl, i2⟩ hr (fun d O' v G' H' hp st iv => k d O' v G' H' hp ((s1.trans s2).trans st) iv) fun x O' cls d G' H' hp st ix => hE _ _ σ _ (rx δ σ x O' cls d G' H' hp ((s1.trans s2).trans st) (s.mono ((s1.trans s2).trans st).ex) ix)⟩
end
end DL

set_option Elab.async false
set_option linter.all false
set_option maxRecDepth 100000
set_option maxHeartbeats 2000000
/-! a list taken apart -/
namespace DL
open PySem PySem.Spec L2 PyProof.Rows
theorem pg_lstK {X : Cx} (K : PySem.W.Frag) {elts : List Expr} {kk : Nat} {tpos : Pos} {n : Nat} {gs : TGs} (hc : X.calm = true) (hgs : PGs X elts gs) (hn : (assignEach elts X.env).length = n := by rfl) (h : X.K = K := by rfl) (hst : (assignEach elts X.env).findIdx? (·.1) = none := by rfl) : PG X (.Tuple elts kk tpos) (gLst K n gs) := by
  subst h; exact pg_lst hc hgs hn hst
section
variable {K : PySem.W.Frag} {δ : Sl} {O : Ow} {ds : List D}
theorem gd_lst {n : Nat} {gs : TGs} {N : Sl → Ow → Prop} (hn : ds.length = n) (h : Gds K gs ds δ O N) : Gd K (gLst K n gs) (.lst ds) δ O N := fun G H σ v w s iv Q k => by
  obtain ⟨p, xs, rfl, e, t⟩ := iv
  exact ⟨p, xs, rfl, .inl (.inl (w.sub _ _ e)), by rw [← t.length]; exact hn, h G H σ xs w s t _ k⟩
end
end DL

set_option Elab.async false
set_option linter.all false
set_option maxRecDepth 100000
set_option maxHeartbeats 2000000
/-! a def whose result is a new list, read as one that gives plain data -/
namespace DL
open PySem PySem.Spec L2 PyProof.Rows
section
variable {P : Program} {w : World} {K : PySem.W.Frag} {mg : Str → Option Value} {base : Heap} {CX : CXT} {k : Nat} {f : Addr}
theorem FnR.pubX {RX RX1 : DRX} (F : FnR P w K mg base CX k f (SpDX K RX1)) (h : ∀ ds O Post XP, RX ds O Post XP → RX1 ds O (fun d O' => ∃ r es, d = .ref r ∧ O' r = some (.lst es) ∧ Post (.lst es) (delO O' r)) XP) : FnR P w K mg base CX k f (SpDX K RX) :=
  F.imp fun vs H Q E ⟨G, O, ds, Post, XP, wd, i, hr, kk, kx⟩ => ⟨G, O, ds, _, XP, wd, i, h ds O Post XP hr, (fun d O' v G' H' hp st iv => by
    obtain ⟨r, es, rfl, ho, hp⟩ := hp
    have iv : v = .ref r := iv
    subst iv
    obtain ⟨_, xs, e, t⟩ := st.wd.own r _ ho
    have st2 := Stp.pub st.wd ho e
    exact kk _ _ _ _ _ hp (st.trans st2) ⟨r, xs, rfl, upd_same, t.mono st2.ex⟩), kx⟩
theorem FnR.pub {R R1 : DR} (F : FnR P w K mg base CX k f (SpD K R1)) (h : ∀ ds O Post, R ds O Post → R1 ds O (fun d O' => ∃ r es, d = .ref r ∧ O' r = some (.lst es) ∧ Post (.lst es) (delO O' r))) : FnR P w K mg base CX k f (SpD K R) :=
  F.imp fun vs H Q E ⟨G, O, ds, Post, wd, i, hr, kk⟩ => ⟨G, O, ds, _, wd, i, h ds O Post hr, fun d O' v G' H' hp st iv => by
    obtain ⟨r, es, rfl, ho, hp⟩ := hp
    have iv : v = .ref r := iv
    subst iv
    obtain ⟨_, xs, e, t⟩ := st.wd.own r _ ho
    have st2 := Stp.pub st.wd ho e
    exact kk _ _ _ _ _ hp (st.trans st2) ⟨r, xs, rfl, upd_same, t.mono st2.ex⟩⟩
end
end DL

set_option Elab.async false
set_option linter.all false
set_option maxRecDepth 100000
set_option maxHeartbeats 2000000
/-! [f a for a in l if q a], l owned or plain, the new list owned -/
namespace DL
open PySem PySem.Spec L2 PyProof.Rows
section
variable {K : PySem.W.Frag} {W : WX} {XP : Sl → XD → Ow → Prop} {δ : Sl} {O O1 O2 O3 : Ow} {d x y z : D} {ta tb tc te tv : TE} {t : TA} {tt : TT} {tu : TS} {i j : Int} {p q l C : Addr} {ds es : List D} {b : Bool} {R : DR} {E : XK} {P : DE} {g : TG} {wi : TI} {items : List D} {vs : List Nat}
variable {P : D → Ow → Prop}
theorem evp_lcLO {α : Type} (l : List α) (enc f : α → D) (δ2 : α → Sl) (q : α → Bool) (hi : EvIL K wi δ O x (l.map enc) O1) (hx : LstOf O1 x (l.map enc)) (hz : l.length ≤ 50000)
    (h : ∀ a ∈ l, Gc K g vs (enc a) (wipeD δ vs) (δ2 a) ∧ EvT K tt (δ2 a) O1 (q a) O1 ∧ (q a = true → Ev K te (δ2 a) O1 (f a) O1)) 
    (hd : ∀ D, O1 D = none → P (.ref D) (setO O1 D (.lst ((l.filter q).map f)))) : EvP K (tLc wi g tt te vs) δ O P := fun G H σ w s Q k =>
  hi G H σ w s _ fun J G1 H1 s1 ok D hD => by
    refine ⟨fun i m H' => i + m = l.length ∧ ∃ G' acc, Stp K G1 O1 H1 G' O1 H' ∧ G' D = none ∧ H' D = some (.lst acc) ∧ IsL K G' (((l.take i).filter q).map f) acc,
      ⟨l.length, by omega, G1, [], Stp.newF s1.wd hD, s1.wd.gNone hD, upd_same, by rw [List.take_zero]; rfl⟩, fun i m H' hW => ?_⟩
    obtain ⟨em, G', acc, st, gD, hD', il⟩ := hW
    have oD : O1 D = none := s1.wd.oNone hD
    obtain ⟨go, stop⟩ := ok G' O1 H' st.ex st.wd hx i
    by_cases hl : i < l.length
    · have hli : l[i]? = some l[i] := List.getElem?_eq_getElem hl
      have hmem : l[i] ∈ l := List.getElem_mem hl
      obtain ⟨g1, g2⟩ := go (enc l[i]) (by rw [List.getElem?_map, hli]; rfl)
      refine .inr ⟨g1, fun H2 => ∃ G' acc, Stp K G1 O1 H1 G' O1 H2 ∧ G' D = none ∧ H2 D = some (.lst acc) ∧ IsL K G' (((l.take (i + 1)).filter q).map f) acc,
        fun H2 qq => ⟨m - 1, by omega, by omega, qq⟩, fun x H2 hy => ?_⟩
      obtain ⟨G2, st2, ix⟩ := g2 x H2 hy
      have d2 := st2.fresh D _ hD' oD gD
      have k2 := st2.keep D _ hD' oD
      have sl2 : SlIs K G2 (wipeD δ vs) (wipe σ vs) := wipeD_is (s.mono ((s1.ex.trans st.ex).trans st2.ex)) vs
      obtain ⟨h1, h2, h3⟩ := h _ hmem
      have etk : l.take (i + 1) = l.take i ++ [l[i]] := by rw [List.take_add_one, hli]; rfl
      refine h1 G2 H2 σ (wipe σ vs) x sl2 wipe_wipe st2.wd.sub ix _ fun σ2 ew sl => ⟨ew, h2 G2 H2 σ2 st2.wd sl _ fun G3 H3 s3 => ?_⟩
      have d3 := s3.fresh D _ k2 d2.2 d2.1
      have k3 := s3.keep D _ k2 d2.2
      cases eq : q l[i] with
      | true =>
        refine iteT (h3 eq G3 H3 σ2 s3.wd (sl.mono s3.ex) _ fun y G4 H4 s4 iy => ?_)
        have d4 := s4.fresh D _ k3 d3.2 d3.1
        have k4 := s4.keep D _ k3 d3.2
        have sx := ((st.trans st2).trans s3).trans s4
        refine ⟨acc, k4, ?_, G4, acc ++ [y], sx.writeF hD d4.1 d4.2, d4.1, upd_same, ?_⟩
        · rw [← il.length, List.length_map]
          refine Evl.sz_lt (Nat.lt_of_le_of_lt (List.length_filter_le ..) ?_)
          rw [List.length_take]; omega
        · rw [etk, List.filter_append, List.map_append]
          refine (il.mono (st2.ex.trans (s3.ex.trans s4.ex))).append ?_
          rw [List.filter_cons_of_pos eq]
          exact ⟨y, [], rfl, iy, rfl⟩
      | false =>
        refine iteF ⟨G3, acc, (st.trans st2).trans s3, d3.1, k3, ?_⟩
        rw [etk, List.filter_append, List.filter_cons_of_neg (by simp [eq]), List.filter_nil, List.append_nil]
        exact il.mono (st2.ex.trans s3.ex)
    · refine .inl ⟨stop (List.getElem?_eq_none (by rw [List.length_map]; omega)), ?_⟩
      rw [List.take_of_length_le (by omega)] at il
      exact k _ _ _ _ _ (hd D oD) (s1.trans (st.ownF hD gD oD ⟨acc, hD', il⟩)) rfl
end
end DL

set_option Elab.async false
set_option linter.all false
set_option maxRecDepth 100000
set_option maxHeartbeats 2000000
/-! isinstance of an own instance and a built-in type -/
namespace DL
open PySem PySem.Spec L2
open PyProof.Rows hiding St
theorem kit_bt {K : PySem.W.Frag} {S : Addr} {t : String} {b : Bool} (hm : PySem.W.kitMeta t = true) (hs : PySem.W.subIn K (.ref S) (.type t) = some b) : PySem.W.kitOne K (.ref S) (.type t) = some b := by
  unfold PySem.W.kitOne
  rw [show (Value.ref S == Value.type t) = false from rfl]
  show (if PySem.W.kitMeta t = true then PySem.W.subIn K (.ref S) (.type t) else none) = some b
  rw [if_pos hm]
  exact hs
variable {K : PySem.W.Frag} {O : Ow} {C p : Addr} {nm : List Str} {ds : List D} {b : Bool}
theorem c_isiOwnB {t : String} (c : Cls K C) (ha : PySem.W.findIn K (.ref C) "__class__" = some (some (.builtin "object.__class__")))
      (hn : PySem.W.specialIn K (.builtin "object.__class__") "__get__" = some (some (.builtin "getset_descriptor.__get__"))) (htk : PySem.W.takesIn K (.builtin "object.__class__") = some true)
      (hm : PySem.W.mroIn K C (.type "object") = some true) (hk : PySem.W.kitOne K (.ref C) (.type t) = some b) : RCD K (rIsi K) [.ins C nm ds, .ty t] O (.bl b) := fun G H vs w a Q k => by
  obtain ⟨v, u, rfl, ⟨p, dx, xs, rfl, e, _, _⟩, iu⟩ := isL2 a
  cases iu
  exact ⟨_, _, _, _, b, rfl, .ty t, .base (.ins (w.sub _ _ e) c ha hn htk hm), hk, k _ G H (Stp.refl w) rfl⟩
/-- Sm at a greater depth -/
theorem Sm.mono {n : Nat} {d : D} (h : Sm n d) : ∀ {m : Nat}, n ≤ m → Sm m d := by
  induction h with
  | flat h => exact fun _ => .flat h
  | tup hl _ ih =>
    intro m hm
    obtain ⟨k, rfl⟩ : ∃ k, m = k + 1 := ⟨m - 1, by omega⟩
    exact .tup hl fun d hd => ih d hd (by omega)
  | lst hl _ ih =>
    intro m hm
    obtain ⟨k, rfl⟩ : ∃ k, m = k + 1 := ⟨m - 1, by omega⟩
    exact .lst hl fun d hd => ih d hd (by omega)
end DL

set_option Elab.async false
set_option linter.all false
set_option maxRecDepth 100000
set_option maxHeartbeats 2000000
/-! [f x for x in e], e may raise -/
namespace DL
open PySem PySem.Spec L2
open PyProof.Rows hiding St
section
variable {K : PySem.W.Frag} {W : WX} {XP : Sl → XD → Ow → Prop} {δ : Sl} {O O1 O2 O3 : Ow} {d x y z : D} {ta tb tc te tv te0 : TE} {t : TA} {tt : TT} {tu : TS} {i j : Int} {p q l C : Addr} {ds es : List D} {b : Bool} {R : DR} {E : XK} {P : D → Ow → Prop} {g : TG} {wi : TI} {items : List D} {vs : List Nat}
theorem lst_it {G H : Hp} {v : V} (w : Wd K G O H) (i1 : Is K G x v) (hx : LstOf O x ds) : ∃ a, v = .ref a ∧ (∃ xs, SqL K H a xs) ∧ ItOkL K (Itl K a) G x ds := by
  have key : ∀ {a : Addr} {G' : Hp} {O' : Ow} {H' : Hp} {xs : List V}, v = .ref a → Wd K G' O' H' → SqL K H' a xs → IsL K G' ds xs → ∀ i : Nat, (∀ d, ds[i]? = some d → (Itl K a).go i H' ∧ ∀ x H'', (Itl K a).yld i H' x H'' → ∃ G'', Stp K G' O' H' G'' O' H'' ∧ Is K G'' d x) ∧ (ds[i]? = none → (Itl K a).stop i H') := fun {a G' O' H' xs} _ w' e' t i => by
    refine ⟨fun d hd => ?_, fun hn => ⟨xs, e', by rw [← t.length]; exact List.getElem?_eq_none_iff.mp hn⟩⟩
    obtain ⟨u, hu, iu⟩ := t.get hd
    refine ⟨⟨xs, u, e', hu⟩, fun x H'' hy => ?_⟩
    obtain ⟨rfl, fx⟩ := hy
    have ex : u = x := Option.some.inj (hu.symm.trans (fx xs e'))
    subst ex
    exact ⟨G', Stp.refl w', iu⟩
  rcases hx with rfl | ⟨a, rfl, ho⟩
  · obtain ⟨a, xs, rfl, e, t⟩ := i1
    exact ⟨a, rfl, ⟨xs, .inl (.inl (w.sub _ _ e))⟩, fun G' O' H' sb w' _ i => key rfl w' (.inl (.inl (w'.sub _ _ (sb _ _ e)))) (t.mono sb) i⟩
  · have i1 : v = .ref a := i1
    subst i1
    obtain ⟨_, xs, e, t⟩ := w.own a _ ho
    refine ⟨a, rfl, ⟨xs, .inl (.inl e)⟩, fun G' O' H' sb w' hl i => ?_⟩
    rcases hl with z | ⟨a', z, ho'⟩
    · cases z
    · cases z
      obtain ⟨_, xs', e', t'⟩ := w'.own a _ ho'
      exact key rfl w' (.inl (.inl e')) t' i
theorem evx_lcLs (h : EvX K W te0 XP δ O fun d O1 => ∃ ds outs : List D, LstOf O1 d ds ∧ ds.length ≤ 50000 ∧ outs.length = ds.length ∧ (∀ (i : Nat) a b, ds[i]? = some a → outs[i]? = some b → ∃ δ2, Gc K g vs a (wipeD δ vs) δ2 ∧ Ev K te δ2 O1 b O1) ∧ P (.lst outs) O1) : EvX K W (tLc (iList K te0) g tYes te vs) XP δ O P := fun G H σ w s rx Q k =>
  h G H σ w s rx _ fun d O1 v G1 H1 hP s1 i1 => by
    obtain ⟨ds, outs, hx, hz, hlen, he, hPo⟩ := hP
    obtain ⟨a, rfl, hq, ok⟩ := lst_it s1.wd i1 hx
    refine ⟨a, rfl, hq, fun D hD => ?_⟩
    refine ⟨fun i m H' => i + m = ds.length ∧ ∃ G' acc, Stp K G1 O1 H1 G' O1 H' ∧ G' D = none ∧ H' D = some (.lst acc) ∧ IsL K G' (outs.take i) acc,
      ⟨ds.length, by omega, G1, [], Stp.newF s1.wd hD, s1.wd.gNone hD, upd_same, by rw [List.take_zero]; rfl⟩, fun i m H' hW => ?_⟩
    obtain ⟨em, G', acc, st, gD, hD', il⟩ := hW
    have oD : O1 D = none := s1.wd.oNone hD
    obtain ⟨go, stop⟩ := ok G' O1 H' st.ex st.wd hx i
    by_cases hl : i < ds.length
    · have hli : ds[i]? = some ds[i] := List.getElem?_eq_getElem hl
      have hlo : outs[i]? = some (outs[i]'(by omega)) := List.getElem?_eq_getElem (by omega)
      obtain ⟨g1, g2⟩ := go ds[i] hli
      refine .inr ⟨g1, fun H2 => ∃ G' acc, Stp K G1 O1 H1 G' O1 H2 ∧ G' D = none ∧ H2 D = some (.lst acc) ∧ IsL K G' (outs.take (i + 1)) acc,
        fun H2 qq => ⟨m - 1, by omega, by omega, qq⟩, fun x H2 hy => ?_⟩
      obtain ⟨G2, st2, ix⟩ := g2 x H2 hy
      have d2 := st2.fresh D _ hD' oD gD
      have k2 := st2.keep D _ hD' oD
      have sl2 : SlIs K G2 (wipeD δ vs) (wipe σ vs) := wipeD_is (s.mono ((s1.ex.trans st.ex).trans st2.ex)) vs
      obtain ⟨δ2, h1, h3⟩ := he i _ _ hli hlo
      have etk : outs.take (i + 1) = outs.take i ++ [outs[i]'(by omega)] := by rw [List.take_add_one, hlo]; rfl
      refine h1 G2 H2 σ (wipe σ vs) x sl2 wipe_wipe st2.wd.sub ix _ fun σ2 ew sl => ⟨ew, ?_⟩
      unfold tYes
      dsimp only
      rw [if_pos rfl]
      refine h3 G2 H2 σ2 st2.wd sl _ fun y G4 H4 s4 iy => ?_
      have d4 := s4.fresh D _ k2 d2.2 d2.1
      have k4 := s4.keep D _ k2 d2.2
      have sx := (st.trans st2).trans s4
      refine ⟨acc, k4, ?_, G4, acc ++ [y], sx.writeF hD d4.1 d4.2, d4.1, upd_same, ?_⟩
      · rw [← il.length]
        refine Evl.sz_lt ?_
        rw [List.length_take]; omega
      · rw [etk]
        exact (il.mono (st2.ex.trans s4.ex)).append ⟨y, [], rfl, iy, rfl⟩
    · refine .inl ⟨stop (List.getElem?_eq_none (by omega)), ?_⟩
      rw [List.take_of_length_le (by omega)] at il
      have sp := st.pubF hD gD oD hD'
      exact k _ _ _ _ _ hPo (s1.trans sp) ⟨D, acc, rfl, upd_same, il.mono fun b u e => by rw [upd_ne (ne_of_none e gD)]; exact e⟩
/-- one word against a tuple that begins with another one -/
theorem eqD_word {a b : Str} {r s : List D} (h : (a == b) = false) : eqD (.tup (.str a :: r)) (.tup (.str b :: s)) = false := by
  show ((a == b) && PyData.eqvAll (toPs r) (toPs s)) = false
  rw [h]; rfl
end
end DL

set_option Elab.async false
set_option linter.all false
set_option maxRecDepth 100000
set_option maxHeartbeats 2000000
/-! a lambda called by the def that made it: e() -/
namespace DL
open PySem PySem.Spec PyProof.Rows L2
def tLamC (X : Cx) (k : Nat) (tf : TE) : TE := fun σ H Q => tf σ H fun v H1 => ∃ f L dV c, v = .ref f ∧ H1 f = some (LamO f L dV c) ∧ ∀ base', BUp X.base base' → Cap X σ base' → ∃ sp, FnR X.prog X.w X.K X.mg base' (L2.CX X.prog X.w) k f sp ∧ sp [] H1 Q fun _ _ _ => False
theorem pe_lamC {X : Cx} {k : Nat} {fe : Expr} {tf : TE} {pos : Pos} (hfn : ∀ x, X.fn x = true) (hr : Room k X.A) (hf : L2.PE X fe tf)
    (ht : eval (.Call fe [] [] pos) X.env = (do callWith pos (← eval fe X.env) [] (backTo pos (starEach [] X.env)) (backToKw pos (keywordEach [] X.env))) := by rfl) :
    L2.PE X (.Call fe [] [] pos) (tLamC X k tf) := ⟨fun pins s σ H Q I h => by
  rw [ht]
  refine wpAny_bind (thn (hf.run pins s σ H _ I h) fun u s1 ⟨v, H1, I1, r1, f, L, dV, c, ev, hl, q⟩ => ?_)
  subst ev
  obtain rfl : u = Value.ref f := r1
  obtain ⟨⟨doc, pm, ctv, of1⟩, _, _⟩ := I1.hok f _ hl
  refine PySem.W.callWith_F0 ⟨_, _, _, _, of1⟩ (wpAny_call ?_)
  obtain ⟨base', e0, up, get⟩ := env0_up I1.env0
  have C : Cap X σ base' := Cap.of I1 fun y c v ec ⟨o, ho, hd⟩ => ⟨o, get c o ho (I1.freeC y c ec) (cells_apart I1 hfn ec), hd⟩
  obtain ⟨sp, F, hs⟩ := q base' up C
  refine codeAny_mono (F X.A X.stack s1 H1 [] [] Q _ hr e0 .nil hs) fun rr s' hq => ?_
  match rr, hq with
  | .error e, hq => exact (cx_none hq).elim
  | .ok (.ret u), hq => exact I1.after hq⟩
theorem evp_lamC {X : Cx} {K : PySem.W.Frag} {δ : Sl} {O : Ow} {k : Nat} {tf : TE} {P : D → Ow → Prop} (hK : X.K = K) (h : EvP K tf δ O fun d O1 => ∃ te, d = lamD X k te ∧ RAct K te δ O1 P fun _ _ => False) : EvP K (tLamC X (k + 1) tf) δ O P := by
  subst hK
  exact fun G H σ w s Q kk => h G H σ w s _ fun d O1 v G1 H1 ⟨te, ed, hR⟩ s1 i1 => by
    subst ed
    have i1' := i1
    obtain ⟨Gs, sb, f, L, dV, c, y, ev, hf, hc, hd, hA⟩ := i1
    subst ev
    refine ⟨f, L, dV, c, rfl, s1.wd.sub _ _ (sb _ _ hf), fun base' hu C => ?_⟩
    obtain ⟨G2, sb2, f', L', dV', c', ev', hf', F⟩ := lam_act hu C (s.mono s1.ex) i1'
    cases ev'
    exact ⟨_, F, rfl, G1, O1, P, fun _ _ => False, sb2, s1.wd, hR, fun d O' v G' H' hp st iv => kk d O' v G' H' hp (s1.trans st) iv, fun _ _ _ _ _ _ z => z.elim⟩
end DL

set_option Elab.async false
set_option linter.all false
set_option maxRecDepth 100000
set_option maxHeartbeats 4000000
namespace Law
open PySem PySem.Spec L2 DL
open PyProof.Rows hiding St
local macro_rules | `(tactic| walk_at "sl") => `(tactic| try dsimp only [startD, List.map, List.length_cons, List.length_nil, List.replicate, List.cons_append, List.nil_append, List.set_cons_zero, List.set_cons_succ, Nat.reduceSub, Nat.reduceAdd, wipeD])
local macro_rules | `(tactic| walk_at "go") => `(tactic| ((try dsimp only [cxOf, Cx.nox, Cx.wish, Cx.blk]); walk_at "sl"; walk_at "sl"))
local macro_rules | `(tactic| walk_at "own") => `(tactic| first | assumption | exact setO_same | (rw [setO_ne (by first | assumption | exact Ne.symm (by assumption))]; assumption) | (rw [setO_ne (by first | assumption | exact Ne.symm (by assumption))]; exact setO_same))
local macro_rules | `(tactic| walk_at "side") => `(tactic| first
  | assumption | rfl | exact flat_ints _ | exact atI0 | exact atI1 | exact atI2 | exact atI3 | decide | omega | (simp; done)
  | (refine cmodp ?_; omega) | (refine cdivw ?_ ?_ <;> omega) | (refine cmul_l ?_ ?_ <;> omega) | (refine cmul_r ?_ ?_ <;> omega) | (refine cpow ?_ ?_ ?_ <;> decide))
local macro_rules | `(tactic| walk_at "rr") => `(tactic| first
  | with_reducible exact r_int | with_reducible exact r_bl | with_reducible exact r_eqI | with_reducible exact r_neI | with_reducible exact r_eqB | with_reducible exact r_neB | with_reducible exact r_eqS | with_reducible exact r_neS
  | ((with_reducible apply r_intC); walk_at "side")
  | ((with_reducible apply r_ixL); walk_at "side") | ((with_reducible apply r_ixT); walk_at "side") | ((with_reducible apply r_ixS); walk_at "side") | ((with_reducible apply r_ixO); (focus walk_at "own"); (focus walk_at "side"))
  | ((with_reducible apply r_inT0) <;> walk_at "side") | ((with_reducible apply r_inL0) <;> walk_at "side") | ((with_reducible apply r_inT1) <;> walk_at "side") | ((with_reducible apply r_inL1) <;> walk_at "side")
  | ((with_reducible apply r_inO0); (focus walk_at "own"); (focus walk_at "side"); (focus walk_at "side")) | ((with_reducible apply r_inO1); (focus walk_at "own"); (focus walk_at "side"); (focus walk_at "side"))
  | ((with_reducible apply r_rep) <;> walk_at "side") | ((with_reducible apply r_cat) <;> walk_at "side")
  | ((with_reducible apply r_catA) <;> walk_at "side") | ((with_reducible apply r_catO); (focus walk_at "own"); (focus walk_at "side"))
  | ((with_reducible apply r_addS); (focus walk_at "side")) | with_reducible exact r_isN _ rfl | with_reducible exact r_notN _ rfl
  | ((with_reducible apply r_eqP); (focus walk_at "pl"); (focus walk_at "pl"); (focus decide); (focus decide)) | ((with_reducible apply r_neP); (focus walk_at "pl"); (focus walk_at "pl"); (focus decide); (focus decide)))
local macro_rules | `(tactic| walk_at "pl") => `(tactic| first | exact Pl.ints _ | exact Pl.intsL _ | exact Pl.nilT | exact Pl.nilL | exact Pl.int (n := 0) | assumption)
local macro_rules | `(tactic| walk_at "cc") => `(tactic| first
  | with_reducible exact c_lenL | with_reducible exact c_lenT | with_reducible exact c_lenS | ((with_reducible apply c_lenO); walk_at "own")
  | with_reducible exact c_listL | with_reducible exact c_listT | with_reducible exact c_tupL | with_reducible exact c_sum | with_reducible exact c_intB | with_reducible exact c_int1
  | with_reducible exact c_max2 | ((with_reducible apply c_strI); (focus walk_at "side")) | ((with_reducible apply c_lenStr); (focus walk_at "side"))
  | ((with_reducible apply c_isi); (focus rfl); (focus (first | decide +kernel | rfl))) | ((with_reducible apply c_isi2); (focus rfl); (focus (first | decide +kernel | rfl)); (focus (first | decide +kernel | rfl))))
local macro_rules | `(tactic| walk_at "ea") => `(tactic| first
  | with_reducible exact ea_nil
  | ((with_reducible apply ea_cons); (focus walk_at "ev"); (focus walk_at "ea"))
  | ((with_reducible apply ea_starT); (focus walk_at "ev"); (focus walk_at "ea")) | ((with_reducible apply ea_starL); (focus walk_at "ev"); (focus walk_at "ea")))
local macro_rules | `(tactic| walk_at "ev") => `(tactic| first
  | exact ev_var rfl | with_reducible exact ev_int | with_reducible exact ev_bl | with_reducible exact ev_str | with_reducible exact ev_non | with_reducible exact ev_ty | with_reducible exact ev_ref
  | ((with_reducible apply ev_op); (focus walk_at "ev"); (focus walk_at "ev"); (focus walk_at "rr"))
  | ((with_reducible apply ev_cb); (focus walk_at "ea"); (focus walk_at "cc"))
  | ((with_reducible apply ev_neg); (focus walk_at "ev"))
  | ((with_reducible apply ev_tup); (focus walk_at "ea"); (focus walk_at "side"))
  | ((with_reducible apply ev_lst); (focus walk_at "ea"); (focus walk_at "side"))
  | ((with_reducible apply ev_notV); (focus walk_at "ev"))
  | ((with_reducible apply ev_chain); (focus walk_at "ev"); (focus walk_at "ev"); (focus walk_at "rr"); (focus (intro _; walk_at "ev")); (focus (intro _; walk_at "rr")))
  | walk_at "evx")
local macro_rules | `(tactic| walk_at "et") => `(tactic| first
  | ((with_reducible apply et_test); walk_at "ev") | ((with_reducible apply et_B); walk_at "ev") | with_reducible exact et_yes
  | ((with_reducible apply et_not); walk_at "et")
  | ((with_reducible apply et_and); (focus walk_at "et"); (focus (intro _; walk_at "et")))
  | ((with_reducible apply et_or); (focus walk_at "et"); (focus (intro _; walk_at "et"))))
local macro_rules | `(tactic| walk_at "s1") => `(tactic| first
  | ((with_reducible apply sd_asg); (focus walk_at "ev"); walk_at "sl")
  | ((with_reducible apply sd_par); (focus walk_at "ea"); walk_at "sl")
  | ((with_reducible apply sd_setL); (focus walk_at "ev"); (focus walk_at "ev"); (focus walk_at "ev"); (focus walk_at "own"); (focus (first | exact ixN_of (k := 0) rfl (by simp) | exact ixN_of (k := 1) rfl (by simp) | exact ixN_of (k := 2) rfl (by simp) | exact ixN_of (k := 3) rfl (by simp) | assumption)); walk_at "sl")
  | ((with_reducible apply sd_app); (focus walk_at "ev"); (focus walk_at "own"); (focus walk_at "ev"); (focus walk_at "own"); (focus walk_at "side"); walk_at "sl")
  | ((with_reducible apply sd_ret); (focus walk_at "ev"))
  | with_reducible apply sd_next)
local macro_rules | `(tactic| walk_at "st") => `(tactic| first | ((with_reducible apply sd_seq); walk_at "s1") | walk_at "s1")
local macro_rules | `(tactic| walk_at "R") => `(tactic| first
  | exact ⟨_, rfl, rfl, rfl⟩ | exact ⟨_, _, rfl, rfl, rfl⟩ | exact ⟨_, _, _, rfl, rfl, rfl⟩ | exact ⟨_, _, _, _, rfl, rfl, rfl⟩
  | exact ⟨_, rfl, by assumption, rfl, rfl⟩ | exact ⟨_, _, rfl, by assumption, rfl, rfl⟩ | exact ⟨_, _, _, rfl, by assumption, rfl, rfl⟩ | exact ⟨_, _, _, _, rfl, by assumption, rfl, rfl⟩
  | exact ⟨_, _, rfl, by assumption, by assumption, rfl, rfl⟩ | exact ⟨_, _, _, rfl, by assumption, by assumption, rfl, rfl⟩ | exact ⟨_, _, _, _, rfl, by assumption, by assumption, rfl, rfl⟩)
local macro_rules | `(tactic| walk_at "evx") => `(tactic| first
  | ((with_reducible apply ev_run); (focus walk_at "ea"); walk_at "R")
  | ((with_reducible apply ev_propR); (focus walk_at "ev"); walk_at "R")
  | ((with_reducible apply ev_fld); (focus walk_at "ev"); (focus walk_at "cls"); (focus walk_at "cls"); (focus rfl))
  | ((with_reducible apply ev_ownIn0); (focus walk_at "ev"); (focus walk_at "ev"); walk_at "R")
  | ((with_reducible apply ev_slL); (focus walk_at "ev"); (focus walk_at "eo"); (focus walk_at "eo"))
  | ((with_reducible apply ev_slT); (focus walk_at "ev"); (focus walk_at "eo"); (focus walk_at "eo"))
  | ((with_reducible apply ev_cvalI); (focus walk_at "ev"); (focus walk_at "cls"); (focus walk_at "cls")))
local macro_rules | `(tactic| walk_at "eo") => `(tactic| first | with_reducible exact eo_none | ((with_reducible apply eo_some); walk_at "ev"))
def top (i : Nat) : Stmt := PySem.Challenge.pw_oddcents_k53_whole_settlements_by_all_gr.main.body.getD i (.Pass ⟨0, 0, 0, 0⟩)
abbrev s_Shares_cents : Stmt := (inClass (top 9) 1)
abbrev s_law_alike : Stmt := (top 25)
abbrev s_law_mix : Stmt := (top 23)
abbrev s_law_places : Stmt := (top 28)
abbrev s_law_most : Stmt := (top 27)
abbrev s_law_next : Stmt := (top 24)
abbrev s_Shares_Dinit : Stmt := (inClass (top 9) 0)
abbrev s_law_shares : Stmt := (top 26)
abbrev s_balance_after : Stmt := (top 21)
abbrev s_subsets : Stmt := (top 18)
abbrev s_most_groups : Stmt := (top 17)
abbrev s_Shares_Dlen : Stmt := (inClass (top 9) 3)
abbrev s_validate_balance : Stmt := (top 16)
abbrev s_fewest_payments : Stmt := (top 19)
abbrev s_payments : Stmt := (top 20)
abbrev s_law : Stmt := (top 29)
abbrev N_Shares_cents : List Str := ["self"]
theorem sc_Shares_cents : FnScope ["self"] ["self"] (defScope s_Shares_cents) := ⟨rfl, rfl, rfl, by decide +kernel, rfl, by decide +kernel, by decide +kernel⟩
abbrev N_law_alike : List Str := ["_law_found", "_law_due", "_law_k"]
theorem sc_law_alike : FnScope ["_law_found", "_law_due", "_law_k"] ["_law_found", "_law_due"] (defScope s_law_alike) := ⟨rfl, rfl, rfl, by decide +kernel, rfl, by decide +kernel, by decide +kernel⟩
abbrev N_law_mix : List Str := ["_law_script", "_law_seed", "_law_state", "_law_cell"]
theorem sc_law_mix : FnScope ["_law_script", "_law_seed", "_law_state", "_law_cell"] ["_law_script", "_law_seed"] (defScope s_law_mix) := ⟨rfl, rfl, rfl, by decide +kernel, rfl, by decide +kernel, by decide +kernel⟩
abbrev N_law_places : List Str := ["_law_many", "_law_found", "_law_k", "_law_some"]
theorem sc_law_places : FnScope ["_law_many", "_law_found", "_law_k", "_law_some"] ["_law_many"] (defScope s_law_places) := ⟨rfl, rfl, rfl, by decide +kernel, rfl, by decide +kernel, by decide +kernel⟩
abbrev N_law_most : List Str := ["_law_numbers", "_law_best", "_law_rest", "_law_places_here", "_law_inside", "_law_outside", "_law_k"]
theorem sc_law_most : FnScope ["_law_numbers", "_law_best", "_law_rest", "_law_places_here", "_law_inside", "_law_outside", "_law_k"] ["_law_numbers"] (defScope s_law_most) := ⟨rfl, rfl, rfl, by decide +kernel, rfl, by decide +kernel, by decide +kernel⟩
abbrev N_law_next : List Str := ["_law_h", "_law_limit", "_law_cell"]
theorem sc_law_next : FnScope ["_law_h", "_law_limit", "_law_cell"] ["_law_h", "_law_limit"] (defScope s_law_next) := ⟨rfl, rfl, rfl, by decide +kernel, rfl, by decide +kernel, by decide +kernel⟩
abbrev N_Shares_Dinit : List Str := ["self", "cents"]
theorem sc_Shares_Dinit : FnScope ["self", "cents"] ((["self"] : List Str) ++ (["cents"] : List Str)) (defScope s_Shares_Dinit) := ⟨rfl, rfl, rfl, by decide +kernel, rfl, by decide +kernel, by decide +kernel⟩
abbrev N_law_shares : List Str := ["_law_cents", "_law_found"]
theorem sc_law_shares : FnScope ["_law_cents", "_law_found"] ["_law_cents"] (defScope s_law_shares) := ⟨rfl, rfl, rfl, by decide +kernel, rfl, by decide +kernel, by decide +kernel⟩
abbrev N_balance_after : List Str := ["balance", "given", "cents", "giver", "taker", "number", "seat"]
theorem sc_balance_after : FnScope ["balance", "given", "cents", "giver", "taker", "number", "seat"] ["balance", "given"] (defScope s_balance_after) := ⟨rfl, rfl, rfl, by decide +kernel, rfl, by decide +kernel, by decide +kernel⟩
abbrev N_subsets : List Str := ["seats", "size", "found", "turn", "some", "seat"]
theorem sc_subsets : FnScope ["seats", "size", "found", "turn", "some", "seat"] ["seats", "size"] (defScope s_subsets) := ⟨rfl, rfl, rfl, by decide +kernel, rfl, by decide +kernel, by decide +kernel⟩
abbrev N_most_groups : List Str := ["cents", "seats", "best", "size", "chosen", "found", "seat", "rest", "inside", "number", "other", "group"]
theorem sc_most_groups : FnScope ["cents", "seats", "best", "size", "chosen", "found", "seat", "rest", "inside", "number", "other", "group"] ["cents"] (defScope s_most_groups) := ⟨rfl, rfl, rfl, by decide +kernel, rfl, by decide +kernel, by decide +kernel⟩
abbrev N_Shares_Dlen : List Str := ["self"]
theorem sc_Shares_Dlen : FnScope ["self"] ["self"] (defScope s_Shares_Dlen) := ⟨rfl, rfl, rfl, by decide +kernel, rfl, by decide +kernel, by decide +kernel⟩
abbrev N_validate_balance : List Str := ["balance"]
theorem sc_validate_balance : FnScope ["balance"] ["balance"] (defScope s_validate_balance) := ⟨rfl, rfl, rfl, by decide +kernel, rfl, by decide +kernel, by decide +kernel⟩
abbrev N_fewest_payments : List Str := ["balance", "groups", "group"]
theorem sc_fewest_payments : FnScope ["balance", "groups", "group"] ["balance"] (defScope s_fewest_payments) := ⟨rfl, rfl, rfl, by decide +kernel, rfl, by decide +kernel, by decide +kernel⟩
abbrev N_payments : List Str := ["balance", "left", "found", "group", "giver", "taker", "cents", "seat"]
theorem sc_payments : FnScope ["balance", "left", "found", "group", "giver", "taker", "cents", "seat"] ["balance"] (defScope s_payments) := ⟨rfl, rfl, rfl, by decide +kernel, rfl, by decide +kernel, by decide +kernel⟩
abbrev N_law : List Str := ["_law_script", "_law_h", "_law_turn", "_law_n", "_law_high", "_law_cents", "_law_balance", "_law_owing", "_law_due", "_law_given", "_law_k", "_law_number", "_law_row"]
theorem sc_law : FnScope ["_law_script", "_law_h", "_law_turn", "_law_n", "_law_high", "_law_cents", "_law_balance", "_law_owing", "_law_due", "_law_given", "_law_k", "_law_number", "_law_row"] ["_law_script"] (defScope s_law) := ⟨rfl, rfl, rfl, by decide +kernel, rfl, by decide +kernel, by decide +kernel⟩
structure Ad where
  c_Shares : Addr
  c_Bill : Addr
  mc_Bill : Value
  f_Shares_cents : Addr
  f_law_alike : Addr
  f_law_mix : Addr
  f_law_places : Addr
  f_law_most : Addr
  f_law_next : Addr
  f_Shares_Dinit : Addr
  f_law_shares : Addr
  f_balance_after : Addr
  f_subsets : Addr
  f_most_groups : Addr
  f_Shares_Dlen : Addr
  f_validate_balance : Addr
  f_fewest_payments : Addr
  f_payments : Addr
  f_law : Addr
  cc_law_shares : Addr
  tb_law_shares : Addr
  p_Shares_cents : Addr
  t_MAX_HANDED : Tok
  u_Bill_MAX_SEATS : Tok
structure Tx (K : PySem.W.Frag) (mg : Str → Option Value) (A : Ad) : Prop where
  F_Shares_cents : ∃ fd, Fun K "cents" "Shares.cents" s_Shares_cents A.f_Shares_cents fd ∧ Binds K fd ["self"] []
  F_law_alike : ∃ fd, Fun K "_law_alike" "_law_alike" s_law_alike A.f_law_alike fd ∧ Binds K fd ["_law_found", "_law_due"] []
  k_law_alike : PySem.W.keepIn K (.ref A.f_law_alike) = true
  g__law_alike : mg "_law_alike" = some (.ref A.f_law_alike)
  F_law_mix : ∃ fd, Fun K "_law_mix" "_law_mix" s_law_mix A.f_law_mix fd ∧ Binds K fd ["_law_script", "_law_seed"] []
  k_law_mix : PySem.W.keepIn K (.ref A.f_law_mix) = true
  g__law_mix : mg "_law_mix" = some (.ref A.f_law_mix)
  F_law_places : ∃ fd, Fun K "_law_places" "_law_places" s_law_places A.f_law_places fd ∧ Binds K fd ["_law_many"] []
  k_law_places : PySem.W.keepIn K (.ref A.f_law_places) = true
  g__law_places : mg "_law_places" = some (.ref A.f_law_places)
  F_law_most : ∃ fd, Fun K "_law_most" "_law_most" s_law_most A.f_law_most fd ∧ Binds K fd ["_law_numbers"] []
  k_law_most : PySem.W.keepIn K (.ref A.f_law_most) = true
  g__law_most : mg "_law_most" = some (.ref A.f_law_most)
  F_law_next : ∃ fd, Fun K "_law_next" "_law_next" s_law_next A.f_law_next fd ∧ Binds K fd ["_law_h", "_law_limit"] []
  k_law_next : PySem.W.keepIn K (.ref A.f_law_next) = true
  g__law_next : mg "_law_next" = some (.ref A.f_law_next)
  F_Shares_Dinit : ∃ fd, Fun K "__init__" "Shares.__init__" s_Shares_Dinit A.f_Shares_Dinit fd ∧ (∀ us rest : List Value, us.length = (["self"] : List Str).length → bindArgs fd ⟨us ++ rest, []⟩ = (newTuple rest >>= fun t => pure ((["self"] : List Str).zip us ++ [(("cents" : Str), t)])))
  F_law_shares : ∃ fd, Fun K "_law_shares" "_law_shares" s_law_shares A.f_law_shares fd ∧ Binds K fd ["_law_cents"] [] ∧ fd.code = .ref A.cc_law_shares
  k_law_shares : PySem.W.keepIn K (.ref A.f_law_shares) = true
  g__law_shares : mg "_law_shares" = some (.ref A.f_law_shares)
  F_balance_after : ∃ fd, Fun K "balance_after" "balance_after" s_balance_after A.f_balance_after fd ∧ Binds K fd ["balance", "given"] []
  k_balance_after : PySem.W.keepIn K (.ref A.f_balance_after) = true
  g_balance_after : mg "balance_after" = some (.ref A.f_balance_after)
  F_subsets : ∃ fd, Fun K "subsets" "subsets" s_subsets A.f_subsets fd ∧ Binds K fd ["seats", "size"] []
  k_subsets : PySem.W.keepIn K (.ref A.f_subsets) = true
  g_subsets : mg "subsets" = some (.ref A.f_subsets)
  F_most_groups : ∃ fd, Fun K "most_groups" "most_groups" s_most_groups A.f_most_groups fd ∧ Binds K fd ["cents"] []
  k_most_groups : PySem.W.keepIn K (.ref A.f_most_groups) = true
  g_most_groups : mg "most_groups" = some (.ref A.f_most_groups)
  F_Shares_Dlen : ∃ fd, Fun K "__len__" "Shares.__len__" s_Shares_Dlen A.f_Shares_Dlen fd ∧ Binds K fd ["self"] []
  F_validate_balance : ∃ fd, Fun K "validate_balance" "validate_balance" s_validate_balance A.f_validate_balance fd ∧ Binds K fd ["balance"] []
  k_validate_balance : PySem.W.keepIn K (.ref A.f_validate_balance) = true
  g_validate_balance : mg "validate_balance" = some (.ref A.f_validate_balance)
  F_fewest_payments : ∃ fd, Fun K "fewest_payments" "fewest_payments" s_fewest_payments A.f_fewest_payments fd ∧ Binds K fd ["balance"] []
  k_fewest_payments : PySem.W.keepIn K (.ref A.f_fewest_payments) = true
  g_fewest_payments : mg "fewest_payments" = some (.ref A.f_fewest_payments)
  F_payments : ∃ fd, Fun K "payments" "payments" s_payments A.f_payments fd ∧ Binds K fd ["balance"] []
  k_payments : PySem.W.keepIn K (.ref A.f_payments) = true
  g_payments : mg "payments" = some (.ref A.f_payments)
  F_law : ∃ fd, Fun K "law" "law" s_law A.f_law fd ∧ Binds K fd ["_law_script"] []
  g_Bill : mg "Bill" = some (.ref A.c_Bill)
  g_MAX_HANDED : mg "MAX_HANDED" = some (.int 1000000000000000 A.t_MAX_HANDED)
  g_Shares : mg "Shares" = some (.ref A.c_Shares)
  b_any : mg "any" = none
  b_bool : mg "bool" = none
  b_dict : mg "dict" = none
  b_enumerate : mg "enumerate" = none
  b_int : mg "int" = none
  b_isinstance : mg "isinstance" = none
  b_len : mg "len" = none
  b_list : mg "list" = none
  b_max : mg "max" = none
  b_range : mg "range" = none
  b_str : mg "str" = none
  b_sum : mg "sum" = none
  b_tuple : mg "tuple" = none
  cl_Shares : Cls K A.c_Shares
  mk_Shares : Mk K A.c_Shares A.f_Shares_Dinit
  na_Shares_amounts : NoAttr K A.c_Shares "amounts"
  sf_Shares : PySem.W.selfFirst K A.c_Shares = true
  cl_Bill : Cls K A.c_Bill
  na_Bill_total : NoAttr K A.c_Bill "total"
  na_Bill_there : NoAttr K A.c_Bill "there"
  cr_Bill : ClX.CRead K A.c_Bill A.mc_Bill
  cv_Bill_MAX_SEATS : ClX.CVal K A.c_Bill A.mc_Bill "MAX_SEATS" (.int 8) (.int 8 A.u_Bill_MAX_SEATS)
  sf_Bill : PySem.W.selfFirst K A.c_Bill = true
  p_Shares_cents : PropOf K A.c_Shares "cents" A.p_Shares_cents A.f_Shares_cents
  d_Shares_Dlen : PySem.W.findIn K (.ref A.c_Shares) "__len__" = some (some (.ref A.f_Shares_Dlen))
  df_Shares_Dlen : PySem.W.isFn K (.ref A.f_Shares_Dlen) = true
  dk_Shares_Dlen : PySem.W.fnIn K A.f_Shares_Dlen = true
structure Tb (base : Heap) (mg : Str → Option Value) (A : Ad) : Prop where
  tb_law_shares : LamX.TabB base mg A.cc_law_shares A.tb_law_shares
/-! ### the data (shares alone) -/
def encS (A : Ad) (cs : List Int) : D := .ins A.c_Shares ["amounts"] [.tup (cs.map .int)]
def R_sinit (A : Ad) : DR := fun ds O Post => ∃ x cs, ds = [.ref x, .tup (List.map D.int cs)] ∧ O x = some (.ins A.c_Shares [] []) ∧ Post .non (setO O x (.ins A.c_Shares ["amounts"] [.tup (cs.map .int)]))
def R_cents (A : Ad) : DR := fun ds O Post => ∃ cs, ds = [encS A cs] ∧ Post (.tup (cs.map .int)) O
def R_whole (A : Ad) : DR := fun ds O Post => ∃ cs, ds = [encS A cs] ∧ Post (.int cs.sum) O
local macro_rules | `(tactic| walk_at "cls") => `(tactic| first
  | with_reducible exact (by assumption : Tx _ _ _).cl_Shares
  | with_reducible exact (by assumption : Tx _ _ _).na_Shares_amounts
  | with_reducible exact (by assumption : Tx _ _ _).cl_Bill
  | with_reducible exact (by assumption : Tx _ _ _).na_Bill_total
  | with_reducible exact (by assumption : Tx _ _ _).na_Bill_there
  | with_reducible exact (by assumption : Tx _ _ _).cr_Bill
  | with_reducible exact (by assumption : Tx _ _ _).cv_Bill_MAX_SEATS)
section
variable {P : Program} {w : World} {K : PySem.W.Frag} {mg : Str → Option Value} {base : Heap} {A : Ad}
theorem ok_Shares_Dinit (T : Tx K mg A) : FnR P w K mg base (L2.CX P w) 1 A.f_Shares_Dinit (SpD K (Rstar 1 (R_sinit A))) := by
  obtain ⟨fd, F, hb⟩ := T.F_Shares_Dinit
  refine fnDS F sc_Shares_Dinit hb fun cdv A' outer s H E hr => ⟨_, PSs.nox (pss_one (ps_fld (pv 0) (pv 1) rfl)), fun ds O Post hR => ?_⟩
  obtain ⟨x, cs, rfl, ho, hp⟩ := hR
  walk_at "go"
  apply sd_fldN
  focus walk_at "ev"
  focus walk_at "ev"
  focus walk_at "own"
  focus walk_at "cls"
  focus walk_at "cls"
  focus decide +kernel
  focus decide
  exact hp
theorem ok_Shares_cents (T : Tx K mg A) : FnR P w K mg base (L2.CX P w) 1 A.f_Shares_cents (SpD K (R_cents A)) := by
  obtain ⟨fd, F, hb⟩ := T.F_Shares_cents
  refine fnD F sc_Shares_cents hb (fun ds O Post h => by first | (obtain ⟨rfl, _⟩ := h; rfl) | (obtain ⟨_, rfl, _⟩ := h; rfl) | (obtain ⟨_, _, rfl, _⟩ := h; rfl) | (obtain ⟨_, _, _, rfl, _⟩ := h; rfl) | (obtain ⟨_, _, _, _, rfl, _⟩ := h; rfl) | (obtain ⟨_, _, _, _, _, rfl, _⟩ := h; rfl) | (obtain ⟨_, _, _, _, _, _, rfl, _⟩ := h; rfl) | (obtain ⟨_, _, _, _, _, _, _, rfl, _⟩ := h; rfl) | (obtain ⟨_, _, _, _, _, _, _, _, rfl, _⟩ := h; rfl) | (obtain ⟨_, _, _, _, _, _, _, _, _, rfl, _⟩ := h; rfl) | (obtain ⟨_, _, _, _, _, _, _, _, _, _, rfl, _⟩ := h; rfl) | (obtain ⟨_, _, _, _, _, _, _, _, _, _, _, rfl, _⟩ := h; rfl) | (obtain ⟨_, _, _, _, _, _, _, _, _, _, _, _, rfl, _⟩ := h; rfl) | (obtain ⟨_, _, _, _, _, _, _, _, _, _, _, _, _, rfl, _⟩ := h; rfl)) fun cdv A' outer s H E hr => ⟨_, PSs.nox (pss_one (ps_ret (pe_fldK K (pv 0)))), fun ds O Post hR => ?_⟩
  obtain ⟨cs, rfl, hp⟩ := hR
  unfold encS
  walk_at "go"
  walk_at "st"
  exact hp
theorem mk_S {O : Ow} {cs : List Int} (h : cs.length ≤ 100000) : ∀ x, O x = none → Rstar 1 (R_sinit A) (.ref x :: cs.map D.int) (setO O x (.ins A.c_Shares [] [])) fun d' O' => d' = .non ∧ O' = setO O x (.ins A.c_Shares ["amounts"] [.tup (cs.map .int)]) := fun x hx =>
  ⟨[.ref x], cs.map D.int, rfl, rfl, by rw [List.length_map]; exact h, x, cs, rfl, setO_same, rfl, setO_setO⟩
theorem zipD_ints (xs ys : List Int) : zipD (xs.map D.int) (ys.map D.int) = (xs.zip ys).map fun q => D.tup [.int q.1, .int q.2] := by
  unfold zipD
  induction xs generalizing ys with
  | nil => rfl
  | cons x r ih => cases ys with
    | nil => rfl
    | cons y s => simp [ih s]
theorem zipW_ints (xs ys : List Int) : (List.zipWith (· + ·) xs ys).map D.int = (xs.zip ys).map fun q => D.int (q.1 + q.2) := by
  induction xs generalizing ys with
  | nil => rfl
  | cons x r ih => cases ys with
    | nil => rfl
    | cons y s => simp [ih s]
end
end Law

set_option Elab.async false
set_option linter.all false
set_option maxRecDepth 100000
set_option maxHeartbeats 4000000
namespace Law
open PySem PySem.Spec L2 DL
open PyProof.Rows hiding St
local macro_rules | `(tactic| walk_at "sl") => `(tactic| try dsimp only [startD, List.map, List.length_cons, List.length_nil, List.replicate, List.cons_append, List.nil_append, List.set_cons_zero, List.set_cons_succ, Nat.reduceSub, Nat.reduceAdd, wipeD])
local macro_rules | `(tactic| walk_at "go") => `(tactic| ((try dsimp only [cxOf, Cx.nox, Cx.wish, Cx.blk]); walk_at "sl"; walk_at "sl"))
local macro_rules | `(tactic| walk_at "own") => `(tactic| first | assumption | exact setO_same | (rw [setO_ne (by first | assumption | exact Ne.symm (by assumption))]; assumption) | (rw [setO_ne (by first | assumption | exact Ne.symm (by assumption))]; exact setO_same))
local macro_rules | `(tactic| walk_at "side") => `(tactic| first
  | assumption | rfl | exact flat_ints _ | exact atI0 | exact atI1 | exact atI2 | exact atI3 | decide | omega | (simp; done)
  | (refine cmodp ?_; omega) | (refine cdivw ?_ ?_ <;> omega) | (refine cmul_l ?_ ?_ <;> omega) | (refine cmul_r ?_ ?_ <;> omega) | (refine cpow ?_ ?_ ?_ <;> decide))
local macro_rules | `(tactic| walk_at "rr") => `(tactic| first
  | with_reducible exact r_int | with_reducible exact r_bl | with_reducible exact r_eqI | with_reducible exact r_neI | with_reducible exact r_eqB | with_reducible exact r_neB | with_reducible exact r_eqS | with_reducible exact r_neS
  | ((with_reducible apply r_intC); walk_at "side")
  | ((with_reducible apply r_ixL); walk_at "side") | ((with_reducible apply r_ixT); walk_at "side") | ((with_reducible apply r_ixS); walk_at "side") | ((with_reducible apply r_ixO); (focus walk_at "own"); (focus walk_at "side"))
  | ((with_reducible apply r_inT0) <;> walk_at "side") | ((with_reducible apply r_inL0) <;> walk_at "side") | ((with_reducible apply r_inT1) <;> walk_at "side") | ((with_reducible apply r_inL1) <;> walk_at "side")
  | ((with_reducible apply r_inO0); (focus walk_at "own"); (focus walk_at "side"); (focus walk_at "side")) | ((with_reducible apply r_inO1); (focus walk_at "own"); (focus walk_at "side"); (focus walk_at "side"))
  | ((with_reducible apply r_rep) <;> walk_at "side") | ((with_reducible apply r_cat) <;> walk_at "side")
  | ((with_reducible apply r_catA) <;> walk_at "side") | ((with_reducible apply r_catO); (focus walk_at "own"); (focus walk_at "side"))
  | ((with_reducible apply r_addS); (focus walk_at "side")) | with_reducible exact r_isN _ rfl | with_reducible exact r_notN _ rfl
  | ((with_reducible apply r_eqP); (focus walk_at "pl"); (focus walk_at "pl"); (focus decide); (focus decide)) | ((with_reducible apply r_neP); (focus walk_at "pl"); (focus walk_at "pl"); (focus decide); (focus decide)))
local macro_rules | `(tactic| walk_at "pl") => `(tactic| first | exact Pl.ints _ | exact Pl.intsL _ | exact Pl.nilT | exact Pl.nilL | exact Pl.int (n := 0) | assumption)
local macro_rules | `(tactic| walk_at "cc") => `(tactic| first
  | with_reducible exact c_lenL | with_reducible exact c_lenT | with_reducible exact c_lenS | ((with_reducible apply c_lenO); walk_at "own")
  | with_reducible exact c_listL | with_reducible exact c_listT | with_reducible exact c_tupL | with_reducible exact c_sum | with_reducible exact c_intB | with_reducible exact c_int1
  | with_reducible exact c_max2 | ((with_reducible apply c_strI); (focus walk_at "side")) | ((with_reducible apply c_lenStr); (focus walk_at "side"))
  | ((with_reducible apply c_isi); (focus rfl); (focus (first | decide +kernel | rfl))) | ((with_reducible apply c_isi2); (focus rfl); (focus (first | decide +kernel | rfl)); (focus (first | decide +kernel | rfl))))
local macro_rules | `(tactic| walk_at "ea") => `(tactic| first
  | with_reducible exact ea_nil
  | ((with_reducible apply ea_cons); (focus walk_at "ev"); (focus walk_at "ea"))
  | ((with_reducible apply ea_starT); (focus walk_at "ev"); (focus walk_at "ea")) | ((with_reducible apply ea_starL); (focus walk_at "ev"); (focus walk_at "ea")))
local macro_rules | `(tactic| walk_at "ev") => `(tactic| first
  | exact ev_var rfl | with_reducible exact ev_int | with_reducible exact ev_bl | with_reducible exact ev_str | with_reducible exact ev_non | with_reducible exact ev_ty | with_reducible exact ev_ref
  | ((with_reducible apply ev_op); (focus walk_at "ev"); (focus walk_at "ev"); (focus walk_at "rr"))
  | ((with_reducible apply ev_cb); (focus walk_at "ea"); (focus walk_at "cc"))
  | ((with_reducible apply ev_neg); (focus walk_at "ev"))
  | ((with_reducible apply ev_tup); (focus walk_at "ea"); (focus walk_at "side"))
  | ((with_reducible apply ev_lst); (focus walk_at "ea"); (focus walk_at "side"))
  | ((with_reducible apply ev_notV); (focus walk_at "ev"))
  | ((with_reducible apply ev_chain); (focus walk_at "ev"); (focus walk_at "ev"); (focus walk_at "rr"); (focus (intro _; walk_at "ev")); (focus (intro _; walk_at "rr")))
  | walk_at "evx")
local macro_rules | `(tactic| walk_at "et") => `(tactic| first
  | ((with_reducible apply et_test); walk_at "ev") | ((with_reducible apply et_B); walk_at "ev") | with_reducible exact et_yes
  | ((with_reducible apply et_not); walk_at "et")
  | ((with_reducible apply et_and); (focus walk_at "et"); (focus (intro _; walk_at "et")))
  | ((with_reducible apply et_or); (focus walk_at "et"); (focus (intro _; walk_at "et"))))
local macro_rules | `(tactic| walk_at "s1") => `(tactic| first
  | ((with_reducible apply sd_asg); (focus walk_at "ev"); walk_at "sl")
  | ((with_reducible apply sd_par); (focus walk_at "ea"); walk_at "sl")
  | ((with_reducible apply sd_setL); (focus walk_at "ev"); (focus walk_at "ev"); (focus walk_at "ev"); (focus walk_at "own"); (focus (first | exact ixN_of (k := 0) rfl (by simp) | exact ixN_of (k := 1) rfl (by simp) | exact ixN_of (k := 2) rfl (by simp) | exact ixN_of (k := 3) rfl (by simp) | assumption)); walk_at "sl")
  | ((with_reducible apply sd_app); (focus walk_at "ev"); (focus walk_at "own"); (focus walk_at "ev"); (focus walk_at "own"); (focus walk_at "side"); walk_at "sl")
  | ((with_reducible apply sd_ret); (focus walk_at "ev"))
  | with_reducible apply sd_next)
local macro_rules | `(tactic| walk_at "st") => `(tactic| first | ((with_reducible apply sd_seq); walk_at "s1") | walk_at "s1")
local macro_rules | `(tactic| walk_at "R") => `(tactic| first
  | exact ⟨_, rfl, rfl, rfl⟩ | exact ⟨_, _, rfl, rfl, rfl⟩ | exact ⟨_, _, _, rfl, rfl, rfl⟩ | exact ⟨_, _, _, _, rfl, rfl, rfl⟩
  | exact ⟨_, rfl, by assumption, rfl, rfl⟩ | exact ⟨_, _, rfl, by assumption, rfl, rfl⟩ | exact ⟨_, _, _, rfl, by assumption, rfl, rfl⟩ | exact ⟨_, _, _, _, rfl, by assumption, rfl, rfl⟩
  | exact ⟨_, _, rfl, by assumption, by assumption, rfl, rfl⟩ | exact ⟨_, _, _, rfl, by assumption, by assumption, rfl, rfl⟩ | exact ⟨_, _, _, _, rfl, by assumption, by assumption, rfl, rfl⟩)
local macro_rules | `(tactic| walk_at "evx") => `(tactic| first
  | ((with_reducible apply ev_run); (focus walk_at "ea"); walk_at "R")
  | ((with_reducible apply ev_propR); (focus walk_at "ev"); walk_at "R")
  | ((with_reducible apply ev_fld); (focus walk_at "ev"); (focus walk_at "cls"); (focus walk_at "cls"); (focus rfl))
  | ((with_reducible apply ev_ownIn0); (focus walk_at "ev"); (focus walk_at "ev"); walk_at "R")
  | ((with_reducible apply ev_slL); (focus walk_at "ev"); (focus walk_at "eo"); (focus walk_at "eo"))
  | ((with_reducible apply ev_slT); (focus walk_at "ev"); (focus walk_at "eo"); (focus walk_at "eo"))
  | ((with_reducible apply ev_cvalI); (focus walk_at "ev"); (focus walk_at "cls"); (focus walk_at "cls")))
local macro_rules | `(tactic| walk_at "eo") => `(tactic| first | with_reducible exact eo_none | ((with_reducible apply eo_some); walk_at "ev"))
local macro_rules | `(tactic| walk_at "cls") => `(tactic| first
  | with_reducible exact (by assumption : Tx _ _ _).cl_Shares
  | with_reducible exact (by assumption : Tx _ _ _).na_Shares_amounts
  | with_reducible exact (by assumption : Tx _ _ _).cl_Bill
  | with_reducible exact (by assumption : Tx _ _ _).na_Bill_total
  | with_reducible exact (by assumption : Tx _ _ _).na_Bill_there
  | with_reducible exact (by assumption : Tx _ _ _).cr_Bill
  | with_reducible exact (by assumption : Tx _ _ _).cv_Bill_MAX_SEATS)
section
variable {P : Program} {w : World} {K : PySem.W.Frag} {mg : Str → Option Value} {base : Heap} {A : Ad}
/-! ### drawing, by a number state and cells -/
structure DQ where
  s : Int
  cs : List Int
  i : Int
def DQ.ok (q : DQ) : Prop := 0 ≤ q.s ∧ q.s < 2147483647 ∧ 0 ≤ q.i ∧ q.cs.length ≤ 63
def DQ.enc (q : DQ) (c : Addr) : MO := .lst [.int q.s, .ref c, .int q.i]
def DQ.put (q : DQ) (O : Ow) (h c : Addr) : Ow := setO (setO O c (.lst (q.cs.map .int))) h (q.enc c)
def DQ.cell (q : DQ) : Int := q.cs.getD (q.i.toNat % q.cs.length) 0
def DQ.next (q : DQ) (L : Int) : Int × DQ :=
  if (10 : Int) ^ 18 ≤ q.cell then (q.cell % L, { q with cs := q.cs.set (q.i.toNat % q.cs.length) (q.cell / L) })
  else ((q.s * 48271 + q.cell * 69621 + 11) % 2147483647 / 7 % L, { q with s := (q.s * 48271 + q.cell * 69621 + 11) % 2147483647, i := q.i + 1 })
theorem DQ.put_h {q : DQ} {O : Ow} {h c : Addr} : q.put O h c h = some (q.enc c) := setO_same
theorem DQ.put_c {q : DQ} {O : Ow} {h c : Addr} (n : h ≠ c) : q.put O h c c = some (.lst (q.cs.map .int)) := by unfold DQ.put; rw [setO_ne (Ne.symm n)]; exact setO_same
theorem DQ.put_put {q q' : DQ} {O : Ow} {h c : Addr} : q'.put (q.put O h c) h c = q'.put O h c := by
  funext a
  unfold DQ.put setO
  split
  · rfl
  · split
    · rfl
    · rfl
theorem DQ.put_set {q : DQ} {O : Ow} {h c p : Addr} {m : MO} (h1 : p ≠ h) (h2 : p ≠ c) : q.put (setO O p m) h c = setO (q.put O h c) p m := by
  unfold DQ.put
  rw [setO_comm h2, setO_comm h1]
theorem DQ.put_at {q : DQ} {O : Ow} {h c p : Addr} (h1 : p ≠ h) (h2 : p ≠ c) : q.put O h c p = O p := by unfold DQ.put; rw [setO_ne h1, setO_ne h2]
theorem DQ.next_r {q : DQ} {L : Int} (h : 0 < L) : 0 ≤ (q.next L).1 ∧ (q.next L).1 < L := by
  unfold DQ.next
  split
  · exact ⟨Int.emod_nonneg _ (by omega), Int.emod_lt_of_pos _ h⟩
  · exact ⟨Int.emod_nonneg _ (by omega), Int.emod_lt_of_pos _ h⟩
theorem DQ.next_ok {q : DQ} {L : Int} (h : 0 < L) (k : q.ok) : (q.next L).2.ok := by
  obtain ⟨h0, h1, h2, h3⟩ := k
  unfold DQ.next
  split
  · exact ⟨h0, h1, h2, by simpa using h3⟩
  · exact ⟨Int.emod_nonneg _ (by decide), Int.emod_lt_of_pos _ (by decide), by show 0 ≤ q.i + 1; omega, h3⟩
def R_next : DR := fun ds O Post => ∃ (h c : Addr) (L : Int) (q : DQ), ds = [.ref h, .int L] ∧ 0 < L ∧ L ≤ 10 ^ 30 ∧ h ≠ c ∧ O h = some (q.enc c) ∧ O c = some (.lst (q.cs.map .int)) ∧ q.ok ∧ Post (.int (q.next L).1) ((q.next L).2.put O h c)
def R_mix : DR := fun ds O Post => ∃ ns sd, ds = [.scr ns, .int sd] ∧ ns.length ≤ 63 ∧ (0 ≤ sd ∧ sd < 2147483647) ∧ ∀ h c (q : DQ), h ≠ c → O h = none → O c = none → q.ok → Post (.ref h) (q.put O h c)
theorem DQ.cell_at {q : DQ} (h : 0 ≤ q.i) : atI (q.cs.map D.int ++ [.int 0]) (q.i % (if (((q.cs.map D.int).length : Nat) : Int) > 1 then (((q.cs.map D.int).length : Nat) : Int) else 1)) = some (.int q.cell) := by
  obtain ⟨s, cs, i⟩ := q
  dsimp only at h
  unfold DQ.cell
  dsimp only
  rw [List.length_map]
  obtain ⟨k, rfl⟩ := Int.eq_ofNat_of_zero_le h
  cases cs with
  | nil => exact atI_of (k := 0) (by simp) rfl
  | cons a r =>
    have e : (if (((a :: r).length : Nat) : Int) > 1 then (((a :: r).length : Nat) : Int) else 1) = (((a :: r).length : Nat) : Int) := by
      split
      · rfl
      · rw [List.length_cons] at *; omega
    rw [e]
    have hlt : k % (a :: r).length < (a :: r).length := Nat.mod_lt _ (by simp)
    refine atI_of (k := k % (a :: r).length) ((Int.natCast_emod _ _).symm) ?_
    rw [List.getElem?_append_left (by rw [List.length_map]; exact hlt), List.getElem?_map, List.getElem?_eq_getElem hlt, Int.toNat_natCast, List.getD_eq_getElem?_getD, List.getElem?_eq_getElem hlt]
    rfl
theorem DQ.cell_pos {q : DQ} (h : (10 : Int) ^ 18 ≤ q.cell) : q.cs ≠ [] := by
  intro e
  unfold DQ.cell at h
  rw [e] at h
  exact absurd h (by simp)
theorem DQ.draw (q : DQ) (L : Int) (hL : 0 < L) (hL2 : L ≤ 10 ^ 30) (hk : q.ok) : ∃ v q', 0 ≤ v ∧ v < L ∧ DQ.ok q' ∧ ∀ {K : PySem.W.Frag} {t : TA} {E : XK} {δ : Sl} {O O1 O2 : Ow} {h c : Addr}, h ≠ c → O1 = q.put O h c → EvA K t δ O2 [.ref h, .int L] O1 → Ev K (tRun (SpD K R_next) E t) δ O2 (.int v) (q'.put O h c) :=
  ⟨(q.next L).1, (q.next L).2, (DQ.next_r hL).1, (DQ.next_r hL).2, DQ.next_ok hL hk, fun {K t E δ O O1 O2 h c} hc e hA => by
    subst e
    exact ev_run hA ⟨h, c, L, q, rfl, hL, hL2, hc, DQ.put_h, DQ.put_c hc, hk, rfl, DQ.put_put⟩⟩
theorem ok_law_mix (T : Tx K mg A) : FnR P w K mg base (L2.CX P w) 1 A.f_law_mix (SpD K (R_mix)) := by
  obtain ⟨fd, F, hb⟩ := T.F_law_mix
  refine fnD F sc_law_mix hb (fun ds O Post h => by first | (obtain ⟨rfl, _⟩ := h; rfl) | (obtain ⟨_, rfl, _⟩ := h; rfl) | (obtain ⟨_, _, rfl, _⟩ := h; rfl) | (obtain ⟨_, _, _, rfl, _⟩ := h; rfl) | (obtain ⟨_, _, _, _, rfl, _⟩ := h; rfl) | (obtain ⟨_, _, _, _, _, rfl, _⟩ := h; rfl) | (obtain ⟨_, _, _, _, _, _, rfl, _⟩ := h; rfl) | (obtain ⟨_, _, _, _, _, _, _, rfl, _⟩ := h; rfl) | (obtain ⟨_, _, _, _, _, _, _, _, rfl, _⟩ := h; rfl) | (obtain ⟨_, _, _, _, _, _, _, _, _, rfl, _⟩ := h; rfl) | (obtain ⟨_, _, _, _, _, _, _, _, _, _, rfl, _⟩ := h; rfl) | (obtain ⟨_, _, _, _, _, _, _, _, _, _, _, rfl, _⟩ := h; rfl) | (obtain ⟨_, _, _, _, _, _, _, _, _, _, _, _, rfl, _⟩ := h; rfl) | (obtain ⟨_, _, _, _, _, _, _, _, _, _, _, _, _, rfl, _⟩ := h; rfl)) fun cdv A' outer s H E hr => ⟨_, PSs.nox (pss_cons (ps_set (i := 2) sc_law_mix.nd rfl (Or.inl rfl) (pv 1))
      (pss_cons (ps_for PassesOwn.never rfl (pi_listK K (pv 0)) (pg_name (i := 3) sc_law_mix.nd rfl (Or.inl rfl)) (pss_one (ps_set (i := 2) sc_law_mix.nd rfl (Or.inl rfl) (pe_op op_mod (pe_callTy call_int1 (by rfl) T.b_int (by decide +kernel) (pa_cons (pe_op op_add (pe_op op_add (pe_op op_mul (pv 2) pe_int) (pe_op op_mod (pe_callTy call_int1 (by rfl) T.b_int (by decide +kernel) (pa_cons (pv 3) pa_nil)) pe_int)) pe_int) pa_nil)) pe_int))))
      (pss_one (ps_ret (pe_lst (pa_cons (pv 2) (pa_cons (pe_callTy (call_listK K) (by rfl) T.b_list (by decide +kernel) (pa_cons (pv 0) pa_nil)) (pa_cons pe_int pa_nil)))))))), fun ds O Post hR => ?_⟩
  obtain ⟨ns, sd, rfl, hl, hsd, hp⟩ := hR
  walk_at "go"
  walk_at "st"
  refine sd_seq (sd_for (ei_scr (ev_var rfl)) (fun i δ' O' => O' = O ∧ ∃ m c, (0 ≤ m ∧ m < 2147483647) ∧ δ' = [some (.scr ns), some (.int sd), some (.int m), c]) ⟨rfl, sd, none, hsd, rfl⟩ (fun i d δ' O' hd hI => ?_) (fun δ' O' hI => ?_))
  · obtain ⟨rfl, m, c, hm, rfl⟩ := hI
    rw [List.getElem?_map] at hd
    cases q : ns[i]? with
    | none => rw [q] at hd; cases hd
    | some n =>
      rw [q] at hd; cases hd
      refine gd_name ?_
      walk_at "sl"
      refine sd_asg (d := .int ((m * 48271 + n % 2147483629 + 1) % 2147483647)) (by walk_at "ev") ?_
      exact ⟨rfl, _, _, ⟨Int.emod_nonneg _ (by decide), Int.emod_lt_of_pos _ (by decide)⟩, rfl⟩
  · obtain ⟨rfl, m, c, hm, rfl⟩ := hI
    refine sd_retP (evp_lstP (eap_cons (Ev.toP (ev_var rfl) (eap_cons (evp_listS (ev_var rfl) fun c hc => eap_cons (Ev.toP ev_int (eap_nil ⟨by simp, fun h hh => ?_⟩)))))))
    have hne : h ≠ c := fun z => by subst z; rw [setO_same] at hh; cases hh
    rw [setO_ne hne] at hh
    exact hp h c ⟨m, ns, 0⟩ hne hh hc ⟨hm.1, hm.2, Int.le_refl _, hl⟩
theorem ok_law_next (T : Tx K mg A) : FnR P w K mg base (L2.CX P w) 1 A.f_law_next (SpD K (R_next)) := by
  obtain ⟨fd, F, hb⟩ := T.F_law_next
  refine fnD F sc_law_next hb (fun ds O Post h => by first | (obtain ⟨rfl, _⟩ := h; rfl) | (obtain ⟨_, rfl, _⟩ := h; rfl) | (obtain ⟨_, _, rfl, _⟩ := h; rfl) | (obtain ⟨_, _, _, rfl, _⟩ := h; rfl) | (obtain ⟨_, _, _, _, rfl, _⟩ := h; rfl) | (obtain ⟨_, _, _, _, _, rfl, _⟩ := h; rfl) | (obtain ⟨_, _, _, _, _, _, rfl, _⟩ := h; rfl) | (obtain ⟨_, _, _, _, _, _, _, rfl, _⟩ := h; rfl) | (obtain ⟨_, _, _, _, _, _, _, _, rfl, _⟩ := h; rfl) | (obtain ⟨_, _, _, _, _, _, _, _, _, rfl, _⟩ := h; rfl) | (obtain ⟨_, _, _, _, _, _, _, _, _, _, rfl, _⟩ := h; rfl) | (obtain ⟨_, _, _, _, _, _, _, _, _, _, _, rfl, _⟩ := h; rfl) | (obtain ⟨_, _, _, _, _, _, _, _, _, _, _, _, rfl, _⟩ := h; rfl) | (obtain ⟨_, _, _, _, _, _, _, _, _, _, _, _, _, rfl, _⟩ := h; rfl)) fun cdv A' outer s H E hr => ⟨_, PSs.nox (pss_cons (ps_set (i := 2) sc_law_next.nd rfl (Or.inl rfl) (pe_ix (ix_listK K) (pe_op op_cat (pe_ix (ix_listK K) (pv 0) pe_int (fun _ _ => rfl)) (pe_lst (pa_cons pe_int pa_nil))) (pe_op op_mod (pe_callTy call_int1 (by rfl) T.b_int (by decide +kernel) (pa_cons (pe_ix (ix_listK K) (pv 0) pe_int (fun _ _ => rfl)) pa_nil)) (pe_callB (call_max2 rfl) (by rfl) T.b_max (by decide +kernel) (pa_cons pe_int (pa_cons (pe_callB (call_lenK K) (by rfl) T.b_len (by decide +kernel) (pa_cons (pe_ix (ix_listK K) (pv 0) pe_int (fun _ _ => rfl)) pa_nil)) pa_nil)))) (fun _ _ => rfl)))
      (pss_cons (ps_if (pt_cmpR op_ge (pv 2) (pe_op op_pow pe_int pe_int) (nomark _)) (pss_cons (ps_asg (pe_op op_fdivW (pv 2) (pv 1)) (pg_sub (pe_ix (ix_listK K) (pv 0) pe_int (fun _ _ => rfl)) (pe_op op_mod (pe_callTy call_int1 (by rfl) T.b_int (by decide +kernel) (pa_cons (pe_ix (ix_listK K) (pv 0) pe_int (fun _ _ => rfl)) pa_nil)) (pe_callB (call_lenK K) (by rfl) T.b_len (by decide +kernel) (pa_cons (pe_ix (ix_listK K) (pv 0) pe_int (fun _ _ => rfl)) pa_nil))) set_list))
      (pss_one (ps_ret (pe_op op_mod (pe_callTy call_int1 (by rfl) T.b_int (by decide +kernel) (pa_cons (pv 2) pa_nil)) (pv 1))))) pss_nil)
      (pss_cons (ps_asg (pe_op op_mod (pe_callTy call_int1 (by rfl) T.b_int (by decide +kernel) (pa_cons (pe_op op_add (pe_op op_add (pe_op op_mul (pe_ix (ix_listK K) (pv 0) pe_int (fun _ _ => rfl)) pe_int) (pe_op op_mul (pv 2) pe_int)) pe_int) pa_nil)) pe_int) (pg_sub (pv 0) pe_int set_list))
      (pss_cons (ps_asg (pe_op op_add (pe_ix (ix_listK K) (pv 0) pe_int (fun _ _ => rfl)) pe_int) (pg_sub (pv 0) pe_int set_list))
      (pss_one (ps_ret (pe_op op_mod (pe_callTy call_int1 (by rfl) T.b_int (by decide +kernel) (pa_cons (pe_op op_fdivW (pe_ix (ix_listK K) (pv 0) pe_int (fun _ _ => rfl)) pe_int) pa_nil)) (pv 1)))))))), fun ds O Post hR => ?_⟩
  obtain ⟨h, c, L, q, rfl, hL, hL2, hn, hh, hc, hok, hp⟩ := hR
  have hcell := DQ.cell_at hok.2.2.1
  have en := @DQ.cell_pos q
  have hok' := hok
  obtain ⟨s0, cs, i⟩ := q
  obtain ⟨h0, h1, h2, h3⟩ := hok'
  dsimp only at h0 h1 h2 h3 en hcell
  unfold DQ.enc at hh
  dsimp only at hh hc
  have hz : (cs.map D.int).length + [D.int 0].length ≤ 100000 := by simp; omega
  walk_at "go"
  refine sd_seq ?_
  apply sd_asg
  focus
    apply ev_op
    focus walk_at "ev"
    focus
      apply ev_op
      focus walk_at "ev"
      focus walk_at "ev"
      focus
        apply r_intC
        split <;> omega
    focus
      apply r_ixL
      exact hcell
  walk_at "sl"
  generalize hcl : DQ.cell ⟨s0, cs, i⟩ = cell at *
  refine sd_seq ?_
  apply sd_if (h := by walk_at "et") <;> intro e
  · have e : (10 : Int) ^ 18 ≤ cell := of_decide_eq_true e
    have hne := en e
    have hlp : 0 < cs.length := List.length_pos_iff.mpr hne
    have hlp2 : 0 < ((cs.map D.int).length : Int) := by simp; omega
    refine sd_seq ?_
    apply sd_setL (k := i.toNat % cs.length)
    focus walk_at "ev"
    focus walk_at "ev"
    focus walk_at "ev"
    focus exact hc
    focus
      rw [List.length_map]
      exact ixN_of (by rw [Int.natCast_emod, Int.toNat_of_nonneg h2]) (Nat.mod_lt _ hlp)
    walk_at "sl"
    walk_at "st"
    have en2 : DQ.next ⟨s0, cs, i⟩ L = (cell % L, ⟨s0, cs.set (i.toNat % cs.length) (cell / L), i⟩) := by unfold DQ.next; rw [hcl, if_pos e]
    rw [en2] at hp
    refine Eq.mp ?_ hp
    congr 1
    unfold DQ.put
    dsimp only
    rw [← List.map_set, setO_id]
    rw [setO_ne hn]
    exact hh
  · have e : ¬ (10 : Int) ^ 18 ≤ cell := of_decide_eq_false e
    walk_at "st"
    walk_at "st"
    walk_at "st"
    walk_at "st"
    have en2 : DQ.next ⟨s0, cs, i⟩ L = ((s0 * 48271 + cell * 69621 + 11) % 2147483647 / 7 % L, ⟨(s0 * 48271 + cell * 69621 + 11) % 2147483647, cs, i + 1⟩) := by unfold DQ.next; rw [hcl, if_neg e]
    rw [en2] at hp
    refine Eq.mp ?_ hp
    congr 1
    rw [setO_setO]
    unfold DQ.put
    dsimp only
    rw [setO_id hc]
    rfl
end
end Law

set_option Elab.async false
set_option linter.all false
set_option maxRecDepth 100000
set_option maxHeartbeats 4000000
namespace Law
open PySem PySem.Spec L2 DL
open PyProof.Rows hiding St
local macro_rules | `(tactic| walk_at "sl") => `(tactic| try dsimp only [startD, List.map, List.length_cons, List.length_nil, List.replicate, List.cons_append, List.nil_append, List.set_cons_zero, List.set_cons_succ, Nat.reduceSub, Nat.reduceAdd, wipeD])
local macro_rules | `(tactic| walk_at "go") => `(tactic| ((try dsimp only [cxOf, Cx.nox, Cx.wish, Cx.blk]); walk_at "sl"; walk_at "sl"))
local macro_rules | `(tactic| walk_at "own") => `(tactic| first | assumption | exact setO_same | (rw [setO_ne (by first | assumption | exact Ne.symm (by assumption))]; assumption) | (rw [setO_ne (by first | assumption | exact Ne.symm (by assumption))]; exact setO_same))
local macro_rules | `(tactic| walk_at "side") => `(tactic| first
  | assumption | rfl | exact flat_ints _ | exact atI0 | exact atI1 | exact atI2 | exact atI3 | decide | omega | (simp; done)
  | (refine cmodp ?_; omega) | (refine cdivw ?_ ?_ <;> omega) | (refine cmul_l ?_ ?_ <;> omega) | (refine cmul_r ?_ ?_ <;> omega) | (refine cpow ?_ ?_ ?_ <;> decide))
local macro_rules | `(tactic| walk_at "rr") => `(tactic| first
  | with_reducible exact r_int | with_reducible exact r_bl | with_reducible exact r_eqI | with_reducible exact r_neI | with_reducible exact r_eqB | with_reducible exact r_neB | with_reducible exact r_eqS | with_reducible exact r_neS
  | ((with_reducible apply r_intC); walk_at "side")
  | ((with_reducible apply r_ixL); walk_at "side") | ((with_reducible apply r_ixT); walk_at "side") | ((with_reducible apply r_ixS); walk_at "side") | ((with_reducible apply r_ixO); (focus walk_at "own"); (focus walk_at "side"))
  | ((with_reducible apply r_inT0) <;> walk_at "side") | ((with_reducible apply r_inL0) <;> walk_at "side") | ((with_reducible apply r_inT1) <;> walk_at "side") | ((with_reducible apply r_inL1) <;> walk_at "side")
  | ((with_reducible apply r_inO0); (focus walk_at "own"); (focus walk_at "side"); (focus walk_at "side")) | ((with_reducible apply r_inO1); (focus walk_at "own"); (focus walk_at "side"); (focus walk_at "side"))
  | ((with_reducible apply r_rep) <;> walk_at "side") | ((with_reducible apply r_cat) <;> walk_at "side")
  | ((with_reducible apply r_catA) <;> walk_at "side") | ((with_reducible apply r_catO); (focus walk_at "own"); (focus walk_at "side"))
  | ((with_reducible apply r_addS); (focus walk_at "side")) | with_reducible exact r_isN _ rfl | with_reducible exact r_notN _ rfl
  | ((with_reducible apply r_eqP); (focus walk_at "pl"); (focus walk_at "pl"); (focus decide); (focus decide)) | ((with_reducible apply r_neP); (focus walk_at "pl"); (focus walk_at "pl"); (focus decide); (focus decide)))
local macro_rules | `(tactic| walk_at "pl") => `(tactic| first | exact Pl.ints _ | exact Pl.intsL _ | exact Pl.nilT | exact Pl.nilL | exact Pl.int (n := 0) | assumption)
local macro_rules | `(tactic| walk_at "cc") => `(tactic| first
  | with_reducible exact c_lenL | with_reducible exact c_lenT | with_reducible exact c_lenS | ((with_reducible apply c_lenO); walk_at "own")
  | with_reducible exact c_listL | with_reducible exact c_listT | with_reducible exact c_tupL | with_reducible exact c_sum | with_reducible exact c_intB | with_reducible exact c_int1
  | with_reducible exact c_max2 | ((with_reducible apply c_strI); (focus walk_at "side")) | ((with_reducible apply c_lenStr); (focus walk_at "side"))
  | ((with_reducible apply c_isi); (focus rfl); (focus (first | decide +kernel | rfl))) | ((with_reducible apply c_isi2); (focus rfl); (focus (first | decide +kernel | rfl)); (focus (first | decide +kernel | rfl))))
local macro_rules | `(tactic| walk_at "ea") => `(tactic| first
  | with_reducible exact ea_nil
  | ((with_reducible apply ea_cons); (focus walk_at "ev"); (focus walk_at "ea"))
  | ((with_reducible apply ea_starT); (focus walk_at "ev"); (focus walk_at "ea")) | ((with_reducible apply ea_starL); (focus walk_at "ev"); (focus walk_at "ea")))
local macro_rules | `(tactic| walk_at "ev") => `(tactic| first
  | exact ev_var rfl | with_reducible exact ev_int | with_reducible exact ev_bl | with_reducible exact ev_str | with_reducible exact ev_non | with_reducible exact ev_ty | with_reducible exact ev_ref
  | ((with_reducible apply ev_op); (focus walk_at "ev"); (focus walk_at "ev"); (focus walk_at "rr"))
  | ((with_reducible apply ev_cb); (focus walk_at "ea"); (focus walk_at "cc"))
  | ((with_reducible apply ev_neg); (focus walk_at "ev"))
  | ((with_reducible apply ev_tup); (focus walk_at "ea"); (focus walk_at "side"))
  | ((with_reducible apply ev_lst); (focus walk_at "ea"); (focus walk_at "side"))
  | ((with_reducible apply ev_notV); (focus walk_at "ev"))
  | ((with_reducible apply ev_chain); (focus walk_at "ev"); (focus walk_at "ev"); (focus walk_at "rr"); (focus (intro _; walk_at "ev")); (focus (intro _; walk_at "rr")))
  | walk_at "evx")
local macro_rules | `(tactic| walk_at "et") => `(tactic| first
  | ((with_reducible apply et_test); walk_at "ev") | ((with_reducible apply et_B); walk_at "ev") | with_reducible exact et_yes
  | ((with_reducible apply et_not); walk_at "et")
  | ((with_reducible apply et_and); (focus walk_at "et"); (focus (intro _; walk_at "et")))
  | ((with_reducible apply et_or); (focus walk_at "et"); (focus (intro _; walk_at "et"))))
local macro_rules | `(tactic| walk_at "s1") => `(tactic| first
  | ((with_reducible apply sd_asg); (focus walk_at "ev"); walk_at "sl")
  | ((with_reducible apply sd_par); (focus walk_at "ea"); walk_at "sl")
  | ((with_reducible apply sd_setL); (focus walk_at "ev"); (focus walk_at "ev"); (focus walk_at "ev"); (focus walk_at "own"); (focus (first | exact ixN_of (k := 0) rfl (by simp) | exact ixN_of (k := 1) rfl (by simp) | exact ixN_of (k := 2) rfl (by simp) | exact ixN_of (k := 3) rfl (by simp) | assumption)); walk_at "sl")
  | ((with_reducible apply sd_app); (focus walk_at "ev"); (focus walk_at "own"); (focus walk_at "ev"); (focus walk_at "own"); (focus walk_at "side"); walk_at "sl")
  | ((with_reducible apply sd_ret); (focus walk_at "ev"))
  | with_reducible apply sd_next)
local macro_rules | `(tactic| walk_at "st") => `(tactic| first | ((with_reducible apply sd_seq); walk_at "s1") | walk_at "s1")
local macro_rules | `(tactic| walk_at "R") => `(tactic| first
  | exact ⟨_, rfl, rfl, rfl⟩ | exact ⟨_, _, rfl, rfl, rfl⟩ | exact ⟨_, _, _, rfl, rfl, rfl⟩ | exact ⟨_, _, _, _, rfl, rfl, rfl⟩
  | exact ⟨_, rfl, by assumption, rfl, rfl⟩ | exact ⟨_, _, rfl, by assumption, rfl, rfl⟩ | exact ⟨_, _, _, rfl, by assumption, rfl, rfl⟩ | exact ⟨_, _, _, _, rfl, by assumption, rfl, rfl⟩
  | exact ⟨_, _, rfl, by assumption, by assumption, rfl, rfl⟩ | exact ⟨_, _, _, rfl, by assumption, by assumption, rfl, rfl⟩ | exact ⟨_, _, _, _, rfl, by assumption, by assumption, rfl, rfl⟩)
local macro_rules | `(tactic| walk_at "evx") => `(tactic| first
  | ((with_reducible apply ev_run); (focus walk_at "ea"); walk_at "R")
  | ((with_reducible apply ev_propR); (focus walk_at "ev"); walk_at "R")
  | ((with_reducible apply ev_fld); (focus walk_at "ev"); (focus walk_at "cls"); (focus walk_at "cls"); (focus rfl))
  | ((with_reducible apply ev_ownIn0); (focus walk_at "ev"); (focus walk_at "ev"); walk_at "R")
  | ((with_reducible apply ev_slL); (focus walk_at "ev"); (focus walk_at "eo"); (focus walk_at "eo"))
  | ((with_reducible apply ev_slT); (focus walk_at "ev"); (focus walk_at "eo"); (focus walk_at "eo"))
  | ((with_reducible apply ev_cvalI); (focus walk_at "ev"); (focus walk_at "cls"); (focus walk_at "cls")))
local macro_rules | `(tactic| walk_at "eo") => `(tactic| first | with_reducible exact eo_none | ((with_reducible apply eo_some); walk_at "ev"))
local macro_rules | `(tactic| walk_at "cls") => `(tactic| first
  | with_reducible exact (by assumption : Tx _ _ _).cl_Shares
  | with_reducible exact (by assumption : Tx _ _ _).na_Shares_amounts
  | with_reducible exact (by assumption : Tx _ _ _).cl_Bill
  | with_reducible exact (by assumption : Tx _ _ _).na_Bill_total
  | with_reducible exact (by assumption : Tx _ _ _).na_Bill_there
  | with_reducible exact (by assumption : Tx _ _ _).cr_Bill
  | with_reducible exact (by assumption : Tx _ _ _).cv_Bill_MAX_SEATS)
section
variable {P : Program} {w : World} {K : PySem.W.Frag} {mg : Str → Option Value} {base : Heap} {A : Ad}
/-! ### _law_alike -/
theorem rg_none (k : Nat) : ((List.range k).filter fun _ => false).map (fun (j : Nat) => D.int (j : Int)) = [] := by simp
local macro_rules | `(tactic| walk_at "al") => `(tactic| (refine sd_seq ?_; apply sd_no; (focus walk_at "et"); (focus (first | rfl | decide +kernel)); refine sd_next ?_))
theorem alike_step {k n : Nat} (T : Tx K mg A) (IH : FnR P w K mg base (L2.CX P w) k A.f_law_alike (SpD K (R_same n))) : FnR P w K mg base (L2.CX P w) (k + 1) A.f_law_alike (SpD K (R_same (n + 1))) := by
  obtain ⟨fd, F, hb⟩ := T.F_law_alike
  refine fnD F sc_law_alike hb (fun ds O Post h => by obtain ⟨_, rfl, _⟩ := h; rfl) fun cdv A' outer s H E hr => ⟨_, PSs.nox (pss_cons (ps_if (pt_val (pe_callB (call_isiK1 K) (by rfl) T.b_isinstance (by decide +kernel) (pa_cons (pv 1) (pa_cons (pe_bltn (v := .ty "dict") (by rfl) T.b_dict (by decide +kernel) rfl) pa_nil)))) pss_never pss_nil)
      (pss_cons (ps_if (pt_val (pe_callB (call_isiK2 K) (by rfl) T.b_isinstance (by decide +kernel) (pa_cons (pv 1) (pa_cons (pe_tup (pa_cons (pe_bltn (v := .ty "tuple") (by rfl) T.b_tuple (by decide +kernel) rfl) (pa_cons (pe_bltn (v := .ty "list") (by rfl) T.b_list (by decide +kernel) rfl) pa_nil))) pa_nil)))) (pss_cons (ps_if (PW.pt (pw_or (pt_not (pt_val (pe_callB (call_isiK2 K) (by rfl) T.b_isinstance (by decide +kernel) (pa_cons (pv 0) (pa_cons (pe_tup (pa_cons (pe_bltn (v := .ty "tuple") (by rfl) T.b_tuple (by decide +kernel) rfl) (pa_cons (pe_bltn (v := .ty "list") (by rfl) T.b_list (by decide +kernel) rfl) pa_nil))) pa_nil))))) (pw_or1 (pt_cmpR op_ne (pe_callB (call_isiK1 K) (by rfl) T.b_isinstance (by decide +kernel) (pa_cons (pv 0) (pa_cons (pe_bltn (v := .ty "list") (by rfl) T.b_list (by decide +kernel) rfl) pa_nil))) (pe_callB (call_isiK1 K) (by rfl) T.b_isinstance (by decide +kernel) (pa_cons (pv 1) (pa_cons (pe_bltn (v := .ty "list") (by rfl) T.b_list (by decide +kernel) rfl) pa_nil))) (nomark _))))) (pss_one (ps_ret pe_bl)) pss_nil)
      (pss_cons (ps_if (pt_cmpR op_ne (pe_callB (call_lenK K) (by rfl) T.b_len (by decide +kernel) (pa_cons (pv 0) pa_nil)) (pe_callB (call_lenK K) (by rfl) T.b_len (by decide +kernel) (pa_cons (pv 1) pa_nil)) (nomark _)) (pss_one (ps_ret pe_bl)) pss_nil)
      (pss_one (ps_ret (pe_cmpR (op_eqDK K hr.units) (pe_lc (own := [("_law_k", 2)]) rfl sc_law_alike.nd (pi_range1 (by rfl) T.b_range (pa_cons (pe_callB (call_lenK K) (by rfl) T.b_len (by decide +kernel) (pa_cons (pv 1) pa_nil)) pa_nil)) (blkOk_by (N := N_law_alike) (sc := defScope s_law_alike) (by decide +kernel)) (fun _ _ _ _ _ => (pg_name (i := 2) sc_law_alike.nd rfl (by first | exact Or.inl rfl | exact Or.inr rfl))) (fun _ _ _ _ _ => (pts_one (pt_not (pt_val (pe_run IH hr T.k_law_alike T.g__law_alike passL (pa_cons (pe_ix (ix_seqK K) (pv 0) (pv 2) (fun _ _ => rfl)) (pa_cons (pe_ix (ix_seqK K) (pv 1) (pv 2) (fun _ _ => rfl)) pa_nil))))))) (fun _ _ _ _ _ => (pv 2))) (pe_lst pa_nil) (nomark _)))))) pss_nil)
      (pss_cons (ps_if (PW.pt (pw_or (pt_cmpR op_isN (pv 1) pe_non (nomark _)) (pw_or1 (pt_val (pe_callB (call_isiK1 K) (by rfl) T.b_isinstance (by decide +kernel) (pa_cons (pv 1) (pa_cons (pe_bltn (v := .ty "str") (by rfl) T.b_str (by decide +kernel) rfl) pa_nil))))))) (pss_one (ps_ret (pe_and (pe_cmpR (op_eqDK K hr.units) (pv 0) (pv 1) (nomark _)) (pe_one (pe_cmpR op_eq (pe_callB (call_isiK1 K) (by rfl) T.b_isinstance (by decide +kernel) (pa_cons (pv 0) (pa_cons (pe_bltn (v := .ty "str") (by rfl) T.b_str (by decide +kernel) rfl) pa_nil))) (pe_callB (call_isiK1 K) (by rfl) T.b_isinstance (by decide +kernel) (pa_cons (pv 1) (pa_cons (pe_bltn (v := .ty "str") (by rfl) T.b_str (by decide +kernel) rfl) pa_nil))) (nomark _)))))) pss_nil)
      (pss_one (ps_ret (pe_and (pe_callB (call_isiK1 K) (by rfl) T.b_isinstance (by decide +kernel) (pa_cons (pv 0) (pa_cons (pe_bltn (v := .ty "int") (by rfl) T.b_int (by decide +kernel) rfl) pa_nil))) (pe_and (pe_cmpR op_eq (pe_callB (call_isiK1 K) (by rfl) T.b_isinstance (by decide +kernel) (pa_cons (pv 0) (pa_cons (pe_bltn (v := .ty "bool") (by rfl) T.b_bool (by decide +kernel) rfl) pa_nil))) (pe_callB (call_isiK1 K) (by rfl) T.b_isinstance (by decide +kernel) (pa_cons (pv 1) (pa_cons (pe_bltn (v := .ty "bool") (by rfl) T.b_bool (by decide +kernel) rfl) pa_nil))) (nomark _)) (pe_one (pe_cmpR (op_eqDK K hr.units) (pv 0) (pv 1) (nomark _)))))))))), fun ds O Post hR => ?_⟩
  obtain ⟨x, rfl, hx, hp⟩ := hR
  walk_at "go"
  cases hx with
  | flat h =>
    have hP := h
    have key : eqD x x = true := eqD_self hP
    cases h with
    | non =>
      walk_at "al"
      walk_at "al"
      refine sd_seq ?_
      apply sd_yes
      focus exact et_orT (by walk_at "et")
      focus rfl
      refine sd_ret (d := .bl true) (O1 := O) (ev_andVT (O1 := O) (Ev.is (by walk_at "ev") (by rw [key])) (Ev.is (by walk_at "ev") (by first | rfl | decide +kernel))) hp
    | bl =>
      walk_at "al"
      walk_at "al"
      walk_at "al"
      refine sd_ret (d := .bl true) (O1 := O) (ev_andVT (O1 := O) (Ev.is (by walk_at "ev") (by first | rfl | decide +kernel)) (ev_andVT (O1 := O) (Ev.is (by walk_at "ev") (by first | rfl | decide +kernel)) (Ev.is (by walk_at "ev") (by rw [key])))) hp
    | int =>
      walk_at "al"
      walk_at "al"
      walk_at "al"
      refine sd_ret (d := .bl true) (O1 := O) (ev_andVT (O1 := O) (Ev.is (by walk_at "ev") (by first | rfl | decide +kernel)) (ev_andVT (O1 := O) (Ev.is (by walk_at "ev") (by first | rfl | decide +kernel)) (Ev.is (by walk_at "ev") (by rw [key])))) hp
    | str =>
      walk_at "al"
      walk_at "al"
      refine sd_seq ?_
      apply sd_yes
      focus walk_at "et"
      focus (first | rfl | decide +kernel)
      refine sd_ret (d := .bl true) (O1 := O) (ev_andVT (O1 := O) (Ev.is (by walk_at "ev") (by rw [key])) (Ev.is (by walk_at "ev") (by first | rfl | decide +kernel))) hp
  | @tup n ds hl h =>
    walk_at "al"
    refine sd_seq ?_
    apply sd_yes
    focus walk_at "et"
    focus rfl
    refine sd_seq ?_
    apply sd_no
    focus walk_at "et"
    focus rfl
    refine sd_next (sd_seq ?_)
    apply sd_no
    focus walk_at "et"
    focus (simp; done)
    refine sd_next ?_
    refine sd_ret (d := .bl true) (O1 := O) (Ev.is (d := .bl (eqD (.lst []) (.lst []))) (ev_op (O1 := O) (x := .lst []) (Ev.is (ev_lc (O1 := O) (ei_rngN (j := (ds.length : Int)) (by walk_at "ea") (by omega)) (cp_filter (List.range ds.length) (fun (j : Nat) => D.int (j : Int)) (fun (j : Nat) => D.int (j : Int)) (fun j => [some (.tup ds), some (.tup ds), some (.int (j : Int))]) (fun _ => false) fun j hj => ⟨gc_name (by decide), ?_, fun z => nomatch z⟩) (by simp; omega)) (by rw [rg_none])) (by walk_at "ev") (by walk_at "rr")) (by rw [eqD_nilL]; rfl)) hp
    have hjl := List.mem_range.mp hj
    have hat : atI ds (j : Int) = some ds[j] := atI_of rfl (List.getElem?_eq_getElem hjl)
    exact et_not (b := true) (et_test (ev_run (O1 := O) (ea_cons (ev_op (ev_var rfl) (ev_var rfl) (r_ixAT hat)) (ea_cons (ev_op (ev_var rfl) (ev_var rfl) (r_ixAT hat)) ea_nil)) ⟨_, rfl, h _ (List.getElem_mem hjl), rfl, rfl⟩))
  | @lst n ds hl h =>
    walk_at "al"
    refine sd_seq ?_
    apply sd_yes
    focus walk_at "et"
    focus rfl
    refine sd_seq ?_
    apply sd_no
    focus walk_at "et"
    focus rfl
    refine sd_next (sd_seq ?_)
    apply sd_no
    focus walk_at "et"
    focus (simp; done)
    refine sd_next ?_
    refine sd_ret (d := .bl true) (O1 := O) (Ev.is (d := .bl (eqD (.lst []) (.lst []))) (ev_op (O1 := O) (x := .lst []) (Ev.is (ev_lc (O1 := O) (ei_rngN (j := (ds.length : Int)) (by walk_at "ea") (by omega)) (cp_filter (List.range ds.length) (fun (j : Nat) => D.int (j : Int)) (fun (j : Nat) => D.int (j : Int)) (fun j => [some (.lst ds), some (.lst ds), some (.int (j : Int))]) (fun _ => false) fun j hj => ⟨gc_name (by decide), ?_, fun z => nomatch z⟩) (by simp; omega)) (by rw [rg_none])) (by walk_at "ev") (by walk_at "rr")) (by rw [eqD_nilL]; rfl)) hp
    have hjl := List.mem_range.mp hj
    have hat : atI ds (j : Int) = some ds[j] := atI_of rfl (List.getElem?_eq_getElem hjl)
    exact et_not (b := true) (et_test (ev_run (O1 := O) (ea_cons (ev_op (ev_var rfl) (ev_var rfl) (r_ixAL hat)) (ea_cons (ev_op (ev_var rfl) (ev_var rfl) (r_ixAL hat)) ea_nil)) ⟨_, rfl, h _ (List.getElem_mem hjl), rfl, rfl⟩))
theorem ok_law_alike (T : Tx K mg A) : FnR P w K mg base (L2.CX P w) 4 A.f_law_alike (SpD K (R_same 4)) := alike_step T (alike_step T (alike_step T (alike_step T fnR0)))
end
end Law

set_option Elab.async false
set_option linter.all false
set_option maxRecDepth 100000
set_option maxHeartbeats 4000000
namespace Law
open PySem PySem.Spec L2 DL
open PyProof.Rows hiding St
local macro_rules | `(tactic| walk_at "sl") => `(tactic| try dsimp only [startD, List.map, List.length_cons, List.length_nil, List.replicate, List.cons_append, List.nil_append, List.set_cons_zero, List.set_cons_succ, Nat.reduceSub, Nat.reduceAdd, wipeD])
local macro_rules | `(tactic| walk_at "go") => `(tactic| ((try dsimp only [cxOf, Cx.nox, Cx.wish, Cx.blk]); walk_at "sl"; walk_at "sl"))
local macro_rules | `(tactic| walk_at "own") => `(tactic| first | assumption | exact setO_same | (rw [setO_ne (by first | assumption | exact Ne.symm (by assumption))]; assumption) | (rw [setO_ne (by first | assumption | exact Ne.symm (by assumption))]; exact setO_same))
local macro_rules | `(tactic| walk_at "side") => `(tactic| first
  | assumption | rfl | exact flat_ints _ | exact atI0 | exact atI1 | exact atI2 | exact atI3 | decide | omega | (simp; done)
  | (refine cmodp ?_; omega) | (refine cdivw ?_ ?_ <;> omega) | (refine cmul_l ?_ ?_ <;> omega) | (refine cmul_r ?_ ?_ <;> omega) | (refine cpow ?_ ?_ ?_ <;> decide))
local macro_rules | `(tactic| walk_at "rr") => `(tactic| first
  | with_reducible exact r_int | with_reducible exact r_bl | with_reducible exact r_eqI | with_reducible exact r_neI | with_reducible exact r_eqB | with_reducible exact r_neB | with_reducible exact r_eqS | with_reducible exact r_neS
  | ((with_reducible apply r_intC); walk_at "side")
  | ((with_reducible apply r_ixL); walk_at "side") | ((with_reducible apply r_ixT); walk_at "side") | ((with_reducible apply r_ixS); walk_at "side") | ((with_reducible apply r_ixO); (focus walk_at "own"); (focus walk_at "side"))
  | ((with_reducible apply r_inT0) <;> walk_at "side") | ((with_reducible apply r_inL0) <;> walk_at "side") | ((with_reducible apply r_inT1) <;> walk_at "side") | ((with_reducible apply r_inL1) <;> walk_at "side")
  | ((with_reducible apply r_inO0); (focus walk_at "own"); (focus walk_at "side"); (focus walk_at "side")) | ((with_reducible apply r_inO1); (focus walk_at "own"); (focus walk_at "side"); (focus walk_at "side"))
  | ((with_reducible apply r_rep) <;> walk_at "side") | ((with_reducible apply r_cat) <;> walk_at "side")
  | ((with_reducible apply r_catA) <;> walk_at "side") | ((with_reducible apply r_catO); (focus walk_at "own"); (focus walk_at "side"))
  | ((with_reducible apply r_addS); (focus walk_at "side")) | with_reducible exact r_isN _ rfl | with_reducible exact r_notN _ rfl
  | ((with_reducible apply r_eqP); (focus walk_at "pl"); (focus walk_at "pl"); (focus decide); (focus decide)) | ((with_reducible apply r_neP); (focus walk_at "pl"); (focus walk_at "pl"); (focus decide); (focus decide)))
local macro_rules | `(tactic| walk_at "pl") => `(tactic| first | exact Pl.ints _ | exact Pl.intsL _ | exact Pl.nilT | exact Pl.nilL | exact Pl.int (n := 0) | assumption)
local macro_rules | `(tactic| walk_at "cc") => `(tactic| first
  | with_reducible exact c_lenL | with_reducible exact c_lenT | with_reducible exact c_lenS | ((with_reducible apply c_lenO); walk_at "own")
  | with_reducible exact c_listL | with_reducible exact c_listT | with_reducible exact c_tupL | with_reducible exact c_sum | with_reducible exact c_intB | with_reducible exact c_int1
  | with_reducible exact c_max2 | ((with_reducible apply c_strI); (focus walk_at "side")) | ((with_reducible apply c_lenStr); (focus walk_at "side"))
  | ((with_reducible apply c_isi); (focus rfl); (focus (first | decide +kernel | rfl))) | ((with_reducible apply c_isi2); (focus rfl); (focus (first | decide +kernel | rfl)); (focus (first | decide +kernel | rfl))))
local macro_rules | `(tactic| walk_at "ea") => `(tactic| first
  | with_reducible exact ea_nil
  | ((with_reducible apply ea_cons); (focus walk_at "ev"); (focus walk_at "ea"))
  | ((with_reducible apply ea_starT); (focus walk_at "ev"); (focus walk_at "ea")) | ((with_reducible apply ea_starL); (focus walk_at "ev"); (focus walk_at "ea")))
local macro_rules | `(tactic| walk_at "ev") => `(tactic| first
  | exact ev_var rfl | with_reducible exact ev_int | with_reducible exact ev_bl | with_reducible exact ev_str | with_reducible exact ev_non | with_reducible exact ev_ty | with_reducible exact ev_ref
  | ((with_reducible apply ev_op); (focus walk_at "ev"); (focus walk_at "ev"); (focus walk_at "rr"))
  | ((with_reducible apply ev_cb); (focus walk_at "ea"); (focus walk_at "cc"))
  | ((with_reducible apply ev_neg); (focus walk_at "ev"))
  | ((with_reducible apply ev_tup); (focus walk_at "ea"); (focus walk_at "side"))
  | ((with_reducible apply ev_lst); (focus walk_at "ea"); (focus walk_at "side"))
  | ((with_reducible apply ev_notV); (focus walk_at "ev"))
  | ((with_reducible apply ev_chain); (focus walk_at "ev"); (focus walk_at "ev"); (focus walk_at "rr"); (focus (intro _; walk_at "ev")); (focus (intro _; walk_at "rr")))
  | walk_at "evx")
local macro_rules | `(tactic| walk_at "et") => `(tactic| first
  | ((with_reducible apply et_test); walk_at "ev") | ((with_reducible apply et_B); walk_at "ev") | with_reducible exact et_yes
  | ((with_reducible apply et_not); walk_at "et")
  | ((with_reducible apply et_and); (focus walk_at "et"); (focus (intro _; walk_at "et")))
  | ((with_reducible apply et_or); (focus walk_at "et"); (focus (intro _; walk_at "et"))))
local macro_rules | `(tactic| walk_at "s1") => `(tactic| first
  | ((with_reducible apply sd_asg); (focus walk_at "ev"); walk_at "sl")
  | ((with_reducible apply sd_par); (focus walk_at "ea"); walk_at "sl")
  | ((with_reducible apply sd_setL); (focus walk_at "ev"); (focus walk_at "ev"); (focus walk_at "ev"); (focus walk_at "own"); (focus (first | exact ixN_of (k := 0) rfl (by simp) | exact ixN_of (k := 1) rfl (by simp) | exact ixN_of (k := 2) rfl (by simp) | exact ixN_of (k := 3) rfl (by simp) | assumption)); walk_at "sl")
  | ((with_reducible apply sd_app); (focus walk_at "ev"); (focus walk_at "own"); (focus walk_at "ev"); (focus walk_at "own"); (focus walk_at "side"); walk_at "sl")
  | ((with_reducible apply sd_ret); (focus walk_at "ev"))
  | with_reducible apply sd_next)
local macro_rules | `(tactic| walk_at "st") => `(tactic| first | ((with_reducible apply sd_seq); walk_at "s1") | walk_at "s1")
local macro_rules | `(tactic| walk_at "R") => `(tactic| first
  | exact ⟨_, rfl, rfl, rfl⟩ | exact ⟨_, _, rfl, rfl, rfl⟩ | exact ⟨_, _, _, rfl, rfl, rfl⟩ | exact ⟨_, _, _, _, rfl, rfl, rfl⟩
  | exact ⟨_, rfl, by assumption, rfl, rfl⟩ | exact ⟨_, _, rfl, by assumption, rfl, rfl⟩ | exact ⟨_, _, _, rfl, by assumption, rfl, rfl⟩ | exact ⟨_, _, _, _, rfl, by assumption, rfl, rfl⟩
  | exact ⟨_, _, rfl, by assumption, by assumption, rfl, rfl⟩ | exact ⟨_, _, _, rfl, by assumption, by assumption, rfl, rfl⟩ | exact ⟨_, _, _, _, rfl, by assumption, by assumption, rfl, rfl⟩)
local macro_rules | `(tactic| walk_at "evx") => `(tactic| first
  | ((with_reducible apply ev_run); (focus walk_at "ea"); walk_at "R")
  | ((with_reducible apply ev_propR); (focus walk_at "ev"); walk_at "R")
  | ((with_reducible apply ev_fld); (focus walk_at "ev"); (focus walk_at "cls"); (focus walk_at "cls"); (focus rfl))
  | ((with_reducible apply ev_ownIn0); (focus walk_at "ev"); (focus walk_at "ev"); walk_at "R")
  | ((with_reducible apply ev_slL); (focus walk_at "ev"); (focus walk_at "eo"); (focus walk_at "eo"))
  | ((with_reducible apply ev_slT); (focus walk_at "ev"); (focus walk_at "eo"); (focus walk_at "eo"))
  | ((with_reducible apply ev_cvalI); (focus walk_at "ev"); (focus walk_at "cls"); (focus walk_at "cls")))
local macro_rules | `(tactic| walk_at "eo") => `(tactic| first | with_reducible exact eo_none | ((with_reducible apply eo_some); walk_at "ev"))
local macro_rules | `(tactic| walk_at "cls") => `(tactic| first
  | with_reducible exact (by assumption : Tx _ _ _).cl_Shares
  | with_reducible exact (by assumption : Tx _ _ _).na_Shares_amounts
  | with_reducible exact (by assumption : Tx _ _ _).cl_Bill
  | with_reducible exact (by assumption : Tx _ _ _).na_Bill_total
  | with_reducible exact (by assumption : Tx _ _ _).na_Bill_there
  | with_reducible exact (by assumption : Tx _ _ _).cr_Bill
  | with_reducible exact (by assumption : Tx _ _ _).cv_Bill_MAX_SEATS)
section
variable {P : Program} {w : World} {K : PySem.W.Frag} {mg : Str → Option Value} {base : Heap} {A : Ad}
/-! groups of sum 0: what most_groups finds -/
section
variable (f : Int → Int)
/-- the groups by k rounds, for a set of k seats -/
def bst : Nat → List Int → List (List Int)
  | 0, _ => []
  | k + 1, c =>
    let fd := c.foldl (fun fd s => let b := bst k (c.filter fun o => decide (o ≠ s)); if fd.length ≤ b.length then b else fd) []
    if (c.map f).sum = 0 then fd ++ [c.filter fun s => !decide (s ∈ fd.flatten)] else fd
def bfd (k : Nat) (c l : List Int) (fd : List (List Int)) : List (List Int) := l.foldl (fun fd s => let b := bst f k (c.filter fun o => decide (o ≠ s)); if fd.length ≤ b.length then b else fd) fd
theorem bst_succ (k : Nat) (c : List Int) : bst f (k + 1) c = if (c.map f).sum = 0 then bfd f k c c [] ++ [c.filter fun s => !decide (s ∈ (bfd f k c c []).flatten)] else bfd f k c c [] := rfl
theorem bfd_len (k : Nat) (c : List Int) : ∀ (l : List Int) (fd : List (List Int)), fd.length ≤ (bfd f k c l fd).length ∧ (∀ s ∈ l, (bst f k (c.filter fun o => decide (o ≠ s))).length ≤ (bfd f k c l fd).length) ∧ (bfd f k c l fd = fd ∨ ∃ s ∈ l, bfd f k c l fd = bst f k (c.filter fun o => decide (o ≠ s)))
  | [], fd => ⟨Nat.le_refl _, (fun s hs => nomatch hs), .inl rfl⟩
  | a :: l, fd => by
    obtain ⟨h1, h2, h3⟩ := bfd_len k c l (if fd.length ≤ (bst f k (c.filter fun o => decide (o ≠ a))).length then bst f k (c.filter fun o => decide (o ≠ a)) else fd)
    have e : bfd f k c (a :: l) fd = bfd f k c l (if fd.length ≤ (bst f k (c.filter fun o => decide (o ≠ a))).length then bst f k (c.filter fun o => decide (o ≠ a)) else fd) := rfl
    rw [e]
    by_cases q : fd.length ≤ (bst f k (c.filter fun o => decide (o ≠ a))).length
    · rw [if_pos q] at h1 h2 h3 ⊢
      refine ⟨Nat.le_trans q h1, fun s hs => ?_, ?_⟩
      · rcases List.mem_cons.mp hs with rfl | hs
        · exact h1
        · exact h2 s hs
      · rcases h3 with h3 | ⟨s, hs, h3⟩
        · exact .inr ⟨a, List.mem_cons_self .., h3⟩
        · exact .inr ⟨s, List.mem_cons_of_mem _ hs, h3⟩
    · rw [if_neg q] at h1 h2 h3 ⊢
      refine ⟨h1, fun s hs => ?_, ?_⟩
      · rcases List.mem_cons.mp hs with rfl | hs
        · omega
        · exact h2 s hs
      · rcases h3 with h3 | ⟨s, hs, h3⟩
        · exact .inl h3
        · exact .inr ⟨s, List.mem_cons_of_mem _ hs, h3⟩
theorem bfd_from (k : Nat) {c : List Int} (hc : c ≠ []) : ∃ s ∈ c, bfd f k c c [] = bst f k (c.filter fun o => decide (o ≠ s)) := by
  cases c with
  | nil => exact absurd rfl hc
  | cons a r =>
    have e : bfd f k (a :: r) (a :: r) [] = bfd f k (a :: r) r (bst f k ((a :: r).filter fun o => decide (o ≠ a))) := by
      show bfd f k (a :: r) r (if 0 ≤ _ then _ else _) = _
      rw [if_pos (Nat.zero_le _)]
    rw [e]
    obtain ⟨_, _, h3⟩ := bfd_len f k (a :: r) r (bst f k ((a :: r).filter fun o => decide (o ≠ a)))
    rcases h3 with h3 | ⟨s, hs, h3⟩
    · exact ⟨a, List.mem_cons_self .., h3⟩
    · exact ⟨s, List.mem_cons_of_mem _ hs, h3⟩
end
theorem rm_len {c : List Int} (hn : c.Nodup) {s : Int} (hs : s ∈ c) : (c.filter fun o => decide (o ≠ s)).length + 1 = c.length := by
  induction c with
  | nil => cases hs
  | cons a r ih =>
    have hn' := List.nodup_cons.mp hn
    by_cases e : a = s
    · subst e
      have : r.filter (fun o => decide (o ≠ a)) = r := List.filter_eq_self.mpr fun x hx => by simp; intro z; subst z; exact hn'.1 hx
      rw [List.filter_cons_of_neg (by simp), this, List.length_cons]
    · rcases List.mem_cons.mp hs with h | h
      · exact absurd h.symm e
      · rw [List.filter_cons_of_pos (by simp [e]), List.length_cons, List.length_cons, ih hn'.2 h]
theorem sum_split {α : Type} (g : α → Int) (p : α → Bool) : ∀ l : List α, (l.map g).sum = ((l.filter p).map g).sum + ((l.filter fun x => !p x).map g).sum
  | [] => rfl
  | a :: l => by
    have := sum_split g p l
    cases e : p a with
    | true => rw [List.filter_cons_of_pos e, List.filter_cons_of_neg (by simp [e])]; simp only [List.map_cons, List.sum_cons]; omega
    | false => rw [List.filter_cons_of_neg (by simp [e]), List.filter_cons_of_pos (by simp [e])]; simp only [List.map_cons, List.sum_cons]; omega
/-- the greatest number of groups is reached: labels 1 .. k on c, each of sum 0 and in use -/
theorem bst_most (f : Int → Int) : ∀ (m : Nat) (c : List Int) (lab : Int → Nat) (k : Nat), c.length = m → c.Nodup → (∀ i, 1 ≤ i → i ≤ k → (∃ s ∈ c, lab s = i) ∧ ((c.filter fun s => decide (lab s = i)).map f).sum = 0) → k ≤ (bst f m c).length
  | 0, c, lab, k, hm, _, h => by
    cases k with
    | zero => exact Nat.zero_le _
    | succ k =>
      obtain ⟨⟨s, hs, _⟩, _⟩ := h 1 (Nat.le_refl _) (by omega)
      have : c = [] := List.eq_nil_of_length_eq_zero hm
      rw [this] at hs; cases hs
  | m + 1, c, lab, k, hm, hn, h => by
    have hrm : ∀ s ∈ c, (c.filter fun o => decide (o ≠ s)).length = m := fun s hs => by have := rm_len hn hs; omega
    have hnd : ∀ s, (c.filter fun o => decide (o ≠ s)).Nodup := fun s => hn.filter _
    have hkeep : ∀ (s : Int) (i : Nat), lab s ≠ i → ((c.filter fun o => decide (o ≠ s)).filter fun x => decide (lab x = i)) = c.filter fun x => decide (lab x = i) := fun s i hsi => by
      rw [List.filter_filter]
      refine List.filter_congr fun x _ => ?_
      by_cases e : x = s
      · subst e; simp [hsi]
      · simp [e]
    have hex : ∀ (s : Int) (i : Nat), lab s ≠ i → (∃ x ∈ c, lab x = i) → ∃ x ∈ c.filter fun o => decide (o ≠ s), lab x = i := fun s i hsi ⟨x, hx, e⟩ => ⟨x, List.mem_filter.mpr ⟨hx, by simp; intro z; subst z; exact hsi e⟩, e⟩
    obtain ⟨b1, b2, b3⟩ := bfd_len f m c c []
    have hbig : (bfd f m c c []).length ≤ (bst f (m + 1) c).length := by
      rw [bst_succ]
      split
      · rw [List.length_append]; omega
      · exact Nat.le_refl _
    by_cases hout : ∃ s ∈ c, lab s = 0 ∨ k < lab s
    · obtain ⟨s, hs, hl⟩ := hout
      have := bst_most f m (c.filter fun o => decide (o ≠ s)) lab k (hrm s hs) (hnd s) fun i h1 h2 => by
        have hne : lab s ≠ i := by omega
        exact ⟨hex s i hne (h i h1 h2).1, by rw [hkeep s i hne]; exact (h i h1 h2).2⟩
      exact Nat.le_trans (Nat.le_trans this (b2 s hs)) hbig
    · cases k with
      | zero => exact Nat.zero_le _
      | succ k =>
        have hin : ∀ s ∈ c, 1 ≤ lab s ∧ lab s ≤ k + 1 := fun s hs => by
          refine ⟨?_, ?_⟩
          · exact Nat.pos_of_ne_zero fun z => hout ⟨s, hs, .inl z⟩
          · exact Nat.le_of_not_lt fun z => hout ⟨s, hs, .inr z⟩
        have hsum : ∀ j, j ≤ k + 1 → ((c.filter fun s => decide (lab s ≤ j)).map f).sum = 0 := by
          intro j
          induction j with
          | zero =>
            intro _
            have : (c.filter fun s => decide (lab s ≤ 0)) = [] := List.filter_eq_nil_iff.mpr fun s hs => by have := hin s hs; simp; omega
            rw [this]; rfl
          | succ j ih =>
            intro hj
            have h1 := sum_split f (fun s => decide (lab s ≤ j)) (c.filter fun s => decide (lab s ≤ j + 1))
            rw [List.filter_filter, List.filter_filter] at h1
            have e1 : (c.filter fun a => (decide (lab a ≤ j) && decide (lab a ≤ j + 1))) = c.filter fun s => decide (lab s ≤ j) := List.filter_congr fun s _ => by
              by_cases z : lab s ≤ j
              · simp [z]; omega
              · simp [z]
            have e2 : (c.filter fun a => (!decide (lab a ≤ j) && decide (lab a ≤ j + 1))) = c.filter fun s => decide (lab s = j + 1) := List.filter_congr fun s _ => by
              by_cases z : lab s = j + 1
              · simp [z]
              · by_cases y : lab s ≤ j
                · simp [y]; omega
                · have : ¬ lab s ≤ j + 1 := by omega
                  simp [y, z, this]
            rw [e1, e2, ih (by omega), (h (j + 1) (by omega) (by omega)).2] at h1
            rw [h1]; rfl
        have hall : (c.filter fun s => decide (lab s ≤ k + 1)) = c := List.filter_eq_self.mpr fun s hs => by simp; exact (hin s hs).2
        have h0 := hsum (k + 1) (Nat.le_refl _)
        rw [hall] at h0
        obtain ⟨⟨s, hs, hl⟩, _⟩ := h (k + 1) (by omega) (Nat.le_refl _)
        have := bst_most f m (c.filter fun o => decide (o ≠ s)) lab k (hrm s hs) (hnd s) fun i h1 h2 => by
          have hne : lab s ≠ i := by omega
          exact ⟨hex s i hne (h i h1 (by omega)).1, by rw [hkeep s i hne]; exact (h i h1 (by omega)).2⟩
        have hb := Nat.le_trans this (b2 s hs)
        rw [bst_succ, if_pos h0, List.length_append, List.length_singleton]
        omega
/-- what the groups of a set are -/
structure GrOk (f : Int → Int) (c : List Int) (gs : List (List Int)) : Prop where
  sub : ∀ g ∈ gs, g = c.filter fun s => decide (s ∈ g)
  apart : gs.Pairwise fun g h => ∀ s ∈ g, s ∉ h
  zero : ∀ g ∈ gs, (g.map f).sum = 0
  some : ∀ g ∈ gs, g ≠ []
theorem GrOk.all_zero {f : Int → Int} {c : List Int} : ∀ {gs : List (List Int)}, GrOk f c gs → ((c.filter fun s => decide (s ∈ gs.flatten)).map f).sum = 0
  | [], _ => by
    have : (c.filter fun s => decide (s ∈ ([] : List (List Int)).flatten)) = [] := List.filter_eq_nil_iff.mpr fun s _ => by simp
    rw [this]; rfl
  | g :: gs, h => by
    have ap := List.pairwise_cons.mp h.apart
    have ih := GrOk.all_zero (f := f) (c := c) (gs := gs) ⟨fun x hx => h.sub x (List.mem_cons_of_mem _ hx), ap.2, fun x hx => h.zero x (List.mem_cons_of_mem _ hx), fun x hx => h.some x (List.mem_cons_of_mem _ hx)⟩
    have h1 := sum_split f (fun s => decide (s ∈ g)) (c.filter fun s => decide (s ∈ (g :: gs).flatten))
    rw [List.filter_filter, List.filter_filter] at h1
    have e1 : (c.filter fun a => (decide (a ∈ g) && decide (a ∈ (g :: gs).flatten))) = c.filter fun s => decide (s ∈ g) := List.filter_congr fun s _ => by
      by_cases z : s ∈ g
      · simp [z]
      · simp [z]
    have e2 : (c.filter fun a => (!decide (a ∈ g) && decide (a ∈ (g :: gs).flatten))) = c.filter fun s => decide (s ∈ gs.flatten) := List.filter_congr fun s _ => by
      rw [List.flatten_cons]
      by_cases z : s ∈ g
      · have : s ∉ gs.flatten := fun y => by
          obtain ⟨x, hx, hs⟩ := List.mem_flatten.mp y
          exact ap.1 x hx s z hs
        simp [z, this]
      · simp [z]
    rw [e1, e2, ih, ← h.sub g (List.mem_cons_self ..), h.zero g (List.mem_cons_self ..)] at h1
    rw [h1]; rfl
theorem bst_ok (f : Int → Int) : ∀ (m : Nat) (c : List Int), c.length = m → c.Nodup → GrOk f c (bst f m c) ∧ (m ≠ 0 → (c.map f).sum = 0 → ∀ s ∈ c, s ∈ (bst f m c).flatten)
  | 0, c, hm, _ => ⟨⟨(fun g hg => nomatch hg), .nil, (fun g hg => nomatch hg), fun g hg => nomatch hg⟩, fun z => absurd rfl z⟩
  | m + 1, c, hm, hn => by
    have hc : c ≠ [] := fun z => by rw [z] at hm; cases hm
    obtain ⟨s0, hs0, e0⟩ := bfd_from f m hc
    have hrl : (c.filter fun o => decide (o ≠ s0)).length = m := by have := rm_len hn hs0; omega
    obtain ⟨ok, _⟩ := bst_ok f m (c.filter fun o => decide (o ≠ s0)) hrl (hn.filter _)
    rw [← e0] at ok
    have hnot : s0 ∉ (bfd f m c c []).flatten := fun z => by
      obtain ⟨g, hg, hs⟩ := List.mem_flatten.mp z
      rw [ok.sub g hg] at hs
      have := (List.mem_filter.mp (List.mem_filter.mp hs).1).2
      simp at this
    have hup : ∀ g ∈ bfd f m c c [], g = c.filter fun s => decide (s ∈ g) := fun g hg => by
      have h1 := ok.sub g hg
      rw [List.filter_filter] at h1
      have e : (c.filter fun a => (decide (a ∈ g) && decide (a ≠ s0))) = c.filter fun s => decide (s ∈ g) := List.filter_congr fun s _ => by
        by_cases z : s = s0
        · subst z
          have : s ∉ g := fun y => hnot (List.mem_flatten.mpr ⟨g, hg, y⟩)
          simp [this]
        · simp [z]
      rw [e] at h1
      exact h1
    have ok1 : GrOk f c (bfd f m c c []) := ⟨hup, ok.apart, ok.zero, ok.some⟩
    rw [bst_succ]
    generalize bfd f m c c [] = fd at *
    by_cases hz : (c.map f).sum = 0
    · rw [if_pos hz]
      have hmem : ∀ s, s ∈ (c.filter fun s => !decide (s ∈ fd.flatten)) ↔ s ∈ c ∧ s ∉ fd.flatten := fun s => by rw [List.mem_filter]; simp
      refine ⟨⟨fun g hg => ?_, ?_, fun g hg => ?_, fun g hg => ?_⟩, fun _ _ s hs => ?_⟩
      · rcases List.mem_append.mp hg with hg | hg
        · exact hup g hg
        · rw [List.mem_singleton] at hg
          subst hg
          refine List.filter_congr fun s hs => ?_
          by_cases z : s ∈ fd.flatten
          · have : s ∉ c.filter fun s => !decide (s ∈ fd.flatten) := fun y => ((hmem s).mp y).2 z
            simp only [z, this]; rfl
          · have : s ∈ c.filter fun s => !decide (s ∈ fd.flatten) := (hmem s).mpr ⟨hs, z⟩
            simp only [z, this]; rfl
      · refine List.pairwise_append.mpr ⟨ok.apart, List.pairwise_singleton .., fun g hg h hh s hs hs2 => ?_⟩
        rw [List.mem_singleton] at hh
        subst hh
        exact ((hmem s).mp hs2).2 (List.mem_flatten.mpr ⟨g, hg, hs⟩)
      · rcases List.mem_append.mp hg with hg | hg
        · exact ok.zero g hg
        · rw [List.mem_singleton] at hg
          subst hg
          have h1 := sum_split f (fun s => decide (s ∈ fd.flatten)) c
          rw [hz, ok1.all_zero] at h1
          omega
      · rcases List.mem_append.mp hg with hg | hg
        · exact ok.some g hg
        · rw [List.mem_singleton] at hg
          subst hg
          exact List.ne_nil_of_mem ((hmem s0).mpr ⟨hs0, hnot⟩)
      · rw [List.flatten_append, List.mem_append]
        by_cases z : s ∈ fd.flatten
        · exact .inl z
        · exact .inr (List.mem_flatten.mpr ⟨_, List.mem_singleton.mpr rfl, (hmem s).mpr ⟨hs, z⟩⟩)
    · rw [if_neg hz]
      exact ⟨ok1, fun _ z => absurd z hz⟩
/-- no part of a group comes to 0 -/
def Tight (f : Int → Int) (g : List Int) : Prop := ∀ q : Int → Bool, ((g.filter q).map f).sum = 0 → g.filter q = [] ∨ g.filter q = g
/-- a number for each group -/
def labG (gs : List (List Int)) (s : Int) : Nat := match gs.findIdx? (fun g => decide (s ∈ g)) with | some i => i + 1 | none => 0
theorem labG_at {gs : List (List Int)} (ap : gs.Pairwise fun g h => ∀ s ∈ g, s ∉ h) {i : Nat} {g : List Int} (hg : gs[i]? = some g) {s : Int} (hs : s ∈ g) : labG gs s = i + 1 := by
  unfold labG
  have : gs.findIdx? (fun g => decide (s ∈ g)) = some i := by
    rw [List.findIdx?_eq_some_iff_getElem]
    obtain ⟨hl, e⟩ := List.getElem?_eq_some_iff.mp hg
    refine ⟨hl, by rw [e]; simp [hs], fun j hj => ?_⟩
    have := List.pairwise_iff_getElem.mp ap j i (by omega) hl hj
    simp
    intro z
    exact this s z (by rw [e]; exact hs)
  rw [this]
theorem labG_of {gs : List (List Int)} {s : Int} {i : Nat} (h : labG gs s = i + 1) : ∃ g, gs[i]? = some g ∧ s ∈ g := by
  unfold labG at h
  split at h
  · rename_i j hj
    rw [List.findIdx?_eq_some_iff_getElem] at hj
    obtain ⟨hl, e, _⟩ := hj
    have : j = i := by omega
    subst this
    exact ⟨gs[j], List.getElem?_eq_getElem hl, by simpa using e⟩
  · cases h
theorem bst_tight (f : Int → Int) {c : List Int} (hn : c.Nodup) {g : List Int} (hg : g ∈ bst f c.length c) : Tight f g := fun q hq => by
  obtain ⟨ok, _⟩ := bst_ok f c.length c rfl hn
  have hmost := bst_most f c.length c
  generalize bst f c.length c = gs at *
  by_cases h1 : g.filter q = []
  · exact .inl h1
  by_cases h2 : g.filter q = g
  · exact .inr h2
  exfalso
  obtain ⟨i, hi, ei⟩ := List.mem_iff_getElem.mp hg
  have hgi : gs[i]? = some g := by rw [List.getElem?_eq_getElem hi, ei]
  have hgn : g.Nodup := by rw [ok.sub g hg]; exact hn.filter _
  obtain ⟨a, ha⟩ := List.exists_mem_of_ne_nil _ h1
  have ha := List.mem_filter.mp ha
  obtain ⟨b, hb, hqb⟩ : ∃ b ∈ g, q b = false := by
    refine Classical.byContradiction fun z => h2 (List.filter_eq_self.mpr fun x hx => ?_)
    cases e : q x with
    | true => rfl
    | false => exact absurd ⟨x, hx, e⟩ z
  have hz := ok.zero g hg
  have hsp := sum_split f q g
  have hlab : ∀ s, labG gs s = i + 1 ↔ s ∈ g := fun s => ⟨fun h => by
    obtain ⟨g', e, hs⟩ := labG_of h
    rw [hgi] at e; cases e; exact hs, fun h => labG_at ok.apart hgi h⟩
  have := hmost (fun s => if labG gs s = i + 1 then (if q s then i + 1 else gs.length + 1) else labG gs s) (gs.length + 1) rfl hn fun j hj1 hj2 => by
    by_cases e1 : j = i + 1
    · subst e1
      refine ⟨⟨a, ?_, ?_⟩, ?_⟩
      · have := ha.1; rw [ok.sub g hg] at this; exact (List.mem_filter.mp this).1
      · simp [(hlab a).mpr ha.1, ha.2]
      · have e : (c.filter fun s => decide ((if labG gs s = i + 1 then (if q s then i + 1 else gs.length + 1) else labG gs s) = i + 1)) = g.filter q := by
          rw [ok.sub g hg, List.filter_filter]
          refine List.filter_congr fun s _ => ?_
          by_cases z : s ∈ g
          · have hi' : gs.length + 1 ≠ i + 1 := by omega
            rw [if_pos ((hlab s).mpr z)]
            cases e : q s with
            | true => simp [z, ← ok.sub g hg]
            | false => simp [hi', ← ok.sub g hg]; omega
          · rw [if_neg (fun y => z ((hlab s).mp y))]
            have : ¬ labG gs s = i + 1 := fun y => z ((hlab s).mp y)
            simp [this, z, ← ok.sub g hg]
        rw [e]; exact hq
    · by_cases e2 : j = gs.length + 1
      · subst e2
        have hnl : ∀ s, labG gs s ≠ gs.length + 1 := fun s h => by
          obtain ⟨g', e, _⟩ := labG_of h
          rw [List.getElem?_eq_none (Nat.le_refl _)] at e; cases e
        refine ⟨⟨b, ?_, ?_⟩, ?_⟩
        · have := hb; rw [ok.sub g hg] at this; exact (List.mem_filter.mp this).1
        · simp [(hlab b).mpr hb, hqb]
        · have e : (c.filter fun s => decide ((if labG gs s = i + 1 then (if q s then i + 1 else gs.length + 1) else labG gs s) = gs.length + 1)) = g.filter fun s => !q s := by
            rw [ok.sub g hg, List.filter_filter]
            refine List.filter_congr fun s _ => ?_
            by_cases z : s ∈ g
            · rw [if_pos ((hlab s).mpr z)]
              cases e : q s with
              | true =>
                have : ¬ i + 1 = gs.length + 1 := by omega
                simp [← ok.sub g hg]; omega
              | false => simp [z, ← ok.sub g hg]
            · rw [if_neg (fun y => z ((hlab s).mp y))]
              simp [hnl s, z, ← ok.sub g hg]
          rw [e]; omega
      · obtain ⟨j', rfl⟩ : ∃ j', j = j' + 1 := ⟨j - 1, by omega⟩
        have hj' : j' < gs.length := by omega
        obtain ⟨h, hh⟩ : ∃ h, gs[j']? = some h := ⟨_, List.getElem?_eq_getElem hj'⟩
        have hhm := List.mem_of_getElem? hh
        have hlab2 : ∀ s, labG gs s = j' + 1 ↔ s ∈ h := fun s => ⟨fun y => by
          obtain ⟨g', e, hs⟩ := labG_of y
          rw [hh] at e; cases e; exact hs, fun y => labG_at ok.apart hh y⟩
        obtain ⟨x, hx⟩ := List.exists_mem_of_ne_nil _ (ok.some h hhm)
        have key : ∀ s, ((if labG gs s = i + 1 then (if q s then i + 1 else gs.length + 1) else labG gs s) = j' + 1) ↔ s ∈ h := fun s => by
          by_cases z : labG gs s = i + 1
          · rw [if_pos z]
            have hns : s ∉ h := fun y => by have := (hlab2 s).mpr y; omega
            constructor
            · intro y
              split at y <;> omega
            · intro y; exact absurd y hns
          · rw [if_neg z]; exact hlab2 s
        refine ⟨⟨x, ?_, (key x).mpr hx⟩, ?_⟩
        · have := hx; rw [ok.sub h hhm] at this; exact (List.mem_filter.mp this).1
        · have e : (c.filter fun s => decide ((if labG gs s = i + 1 then (if q s then i + 1 else gs.length + 1) else labG gs s) = j' + 1)) = h := by
            rw [ok.sub h hhm]
            exact List.filter_congr fun s _ => decide_eq_decide.mpr (key s)
          rw [e]; exact ok.zero h hhm
  omega
/-! paying within a group -/
def gvL (L : List Int) (s : Int) : Int := L.getD s.toNat 0
def fstS (g : List Int) (p : Int → Bool) : Int := (g.filter p).headD 0
def gvr (g L : List Int) : Int := fstS g fun s => decide (gvL L s < 0)
def tkr (g L : List Int) : Int := fstS g fun s => decide (gvL L s > 0)
def cts (g L : List Int) : Int := if gvL L (tkr g L) < 0 - gvL L (gvr g L) then gvL L (tkr g L) else 0 - gvL L (gvr g L)
def stpL (g L : List Int) : List Int := (L.set (gvr g L).toNat (gvL L (gvr g L) + cts g L)).set (tkr g L).toNat (gvL L (tkr g L) - cts g L)
def runG : Nat → List Int → List Int → List (Int × Int × Int) × List Int
  | 0, _, L => ([], L)
  | k + 1, g, L => if g.any (fun s => decide (gvL L s ≠ 0)) then ((gvr g L, tkr g L, cts g L) :: (runG k g (stpL g L)).1, (runG k g (stpL g L)).2) else ([], L)
def nzL (g L : List Int) : Nat := (g.filter fun s => decide (gvL L s ≠ 0)).length
theorem fst_mem {g : List Int} {p : Int → Bool} (h : ∃ s ∈ g, p s = true) : fstS g p ∈ g ∧ p (fstS g p) = true := by
  unfold fstS
  obtain ⟨s, hs, e⟩ := h
  have hne : g.filter p ≠ [] := List.ne_nil_of_mem (List.mem_filter.mpr ⟨hs, e⟩)
  cases q : g.filter p with
  | nil => exact absurd q hne
  | cons a r =>
    have : a ∈ g.filter p := by rw [q]; exact List.mem_cons_self ..
    exact List.mem_filter.mp this
theorem fst_eq {g : List Int} {p p' : Int → Bool} {a : Int} (h : fstS g p = a) (ha : a ∈ g) (ha' : p' a = true) (hp : ∀ s ∈ g, p' s = true → p s = true) (h0 : p a = true) : fstS g p' = a := by
  unfold fstS at *
  induction g with
  | nil => cases ha
  | cons b r ih =>
    cases e : p b with
    | true =>
      rw [List.filter_cons_of_pos e] at h
      have : b = a := h
      subst this
      rw [List.filter_cons_of_pos ha']; rfl
    | false =>
      rw [List.filter_cons_of_neg (by simp [e])] at h
      have hb : p' b = false := by
        cases z : p' b with
        | false => rfl
        | true => rw [hp b (List.mem_cons_self ..) z] at e; cases e
      rw [List.filter_cons_of_neg (by simp [hb])]
      refine ih h ?_ (fun s hs => hp s (List.mem_cons_of_mem _ hs))
      rcases List.mem_cons.mp ha with rfl | ha
      · rw [h0] at e; cases e
      · exact ha
theorem signs {h : Int → Int} : ∀ {g : List Int}, (g.map h).sum = 0 → (∃ s ∈ g, h s ≠ 0) → (∃ s ∈ g, h s < 0) ∧ ∃ s ∈ g, h s > 0 := by
  intro g hz ⟨s, hs, hne⟩
  have pos : ∀ {l : List Int}, (∀ x ∈ l, 0 ≤ h x) → 0 ≤ (l.map h).sum ∧ ((∃ x ∈ l, h x ≠ 0) → 0 < (l.map h).sum) := by
    intro l
    induction l with
    | nil => exact fun _ => ⟨Int.le_refl _, fun ⟨_, hx, _⟩ => nomatch hx⟩
    | cons a r ih =>
      intro hp
      obtain ⟨i1, i2⟩ := ih fun x hx => hp x (List.mem_cons_of_mem _ hx)
      have ha := hp a (List.mem_cons_self ..)
      rw [List.map_cons, List.sum_cons]
      refine ⟨by omega, fun ⟨x, hx, hx0⟩ => ?_⟩
      rcases List.mem_cons.mp hx with rfl | hx
      · omega
      · have := i2 ⟨x, hx, hx0⟩; omega
  have neg : ∀ {l : List Int}, (∀ x ∈ l, h x ≤ 0) → (l.map h).sum ≤ 0 ∧ ((∃ x ∈ l, h x ≠ 0) → (l.map h).sum < 0) := by
    intro l
    induction l with
    | nil => exact fun _ => ⟨Int.le_refl _, fun ⟨_, hx, _⟩ => nomatch hx⟩
    | cons a r ih =>
      intro hp
      obtain ⟨i1, i2⟩ := ih fun x hx => hp x (List.mem_cons_of_mem _ hx)
      have ha := hp a (List.mem_cons_self ..)
      rw [List.map_cons, List.sum_cons]
      refine ⟨by omega, fun ⟨x, hx, hx0⟩ => ?_⟩
      rcases List.mem_cons.mp hx with rfl | hx
      · omega
      · have := i2 ⟨x, hx, hx0⟩; omega
  constructor
  · refine Classical.byContradiction fun z => ?_
    have := (pos (l := g) fun x hx => Int.not_lt.mp fun y => z ⟨x, hx, y⟩).2 ⟨s, hs, hne⟩
    omega
  · refine Classical.byContradiction fun z => ?_
    have := (neg (l := g) fun x hx => Int.not_lt.mp fun y => z ⟨x, hx, y⟩).2 ⟨s, hs, hne⟩
    omega
theorem gv_set {L : List Int} {a s v : Int} (ha : 0 ≤ a ∧ a < L.length) (hs : 0 ≤ s) : gvL (L.set a.toNat v) s = if s = a then v else gvL L s := by
  unfold gvL
  rw [List.getD_eq_getElem?_getD, List.getD_eq_getElem?_getD]
  by_cases e : s = a
  · subst e
    rw [if_pos rfl, List.getElem?_set_self (by omega)]; rfl
  · rw [if_neg e, List.getElem?_set_ne (by omega)]
/-- a group at a table -/
structure GpOk (g L : List Int) : Prop where
  nd : g.Nodup
  rg : ∀ s ∈ g, 0 ≤ s ∧ s < L.length
  zr : (g.map (gvL L)).sum = 0
structure StpOk (g L : List Int) : Prop where
  a : gvr g L ∈ g ∧ gvL L (gvr g L) < 0
  b : tkr g L ∈ g ∧ gvL L (tkr g L) > 0
  ne : gvr g L ≠ tkr g L
  c1 : 1 ≤ cts g L
  c2 : cts g L ≤ 0 - gvL L (gvr g L) ∧ cts g L ≤ gvL L (tkr g L)
  ceq : cts g L = 0 - gvL L (gvr g L) ∨ cts g L = gvL L (tkr g L)
  at_ : ∀ s, 0 ≤ s → gvL (stpL g L) s = if s = tkr g L then gvL L s - cts g L else if s = gvr g L then gvL L s + cts g L else gvL L s
  len : (stpL g L).length = L.length
theorem stp_ok {g L : List Int} (h : GpOk g L) (hn : ∃ s ∈ g, gvL L s ≠ 0) : StpOk g L := by
  obtain ⟨h1, h2⟩ := signs h.zr hn
  have ha : gvr g L ∈ g ∧ gvL L (gvr g L) < 0 := by
    obtain ⟨s, hs, e⟩ := h1
    have := fst_mem (g := g) (p := fun s => decide (gvL L s < 0)) ⟨s, hs, by simpa using e⟩
    exact ⟨this.1, of_decide_eq_true this.2⟩
  have hb : tkr g L ∈ g ∧ gvL L (tkr g L) > 0 := by
    obtain ⟨s, hs, e⟩ := h2
    have := fst_mem (g := g) (p := fun s => decide (gvL L s > 0)) ⟨s, hs, by simpa using e⟩
    exact ⟨this.1, of_decide_eq_true this.2⟩
  have hne : gvr g L ≠ tkr g L := fun z => by rw [z] at ha; omega
  have ra := h.rg _ ha.1
  have rb := h.rg _ hb.1
  refine ⟨ha, hb, hne, ?_, ?_, ?_, fun s hs => ?_, ?_⟩
  · unfold cts; split <;> omega
  · unfold cts; split <;> omega
  · unfold cts; split
    · exact .inr rfl
    · exact .inl rfl
  · unfold stpL
    rw [gv_set (by rw [List.length_set]; exact rb) hs]
    by_cases e : s = tkr g L
    · rw [if_pos e, if_pos e, e]
    · rw [if_neg e, if_neg e, gv_set ra hs]
      by_cases e2 : s = gvr g L
      · rw [if_pos e2, if_pos e2, e2]
      · rw [if_neg e2, if_neg e2]
  · unfold stpL; rw [List.length_set, List.length_set]
theorem sum_one2 {h k : Int → Int} {a b c : Int} (hne : a ≠ b) : ∀ {g : List Int}, g.Nodup → (∀ s ∈ g, k s = if s = b then h s - c else if s = a then h s + c else h s) → (g.map k).sum = (g.map h).sum + (if a ∈ g then c else 0) - (if b ∈ g then c else 0)
  | [], _, _ => by simp
  | x :: r, hn, hk => by
    have hn' := List.nodup_cons.mp hn
    have ih := sum_one2 (h := h) (k := k) (c := c) hne hn'.2 fun s hs => hk s (List.mem_cons_of_mem _ hs)
    have hx := hk x (List.mem_cons_self ..)
    rw [List.map_cons, List.map_cons, List.sum_cons, List.sum_cons, ih, hx]
    by_cases e1 : x = b
    · subst e1
      have : x ≠ a := fun z => hne z.symm
      have hxa : (a ∈ x :: r) = (a ∈ r) := by simp [List.mem_cons, this, hne]
      simp only [hxa, List.mem_cons_self, if_true, hn'.1, if_false]
      omega
    · by_cases e2 : x = a
      · subst e2
        have hxb : (b ∈ x :: r) = (b ∈ r) := by simp [List.mem_cons, Ne.symm e1]
        simp only [hxb, List.mem_cons_self, if_true, hn'.1, if_false, e1]
        omega
      · have h1 : (a ∈ x :: r) = (a ∈ r) := by simp [List.mem_cons, Ne.symm e2]
        have h2 : (b ∈ x :: r) = (b ∈ r) := by simp [List.mem_cons, Ne.symm e1]
        simp only [h1, h2, if_neg e1, if_neg e2]
        omega
theorem stp_gp {g L : List Int} (h : GpOk g L) (o : StpOk g L) : GpOk g (stpL g L) := by
  refine ⟨h.nd, fun s hs => by rw [o.len]; exact h.rg s hs, ?_⟩
  rw [sum_one2 (h := gvL L) (k := gvL (stpL g L)) (a := gvr g L) (b := tkr g L) (c := cts g L) o.ne h.nd fun s hs => o.at_ s (h.rg s hs).1, h.zr, if_pos o.a.1, if_pos o.b.1]
  omega
theorem nz_le {g : List Int} {p q : Int → Bool} (h : ∀ s ∈ g, q s = true → p s = true) : (g.filter q).length ≤ (g.filter p).length := by
  induction g with
  | nil => exact Nat.le_refl _
  | cons a r ih =>
    have := ih fun s hs => h s (List.mem_cons_of_mem _ hs)
    cases e : q a with
    | true => rw [List.filter_cons_of_pos e, List.filter_cons_of_pos (h a (List.mem_cons_self ..) e), List.length_cons, List.length_cons]; omega
    | false =>
      rw [List.filter_cons_of_neg (by simp [e])]
      cases e2 : p a with
      | true => rw [List.filter_cons_of_pos e2, List.length_cons]; omega
      | false => rw [List.filter_cons_of_neg (by simp [e2])]; exact this
theorem nz_one {g : List Int} (hn : g.Nodup) {p q : Int → Bool} {a : Int} (ha : a ∈ g) (hp : p a = true) (hq : q a = false) (h : ∀ s ∈ g, s ≠ a → q s = p s) : (g.filter q).length + 1 = (g.filter p).length := by
  induction g with
  | nil => cases ha
  | cons b r ih =>
    have hn' := List.nodup_cons.mp hn
    by_cases e : b = a
    · subst e
      have : r.filter q = r.filter p := List.filter_congr fun s hs => h s (List.mem_cons_of_mem _ hs) fun z => by subst z; exact hn'.1 hs
      rw [List.filter_cons_of_neg (by simp [hq]), List.filter_cons_of_pos hp, this, List.length_cons]
    · have ha' : a ∈ r := by
        rcases List.mem_cons.mp ha with z | z
        · exact absurd z.symm e
        · exact z
      have := ih hn'.2 ha' fun s hs => h s (List.mem_cons_of_mem _ hs)
      have hb := h b (List.mem_cons_self ..) e
      cases z : p b with
      | true => rw [z] at hb; rw [List.filter_cons_of_pos hb, List.filter_cons_of_pos z, List.length_cons, List.length_cons]; omega
      | false => rw [z] at hb; rw [List.filter_cons_of_neg (by simp [hb]), List.filter_cons_of_neg (by simp [z])]; exact this
theorem stp_nz {g L : List Int} (h : GpOk g L) (o : StpOk g L) : nzL g (stpL g L) < nzL g L ∧ ((cts g L ≠ 0 - gvL L (gvr g L) ∨ cts g L ≠ gvL L (tkr g L)) → nzL g (stpL g L) + 1 = nzL g L) ∧ ((cts g L = 0 - gvL L (gvr g L) ∧ cts g L = gvL L (tkr g L)) → nzL g (stpL g L) + 2 = nzL g L) := by
  unfold nzL
  have at1 : gvL (stpL g L) (gvr g L) = gvL L (gvr g L) + cts g L := by rw [o.at_ _ (h.rg _ o.a.1).1, if_neg o.ne, if_pos rfl]
  have at2 : gvL (stpL g L) (tkr g L) = gvL L (tkr g L) - cts g L := by rw [o.at_ _ (h.rg _ o.b.1).1, if_pos rfl]
  have at3 : ∀ s ∈ g, s ≠ gvr g L → s ≠ tkr g L → gvL (stpL g L) s = gvL L s := fun s hs h1 h2 => by rw [o.at_ _ (h.rg _ hs).1, if_neg h2, if_neg h1]
  have ha := o.a.2
  have hb := o.b.2
  by_cases ca : cts g L = 0 - gvL L (gvr g L)
  · by_cases cb : cts g L = gvL L (tkr g L)
    · -- both
      have h1 := nz_one h.nd (p := fun s => decide (gvL L s ≠ 0)) (q := fun s => if s = gvr g L then false else decide (gvL L s ≠ 0)) o.a.1 (by simp; omega) (by simp) (fun s _ hs => by simp [hs])
      have h2 := nz_one h.nd (p := fun s => if s = gvr g L then false else decide (gvL L s ≠ 0)) (q := fun s => decide (gvL (stpL g L) s ≠ 0)) o.b.1 (by simp [o.ne.symm]; omega) (by simp [at2]; omega) (fun s hs hne => by
        by_cases e : s = gvr g L
        · subst e; simp [at1]; omega
        · simp [e, at3 s hs e hne])
      exact ⟨by omega, fun z => by omega, fun _ => by omega⟩
    · have h1 := nz_one h.nd (p := fun s => decide (gvL L s ≠ 0)) (q := fun s => decide (gvL (stpL g L) s ≠ 0)) o.a.1 (by simp; omega) (by simp [at1]; omega) (fun s hs hne => by
        by_cases e : s = tkr g L
        · subst e
          have z1 : gvL (stpL g L) (tkr g L) ≠ 0 := by rw [at2]; omega
          have z2 : gvL L (tkr g L) ≠ 0 := by omega
          simp [z1, z2]
        · rw [at3 s hs hne e])
      exact ⟨by omega, fun _ => h1, fun z => absurd z.2 cb⟩
  · have cb : cts g L = gvL L (tkr g L) := o.ceq.resolve_left ca
    have h1 := nz_one h.nd (p := fun s => decide (gvL L s ≠ 0)) (q := fun s => decide (gvL (stpL g L) s ≠ 0)) o.b.1 (by simp; omega) (by simp [at2]; omega) (fun s hs hne => by
      by_cases e : s = gvr g L
      · subst e
        have z1 : gvL (stpL g L) (gvr g L) ≠ 0 := by rw [at1]; omega
        have z2 : gvL L (gvr g L) ≠ 0 := by omega
        simp [z1, z2]
      · rw [at3 s hs e hne])
    exact ⟨by omega, fun _ => h1, fun z => absurd z.1 ca⟩
/-- all but one seat stand as they stood, or at 0 -/
def Part (f : Int → Int) (g L : List Int) : Prop := ∀ s ∈ g, gvL L s = 0 ∨ gvL L s = f s ∨ s = gvr g L ∨ s = tkr g L
def Part1 (f : Int → Int) (g L : List Int) : Prop := (∀ s ∈ g, gvL L s = 0 ∨ gvL L s = f s ∨ s = gvr g L) ∨ ∀ s ∈ g, gvL L s = 0 ∨ gvL L s = f s ∨ s = tkr g L
theorem filter_self_any {g : List Int} {p : Int → Bool} : g.any p = false → g.filter p = [] := fun h => List.filter_eq_nil_iff.mpr fun s hs => by
  have := List.any_eq_false.mp h s hs
  simpa using this
theorem nz_zero {g L : List Int} (h : nzL g L = 0) : ∀ s ∈ g, gvL L s = 0 := fun s hs => by
  have := List.filter_eq_nil_iff.mp (List.eq_nil_of_length_eq_zero h) s hs
  simpa using this
theorem any_nz {g L : List Int} : (g.any fun s => decide (gvL L s ≠ 0)) = true ↔ ∃ s ∈ g, gvL L s ≠ 0 := by rw [List.any_eq_true]; simp
theorem run_len {f : Int → Int} {g : List Int} (tight : Tight f g) : ∀ (m : Nat) (L : List Int), GpOk g L → nzL g L ≤ m → (∃ s ∈ g, gvL L s ≠ 0) → Part1 f g L → (runG m g L).1.length + 1 = nzL g L
  | 0, L, h, hm, ⟨s, hs, hne⟩, _ => absurd (nz_zero (Nat.le_zero.mp hm) s hs) hne
  | m + 1, L, h, hm, hn, hp => by
    have o := stp_ok h hn
    obtain ⟨z1, z2, z3⟩ := stp_nz h o
    have h' := stp_gp h o
    have at1 : gvL (stpL g L) (gvr g L) = gvL L (gvr g L) + cts g L := by rw [o.at_ _ (h.rg _ o.a.1).1, if_neg o.ne, if_pos rfl]
    have at2 : gvL (stpL g L) (tkr g L) = gvL L (tkr g L) - cts g L := by rw [o.at_ _ (h.rg _ o.b.1).1, if_pos rfl]
    have at3 : ∀ s ∈ g, s ≠ gvr g L → s ≠ tkr g L → gvL (stpL g L) s = gvL L s := fun s hs h1 h2 => by rw [o.at_ _ (h.rg _ hs).1, if_neg h2, if_neg h1]
    have ha := o.a.2
    have hb := o.b.2
    have hP : ∀ s ∈ g, gvL L s = 0 ∨ gvL L s = f s ∨ s = gvr g L ∨ s = tkr g L := fun s hs => by
      rcases hp with hp | hp
      · rcases hp s hs with q | q | q
        · exact .inl q
        · exact .inr (.inl q)
        · exact .inr (.inr (.inl q))
      · rcases hp s hs with q | q | q
        · exact .inl q
        · exact .inr (.inl q)
        · exact .inr (.inr (.inr q))
    have er : runG (m + 1) g L = ((gvr g L, tkr g L, cts g L) :: (runG m g (stpL g L)).1, (runG m g (stpL g L)).2) := by
      show (if _ then _ else _) = _
      rw [if_pos (any_nz.mpr hn)]
    rw [er]
    show (runG m g (stpL g L)).1.length + 1 + 1 = _
    by_cases both : cts g L = 0 - gvL L (gvr g L) ∧ cts g L = gvL L (tkr g L)
    · have h2 := z3 both
      have hall : ∀ s ∈ g, gvL (stpL g L) s = 0 ∨ gvL (stpL g L) s = f s := fun s hs => by
        by_cases e1 : s = gvr g L
        · left; rw [e1, at1]; omega
        · by_cases e2 : s = tkr g L
          · left; rw [e2, at2]; omega
          · rw [at3 s hs e1 e2]
            rcases hP s hs with q | q | q | q
            · exact .inl q
            · exact .inr q
            · exact absurd q e1
            · exact absurd q e2
      have hq : ((g.filter fun s => decide (gvL (stpL g L) s ≠ 0)).map f).sum = 0 := by
        have e : (g.filter fun s => decide (gvL (stpL g L) s ≠ 0)).map f = (g.filter fun s => decide (gvL (stpL g L) s ≠ 0)).map (gvL (stpL g L)) := List.map_congr_left fun s hs => by
          obtain ⟨h1, h2⟩ := List.mem_filter.mp hs
          have h2 : gvL (stpL g L) s ≠ 0 := of_decide_eq_true h2
          rcases hall s h1 with q | q
          · exact absurd q h2
          · exact q.symm
        have hs := sum_split (gvL (stpL g L)) (fun s => decide (gvL (stpL g L) s ≠ 0)) g
        have e0 : ((g.filter fun s => !decide (gvL (stpL g L) s ≠ 0)).map (gvL (stpL g L))).sum = 0 := by
          have : ∀ {l : List Int}, (∀ s ∈ l, gvL (stpL g L) s = 0) → (l.map (gvL (stpL g L))).sum = 0 := by
            intro l
            induction l with
            | nil => exact fun _ => rfl
            | cons a r ih => intro hh; rw [List.map_cons, List.sum_cons, hh a (List.mem_cons_self ..), ih fun s hs => hh s (List.mem_cons_of_mem _ hs)]; rfl
          exact this fun s hs => by have := (List.mem_filter.mp hs).2; simpa using this
        rw [h'.zr, e0] at hs
        rw [e]; omega
      rcases tight _ hq with q | q
      · have hz : nzL g (stpL g L) = 0 := by unfold nzL; rw [q]; rfl
        have hr : (runG m g (stpL g L)).1 = [] := by
          cases m with
          | zero => rfl
          | succ m =>
            show (if _ then _ else _ : List (Int × Int × Int) × List Int).1 = []
            rw [if_neg]
            intro z
            obtain ⟨s, hs, hne⟩ := any_nz.mp z
            exact hne (nz_zero hz s hs)
        rw [hr]
        show 0 + 1 + 1 = _
        omega
      · exfalso
        have : gvr g L ∈ g.filter fun s => decide (gvL (stpL g L) s ≠ 0) := by rw [q]; exact o.a.1
        have := of_decide_eq_true (List.mem_filter.mp this).2
        rw [at1] at this
        omega
    · have h2 := z2 (by omega)
      by_cases ca : cts g L = 0 - gvL L (gvr g L)
      · -- the giver is done; the taker is left
        have cb : cts g L ≠ gvL L (tkr g L) := fun z => both ⟨ca, z⟩
        have hb1 : gvL (stpL g L) (tkr g L) > 0 := by rw [at2]; have := o.c2.2; omega
        have htk : tkr g (stpL g L) = tkr g L := fst_eq (a := tkr g L) rfl o.b.1 (by simpa using hb1) (fun s hs hp => by
          have hp : gvL (stpL g L) s > 0 := of_decide_eq_true hp
          by_cases e2 : s = tkr g L
          · rw [e2]; simpa using hb
          · by_cases e1 : s = gvr g L
            · rw [e1, at1] at hp; omega
            · rw [at3 s hs e1 e2] at hp; simpa using hp) (by simpa using hb)
        have ih := run_len tight m (stpL g L) h' (by omega) ⟨_, o.b.1, by omega⟩ (.inr fun s hs => by
          rw [htk]
          by_cases e1 : s = gvr g L
          · left; rw [e1, at1]; omega
          · by_cases e2 : s = tkr g L
            · exact .inr (.inr e2)
            · rw [at3 s hs e1 e2]
              rcases hP s hs with q | q | q | q
              · exact .inl q
              · exact .inr (.inl q)
              · exact absurd q e1
              · exact absurd q e2)
        omega
      · have cb : cts g L = gvL L (tkr g L) := o.ceq.resolve_left ca
        have ha1 : gvL (stpL g L) (gvr g L) < 0 := by rw [at1]; have := o.c2.1; omega
        have hgv : gvr g (stpL g L) = gvr g L := fst_eq (a := gvr g L) rfl o.a.1 (by simpa using ha1) (fun s hs hp => by
          have hp : gvL (stpL g L) s < 0 := of_decide_eq_true hp
          by_cases e1 : s = gvr g L
          · rw [e1]; simpa using ha
          · by_cases e2 : s = tkr g L
            · rw [e2, at2] at hp; omega
            · rw [at3 s hs e1 e2] at hp; simpa using hp) (by simpa using ha)
        have ih := run_len tight m (stpL g L) h' (by omega) ⟨_, o.a.1, by omega⟩ (.inl fun s hs => by
          rw [hgv]
          by_cases e2 : s = tkr g L
          · left; rw [e2, at2]; omega
          · by_cases e1 : s = gvr g L
            · exact .inr (.inr e1)
            · rw [at3 s hs e1 e2]
              rcases hP s hs with q | q | q | q
              · exact .inl q
              · exact .inr (.inl q)
              · exact absurd q e1
              · exact absurd q e2)
        omega
/-! payments one after another -/
def payL (L : List Int) (p : Int × Int × Int) : List Int := (L.set p.1.toNat (gvL L p.1 + p.2.2)).set p.2.1.toNat (gvL L p.2.1 - p.2.2)
/-- a payment at a table of n -/
def PyOk (n : Nat) (p : Int × Int × Int) : Prop := (0 ≤ p.1 ∧ p.1 < n) ∧ (0 ≤ p.2.1 ∧ p.2.1 < n) ∧ p.1 ≠ p.2.1 ∧ 1 ≤ p.2.2
theorem stp_pay (g L : List Int) : stpL g L = payL L (gvr g L, tkr g L, cts g L) := rfl
def absS (L : List Int) : Int := (L.map fun i => if i < 0 then -i else i).sum
theorem run_ok {g : List Int} : ∀ (m : Nat) (L : List Int), GpOk g L → nzL g L ≤ m → (runG m g L).2 = (runG m g L).1.foldl payL L ∧ (runG m g L).2.length = L.length ∧ (∀ p ∈ (runG m g L).1, PyOk L.length p ∧ p.1 ∈ g ∧ p.2.1 ∈ g) ∧ (∀ s ∈ g, gvL (runG m g L).2 s = 0) ∧ ∀ s, 0 ≤ s → s ∉ g → gvL (runG m g L).2 s = gvL L s
  | 0, L, h, hm => ⟨rfl, rfl, (fun p hp => nomatch hp), fun s hs => nz_zero (Nat.le_zero.mp hm) s hs, fun _ _ _ => rfl⟩
  | m + 1, L, h, hm => by
    by_cases hn : ∃ s ∈ g, gvL L s ≠ 0
    · have er : runG (m + 1) g L = ((gvr g L, tkr g L, cts g L) :: (runG m g (stpL g L)).1, (runG m g (stpL g L)).2) := by
        show (if _ then _ else _) = _
        rw [if_pos (any_nz.mpr hn)]
      have o := stp_ok h hn
      obtain ⟨i1, i2, i3, i4, i5⟩ := run_ok m (stpL g L) (stp_gp h o) (by have := (stp_nz h o).1; omega)
      rw [er]
      refine ⟨by rw [List.foldl_cons, ← stp_pay]; exact i1, by rw [← o.len]; exact i2, fun p hp => ?_, i4, fun s h0 hs => ?_⟩
      · rcases List.mem_cons.mp hp with rfl | hp
        · exact ⟨⟨h.rg _ o.a.1, h.rg _ o.b.1, o.ne, o.c1⟩, o.a.1, o.b.1⟩
        · have := i3 p hp
          rw [o.len] at this
          exact this
      · rw [i5 s h0 hs, o.at_ s h0, if_neg (fun z => hs (by rw [z]; exact o.b.1)), if_neg (fun z => hs (by rw [z]; exact o.a.1))]
    · have er : runG (m + 1) g L = ([], L) := by
        show (if _ then _ else _) = _
        rw [if_neg (fun z => hn (any_nz.mp z))]
      rw [er]
      exact ⟨rfl, rfl, (fun p hp => nomatch hp), fun s hs => Classical.byContradiction fun z => hn ⟨s, hs, z⟩, fun _ _ _ => rfl⟩
def runA : List (List Int) → List Int → List (Int × Int × Int) × List Int
  | [], L => ([], L)
  | g :: gs, L => ((runG g.length g L).1 ++ (runA gs (runG g.length g L).2).1, (runA gs (runG g.length g L).2).2)
theorem runA_ok {f : Int → Int} {n : Nat} : ∀ {gs : List (List Int)} {L : List Int}, L.length = n → gs.Pairwise (fun g h => ∀ s ∈ g, s ∉ h) → (∀ g ∈ gs, g.Nodup ∧ (∀ s ∈ g, (0 ≤ s ∧ s < n) ∧ gvL L s = f s ∧ f s ≠ 0) ∧ (g.map f).sum = 0 ∧ g ≠ [] ∧ Tight f g) →
    (runA gs L).2 = (runA gs L).1.foldl payL L ∧ (runA gs L).2.length = n ∧ (∀ p ∈ (runA gs L).1, PyOk n p) ∧ (∀ g ∈ gs, ∀ s ∈ g, gvL (runA gs L).2 s = 0) ∧ (∀ s, 0 ≤ s → (∀ g ∈ gs, s ∉ g) → gvL (runA gs L).2 s = gvL L s) ∧ ((runA gs L).1.length : Int) = (gs.map fun g => (g.length : Int) - 1).sum
  | [], L, hl, _, _ => ⟨rfl, hl, (fun p hp => nomatch hp), (fun g hg => nomatch hg), fun _ _ _ => rfl, rfl⟩
  | g :: gs, L, hl, ap, h => by
    obtain ⟨ap1, ap2⟩ := List.pairwise_cons.mp ap
    obtain ⟨hnd, hs, hz, hne, ht⟩ := h g (List.mem_cons_self ..)
    have hg : GpOk g L := ⟨hnd, fun s hx => by rw [hl]; exact (hs s hx).1, by
      rw [show g.map (gvL L) = g.map f from List.map_congr_left fun s hx => (hs s hx).2.1]; exact hz⟩
    have hfil : (g.filter fun s => decide (gvL L s ≠ 0)) = g := List.filter_eq_self.mpr fun s hx => by
      rw [(hs s hx).2.1]; simpa using (hs s hx).2.2
    have hnz : nzL g L = g.length := by unfold nzL; rw [hfil]
    obtain ⟨i1, i2, i3, i4, i5⟩ := run_ok g.length L hg (by omega)
    obtain ⟨s0, hs0⟩ := List.exists_mem_of_ne_nil g hne
    have hlen := run_len ht g.length L hg (by omega) ⟨s0, hs0, by rw [(hs s0 hs0).2.1]; exact (hs s0 hs0).2.2⟩ (.inl fun s hx => .inr (.inl (hs s hx).2.1))
    obtain ⟨j1, j2, j3, j4, j5, j6⟩ := runA_ok (f := f) (n := n) (gs := gs) (L := (runG g.length g L).2) (by rw [i2]; exact hl) ap2 fun x hx => by
      obtain ⟨a, b, c, d, e⟩ := h x (List.mem_cons_of_mem _ hx)
      refine ⟨a, fun s hsx => ⟨(b s hsx).1, ?_, (b s hsx).2.2⟩, c, d, e⟩
      rw [i5 s (b s hsx).1.1 (fun z => ap1 x hx s z hsx)]
      exact (b s hsx).2.1
    refine ⟨?_, j2, fun p hp => ?_, fun x hx s hsx => ?_, fun s h0 hsx => ?_, ?_⟩
    · show (runA gs (runG g.length g L).2).2 = ((runG g.length g L).1 ++ _).foldl payL L
      rw [List.foldl_append, ← i1]; exact j1
    · rcases List.mem_append.mp hp with hp | hp
      · rw [← hl]; exact (i3 p hp).1
      · exact j3 p hp
    · show gvL (runA gs (runG g.length g L).2).2 s = 0
      rcases List.mem_cons.mp hx with rfl | hx
      · rw [j5 s ((hs s hsx).1.1) (fun y hy => ap1 y hy s hsx)]
        exact i4 s hsx
      · exact j4 x hx s hsx
    · show gvL (runA gs (runG g.length g L).2).2 s = _
      rw [j5 s h0 (fun y hy => hsx y (List.mem_cons_of_mem _ hy)), i5 s h0 (hsx g (List.mem_cons_self ..))]
    · show (((runG g.length g L).1 ++ _).length : Int) = _
      rw [List.length_append, List.map_cons, List.sum_cons, ← j6]
      omega
end
end Law

set_option Elab.async false
set_option linter.all false
set_option maxRecDepth 100000
set_option maxHeartbeats 4000000
namespace Law
open PySem PySem.Spec L2 DL
open PyProof.Rows hiding St
local macro_rules | `(tactic| walk_at "sl") => `(tactic| try dsimp only [startD, List.map, List.length_cons, List.length_nil, List.replicate, List.cons_append, List.nil_append, List.set_cons_zero, List.set_cons_succ, Nat.reduceSub, Nat.reduceAdd, wipeD])
local macro_rules | `(tactic| walk_at "go") => `(tactic| ((try dsimp only [cxOf, Cx.nox, Cx.wish, Cx.blk]); walk_at "sl"; walk_at "sl"))
local macro_rules | `(tactic| walk_at "own") => `(tactic| first | assumption | exact setO_same | (rw [setO_ne (by first | assumption | exact Ne.symm (by assumption))]; assumption) | (rw [setO_ne (by first | assumption | exact Ne.symm (by assumption))]; exact setO_same))
local macro_rules | `(tactic| walk_at "side") => `(tactic| first
  | assumption | rfl | exact flat_ints _ | exact atI0 | exact atI1 | exact atI2 | exact atI3 | decide | omega | (simp; done)
  | (refine cmodp ?_; omega) | (refine cdivw ?_ ?_ <;> omega) | (refine cmul_l ?_ ?_ <;> omega) | (refine cmul_r ?_ ?_ <;> omega) | (refine cpow ?_ ?_ ?_ <;> decide))
local macro_rules | `(tactic| walk_at "rr") => `(tactic| first
  | with_reducible exact r_int | with_reducible exact r_bl | with_reducible exact r_eqI | with_reducible exact r_neI | with_reducible exact r_eqB | with_reducible exact r_neB | with_reducible exact r_eqS | with_reducible exact r_neS
  | ((with_reducible apply r_intC); walk_at "side")
  | ((with_reducible apply r_ixL); walk_at "side") | ((with_reducible apply r_ixT); walk_at "side") | ((with_reducible apply r_ixS); walk_at "side") | ((with_reducible apply r_ixO); (focus walk_at "own"); (focus walk_at "side"))
  | ((with_reducible apply r_inT0) <;> walk_at "side") | ((with_reducible apply r_inL0) <;> walk_at "side") | ((with_reducible apply r_inT1) <;> walk_at "side") | ((with_reducible apply r_inL1) <;> walk_at "side")
  | ((with_reducible apply r_inO0); (focus walk_at "own"); (focus walk_at "side"); (focus walk_at "side")) | ((with_reducible apply r_inO1); (focus walk_at "own"); (focus walk_at "side"); (focus walk_at "side"))
  | ((with_reducible apply r_rep) <;> walk_at "side") | ((with_reducible apply r_cat) <;> walk_at "side")
  | ((with_reducible apply r_catA) <;> walk_at "side") | ((with_reducible apply r_catO); (focus walk_at "own"); (focus walk_at "side"))
  | ((with_reducible apply r_addS); (focus walk_at "side")) | with_reducible exact r_isN _ rfl | with_reducible exact r_notN _ rfl
  | ((with_reducible apply r_eqP); (focus walk_at "pl"); (focus walk_at "pl"); (focus decide); (focus decide)) | ((with_reducible apply r_neP); (focus walk_at "pl"); (focus walk_at "pl"); (focus decide); (focus decide)))
local macro_rules | `(tactic| walk_at "pl") => `(tactic| first | exact Pl.ints _ | exact Pl.intsL _ | exact Pl.nilT | exact Pl.nilL | exact Pl.int (n := 0) | assumption)
local macro_rules | `(tactic| walk_at "cc") => `(tactic| first
  | with_reducible exact c_lenL | with_reducible exact c_lenT | with_reducible exact c_lenS | ((with_reducible apply c_lenO); walk_at "own")
  | with_reducible exact c_listL | with_reducible exact c_listT | with_reducible exact c_tupL | with_reducible exact c_sum | with_reducible exact c_intB | with_reducible exact c_int1
  | with_reducible exact c_max2 | ((with_reducible apply c_strI); (focus walk_at "side")) | ((with_reducible apply c_lenStr); (focus walk_at "side"))
  | ((with_reducible apply c_isi); (focus rfl); (focus (first | decide +kernel | rfl))) | ((with_reducible apply c_isi2); (focus rfl); (focus (first | decide +kernel | rfl)); (focus (first | decide +kernel | rfl))))
local macro_rules | `(tactic| walk_at "ea") => `(tactic| first
  | with_reducible exact ea_nil
  | ((with_reducible apply ea_cons); (focus walk_at "ev"); (focus walk_at "ea"))
  | ((with_reducible apply ea_starT); (focus walk_at "ev"); (focus walk_at "ea")) | ((with_reducible apply ea_starL); (focus walk_at "ev"); (focus walk_at "ea")))
local macro_rules | `(tactic| walk_at "ev") => `(tactic| first
  | exact ev_var rfl | with_reducible exact ev_int | with_reducible exact ev_bl | with_reducible exact ev_str | with_reducible exact ev_non | with_reducible exact ev_ty | with_reducible exact ev_ref
  | ((with_reducible apply ev_op); (focus walk_at "ev"); (focus walk_at "ev"); (focus walk_at "rr"))
  | ((with_reducible apply ev_cb); (focus walk_at "ea"); (focus walk_at "cc"))
  | ((with_reducible apply ev_neg); (focus walk_at "ev"))
  | ((with_reducible apply ev_tup); (focus walk_at "ea"); (focus walk_at "side"))
  | ((with_reducible apply ev_lst); (focus walk_at "ea"); (focus walk_at "side"))
  | ((with_reducible apply ev_notV); (focus walk_at "ev"))
  | ((with_reducible apply ev_chain); (focus walk_at "ev"); (focus walk_at "ev"); (focus walk_at "rr"); (focus (intro _; walk_at "ev")); (focus (intro _; walk_at "rr")))
  | walk_at "evx")
local macro_rules | `(tactic| walk_at "et") => `(tactic| first
  | ((with_reducible apply et_test); walk_at "ev") | ((with_reducible apply et_B); walk_at "ev") | with_reducible exact et_yes
  | ((with_reducible apply et_not); walk_at "et")
  | ((with_reducible apply et_and); (focus walk_at "et"); (focus (intro _; walk_at "et")))
  | ((with_reducible apply et_or); (focus walk_at "et"); (focus (intro _; walk_at "et"))))
local macro_rules | `(tactic| walk_at "s1") => `(tactic| first
  | ((with_reducible apply sd_asg); (focus walk_at "ev"); walk_at "sl")
  | ((with_reducible apply sd_par); (focus walk_at "ea"); walk_at "sl")
  | ((with_reducible apply sd_setL); (focus walk_at "ev"); (focus walk_at "ev"); (focus walk_at "ev"); (focus walk_at "own"); (focus (first | exact ixN_of (k := 0) rfl (by simp) | exact ixN_of (k := 1) rfl (by simp) | exact ixN_of (k := 2) rfl (by simp) | exact ixN_of (k := 3) rfl (by simp) | assumption)); walk_at "sl")
  | ((with_reducible apply sd_app); (focus walk_at "ev"); (focus walk_at "own"); (focus walk_at "ev"); (focus walk_at "own"); (focus walk_at "side"); walk_at "sl")
  | ((with_reducible apply sd_ret); (focus walk_at "ev"))
  | with_reducible apply sd_next)
local macro_rules | `(tactic| walk_at "st") => `(tactic| first | ((with_reducible apply sd_seq); walk_at "s1") | walk_at "s1")
local macro_rules | `(tactic| walk_at "R") => `(tactic| first
  | exact ⟨_, rfl, rfl, rfl⟩ | exact ⟨_, _, rfl, rfl, rfl⟩ | exact ⟨_, _, _, rfl, rfl, rfl⟩ | exact ⟨_, _, _, _, rfl, rfl, rfl⟩
  | exact ⟨_, rfl, by assumption, rfl, rfl⟩ | exact ⟨_, _, rfl, by assumption, rfl, rfl⟩ | exact ⟨_, _, _, rfl, by assumption, rfl, rfl⟩ | exact ⟨_, _, _, _, rfl, by assumption, rfl, rfl⟩
  | exact ⟨_, _, rfl, by assumption, by assumption, rfl, rfl⟩ | exact ⟨_, _, _, rfl, by assumption, by assumption, rfl, rfl⟩ | exact ⟨_, _, _, _, rfl, by assumption, by assumption, rfl, rfl⟩)
local macro_rules | `(tactic| walk_at "evx") => `(tactic| first
  | ((with_reducible apply ev_run); (focus walk_at "ea"); walk_at "R")
  | ((with_reducible apply ev_propR); (focus walk_at "ev"); walk_at "R")
  | ((with_reducible apply ev_fld); (focus walk_at "ev"); (focus walk_at "cls"); (focus walk_at "cls"); (focus rfl))
  | ((with_reducible apply ev_ownIn0); (focus walk_at "ev"); (focus walk_at "ev"); walk_at "R")
  | ((with_reducible apply ev_slL); (focus walk_at "ev"); (focus walk_at "eo"); (focus walk_at "eo"))
  | ((with_reducible apply ev_slT); (focus walk_at "ev"); (focus walk_at "eo"); (focus walk_at "eo"))
  | ((with_reducible apply ev_cvalI); (focus walk_at "ev"); (focus walk_at "cls"); (focus walk_at "cls")))
local macro_rules | `(tactic| walk_at "eo") => `(tactic| first | with_reducible exact eo_none | ((with_reducible apply eo_some); walk_at "ev"))
local macro_rules | `(tactic| walk_at "cls") => `(tactic| first
  | with_reducible exact (by assumption : Tx _ _ _).cl_Shares
  | with_reducible exact (by assumption : Tx _ _ _).na_Shares_amounts
  | with_reducible exact (by assumption : Tx _ _ _).cl_Bill
  | with_reducible exact (by assumption : Tx _ _ _).na_Bill_total
  | with_reducible exact (by assumption : Tx _ _ _).na_Bill_there
  | with_reducible exact (by assumption : Tx _ _ _).cr_Bill
  | with_reducible exact (by assumption : Tx _ _ _).cv_Bill_MAX_SEATS)
section
variable {P : Program} {w : World} {K : PySem.W.Frag} {mg : Str → Option Value} {base : Heap} {A : Ad}
/-! so many of some -/
def chs : Nat → List Int → List (List Int)
  | 0, _ => [[]]
  | _ + 1, [] => []
  | k + 1, a :: l => (chs k l).map (a :: ·) ++ chs (k + 1) l
theorem chs_mem : ∀ {k : Nat} {l c : List Int}, c ∈ chs k l ↔ c.Sublist l ∧ c.length = k
  | 0, l, c => by
    rw [chs, List.mem_singleton]
    exact ⟨fun h => by subst h; exact ⟨List.nil_sublist _, rfl⟩, fun h => List.eq_nil_of_length_eq_zero h.2⟩
  | k + 1, [], c => by
    rw [chs]
    exact ⟨(fun h => nomatch h), fun ⟨h1, h2⟩ => by rw [List.sublist_nil.mp h1] at h2; cases h2⟩
  | k + 1, a :: l, c => by
    rw [chs, List.mem_append, List.mem_map, chs_mem (k := k + 1) (l := l)]
    constructor
    · rintro (⟨d, hd, rfl⟩ | ⟨h1, h2⟩)
      · obtain ⟨h1, h2⟩ := chs_mem.mp hd
        exact ⟨h1.cons₂ a, by rw [List.length_cons, h2]⟩
      · exact ⟨h1.cons a, h2⟩
    · rintro ⟨h1, h2⟩
      cases h1 with
      | cons _ h => exact .inr ⟨h, h2⟩
      | @cons_cons d _ _ h => exact .inl ⟨d, chs_mem.mpr ⟨h, by simpa using h2⟩, rfl⟩
theorem chs_len : ∀ (k : Nat) (l : List Int), (chs k l).length ≤ 2 ^ l.length
  | 0, l => by rw [chs]; exact Nat.one_le_two_pow
  | k + 1, [] => by rw [chs]; exact Nat.zero_le _
  | k + 1, a :: l => by
    have h1 := chs_len k l
    have h2 := chs_len (k + 1) l
    rw [chs, List.length_append, List.length_map, List.length_cons, Nat.pow_succ]
    omega
def aft (c : List Int) (s : Int) : Bool := match c.getLast? with | none => true | some x => decide (s > x)
theorem aft_nil (s : Int) : aft [] s = true := rfl
theorem aft_cons {a : Int} {c : List Int} (hc : c ≠ []) (s : Int) : aft (a :: c) s = aft c s := by
  unfold aft
  rw [List.getLast?_cons]
  cases q : c.getLast? with
  | none => exact absurd (List.getLast?_eq_none_iff.mp q) hc
  | some x => rfl
theorem last_mem {c : List Int} {x : Int} (h : c.getLast? = some x) : x ∈ c := List.mem_of_getLast? h
theorem chs_step : ∀ (k : Nat) {l : List Int}, l.Pairwise (· < ·) → (chs k l).flatMap (fun c => (l.filter (aft c)).map fun s => c ++ [s]) = chs (k + 1) l
  | 0, l, h => by
    rw [chs, List.flatMap_cons, List.flatMap_nil, List.append_nil]
    have e : l.filter (aft []) = l := List.filter_eq_self.mpr fun s _ => rfl
    rw [e]
    clear e h
    induction l with
    | nil => rfl
    | cons a r ih => rw [chs, chs, List.map_cons, ih]; rfl
  | k + 1, [], h => by rw [chs]; rfl
  | k + 1, a :: l, h => by
    obtain ⟨h1, h2⟩ := List.pairwise_cons.mp h
    have i1 := chs_step k h2
    have i2 := chs_step (k + 1) h2
    show (chs (k + 1) (a :: l)).flatMap (fun c => ((a :: l).filter (aft c)).map fun s => c ++ [s]) = (chs (k + 1) l).map (a :: ·) ++ chs (k + 1 + 1) l
    rw [chs, List.flatMap_append, List.flatMap_map, ← i2]
    have i1' : (chs (k + 1) l).map (a :: ·) = ((chs k l).flatMap (fun c => (l.filter (aft c)).map fun s => c ++ [s])).map (a :: ·) := by rw [i1]
    rw [i1', List.map_flatMap]
    have fm : ∀ {α β : Type} {f g : α → List β} {l : List α}, (∀ x ∈ l, f x = g x) → l.flatMap f = l.flatMap g := by
      intro α β f g l hh
      induction l with
      | nil => rfl
      | cons x r ih => rw [List.flatMap_cons, List.flatMap_cons, hh x (List.mem_cons_self ..), ih fun y hy => hh y (List.mem_cons_of_mem _ hy)]
    congr 1
    · refine fm fun c hc => ?_
      rw [List.map_map]
      have e : (a :: l).filter (aft (a :: c)) = l.filter (aft c) := by
        have hna : aft (a :: c) a = false := by
          cases c with
          | nil => simp [aft]
          | cons b r =>
            rw [aft_cons (by simp)]
            unfold aft
            cases q : (b :: r).getLast? with
            | none => simp at q
            | some x =>
              have hx := (chs_mem.mp hc).1.subset (last_mem q)
              have := h1 x hx
              simp; omega
        rw [List.filter_cons_of_neg (by simp [hna])]
        cases c with
        | nil =>
          refine List.filter_congr fun s hs => ?_
          have := h1 s hs
          simp [aft]; omega
        | cons b r => exact List.filter_congr fun s _ => aft_cons (by simp) s
      rw [e]; rfl
    · refine fm fun c hc => ?_
      have hne : c ≠ [] := fun z => by have := (chs_mem.mp hc).2; rw [z] at this; cases this
      have hna : aft c a = false := by
        unfold aft
        cases q : c.getLast? with
        | none => exact absurd (List.getLast?_eq_none_iff.mp q) hne
        | some x =>
          have hx := (chs_mem.mp hc).1.subset (last_mem q)
          have := h1 x hx
          simp; omega
      rw [List.filter_cons_of_neg (by simp [hna])]
/-! a balance -/
def sts (n : Nat) : List Int := (List.range n).map fun (k : Nat) => (k : Int)
theorem sts_asc (n : Nat) : (sts n).Pairwise (· < ·) := List.pairwise_map.mpr (List.pairwise_lt_range.imp fun h => by simpa using h)
theorem sts_mem {n : Nat} {s : Int} : s ∈ sts n ↔ 0 ≤ s ∧ s < n := by
  unfold sts
  rw [List.mem_map]
  constructor
  · rintro ⟨k, hk, rfl⟩
    have := List.mem_range.mp hk
    omega
  · intro h
    exact ⟨s.toNat, List.mem_range.mpr (by omega), by omega⟩
def seatsC (cs : List Int) : List Int := (sts cs.length).filter fun s => decide (gvL cs s ≠ 0)
def mgs (cs : List Int) : List (List Int) := bst (gvL cs) (seatsC cs).length (seatsC cs)
def payF (cs : List Int) : List (Int × Int × Int) := (runA (mgs cs) cs).1
def fewF (cs : List Int) : Int := ((mgs cs).map fun g => (g.length : Int) - 1).sum
theorem seatsC_asc (cs : List Int) : (seatsC cs).Pairwise (· < ·) := (sts_asc _).filter _
theorem asc_nd {l : List Int} (h : l.Pairwise (· < ·)) : l.Nodup := h.imp fun h => by omega
theorem seatsC_nd (cs : List Int) : (seatsC cs).Nodup := asc_nd (seatsC_asc cs)
theorem seatsC_len (cs : List Int) : (seatsC cs).length ≤ cs.length := Nat.le_trans (List.length_filter_le ..) (by simp [sts])
theorem seatsC_mem {cs : List Int} {s : Int} : s ∈ seatsC cs ↔ (0 ≤ s ∧ s < cs.length) ∧ gvL cs s ≠ 0 := by
  unfold seatsC
  rw [List.mem_filter, sts_mem]
  simp
theorem gv_all (cs : List Int) : (sts cs.length).map (gvL cs) = cs := by
  refine List.ext_getElem (by simp [sts]) fun i h1 h2 => ?_
  simp [sts, gvL, List.getD_eq_getElem?_getD, List.getElem?_eq_getElem h2]
theorem sum_nil {h : Int → Int} : ∀ {l : List Int}, (∀ s ∈ l, h s = 0) → (l.map h).sum = 0
  | [], _ => rfl
  | a :: r, hh => by rw [List.map_cons, List.sum_cons, hh a (List.mem_cons_self ..), sum_nil fun s hs => hh s (List.mem_cons_of_mem _ hs)]; rfl
theorem seatsC_sum (cs : List Int) : ((seatsC cs).map (gvL cs)).sum = cs.sum := by
  have h := sum_split (gvL cs) (fun s => decide (gvL cs s ≠ 0)) (sts cs.length)
  rw [gv_all, sum_nil (l := (sts cs.length).filter fun x => !decide (gvL cs x ≠ 0)) (h := gvL cs) (fun s hs => by have := (List.mem_filter.mp hs).2; simpa using this)] at h
  unfold seatsC
  omega
theorem mgs_ok (cs : List Int) : GrOk (gvL cs) (seatsC cs) (mgs cs) ∧ (cs.sum = 0 → ∀ s ∈ seatsC cs, s ∈ (mgs cs).flatten) := by
  obtain ⟨h1, h2⟩ := bst_ok (gvL cs) (seatsC cs).length (seatsC cs) rfl (seatsC_nd cs)
  refine ⟨h1, fun hz s hs => h2 (fun z => ?_) (by rw [seatsC_sum]; exact hz) s hs⟩
  rw [List.eq_nil_of_length_eq_zero z] at hs; cases hs
theorem gv_ext {L M : List Int} (hl : L.length = M.length) (h : ∀ s : Int, 0 ≤ s → s < L.length → gvL L s = gvL M s) : L = M := by
  rw [← gv_all L, ← gv_all M, hl]
  exact List.map_congr_left fun s hs => h s (sts_mem.mp hs).1 (by rw [hl]; exact (sts_mem.mp hs).2)
theorem payF_ok {cs : List Int} (hz : cs.sum = 0) : (∀ p ∈ payF cs, PyOk cs.length p) ∧ (payF cs).foldl payL cs = List.replicate cs.length 0 ∧ ((payF cs).length : Int) = fewF cs := by
  obtain ⟨ok, hall⟩ := mgs_ok cs
  obtain ⟨h1, h2, h3, h4, h5, h6⟩ := runA_ok (f := gvL cs) (n := cs.length) (gs := mgs cs) (L := cs) rfl ok.apart fun g hg => by
    have hsub : ∀ s ∈ g, s ∈ seatsC cs := fun s hs => by rw [ok.sub g hg] at hs; exact (List.mem_filter.mp hs).1
    refine ⟨by rw [ok.sub g hg]; exact (seatsC_nd cs).filter _, fun s hs => ?_, ok.zero g hg, ok.some g hg, bst_tight _ (seatsC_nd cs) hg⟩
    have := seatsC_mem.mp (hsub s hs)
    exact ⟨this.1, rfl, this.2⟩
  refine ⟨h3, ?_, h6⟩
  show (runA (mgs cs) cs).1.foldl payL cs = _
  rw [← h1]
  refine gv_ext (by rw [h2, List.length_replicate]) fun s h0 hs => ?_
  have e0 : gvL (List.replicate cs.length 0) s = 0 := by
    unfold gvL
    rw [List.getD_eq_getElem?_getD, List.getElem?_replicate]
    split <;> rfl
  rw [e0]
  rw [h2] at hs
  by_cases hm : ∃ g ∈ mgs cs, s ∈ g
  · obtain ⟨g, hg, hsg⟩ := hm
    exact h4 g hg s hsg
  · rw [h5 s h0 fun g hg z => hm ⟨g, hg, z⟩]
    refine Classical.byContradiction fun z => hm ?_
    obtain ⟨g, hg, hsg⟩ := List.mem_flatten.mp (hall hz s (seatsC_mem.mpr ⟨⟨h0, hs⟩, z⟩))
    exact ⟨g, hg, hsg⟩
/-! how much is handed at most -/
def Bd (M : Int) (L : List Int) : Prop := ∀ s, 0 ≤ s → -M ≤ gvL L s ∧ gvL L s ≤ M
theorem run_bd {g : List Int} {M : Int} : ∀ (m : Nat) (L : List Int), GpOk g L → Bd M L → Bd M (runG m g L).2 ∧ ∀ p ∈ (runG m g L).1, p.2.2 ≤ M
  | 0, L, h, hb => ⟨hb, fun p hp => nomatch hp⟩
  | m + 1, L, h, hb => by
    by_cases hn : ∃ s ∈ g, gvL L s ≠ 0
    · have er : runG (m + 1) g L = ((gvr g L, tkr g L, cts g L) :: (runG m g (stpL g L)).1, (runG m g (stpL g L)).2) := by
        show (if _ then _ else _) = _
        rw [if_pos (any_nz.mpr hn)]
      have o := stp_ok h hn
      have b1 := hb _ (h.rg _ o.a.1).1
      have b2 := hb _ (h.rg _ o.b.1).1
      have c1 := o.c1
      have c2 := o.c2
      have a1 := o.a.2
      have a2 := o.b.2
      obtain ⟨i1, i2⟩ := run_bd (M := M) m (stpL g L) (stp_gp h o) fun s h0 => by
        rw [o.at_ s h0]
        have b3 := hb s h0
        by_cases e1 : s = tkr g L
        · rw [if_pos e1, e1]; omega
        · rw [if_neg e1]
          by_cases e2 : s = gvr g L
          · rw [if_pos e2, e2]; omega
          · rw [if_neg e2]; exact b3
      rw [er]
      refine ⟨i1, fun p hp => ?_⟩
      rcases List.mem_cons.mp hp with rfl | hp
      · show cts g L ≤ M; omega
      · exact i2 p hp
    · have er : runG (m + 1) g L = ([], L) := by
        show (if _ then _ else _) = _
        rw [if_neg (fun z => hn (any_nz.mp z))]
      rw [er]
      exact ⟨hb, fun p hp => nomatch hp⟩
theorem runA_bd {f : Int → Int} {n : Nat} {M : Int} : ∀ {gs : List (List Int)} {L : List Int}, L.length = n → gs.Pairwise (fun g h => ∀ s ∈ g, s ∉ h) → (∀ g ∈ gs, g.Nodup ∧ (∀ s ∈ g, (0 ≤ s ∧ s < n) ∧ gvL L s = f s) ∧ (g.map f).sum = 0) → Bd M L → ∀ p ∈ (runA gs L).1, p.2.2 ≤ M
  | [], L, _, _, _, _ => fun p hp => nomatch hp
  | g :: gs, L, hl, ap, h, hb => by
    obtain ⟨ap1, ap2⟩ := List.pairwise_cons.mp ap
    obtain ⟨hnd, hs, hz⟩ := h g (List.mem_cons_self ..)
    have hg : GpOk g L := ⟨hnd, fun s hx => by rw [hl]; exact (hs s hx).1, by
      rw [show g.map (gvL L) = g.map f from List.map_congr_left fun s hx => (hs s hx).2]; exact hz⟩
    have hnz : nzL g L ≤ g.length := List.length_filter_le ..
    obtain ⟨i1, i2, i3, i4, i5⟩ := run_ok g.length L hg hnz
    obtain ⟨b1, b2⟩ := run_bd (M := M) g.length L hg hb
    have j := runA_bd (f := f) (n := n) (M := M) (gs := gs) (L := (runG g.length g L).2) (by rw [i2]; exact hl) ap2 (fun x hx => by
      obtain ⟨a, b, c⟩ := h x (List.mem_cons_of_mem _ hx)
      refine ⟨a, fun s hsx => ⟨(b s hsx).1, ?_⟩, c⟩
      rw [i5 s (b s hsx).1.1 (fun z => ap1 x hx s z hsx)]
      exact (b s hsx).2) b1
    intro p hp
    rcases List.mem_append.mp hp with hp | hp
    · exact b2 p hp
    · exact j p hp
theorem payF_bd {cs : List Int} {M : Int} (h0 : 0 ≤ M) (h : ∀ c ∈ cs, -M ≤ c ∧ c ≤ M) : ∀ p ∈ payF cs, p.2.2 ≤ M := by
  obtain ⟨ok, _⟩ := mgs_ok cs
  refine runA_bd (f := gvL cs) (n := cs.length) rfl ok.apart (fun g hg => ?_) fun s hs => ?_
  · have hsub : ∀ s ∈ g, s ∈ seatsC cs := fun s hs => by rw [ok.sub g hg] at hs; exact (List.mem_filter.mp hs).1
    exact ⟨by rw [ok.sub g hg]; exact (seatsC_nd cs).filter _, fun s hs => ⟨(seatsC_mem.mp (hsub s hs)).1, rfl⟩, ok.zero g hg⟩
  · unfold gvL
    rw [List.getD_eq_getElem?_getD]
    cases q : cs[s.toNat]? with
    | none => exact ⟨by show -M ≤ 0; omega, h0⟩
    | some c => exact h c (List.mem_of_getElem? q)
/-- fewer than the seats -/
theorem few_lt {cs : List Int} (hn : 0 < cs.length) : fewF cs < cs.length := by
  obtain ⟨ok, _⟩ := mgs_ok cs
  have key : ∀ {gs : List (List Int)} {c : List Int}, c.Nodup → (∀ g ∈ gs, g = c.filter fun s => decide (s ∈ g)) → gs.Pairwise (fun g h => ∀ s ∈ g, s ∉ h) → (gs.map fun g => (g.length : Int)).sum ≤ c.length := by
    intro gs
    induction gs with
    | nil => intro c _ _ _; simp
    | cons g gs ih =>
      intro c hc hs ap
      obtain ⟨ap1, ap2⟩ := List.pairwise_cons.mp ap
      have := ih (c := c.filter fun s => !decide (s ∈ g)) (hc.filter _) (fun x hx => by
        have hx0 := hs x (List.mem_cons_of_mem _ hx)
        rw [List.filter_filter]
        have e : (c.filter fun a => (decide (a ∈ x) && !decide (a ∈ g))) = c.filter fun s => decide (s ∈ x) := List.filter_congr fun s _ => by
          by_cases z : s ∈ x
          · have : s ∉ g := fun y => ap1 x hx s y z
            simp [z, this]
          · simp [z]
        rw [e]; exact hx0) ap2
      have hg := hs g (List.mem_cons_self ..)
      have hl : c.length = (c.filter fun s => decide (s ∈ g)).length + (c.filter fun s => !decide (s ∈ g)).length := by
        clear this hg hs ap ap1 ap2 ih hc
        induction c with
        | nil => rfl
        | cons a r ih => by_cases z : a ∈ g <;> simp [z] <;> omega
      rw [← hg] at hl
      rw [List.map_cons, List.sum_cons]
      omega
  have h1 := key (seatsC_nd cs) ok.sub ok.apart
  have h2 := seatsC_len cs
  unfold fewF
  have hs : ∀ l : List (List Int), (l.map fun g => (g.length : Int) - 1).sum = (l.map fun g => (g.length : Int)).sum - l.length := by
    intro l
    induction l with
    | nil => rfl
    | cons a r ih => rw [List.map_cons, List.map_cons, List.sum_cons, List.sum_cons, ih, List.length_cons]; omega
  rw [hs]
  cases q : mgs cs with
  | nil => simp; omega
  | cons a r => rw [q] at h1; rw [List.length_cons]; omega
theorem gr_len : ∀ {gs : List (List Int)} {c : List Int}, (∀ g ∈ gs, g = c.filter fun s => decide (s ∈ g)) → gs.Pairwise (fun g h => ∀ s ∈ g, s ∉ h) → gs.flatten.length ≤ c.length ∧ ((∀ g ∈ gs, g ≠ []) → gs.length ≤ c.length)
  | [], c, _, _ => ⟨Nat.zero_le _, fun _ => Nat.zero_le _⟩
  | g :: gs, c, hs, ap => by
    obtain ⟨ap1, ap2⟩ := List.pairwise_cons.mp ap
    obtain ⟨h1, h2⟩ := gr_len (gs := gs) (c := c.filter fun s => !decide (s ∈ g)) (fun x hx => by
      have hx0 := hs x (List.mem_cons_of_mem _ hx)
      rw [List.filter_filter]
      have e : (c.filter fun a => (decide (a ∈ x) && !decide (a ∈ g))) = c.filter fun s => decide (s ∈ x) := List.filter_congr fun s _ => by
        by_cases z : s ∈ x
        · have : s ∉ g := fun y => ap1 x hx s y z
          simp [z, this]
        · simp [z]
      rw [e]; exact hx0) ap2
    have hg := hs g (List.mem_cons_self ..)
    have hl : c.length = (c.filter fun s => decide (s ∈ g)).length + (c.filter fun s => !decide (s ∈ g)).length := by
      clear h1 h2 hg hs ap ap1 ap2
      induction c with
      | nil => rfl
      | cons a r ih => by_cases z : a ∈ g <;> simp [z] <;> omega
    rw [← hg] at hl
    refine ⟨by rw [List.flatten_cons, List.length_append]; omega, fun hne => ?_⟩
    have := List.length_pos_iff.mpr (hne g (List.mem_cons_self ..))
    have := h2 fun x hx => hne x (List.mem_cons_of_mem _ hx)
    rw [List.length_cons]; omega
theorem flatMap_ints {α β : Type} (f : α → β) : ∀ (l : List (List α)), (l.flatMap fun g => g.map f) = l.flatten.map f
  | [] => rfl
  | g :: r => by rw [List.flatMap_cons, List.flatten_cons, List.map_append, flatMap_ints f r]
end
end Law

set_option Elab.async false
set_option linter.all false
set_option maxRecDepth 100000
set_option maxHeartbeats 4000000
namespace Law
open PySem PySem.Spec L2 DL
open PyProof.Rows hiding St
local macro_rules | `(tactic| walk_at "sl") => `(tactic| try dsimp only [startD, List.map, List.length_cons, List.length_nil, List.replicate, List.cons_append, List.nil_append, List.set_cons_zero, List.set_cons_succ, Nat.reduceSub, Nat.reduceAdd, wipeD])
local macro_rules | `(tactic| walk_at "go") => `(tactic| ((try dsimp only [cxOf, Cx.nox, Cx.wish, Cx.blk]); walk_at "sl"; walk_at "sl"))
local macro_rules | `(tactic| walk_at "own") => `(tactic| first | assumption | exact setO_same | (rw [setO_ne (by first | assumption | exact Ne.symm (by assumption))]; assumption) | (rw [setO_ne (by first | assumption | exact Ne.symm (by assumption))]; exact setO_same))
local macro_rules | `(tactic| walk_at "side") => `(tactic| first
  | assumption | rfl | exact flat_ints _ | exact atI0 | exact atI1 | exact atI2 | exact atI3 | decide | omega | (simp; done)
  | (refine cmodp ?_; omega) | (refine cdivw ?_ ?_ <;> omega) | (refine cmul_l ?_ ?_ <;> omega) | (refine cmul_r ?_ ?_ <;> omega) | (refine cpow ?_ ?_ ?_ <;> decide))
local macro_rules | `(tactic| walk_at "rr") => `(tactic| first
  | with_reducible exact r_int | with_reducible exact r_bl | with_reducible exact r_eqI | with_reducible exact r_neI | with_reducible exact r_eqB | with_reducible exact r_neB | with_reducible exact r_eqS | with_reducible exact r_neS
  | ((with_reducible apply r_intC); walk_at "side")
  | ((with_reducible apply r_ixL); walk_at "side") | ((with_reducible apply r_ixT); walk_at "side") | ((with_reducible apply r_ixS); walk_at "side") | ((with_reducible apply r_ixO); (focus walk_at "own"); (focus walk_at "side"))
  | ((with_reducible apply r_inT0) <;> walk_at "side") | ((with_reducible apply r_inL0) <;> walk_at "side") | ((with_reducible apply r_inT1) <;> walk_at "side") | ((with_reducible apply r_inL1) <;> walk_at "side")
  | ((with_reducible apply r_inO0); (focus walk_at "own"); (focus walk_at "side"); (focus walk_at "side")) | ((with_reducible apply r_inO1); (focus walk_at "own"); (focus walk_at "side"); (focus walk_at "side"))
  | ((with_reducible apply r_rep) <;> walk_at "side") | ((with_reducible apply r_cat) <;> walk_at "side")
  | ((with_reducible apply r_catA) <;> walk_at "side") | ((with_reducible apply r_catO); (focus walk_at "own"); (focus walk_at "side"))
  | ((with_reducible apply r_addS); (focus walk_at "side")) | with_reducible exact r_isN _ rfl | with_reducible exact r_notN _ rfl
  | ((with_reducible apply r_eqP); (focus walk_at "pl"); (focus walk_at "pl"); (focus decide); (focus decide)) | ((with_reducible apply r_neP); (focus walk_at "pl"); (focus walk_at "pl"); (focus decide); (focus decide)))
local macro_rules | `(tactic| walk_at "pl") => `(tactic| first | exact Pl.ints _ | exact Pl.intsL _ | exact Pl.nilT | exact Pl.nilL | exact Pl.int (n := 0) | assumption)
local macro_rules | `(tactic| walk_at "cc") => `(tactic| first
  | with_reducible exact c_lenL | with_reducible exact c_lenT | with_reducible exact c_lenS | ((with_reducible apply c_lenO); walk_at "own")
  | with_reducible exact c_listL | with_reducible exact c_listT | with_reducible exact c_tupL | with_reducible exact c_sum | with_reducible exact c_intB | with_reducible exact c_int1
  | with_reducible exact c_max2 | ((with_reducible apply c_strI); (focus walk_at "side")) | ((with_reducible apply c_lenStr); (focus walk_at "side"))
  | ((with_reducible apply c_isi); (focus rfl); (focus (first | decide +kernel | rfl))) | ((with_reducible apply c_isi2); (focus rfl); (focus (first | decide +kernel | rfl)); (focus (first | decide +kernel | rfl))))
local macro_rules | `(tactic| walk_at "ea") => `(tactic| first
  | with_reducible exact ea_nil
  | ((with_reducible apply ea_cons); (focus walk_at "ev"); (focus walk_at "ea"))
  | ((with_reducible apply ea_starT); (focus walk_at "ev"); (focus walk_at "ea")) | ((with_reducible apply ea_starL); (focus walk_at "ev"); (focus walk_at "ea")))
local macro_rules | `(tactic| walk_at "ev") => `(tactic| first
  | exact ev_var rfl | with_reducible exact ev_int | with_reducible exact ev_bl | with_reducible exact ev_str | with_reducible exact ev_non | with_reducible exact ev_ty | with_reducible exact ev_ref
  | ((with_reducible apply ev_op); (focus walk_at "ev"); (focus walk_at "ev"); (focus walk_at "rr"))
  | ((with_reducible apply ev_cb); (focus walk_at "ea"); (focus walk_at "cc"))
  | ((with_reducible apply ev_neg); (focus walk_at "ev"))
  | ((with_reducible apply ev_tup); (focus walk_at "ea"); (focus walk_at "side"))
  | ((with_reducible apply ev_lst); (focus walk_at "ea"); (focus walk_at "side"))
  | ((with_reducible apply ev_notV); (focus walk_at "ev"))
  | ((with_reducible apply ev_chain); (focus walk_at "ev"); (focus walk_at "ev"); (focus walk_at "rr"); (focus (intro _; walk_at "ev")); (focus (intro _; walk_at "rr")))
  | walk_at "evx")
local macro_rules | `(tactic| walk_at "et") => `(tactic| first
  | ((with_reducible apply et_test); walk_at "ev") | ((with_reducible apply et_B); walk_at "ev") | with_reducible exact et_yes
  | ((with_reducible apply et_not); walk_at "et")
  | ((with_reducible apply et_and); (focus walk_at "et"); (focus (intro _; walk_at "et")))
  | ((with_reducible apply et_or); (focus walk_at "et"); (focus (intro _; walk_at "et"))))
local macro_rules | `(tactic| walk_at "s1") => `(tactic| first
  | ((with_reducible apply sd_asg); (focus walk_at "ev"); walk_at "sl")
  | ((with_reducible apply sd_par); (focus walk_at "ea"); walk_at "sl")
  | ((with_reducible apply sd_setL); (focus walk_at "ev"); (focus walk_at "ev"); (focus walk_at "ev"); (focus walk_at "own"); (focus (first | exact ixN_of (k := 0) rfl (by simp) | exact ixN_of (k := 1) rfl (by simp) | exact ixN_of (k := 2) rfl (by simp) | exact ixN_of (k := 3) rfl (by simp) | assumption)); walk_at "sl")
  | ((with_reducible apply sd_app); (focus walk_at "ev"); (focus walk_at "own"); (focus walk_at "ev"); (focus walk_at "own"); (focus walk_at "side"); walk_at "sl")
  | ((with_reducible apply sd_ret); (focus walk_at "ev"))
  | with_reducible apply sd_next)
local macro_rules | `(tactic| walk_at "st") => `(tactic| first | ((with_reducible apply sd_seq); walk_at "s1") | walk_at "s1")
local macro_rules | `(tactic| walk_at "R") => `(tactic| first
  | exact ⟨_, rfl, rfl, rfl⟩ | exact ⟨_, _, rfl, rfl, rfl⟩ | exact ⟨_, _, _, rfl, rfl, rfl⟩ | exact ⟨_, _, _, _, rfl, rfl, rfl⟩
  | exact ⟨_, rfl, by assumption, rfl, rfl⟩ | exact ⟨_, _, rfl, by assumption, rfl, rfl⟩ | exact ⟨_, _, _, rfl, by assumption, rfl, rfl⟩ | exact ⟨_, _, _, _, rfl, by assumption, rfl, rfl⟩
  | exact ⟨_, _, rfl, by assumption, by assumption, rfl, rfl⟩ | exact ⟨_, _, _, rfl, by assumption, by assumption, rfl, rfl⟩ | exact ⟨_, _, _, _, rfl, by assumption, by assumption, rfl, rfl⟩)
local macro_rules | `(tactic| walk_at "evx") => `(tactic| first
  | ((with_reducible apply ev_run); (focus walk_at "ea"); walk_at "R")
  | ((with_reducible apply ev_propR); (focus walk_at "ev"); walk_at "R")
  | ((with_reducible apply ev_fld); (focus walk_at "ev"); (focus walk_at "cls"); (focus walk_at "cls"); (focus rfl))
  | ((with_reducible apply ev_ownIn0); (focus walk_at "ev"); (focus walk_at "ev"); walk_at "R")
  | ((with_reducible apply ev_slL); (focus walk_at "ev"); (focus walk_at "eo"); (focus walk_at "eo"))
  | ((with_reducible apply ev_slT); (focus walk_at "ev"); (focus walk_at "eo"); (focus walk_at "eo"))
  | ((with_reducible apply ev_cvalI); (focus walk_at "ev"); (focus walk_at "cls"); (focus walk_at "cls")))
local macro_rules | `(tactic| walk_at "eo") => `(tactic| first | with_reducible exact eo_none | ((with_reducible apply eo_some); walk_at "ev"))
local macro_rules | `(tactic| walk_at "cls") => `(tactic| first
  | with_reducible exact (by assumption : Tx _ _ _).cl_Shares
  | with_reducible exact (by assumption : Tx _ _ _).na_Shares_amounts
  | with_reducible exact (by assumption : Tx _ _ _).cl_Bill
  | with_reducible exact (by assumption : Tx _ _ _).na_Bill_total
  | with_reducible exact (by assumption : Tx _ _ _).na_Bill_there
  | with_reducible exact (by assumption : Tx _ _ _).cr_Bill
  | with_reducible exact (by assumption : Tx _ _ _).cv_Bill_MAX_SEATS)
section
variable {P : Program} {w : World} {K : PySem.W.Frag} {mg : Str → Option Value} {base : Heap} {A : Ad}
def encGs (gs : List (List Int)) : D := .lst (gs.map fun g => .lst (g.map .int))
def encTu (c : List Int) : D := .tup (c.map .int)
def encPy (p : Int × Int × Int) : D := .tup [.int p.1, .int p.2.1, .int p.2.2]
def R_slen (A : Ad) : DR := fun ds O Post => ∃ cs, ds = [encS A cs] ∧ Post (.int (cs.length : Int)) O
def R_vbal (A : Ad) : DR := fun ds O Post => ∃ cs, ds = [encS A cs] ∧ cs.length ≤ 8 ∧ cs.sum = 0 ∧ Post .non O
def R_subsets : DR := fun ds O Post => ∃ (ss : List Int) (k : Nat), ds = [.lst (ss.map .int), .int (k : Int)] ∧ ss.Pairwise (· < ·) ∧ ss.length ≤ 8 ∧ k ≤ 8 ∧ Post (.lst ((chs k ss).map encTu)) O
def R_mostg : DR := fun ds O Post => ∃ cs, ds = [.tup (List.map D.int cs)] ∧ cs.length ≤ 8 ∧ Post (encGs (mgs cs)) O
def R_few (A : Ad) : DR := fun ds O Post => ∃ cs, ds = [encS A cs] ∧ cs.length ≤ 8 ∧ cs.sum = 0 ∧ Post (.int (fewF cs)) O
def R_pays (A : Ad) : DR := fun ds O Post => ∃ cs, ds = [encS A cs] ∧ cs.length ≤ 8 ∧ cs.sum = 0 ∧ ∀ p, O p = none → Post (.ref p) (setO O p (.lst ((payF cs).map encPy)))
def R_bafter (A : Ad) : DR := fun ds O Post => ∃ cs x ps, ds = [encS A cs, x] ∧ LstOf O x (List.map encPy ps) ∧ cs.length ≤ 1000 ∧ (∀ p ∈ ps, PyOk cs.length p ∧ p.2.2 ≤ 1000000000000000) ∧ Post (encS A (ps.foldl payL cs)) O
theorem ok_Shares_Dlen (T : Tx K mg A) : FnR P w K mg base (L2.CX P w) 1 A.f_Shares_Dlen (SpD K (R_slen A)) := by
  obtain ⟨fd, F, hb⟩ := T.F_Shares_Dlen
  refine fnD F sc_Shares_Dlen hb (fun ds O Post h => by first | (obtain ⟨rfl, _⟩ := h; rfl) | (obtain ⟨_, rfl, _⟩ := h; rfl) | (obtain ⟨_, _, rfl, _⟩ := h; rfl) | (obtain ⟨_, _, _, rfl, _⟩ := h; rfl) | (obtain ⟨_, _, _, _, rfl, _⟩ := h; rfl) | (obtain ⟨_, _, _, _, _, rfl, _⟩ := h; rfl) | (obtain ⟨_, _, _, _, _, _, rfl, _⟩ := h; rfl) | (obtain ⟨_, _, _, _, _, _, _, rfl, _⟩ := h; rfl) | (obtain ⟨_, _, _, _, _, _, _, _, rfl, _⟩ := h; rfl) | (obtain ⟨_, _, _, _, _, _, _, _, _, rfl, _⟩ := h; rfl) | (obtain ⟨_, _, _, _, _, _, _, _, _, _, rfl, _⟩ := h; rfl) | (obtain ⟨_, _, _, _, _, _, _, _, _, _, _, rfl, _⟩ := h; rfl) | (obtain ⟨_, _, _, _, _, _, _, _, _, _, _, _, rfl, _⟩ := h; rfl) | (obtain ⟨_, _, _, _, _, _, _, _, _, _, _, _, _, rfl, _⟩ := h; rfl)) fun cdv A' outer s H E hr => ⟨_, PSs.nox (pss_one (ps_ret (pe_callB (call_lenK K) (by rfl) T.b_len (by decide +kernel) (pa_cons (pe_fldK K (pv 0)) pa_nil)))), fun ds O Post hR => ?_⟩
  obtain ⟨xs, rfl, hp⟩ := hR
  unfold encS
  walk_at "go"
  exact sd_ret (O1 := O) (Ev.is (d := .int ((xs.map D.int).length : Int)) (by walk_at "ev") (by rw [List.length_map])) hp
theorem encC_def (c : List Int) : encTu c = .tup (c.map .int) := rfl
theorem flatMap_eq {α β : Type} {f g : α → List β} {l : List α} (h : ∀ x ∈ l, f x = g x) : l.flatMap f = l.flatMap g := by
  induction l with
  | nil => rfl
  | cons x r ih => rw [List.flatMap_cons, List.flatMap_cons, h x (List.mem_cons_self ..), ih fun y hy => h y (List.mem_cons_of_mem _ hy)]
theorem aft_test (c : List Int) (s : Int) : (eqD (encTu c) (.tup []) || (match c.getLast? with | none => false | some x => decide (s > x))) = aft c s := by
  unfold aft encTu
  rw [eqD_nilT]
  cases c with
  | nil => rfl
  | cons a r =>
    cases q : (a :: r).getLast? with
    | none => simp at q
    | some x => simp
theorem ch_sz {k : Nat} {ss : List Int} (h : ss.length ≤ 8) : (chs k ss).length ≤ 256 := by
  have h1 := chs_len k ss
  have : (2 : Nat) ^ ss.length ≤ 2 ^ 8 := Nat.pow_le_pow_right (by omega) h
  omega
theorem ok_subsets (T : Tx K mg A) : FnR P w K mg base (L2.CX P w) 1 A.f_subsets (SpD K (R_subsets)) := by
  obtain ⟨fd, F, hb⟩ := T.F_subsets
  refine fnD F sc_subsets hb (fun ds O Post h => by first | (obtain ⟨rfl, _⟩ := h; rfl) | (obtain ⟨_, rfl, _⟩ := h; rfl) | (obtain ⟨_, _, rfl, _⟩ := h; rfl) | (obtain ⟨_, _, _, rfl, _⟩ := h; rfl) | (obtain ⟨_, _, _, _, rfl, _⟩ := h; rfl) | (obtain ⟨_, _, _, _, _, rfl, _⟩ := h; rfl) | (obtain ⟨_, _, _, _, _, _, rfl, _⟩ := h; rfl) | (obtain ⟨_, _, _, _, _, _, _, rfl, _⟩ := h; rfl) | (obtain ⟨_, _, _, _, _, _, _, _, rfl, _⟩ := h; rfl) | (obtain ⟨_, _, _, _, _, _, _, _, _, rfl, _⟩ := h; rfl) | (obtain ⟨_, _, _, _, _, _, _, _, _, _, rfl, _⟩ := h; rfl) | (obtain ⟨_, _, _, _, _, _, _, _, _, _, _, rfl, _⟩ := h; rfl) | (obtain ⟨_, _, _, _, _, _, _, _, _, _, _, _, rfl, _⟩ := h; rfl) | (obtain ⟨_, _, _, _, _, _, _, _, _, _, _, _, _, rfl, _⟩ := h; rfl)) fun cdv A' outer s H E hr => ⟨_, PSs.nox (pss_cons (ps_set (i := 2) sc_subsets.nd rfl (Or.inl rfl) (pe_lst (pa_cons (pe_tup pa_nil) pa_nil)))
      (pss_cons (ps_for PassesOwn.never rfl (pi_range1 (by rfl) T.b_range (pa_cons (pv 1) pa_nil)) (pg_name (i := 3) sc_subsets.nd rfl (Or.inl rfl)) (pss_one (ps_setLc2 (i := 2) (own := [("some", 4), ("seat", 5)]) (vs1 := [5]) rfl sc_subsets.nd rfl rfl (sw_true rfl rfl rfl (by decide +kernel)) (pi_listK K (pv 2)) (blkOk_by (N := N_subsets) (sc := defScope s_subsets) (by decide +kernel)) (by decide) (fun _ _ _ _ _ => (pg_name (i := 4) sc_subsets.nd rfl (by first | exact Or.inl rfl | exact Or.inr rfl))) (fun _ _ _ _ _ => pts_nil) (fun _ _ _ _ _ => (pi_listK K (pv 0))) (fun _ _ _ _ _ => (pg_name (i := 5) sc_subsets.nd rfl (by first | exact Or.inl rfl | exact Or.inr rfl))) (fun _ _ _ _ _ => (pts_one (PW.pt (pw_or (pt_cmpR (op_eqDK K hr.units) (pv 4) (pe_tup pa_nil) (nomark _)) (pw_or1 (pt_cmpR op_gt (pv 5) (pe_ix (ix_tupK K) (pv 4) (pe_un un_neg pe_int) (fun _ _ => rfl)) (nomark _))))))) (fun _ _ _ _ _ => (pe_op (op_catAK K) (pv 4) (pe_tup (pa_cons (pv 5) pa_nil)))))))
      (pss_one (ps_ret (pv 2))))), fun ds O Post hR => ?_⟩
  obtain ⟨ss, k, rfl, ha, hl, hk, hp⟩ := hR
  walk_at "go"
  refine sd_seq (sd_asg (d := .lst ((chs 0 ss).map encTu)) (O1 := O) (Ev.is (d := .lst [.tup []]) (by walk_at "ev") (by rw [chs]; rfl)) ?_)
  walk_at "sl"
  refine sd_seq (sd_for (ei_rngN (j := (k : Int)) (by walk_at "ea") (by omega)) (fun i δ' O' => O' = O ∧ ∃ c3, δ' = [some (.lst (ss.map .int)), some (.int (k : Int)), some (.lst ((chs i ss).map encTu)), c3, none, none]) ⟨rfl, _, rfl⟩ (fun i d δ' O' hd hI => ?_) (fun δ' O' hI => ?_))
  · obtain ⟨hO', c3, rfl⟩ := hI
    rw [hO']
    refine gd_name ?_
    walk_at "sl"
    refine sd_asg (d := .lst ((chs (i + 1) ss).map encTu)) (O1 := O) (Ev.is (d := .lst ((chs i ss).flatMap fun c => ((ss.filter (aft c)).map fun s => encTu (c ++ [s])))) ?_ ?_) ⟨rfl, _, rfl⟩
    · refine ev_lc2 (items := (chs i ss).map encTu) (ei_list (ev_var rfl)) (cp2_map (chs i ss) encTu (fun c => (ss.filter (aft c)).map fun s => encTu (c ++ [s])) (fun c => [some (.lst (ss.map .int)), some (.int (k : Int)), some (.lst ((chs i ss).map encTu)), some d, some (encTu c), none]) (fun _ => ss.map D.int) fun c hc => ⟨gc_name (by decide), ei_list (ev_var rfl), ?_⟩) ?_
      · refine cp_filter ss D.int (fun s => encTu (c ++ [s])) (fun s => [some (.lst (ss.map .int)), some (.int (k : Int)), some (.lst ((chs i ss).map encTu)), some d, some (encTu c), some (.int s)]) (aft c) fun s hs => ⟨gc_name (by decide), ?_, fun _ => ?_⟩
        · refine EvT.is ?_ (aft_test c s)
          refine et_or (O1 := O) (et_test (ev_op (ev_var rfl) (by walk_at "ev") (r_eqP (Pl.ints c) Pl.nilT (by decide) (by decide)))) fun hne => ?_
          have hc0 : c ≠ [] := fun z => by rw [z] at hne; cases hne
          cases q : c.getLast? with
          | none => exact absurd (List.getLast?_eq_none_iff.mp q) hc0
          | some x =>
            refine et_test (ev_op (ev_var rfl) (ev_op (x := .tup (c.map .int)) (y := .int (-1)) (ev_var rfl) (by walk_at "ev") (r_ixT (d := .int x) (atI_lastI q))) (by walk_at "rr"))
        · refine Ev.is (d := .tup (c.map .int ++ [.int s])) (ev_op (x := .tup (c.map .int)) (ev_var rfl) (ev_tup (ea_cons (ev_var rfl) ea_nil) (by simp)) (r_catA ?_)) (by rw [encC_def, List.map_append]; rfl)
          have := (chs_mem.mp hc).1.length_le
          simp
          omega
      · have h1 : ((chs i ss).flatMap fun c => ((ss.filter (aft c)).map fun s => encTu (c ++ [s]))).length = (chs (i + 1) ss).length := by
          rw [← chs_step i ha]
          simp [List.length_flatMap]
        rw [h1]
        have := ch_sz (k := i + 1) hl
        rw [sizeLine_eq]
        omega
    · rw [← chs_step i ha, List.map_flatMap]
      congr 1
      refine flatMap_eq fun c _ => ?_
      rw [List.map_map]; rfl
  · obtain ⟨hO', c3, rfl⟩ := hI
    rw [hO', List.length_map, List.length_range, Int.toNat_natCast]
    exact sd_ret (O1 := O) (ev_var rfl) hp
/-! most_groups -/
theorem enum_sts (cs : List Int) : enumD (cs.map D.int) = (sts cs.length).map fun s => .tup [.int s, .int (gvL cs s)] := by
  refine List.ext_getElem? fun i => ?_
  rw [enumD_get, List.getElem?_map, List.getElem?_map]
  unfold sts
  rw [List.getElem?_map]
  by_cases h : i < cs.length
  · rw [List.getElem?_range h, List.getElem?_eq_getElem h]
    simp [gvL, List.getD_eq_getElem?_getD, List.getElem?_eq_getElem h]
  · rw [List.getElem?_eq_none (by omega), List.getElem?_eq_none (by simp; omega)]; rfl
def FDg (cs : List Int) (done : List (List Int)) : List Int → Option D := fun c => if c ∈ done then some (encGs (bst (gvL cs) c.length c)) else none
theorem FDg_put (cs : List Int) (done : List (List Int)) (c : List Int) : (fun k' => if k' = c then some (encGs (bst (gvL cs) c.length c)) else FDg cs done k') = FDg cs (done ++ [c]) := by
  funext k
  unfold FDg
  by_cases h : k = c
  · subst h; simp
  · simp [h]
theorem bfd_snoc (f : Int → Int) (k : Nat) (c l : List Int) (s : Int) (fd : List (List Int)) : bfd f k c (l ++ [s]) fd = if (bfd f k c l fd).length ≤ (bst f k (c.filter fun o => decide (o ≠ s))).length then bst f k (c.filter fun o => decide (o ≠ s)) else bfd f k c l fd := by
  unfold bfd
  rw [List.foldl_append]; rfl
theorem gv_at {cs : List Int} {s : Int} (h : 0 ≤ s ∧ s < cs.length) : atI (cs.map D.int) s = some (.int (gvL cs s)) := by
  refine atI_of (k := s.toNat) (by omega) ?_
  rw [List.getElem?_map]
  unfold gvL
  rw [List.getD_eq_getElem?_getD, List.getElem?_eq_getElem (by omega)]; rfl
theorem encGs_len (gs : List (List Int)) : (gs.map fun g => D.lst (g.map .int)).length = gs.length := List.length_map ..
theorem ok_most_groups (T : Tx K mg A) : FnR P w K mg base (L2.CX P w) 2 A.f_most_groups (SpD K (R_mostg)) := by
  obtain ⟨fd, F, hb⟩ := T.F_most_groups
  refine fnD F sc_most_groups hb (fun ds O Post h => by first | (obtain ⟨rfl, _⟩ := h; rfl) | (obtain ⟨_, rfl, _⟩ := h; rfl) | (obtain ⟨_, _, rfl, _⟩ := h; rfl) | (obtain ⟨_, _, _, rfl, _⟩ := h; rfl) | (obtain ⟨_, _, _, _, rfl, _⟩ := h; rfl) | (obtain ⟨_, _, _, _, _, rfl, _⟩ := h; rfl) | (obtain ⟨_, _, _, _, _, _, rfl, _⟩ := h; rfl) | (obtain ⟨_, _, _, _, _, _, _, rfl, _⟩ := h; rfl) | (obtain ⟨_, _, _, _, _, _, _, _, rfl, _⟩ := h; rfl) | (obtain ⟨_, _, _, _, _, _, _, _, _, rfl, _⟩ := h; rfl) | (obtain ⟨_, _, _, _, _, _, _, _, _, _, rfl, _⟩ := h; rfl) | (obtain ⟨_, _, _, _, _, _, _, _, _, _, _, rfl, _⟩ := h; rfl) | (obtain ⟨_, _, _, _, _, _, _, _, _, _, _, _, rfl, _⟩ := h; rfl) | (obtain ⟨_, _, _, _, _, _, _, _, _, _, _, _, _, rfl, _⟩ := h; rfl)) fun cdv A' outer s H E hr => ⟨_, PSs.nox (pss_cons (ps_setLc (i := 1) (own := [("seat", 6), ("number", 9)]) rfl sc_most_groups.nd rfl rfl (sw_true rfl rfl rfl (by decide +kernel)) (pi_enumTK K T.b_enumerate (pa_cons (pv 0) pa_nil)) (blkOk_by (N := N_most_groups) (sc := defScope s_most_groups) (by decide +kernel)) (fun _ _ _ _ _ => (pg_tupK K (n := 2) rfl (pgs_cons (pg_name (i := 6) sc_most_groups.nd rfl (by first | exact Or.inl rfl | exact Or.inr rfl)) (pgs_cons (pg_name (i := 9) sc_most_groups.nd rfl (by first | exact Or.inl rfl | exact Or.inr rfl)) pgs_nil)))) (fun _ _ _ _ _ => (pts_one (pt_cmpR op_ne (pv 9) pe_int (nomark _)))) (fun _ _ _ _ _ => (pv 6)))
      (pss_cons (ps_set (i := 2) sc_most_groups.nd rfl (Or.inl rfl) (pe_dispT hr.un1 (pe_tup pa_nil) (pe_lst pa_nil)))
      (pss_cons (ps_for PassesOwn.never rfl (pi_range2 (by rfl) T.b_range (pa_cons pe_int (pa_cons (pe_op op_add (pe_callB (call_lenK K) (by rfl) T.b_len (by decide +kernel) (pa_cons (pv 1) pa_nil)) pe_int) pa_nil))) (pg_name (i := 3) sc_most_groups.nd rfl (Or.inl rfl)) (pss_one (ps_for PassesOwn.never rfl (pi_listK K (pe_run (ok_subsets T) (hr.mono (by decide)) T.k_subsets T.g_subsets passL (pa_cons (pv 1) (pa_cons (pv 3) pa_nil)))) (pg_name (i := 4) sc_most_groups.nd rfl (Or.inl rfl)) (pss_cons (ps_set (i := 5) sc_most_groups.nd rfl (Or.inl rfl) (pe_lst pa_nil))
      (pss_cons (ps_for PassesOwn.never rfl (pi_tupK K (pv 4)) (pg_name (i := 6) sc_most_groups.nd rfl (Or.inr rfl)) (pss_cons (ps_set (i := 7) sc_most_groups.nd rfl (Or.inl rfl) (pe_callTy (call_tupleK K) (by rfl) T.b_tuple (by decide +kernel) (pa_cons (pe_lc (own := [("other", 10)]) rfl sc_most_groups.nd (pi_tupK K (pv 4)) (blkOk_by (N := N_most_groups) (sc := defScope s_most_groups) (by decide +kernel)) (fun _ _ _ _ _ => (pg_name (i := 10) sc_most_groups.nd rfl (by first | exact Or.inl rfl | exact Or.inr rfl))) (fun _ _ _ _ _ => (pts_one (pt_cmpR op_ne (pv 10) (pv 6) (nomark _)))) (fun _ _ _ _ _ => (pv 10))) pa_nil)))
      (pss_one (ps_if (pt_cmpR op_ge (pe_callB (call_lenK K) (by rfl) T.b_len (by decide +kernel) (pa_cons (pe_dget hr.un1 (pv 2) (pv 7) (fun _ _ => rfl)) pa_nil)) (pe_callB (call_lenK K) (by rfl) T.b_len (by decide +kernel) (pa_cons (pv 5) pa_nil)) (nomark _)) (pss_one (ps_set (i := 5) sc_most_groups.nd rfl (Or.inl rfl) (pe_dget hr.un1 (pv 2) (pv 7) (fun _ _ => rfl)))) pss_nil))))
      (pss_cons (ps_if (pt_cmpR op_eq (pe_callB (cr_sumK K rfl) (by rfl) T.b_sum (by decide +kernel) (pa_cons (pe_lc (own := [("seat", 6)]) rfl sc_most_groups.nd (pi_tupK K (pv 4)) (blkOk_by (N := N_most_groups) (sc := defScope s_most_groups) (by decide +kernel)) (fun _ _ _ _ _ => (pg_name (i := 6) sc_most_groups.nd rfl (by first | exact Or.inl rfl | exact Or.inr rfl))) (fun _ _ _ _ _ => pts_nil) (fun _ _ _ _ _ => (pe_ix (ix_tupK K) (pv 0) (pv 6) (fun _ _ => rfl)))) pa_nil)) pe_int (nomark _)) (pss_cons (ps_set (i := 8) sc_most_groups.nd rfl (Or.inr rfl) (pe_lc2 (own := [("group", 11), ("seat", 6)]) (vs1 := [6]) rfl sc_most_groups.nd (pi_listK K (pv 5)) (blkOk_by (N := N_most_groups) (sc := defScope s_most_groups) (by decide +kernel)) (by decide) (fun _ _ _ _ _ => (pg_name (i := 11) sc_most_groups.nd rfl (by first | exact Or.inl rfl | exact Or.inr rfl))) (fun _ _ _ _ _ => pts_nil) (fun _ _ _ _ _ => (pi_listK K (pv 11))) (fun _ _ _ _ _ => (pg_name (i := 6) sc_most_groups.nd rfl (by first | exact Or.inl rfl | exact Or.inr rfl))) (fun _ _ _ _ _ => pts_nil) (fun _ _ _ _ _ => (pv 6))))
      (pss_one (ps_set (i := 5) sc_most_groups.nd rfl (Or.inl rfl) (pe_op op_cat (pv 5) (pe_lst (pa_cons (pe_lc (own := [("seat", 6)]) rfl sc_most_groups.nd (pi_tupK K (pv 4)) (blkOk_by (N := N_most_groups) (sc := defScope s_most_groups) (by decide +kernel)) (fun _ _ _ _ _ => (pg_name (i := 6) sc_most_groups.nd rfl (by first | exact Or.inl rfl | exact Or.inr rfl))) (fun _ _ _ _ _ => (pts_one (pt_cmpR (op_notInK K) (pv 6) (pv 8) (by rfl)))) (fun _ _ _ _ _ => (pv 6))) pa_nil)))))) pss_nil)
      (pss_one (ps_dput hr.un1 (pv 2) (pv 4) (pv 5) (by rfl)))))))))
      (pss_one (ps_ret (pe_dget hr.un1 (pv 2) (pe_callTy (call_tupleK K) (by rfl) T.b_tuple (by decide +kernel) (pa_cons (pv 1) pa_nil)) (fun _ _ => rfl))))))), fun ds O Post hR => ?_⟩
  obtain ⟨cs, rfl, hl, hp⟩ := hR
  obtain ⟨ss, hss⟩ : ∃ ss, ss = seatsC cs := ⟨_, rfl⟩
  have hasc := seatsC_asc cs
  have hmem : ∀ s ∈ ss, 0 ≤ s ∧ s < cs.length := fun s hs => by rw [hss] at hs; exact (seatsC_mem.mp hs).1
  have hsl : ss.length ≤ 8 := by rw [hss]; exact Nat.le_trans (seatsC_len cs) hl
  have hp' : Post (encGs (bst (gvL cs) ss.length ss)) O := by rw [hss]; exact hp
  rw [← hss] at hasc
  walk_at "go"
  refine sd_seq (sd_asg (d := .lst (ss.map D.int)) (O1 := O) ?_ ?_)
  · rw [hss]
    unfold seatsC
    refine ev_lc (items := (sts cs.length).map fun s => .tup [.int s, .int (gvL cs s)]) (O1 := O) ?_ (cp_filter (sts cs.length) (fun s => .tup [.int s, .int (gvL cs s)]) D.int (fun s => [some (.tup (cs.map .int)), none, none, none, none, none, some (.int s), none, none, some (.int (gvL cs s)), none, none]) _ fun s hs => ⟨gc_tup2 (by decide) (by decide), ?_, fun _ => ev_var rfl⟩) (by simp [sts]; omega)
    · rw [← enum_sts]
      exact ei_enumT (by walk_at "ea")
    · exact EvT.is (b := !(gvL cs s == 0)) (by walk_at "et") (by by_cases h : gvL cs s = 0 <;> simp [h])
  walk_at "sl"
  refine sd_seq (sd_asgP (evp_dispF (ks := []) (d := .lst []) (fun p hp => ev_tup ea_nil (by simp)) (fun p hp => ev_lst ea_nil (by simp)) fun p hpn => ?_))
  walk_at "sl"
  have hF0 : (fun k => if k = [] then some (D.lst []) else none) = FDg cs [[]] := by
    funext k
    unfold FDg
    by_cases h : k = []
    · subst h; rfl
    · simp [h]
  rw [hF0]
  have el : ((ss.map D.int).length : Int) = (ss.length : Int) := by simp
  refine sd_seq (sd_for (O1 := setO O p (dicF K 1 (FDg cs [[]]))) (ei_rng2 (i := 1) (j := (ss.length : Int) + 1) (ea_cons ev_int (ea_cons (Ev.is (d := .int (((ss.map D.int).length : Int) + 1)) (by walk_at "ev") (by rw [el])) ea_nil)) (by omega) (by omega)) (fun i δ' O' => ∃ N done c3 c4 c5 c6 c7 c8, N ≤ 1 + i * 256 ∧ (∀ c : List Int, c.Sublist ss → c.length ≤ i → c ∈ done) ∧ O' = setO O p (dicF K N (FDg cs done)) ∧ δ' = [some (.tup (cs.map .int)), some (.lst (ss.map D.int)), some (.ref p), c3, c4, c5, c6, c7, c8, none, none, none]) ⟨1, [[]], _, _, _, _, _, _, by omega, fun c _ hc => ?_, rfl, rfl⟩ (fun i d δ' O' hd hI => ?_) (fun δ' O' hI => ?_))
  · rw [List.eq_nil_of_length_eq_zero (Nat.le_zero.mp hc)]; exact List.mem_singleton.mpr rfl
  · obtain ⟨N, done, c3, c4, c5, c6, c7, c8, hN, hdone, rfl, rfl⟩ := hI
    have hi8 : i < ss.length := by
      have := (List.getElem?_eq_some_iff.mp hd).1
      unfold rng at this
      rw [List.length_map, List.length_range] at this
      omega
    have hd1 : d = .int ((i + 1 : Nat) : Int) := by
      unfold rng at hd
      rw [List.getElem?_map, List.getElem?_range (by omega)] at hd
      have := (Option.some.inj hd).symm
      rw [this]
      exact congrArg D.int (by omega)
    subst hd1
    refine gd_name ?_
    walk_at "sl"
    refine sd_for (O1 := setO O p (dicF K N (FDg cs done))) (items := (chs (i + 1) ss).map encTu) (ei_list (ev_run (ds := [.lst (ss.map .int), .int ((i + 1 : Nat) : Int)]) (by walk_at "ea") ⟨ss, i + 1, rfl, hasc, hsl, by omega, rfl, rfl⟩)) (fun j δ' O' => ∃ N done c4 c5 c6 c7 c8, N ≤ 1 + i * 256 + j ∧ (∀ c : List Int, c.Sublist ss → c.length ≤ i → c ∈ done) ∧ (∀ c ∈ (chs (i + 1) ss).take j, c ∈ done) ∧ O' = setO O p (dicF K N (FDg cs done)) ∧ δ' = [some (.tup (cs.map .int)), some (.lst (ss.map D.int)), some (.ref p), some (.int ((i + 1 : Nat) : Int)), c4, c5, c6, c7, c8, none, none, none]) ⟨N, done, _, _, _, _, _, by omega, hdone, (fun c hc => by rw [List.take_zero] at hc; cases hc), rfl, rfl⟩ (fun j d2 δ' O' hd2 hI => ?_) (fun δ' O' hI => ?_)
    · obtain ⟨N, done, c4, c5, c6, c7, c8, hN, hdone, hdn2, rfl, rfl⟩ := hI
      rw [List.getElem?_map] at hd2
      cases qc : (chs (i + 1) ss)[j]? with
      | none => rw [qc] at hd2; cases hd2
      | some c =>
        rw [qc] at hd2; cases hd2
        have hj : j < (chs (i + 1) ss).length := (List.getElem?_eq_some_iff.mp qc).1
        have hj2 := ch_sz (k := i + 1) hsl
        obtain ⟨hsub, hlen⟩ := chs_mem.mp (List.mem_of_getElem? qc)
        have hcn : c.Nodup := asc_nd (hasc.sublist hsub)
        have hcm : ∀ s ∈ c, 0 ≤ s ∧ s < cs.length := fun s hs => hmem s (hsub.subset hs)
        have hZ : ∀ {M : MO}, setO O p M p = some M := setO_same
        show Gd K _ (encTu c) _ _ _
        refine gd_name ?_
        walk_at "sl"
        refine sd_seq (sd_asg (d := .lst []) (O1 := setO O p (dicF K N (FDg cs done))) (by walk_at "ev") ?_)
        walk_at "sl"
        refine sd_seq (sd_for (O1 := setO O p (dicF K N (FDg cs done))) (items := c.map D.int) (ei_tup (ev_var rfl)) (fun t δ' O' => O' = setO O p (dicF K N (FDg cs done)) ∧ ∃ c6 c7, δ' = [some (.tup (cs.map .int)), some (.lst (ss.map D.int)), some (.ref p), some (.int ((i + 1 : Nat) : Int)), some (encTu c), some (encGs (bfd (gvL cs) i c (c.take t) [])), c6, c7, c8, none, none, none]) ⟨rfl, _, _, by rw [List.take_zero]; rfl⟩ (fun t d3 δ' O' hd3 hI => ?_) (fun δ' O' hI => ?_))
        · obtain ⟨rfl, c6, c7, rfl⟩ := hI
          rw [List.getElem?_map] at hd3
          cases qs : c[t]? with
          | none => rw [qs] at hd3; cases hd3
          | some s =>
            rw [qs] at hd3; cases hd3
            have hsm : s ∈ c := List.mem_of_getElem? qs
            have hrl : (c.filter fun o => decide (o ≠ s)).length = i := by have := rm_len hcn hsm; omega
            have hrd : (c.filter fun o => decide (o ≠ s)) ∈ done := hdone _ ((List.filter_sublist ..).trans hsub) (by omega)
            have hFr : FDg cs done (c.filter fun o => decide (o ≠ s)) = some (encGs (bst (gvL cs) i (c.filter fun o => decide (o ≠ s)))) := by unfold FDg; rw [if_pos hrd, hrl]
            have hfilt : (c.filter fun o => !(o == s)) = c.filter fun o => decide (o ≠ s) := List.filter_congr fun o _ => by by_cases h : o = s <;> simp [h]
            refine gd_name ?_
            walk_at "sl"
            refine sd_seq (sd_asg (d := encTu (c.filter fun o => decide (o ≠ s))) (O1 := setO O p (dicF K N (FDg cs done))) (ev_cb (ea_cons (d := .lst ((c.filter fun o => decide (o ≠ s)).map D.int)) ?_ ea_nil) c_tupL) ?_)
            · rw [← hfilt]
              exact ev_lc (items := c.map D.int) (ei_tup (ev_var rfl)) (cp_filter c D.int D.int (fun o => [some (.tup (cs.map .int)), some (.lst (ss.map D.int)), some (.ref p), some (.int ((i + 1 : Nat) : Int)), some (encTu c), some (encGs (bfd (gvL cs) i c (c.take t) [])), some (.int s), c7, c8, none, some (.int o), none]) _ fun o ho => ⟨gc_name (by decide), by walk_at "et", fun _ => ev_var rfl⟩) (by rw [List.length_map]; omega)
            walk_at "sl"
            have etk : c.take (t + 1) = c.take t ++ [s] := by rw [List.take_add_one, qs]; rfl
            have hstep := bfd_snoc (gvL cs) i c (c.take t) s []
            rw [← etk] at hstep
            have hget : ∀ {δ : Sl}, δ[2]? = some (some (.ref p)) → δ[7]? = some (some (encTu (c.filter fun o => decide (o ≠ s)))) → Ev K (tDGet (tVar 2) (tVar 7)) δ (setO O p (dicF K N (FDg cs done))) (encGs (bst (gvL cs) i (c.filter fun o => decide (o ≠ s)))) (setO O p (dicF K N (FDg cs done))) := fun h2 h7 => ev_dgetF (ks := c.filter fun o => decide (o ≠ s)) (ev_var h2) (ev_var h7) setO_same hFr
            generalize hB : bst (gvL cs) i (c.filter fun o => decide (o ≠ s)) = B at *
            generalize hC : bfd (gvL cs) i c (c.take t) [] = C at *
            refine sd_if (O1 := setO O p (dicF K N (FDg cs done))) (b := decide (((B.map fun g => D.lst (g.map .int)).length : Int) ≥ ((C.map fun g => D.lst (g.map .int)).length : Int))) (et_test (ev_op (ev_cb (ea_cons (d := .lst (B.map fun g => D.lst (g.map .int))) (hget rfl rfl) ea_nil) c_lenL) (ev_cb (ea_cons (d := .lst (C.map fun g => D.lst (g.map .int))) (ev_var rfl) ea_nil) c_lenL) (by walk_at "rr"))) (fun e => ?_) (fun e => sd_next ?_)
            · have e : C.length ≤ B.length := by simpa using e
              rw [if_pos e] at hstep
              refine sd_asg (d := encGs B) (O1 := setO O p (dicF K N (FDg cs done))) (hget rfl rfl) ?_
              dsimp only
              rw [hstep]
              exact ⟨rfl, _, _, rfl⟩
            · have e : ¬ C.length ≤ B.length := by simpa using e
              rw [if_neg e] at hstep
              dsimp only
              rw [hstep]
              exact ⟨rfl, _, _, rfl⟩
        · obtain ⟨rfl, c6, c7, rfl⟩ := hI
          rw [List.length_map, List.take_of_length_le (Nat.le_refl _)]
          have hsucc := bst_succ (gvL cs) i c
          have hflen : (bfd (gvL cs) i c c []).flatten.length ≤ 50000 ∧ (bfd (gvL cs) i c c []).length ≤ 8 := by
            have hc0 : c ≠ [] := fun z => by rw [z] at hlen; cases hlen
            obtain ⟨s0, hs0, e0⟩ := bfd_from (gvL cs) i hc0
            rw [e0]
            have hrl : (c.filter fun o => decide (o ≠ s0)).length = i := by have := rm_len hcn hs0; omega
            obtain ⟨ok, _⟩ := bst_ok (gvL cs) i (c.filter fun o => decide (o ≠ s0)) hrl (hcn.filter _)
            obtain ⟨g1, g2⟩ := gr_len ok.sub ok.apart
            have := g2 ok.some
            omega
          generalize hFd : bfd (gvL cs) i c c [] = fd at *
          refine sd_seq (sd_weak (P' := ⟨fun δ' O' => O' = setO O p (dicF K N (FDg cs done)) ∧ ∃ c6 c8, δ' = [some (.tup (cs.map .int)), some (.lst (ss.map D.int)), some (.ref p), some (.int ((i + 1 : Nat) : Int)), some (encTu c), some (encGs (bst (gvL cs) (i + 1) c)), c6, c7, c8, none, none, none], fun _ _ => False, fun _ _ => False, fun _ _ => False⟩) ?_ (fun δ' O' hN => ?_) (fun _ _ z => z.elim) (fun _ _ z => z.elim) (fun _ _ z => z.elim))
          · refine sd_if (O1 := setO O p (dicF K N (FDg cs done))) (b := (c.map (gvL cs)).sum == 0) (et_test (ev_op (x := .int (c.map (gvL cs)).sum) (ev_cb (ea_cons (d := .lst ((c.map (gvL cs)).map D.int)) ?_ ea_nil) c_sum) ev_int (by walk_at "rr"))) (fun e => ?_) (fun e => sd_next ?_)
            · rw [List.map_map]
              exact ev_lc (items := c.map D.int) (ei_tup (ev_var rfl)) (cp_map c D.int (fun s => D.int (gvL cs s)) (fun s => [some (.tup (cs.map .int)), some (.lst (ss.map D.int)), some (.ref p), some (.int ((i + 1 : Nat) : Int)), some (encTu c), some (encGs fd), some (.int s), c7, c8, none, none, none]) fun s hs => ⟨gc_name (by decide), et_yes, ev_op (ev_var rfl) (ev_var rfl) (r_ixT (gv_at (hcm s hs)))⟩) (by rw [List.length_map]; omega)
            · have e : (c.map (gvL cs)).sum = 0 := by simpa using e
              rw [if_pos e] at hsucc
              refine sd_seq (sd_asg (d := .lst (fd.flatten.map D.int)) (O1 := setO O p (dicF K N (FDg cs done))) (Ev.is (d := .lst (fd.flatMap fun g => g.map D.int)) (ev_lc2 (items := fd.map fun g => D.lst (g.map .int)) (ei_list (ev_var rfl)) (cp2_map fd (fun g => D.lst (g.map .int)) (fun g => g.map D.int) (fun g => [some (.tup (cs.map .int)), some (.lst (ss.map D.int)), some (.ref p), some (.int ((i + 1 : Nat) : Int)), some (encTu c), some (encGs fd), none, c7, c8, none, none, some (.lst (g.map .int))]) (fun g => g.map D.int) fun g hg => ⟨gc_name (by decide), ei_list (ev_var rfl), cp_map g D.int D.int (fun s => [some (.tup (cs.map .int)), some (.lst (ss.map D.int)), some (.ref p), some (.int ((i + 1 : Nat) : Int)), some (encTu c), some (encGs fd), some (.int s), c7, c8, none, none, some (.lst (g.map .int))]) fun s hs => ⟨gc_name (by decide), et_yes, ev_var rfl⟩⟩) ?_) ?_) ?_)
              · rw [flatMap_ints, List.length_map, sizeLine_eq]; omega
              · rw [flatMap_ints]
              walk_at "sl"
              have hf : (fd.flatten.map D.int).all flatD = true := flat_ints _
              refine sd_asg (d := encGs (bst (gvL cs) (i + 1) c)) (O1 := setO O p (dicF K N (FDg cs done))) (Ev.is (d := .lst ((fd.map fun g => D.lst (g.map .int)) ++ [.lst ((c.filter fun s => !decide (s ∈ fd.flatten)).map D.int)])) (ev_op (ev_var rfl) (ev_lst (ea_cons (ev_lc (items := c.map D.int) (ei_tup (ev_var rfl)) (cp_filter c D.int D.int (fun s => [some (.tup (cs.map .int)), some (.lst (ss.map D.int)), some (.ref p), some (.int ((i + 1 : Nat) : Int)), some (encTu c), some (encGs fd), some (.int s), c7, some (.lst (fd.flatten.map D.int)), none, none, none]) (fun s => !decide (s ∈ fd.flatten)) fun s hs => ⟨gc_name (by decide), EvT.is (b := !inD (.int s) (fd.flatten.map D.int)) (et_test (ev_op (ev_var rfl) (ev_var rfl) (r_inL1 rfl hf))) (by rw [inD_int]), fun _ => ev_var rfl⟩) (by rw [List.length_map]; omega)) ea_nil) (by simp)) (r_cat (by simp; omega))) ?_) ⟨rfl, _, _, rfl⟩
              rw [hsucc]; unfold encGs; rw [List.map_append]; rfl
            · have e : ¬ (c.map (gvL cs)).sum = 0 := by simpa using e
              rw [if_neg e] at hsucc
              dsimp only
              rw [hsucc]
              exact ⟨rfl, _, _, rfl⟩
          · obtain ⟨rfl, c6, c8, rfl⟩ := hN
            refine sd_dputF (ks := c) (d := encGs (bst (gvL cs) (i + 1) c)) (O1 := setO O p (dicF K N (FDg cs done))) (O3 := setO O p (dicF K N (FDg cs done))) (ev_var rfl) (ev_var rfl) (ev_var rfl) setO_same (by omega) ?_
            refine ⟨N + 1, done ++ [c], _, _, _, _, _, by omega, fun x h1 h2 => List.mem_append_left _ (hdone x h1 h2), fun x hx => ?_, ?_, rfl⟩
            · rw [List.take_add_one, qc] at hx
              rcases List.mem_append.mp hx with z | z
              · exact List.mem_append_left _ (hdn2 x z)
              · exact List.mem_append_right _ z
            · rw [setO_setO, ← FDg_put, hlen]
    · obtain ⟨N, done, c4, c5, c6, c7, c8, hN, hdone, hdn2, rfl, rfl⟩ := hI
      rw [List.length_map] at hN hdn2
      rw [List.take_of_length_le (Nat.le_refl _)] at hdn2
      have hj2 := ch_sz (k := i + 1) hsl
      refine ⟨N, done, _, _, _, _, _, _, by omega, fun c h1 h2 => ?_, rfl, rfl⟩
      by_cases e : c.length ≤ i
      · exact hdone c h1 e
      · exact hdn2 c (chs_mem.mpr ⟨h1, by omega⟩)
  · obtain ⟨N, done, c3, c4, c5, c6, c7, c8, hN, hdone, rfl, rfl⟩ := hI
    have hlast : ss ∈ done := hdone ss (List.Sublist.refl _) (by unfold rng; rw [List.length_map, List.length_range]; omega)
    refine sd_retD (O2 := O) (ev_dgetF (ks := ss) (d := encGs (bst (gvL cs) ss.length ss)) (n := N) (f := FDg cs done) (ev_var rfl) (ev_cb (ea_cons (ev_var rfl) ea_nil) c_tupL) setO_same (by unfold FDg; rw [if_pos hlast])) ((OSub.refl _).set hpn) hp'
end
end Law

set_option Elab.async false
set_option linter.all false
set_option maxRecDepth 100000
set_option maxHeartbeats 4000000
namespace Law
open PySem PySem.Spec L2 DL
open PyProof.Rows hiding St
local macro_rules | `(tactic| walk_at "sl") => `(tactic| try dsimp only [startD, List.map, List.length_cons, List.length_nil, List.replicate, List.cons_append, List.nil_append, List.set_cons_zero, List.set_cons_succ, Nat.reduceSub, Nat.reduceAdd, wipeD])
local macro_rules | `(tactic| walk_at "go") => `(tactic| ((try dsimp only [cxOf, Cx.nox, Cx.wish, Cx.blk]); walk_at "sl"; walk_at "sl"))
local macro_rules | `(tactic| walk_at "own") => `(tactic| first | assumption | exact setO_same | (rw [setO_ne (by first | assumption | exact Ne.symm (by assumption))]; assumption) | (rw [setO_ne (by first | assumption | exact Ne.symm (by assumption))]; exact setO_same))
local macro_rules | `(tactic| walk_at "side") => `(tactic| first
  | assumption | rfl | exact flat_ints _ | exact atI0 | exact atI1 | exact atI2 | exact atI3 | decide | omega | (simp; done)
  | (refine cmodp ?_; omega) | (refine cdivw ?_ ?_ <;> omega) | (refine cmul_l ?_ ?_ <;> omega) | (refine cmul_r ?_ ?_ <;> omega) | (refine cpow ?_ ?_ ?_ <;> decide))
local macro_rules | `(tactic| walk_at "rr") => `(tactic| first
  | with_reducible exact r_int | with_reducible exact r_bl | with_reducible exact r_eqI | with_reducible exact r_neI | with_reducible exact r_eqB | with_reducible exact r_neB | with_reducible exact r_eqS | with_reducible exact r_neS
  | ((with_reducible apply r_intC); walk_at "side")
  | ((with_reducible apply r_ixL); walk_at "side") | ((with_reducible apply r_ixT); walk_at "side") | ((with_reducible apply r_ixS); walk_at "side") | ((with_reducible apply r_ixO); (focus walk_at "own"); (focus walk_at "side"))
  | ((with_reducible apply r_inT0) <;> walk_at "side") | ((with_reducible apply r_inL0) <;> walk_at "side") | ((with_reducible apply r_inT1) <;> walk_at "side") | ((with_reducible apply r_inL1) <;> walk_at "side")
  | ((with_reducible apply r_inO0); (focus walk_at "own"); (focus walk_at "side"); (focus walk_at "side")) | ((with_reducible apply r_inO1); (focus walk_at "own"); (focus walk_at "side"); (focus walk_at "side"))
  | ((with_reducible apply r_rep) <;> walk_at "side") | ((with_reducible apply r_cat) <;> walk_at "side")
  | ((with_reducible apply r_catA) <;> walk_at "side") | ((with_reducible apply r_catO); (focus walk_at "own"); (focus walk_at "side"))
  | ((with_reducible apply r_addS); (focus walk_at "side")) | with_reducible exact r_isN _ rfl | with_reducible exact r_notN _ rfl
  | ((with_reducible apply r_eqP); (focus walk_at "pl"); (focus walk_at "pl"); (focus decide); (focus decide)) | ((with_reducible apply r_neP); (focus walk_at "pl"); (focus walk_at "pl"); (focus decide); (focus decide)))
local macro_rules | `(tactic| walk_at "pl") => `(tactic| first | exact Pl.ints _ | exact Pl.intsL _ | exact Pl.nilT | exact Pl.nilL | exact Pl.int (n := 0) | assumption)
local macro_rules | `(tactic| walk_at "cc") => `(tactic| first
  | with_reducible exact c_lenL | with_reducible exact c_lenT | with_reducible exact c_lenS | ((with_reducible apply c_lenO); walk_at "own")
  | with_reducible exact c_listL | with_reducible exact c_listT | with_reducible exact c_tupL | with_reducible exact c_sum | with_reducible exact c_intB | with_reducible exact c_int1
  | with_reducible exact c_max2 | ((with_reducible apply c_strI); (focus walk_at "side")) | ((with_reducible apply c_lenStr); (focus walk_at "side"))
  | ((with_reducible apply c_isi); (focus rfl); (focus (first | decide +kernel | rfl))) | ((with_reducible apply c_isi2); (focus rfl); (focus (first | decide +kernel | rfl)); (focus (first | decide +kernel | rfl))))
local macro_rules | `(tactic| walk_at "ea") => `(tactic| first
  | with_reducible exact ea_nil
  | ((with_reducible apply ea_cons); (focus walk_at "ev"); (focus walk_at "ea"))
  | ((with_reducible apply ea_starT); (focus walk_at "ev"); (focus walk_at "ea")) | ((with_reducible apply ea_starL); (focus walk_at "ev"); (focus walk_at "ea")))
local macro_rules | `(tactic| walk_at "ev") => `(tactic| first
  | exact ev_var rfl | with_reducible exact ev_int | with_reducible exact ev_bl | with_reducible exact ev_str | with_reducible exact ev_non | with_reducible exact ev_ty | with_reducible exact ev_ref
  | ((with_reducible apply ev_op); (focus walk_at "ev"); (focus walk_at "ev"); (focus walk_at "rr"))
  | ((with_reducible apply ev_cb); (focus walk_at "ea"); (focus walk_at "cc"))
  | ((with_reducible apply ev_neg); (focus walk_at "ev"))
  | ((with_reducible apply ev_tup); (focus walk_at "ea"); (focus walk_at "side"))
  | ((with_reducible apply ev_lst); (focus walk_at "ea"); (focus walk_at "side"))
  | ((with_reducible apply ev_notV); (focus walk_at "ev"))
  | ((with_reducible apply ev_chain); (focus walk_at "ev"); (focus walk_at "ev"); (focus walk_at "rr"); (focus (intro _; walk_at "ev")); (focus (intro _; walk_at "rr")))
  | walk_at "evx")
local macro_rules | `(tactic| walk_at "et") => `(tactic| first
  | ((with_reducible apply et_test); walk_at "ev") | ((with_reducible apply et_B); walk_at "ev") | with_reducible exact et_yes
  | ((with_reducible apply et_not); walk_at "et")
  | ((with_reducible apply et_and); (focus walk_at "et"); (focus (intro _; walk_at "et")))
  | ((with_reducible apply et_or); (focus walk_at "et"); (focus (intro _; walk_at "et"))))
local macro_rules | `(tactic| walk_at "s1") => `(tactic| first
  | ((with_reducible apply sd_asg); (focus walk_at "ev"); walk_at "sl")
  | ((with_reducible apply sd_par); (focus walk_at "ea"); walk_at "sl")
  | ((with_reducible apply sd_setL); (focus walk_at "ev"); (focus walk_at "ev"); (focus walk_at "ev"); (focus walk_at "own"); (focus (first | exact ixN_of (k := 0) rfl (by simp) | exact ixN_of (k := 1) rfl (by simp) | exact ixN_of (k := 2) rfl (by simp) | exact ixN_of (k := 3) rfl (by simp) | assumption)); walk_at "sl")
  | ((with_reducible apply sd_app); (focus walk_at "ev"); (focus walk_at "own"); (focus walk_at "ev"); (focus walk_at "own"); (focus walk_at "side"); walk_at "sl")
  | ((with_reducible apply sd_ret); (focus walk_at "ev"))
  | with_reducible apply sd_next)
local macro_rules | `(tactic| walk_at "st") => `(tactic| first | ((with_reducible apply sd_seq); walk_at "s1") | walk_at "s1")
local macro_rules | `(tactic| walk_at "R") => `(tactic| first
  | exact ⟨_, rfl, rfl, rfl⟩ | exact ⟨_, _, rfl, rfl, rfl⟩ | exact ⟨_, _, _, rfl, rfl, rfl⟩ | exact ⟨_, _, _, _, rfl, rfl, rfl⟩
  | exact ⟨_, rfl, by assumption, rfl, rfl⟩ | exact ⟨_, _, rfl, by assumption, rfl, rfl⟩ | exact ⟨_, _, _, rfl, by assumption, rfl, rfl⟩ | exact ⟨_, _, _, _, rfl, by assumption, rfl, rfl⟩
  | exact ⟨_, _, rfl, by assumption, by assumption, rfl, rfl⟩ | exact ⟨_, _, _, rfl, by assumption, by assumption, rfl, rfl⟩ | exact ⟨_, _, _, _, rfl, by assumption, by assumption, rfl, rfl⟩)
local macro_rules | `(tactic| walk_at "evx") => `(tactic| first
  | ((with_reducible apply ev_run); (focus walk_at "ea"); walk_at "R")
  | ((with_reducible apply ev_propR); (focus walk_at "ev"); walk_at "R")
  | ((with_reducible apply ev_fld); (focus walk_at "ev"); (focus walk_at "cls"); (focus walk_at "cls"); (focus rfl))
  | ((with_reducible apply ev_ownIn0); (focus walk_at "ev"); (focus walk_at "ev"); walk_at "R")
  | ((with_reducible apply ev_slL); (focus walk_at "ev"); (focus walk_at "eo"); (focus walk_at "eo"))
  | ((with_reducible apply ev_slT); (focus walk_at "ev"); (focus walk_at "eo"); (focus walk_at "eo"))
  | ((with_reducible apply ev_cvalI); (focus walk_at "ev"); (focus walk_at "cls"); (focus walk_at "cls")))
local macro_rules | `(tactic| walk_at "eo") => `(tactic| first | with_reducible exact eo_none | ((with_reducible apply eo_some); walk_at "ev"))
local macro_rules | `(tactic| walk_at "cls") => `(tactic| first
  | with_reducible exact (by assumption : Tx _ _ _).cl_Shares
  | with_reducible exact (by assumption : Tx _ _ _).na_Shares_amounts
  | with_reducible exact (by assumption : Tx _ _ _).cl_Bill
  | with_reducible exact (by assumption : Tx _ _ _).na_Bill_total
  | with_reducible exact (by assumption : Tx _ _ _).na_Bill_there
  | with_reducible exact (by assumption : Tx _ _ _).cr_Bill
  | with_reducible exact (by assumption : Tx _ _ _).cv_Bill_MAX_SEATS)
section
variable {P : Program} {w : World} {K : PySem.W.Frag} {mg : Str → Option Value} {base : Heap} {A : Ad}
theorem ok_validate_balance (T : Tx K mg A) : FnR P w K mg base (L2.CX P w) 3 A.f_validate_balance (SpD K (R_vbal A)) := by
  obtain ⟨fd, F, hb⟩ := T.F_validate_balance
  refine fnD F sc_validate_balance hb (fun ds O Post h => by first | (obtain ⟨rfl, _⟩ := h; rfl) | (obtain ⟨_, rfl, _⟩ := h; rfl) | (obtain ⟨_, _, rfl, _⟩ := h; rfl) | (obtain ⟨_, _, _, rfl, _⟩ := h; rfl) | (obtain ⟨_, _, _, _, rfl, _⟩ := h; rfl) | (obtain ⟨_, _, _, _, _, rfl, _⟩ := h; rfl) | (obtain ⟨_, _, _, _, _, _, rfl, _⟩ := h; rfl) | (obtain ⟨_, _, _, _, _, _, _, rfl, _⟩ := h; rfl) | (obtain ⟨_, _, _, _, _, _, _, _, rfl, _⟩ := h; rfl) | (obtain ⟨_, _, _, _, _, _, _, _, _, rfl, _⟩ := h; rfl) | (obtain ⟨_, _, _, _, _, _, _, _, _, _, rfl, _⟩ := h; rfl) | (obtain ⟨_, _, _, _, _, _, _, _, _, _, _, rfl, _⟩ := h; rfl) | (obtain ⟨_, _, _, _, _, _, _, _, _, _, _, _, rfl, _⟩ := h; rfl) | (obtain ⟨_, _, _, _, _, _, _, _, _, _, _, _, _, rfl, _⟩ := h; rfl)) fun cdv A' outer s H E hr => ⟨_, PSs.nox (pss_cons (ps_if (pt_cmpR op_gt (pe_callB (call_lenOwn T.d_Shares_Dlen T.df_Shares_Dlen (ok_Shares_Dlen T) (hr.mono (by decide)) passL) (by rfl) T.b_len (by decide +kernel) (pa_cons (pv 0) pa_nil)) (pe_cvalK K (pe_glob (v := .ref A.c_Bill) rfl T.g_Bill rfl)) (nomark _)) (pss_one ps_never) pss_nil)
      (pss_one (ps_if (pt_cmpR op_ne (pe_callB (cr_sumK K rfl) (by rfl) T.b_sum (by decide +kernel) (pa_cons (pe_callTy (call_listK K) (by rfl) T.b_list (by decide +kernel) (pa_cons (pe_propR (pv 0) T.cl_Shares T.p_Shares_cents (ok_Shares_cents T) (hr.mono (by decide)) (fun _ _ _ _ z => cx0 z)) pa_nil)) pa_nil)) pe_int (nomark _)) (pss_one ps_never) pss_nil))), fun ds O Post hR => ?_⟩
  obtain ⟨cs, rfl, hl, hz, hp⟩ := hR
  walk_at "go"
  refine sd_seq (sd_ifF (O1 := O) (EvT.is (b := decide ((cs.length : Int) > 8)) (et_test (ev_op (ev_cb (ea_cons (d := encS A cs) (ev_var rfl) ea_nil) (c_lenOwn (n := (cs.length : Int)) ⟨by omega, by omega⟩ ⟨cs, rfl, rfl, rfl⟩)) (by walk_at "ev") (by walk_at "rr"))) (by simp; omega)) (sd_next ?_))
  refine sd_ifF (O1 := O) (EvT.is (b := !(cs.sum == 0)) (et_test (ev_op (ev_cb (ea_cons (ev_cb (ea_cons (ev_propR (C := A.c_Shares) (nm := ["amounts"]) (ds := [.tup (cs.map .int)]) (ev_var rfl) ⟨cs, rfl, rfl, rfl⟩) ea_nil) c_listT) ea_nil) c_sum) ev_int (by walk_at "rr"))) (by rw [hz]; rfl)) (sd_next hp)
theorem ok_fewest_payments (T : Tx K mg A) : FnR P w K mg base (L2.CX P w) 4 A.f_fewest_payments (SpD K (R_few A)) := by
  obtain ⟨fd, F, hb⟩ := T.F_fewest_payments
  refine fnD F sc_fewest_payments hb (fun ds O Post h => by first | (obtain ⟨rfl, _⟩ := h; rfl) | (obtain ⟨_, rfl, _⟩ := h; rfl) | (obtain ⟨_, _, rfl, _⟩ := h; rfl) | (obtain ⟨_, _, _, rfl, _⟩ := h; rfl) | (obtain ⟨_, _, _, _, rfl, _⟩ := h; rfl) | (obtain ⟨_, _, _, _, _, rfl, _⟩ := h; rfl) | (obtain ⟨_, _, _, _, _, _, rfl, _⟩ := h; rfl) | (obtain ⟨_, _, _, _, _, _, _, rfl, _⟩ := h; rfl) | (obtain ⟨_, _, _, _, _, _, _, _, rfl, _⟩ := h; rfl) | (obtain ⟨_, _, _, _, _, _, _, _, _, rfl, _⟩ := h; rfl) | (obtain ⟨_, _, _, _, _, _, _, _, _, _, rfl, _⟩ := h; rfl) | (obtain ⟨_, _, _, _, _, _, _, _, _, _, _, rfl, _⟩ := h; rfl) | (obtain ⟨_, _, _, _, _, _, _, _, _, _, _, _, rfl, _⟩ := h; rfl) | (obtain ⟨_, _, _, _, _, _, _, _, _, _, _, _, _, rfl, _⟩ := h; rfl)) fun cdv A' outer s H E hr => ⟨_, PSs.nox (pss_cons (ps_expr (pe_run (ok_validate_balance T) (hr.mono (by decide)) T.k_validate_balance T.g_validate_balance passL (pa_cons (pv 0) pa_nil)))
      (pss_cons (ps_set (i := 1) sc_fewest_payments.nd rfl (Or.inl rfl) (pe_run (ok_most_groups T) (hr.mono (by decide)) T.k_most_groups T.g_most_groups passL (pa_cons (pe_propR (pv 0) T.cl_Shares T.p_Shares_cents (ok_Shares_cents T) (hr.mono (by decide)) (fun _ _ _ _ z => cx0 z)) pa_nil)))
      (pss_one (ps_ret (pe_callB (cr_sumK K rfl) (by rfl) T.b_sum (by decide +kernel) (pa_cons (pe_lc (own := [("group", 2)]) rfl sc_fewest_payments.nd (pi_listK K (pv 1)) (blkOk_by (N := N_fewest_payments) (sc := defScope s_fewest_payments) (by decide +kernel)) (fun _ _ _ _ _ => (pg_name (i := 2) sc_fewest_payments.nd rfl (by first | exact Or.inl rfl | exact Or.inr rfl))) (fun _ _ _ _ _ => pts_nil) (fun _ _ _ _ _ => (pe_op op_sub (pe_callB (call_lenK K) (by rfl) T.b_len (by decide +kernel) (pa_cons (pv 2) pa_nil)) pe_int))) pa_nil)))))), fun ds O Post hR => ?_⟩
  obtain ⟨cs, rfl, hl, hz, hp⟩ := hR
  walk_at "go"
  refine sd_seq (sd_dropP (Ev.toP (ev_run (ds := [encS A cs]) (O1 := O) (by walk_at "ea") ⟨cs, rfl, hl, hz, rfl, rfl⟩) ?_))
  refine sd_seq (sd_asg (d := encGs (mgs cs)) (O1 := O) (ev_run (ds := [.tup (cs.map .int)]) (O1 := O) (ea_cons (ev_propR (C := A.c_Shares) (nm := ["amounts"]) (ds := [.tup (cs.map .int)]) (ev_var rfl) ⟨cs, rfl, rfl, rfl⟩) ea_nil) ⟨cs, rfl, hl, rfl, rfl⟩) ?_)
  walk_at "sl"
  have hgl : (mgs cs).length ≤ 8 := by
    obtain ⟨ok, _⟩ := mgs_ok cs
    obtain ⟨g1, g2⟩ := gr_len ok.sub ok.apart
    have := g2 ok.some
    have := seatsC_len cs
    omega
  refine sd_ret (d := .int (fewF cs)) (O1 := O) (ev_cb (ea_cons (d := .lst (((mgs cs).map fun g => (g.length : Int) - 1).map D.int)) ?_ ea_nil) c_sum) hp
  rw [List.map_map]
  refine ev_lc (items := (mgs cs).map fun g => D.lst (g.map .int)) (O1 := O) (ei_list (ev_var rfl)) (cp_map (mgs cs) (fun g => D.lst (g.map .int)) (fun g => D.int ((g.length : Int) - 1)) (fun g => [some (encS A cs), some (encGs (mgs cs)), some (.lst (g.map .int))]) fun g hg => ⟨gc_name (by decide), et_yes, Ev.is (d := .int (((g.map D.int).length : Int) - 1)) (by walk_at "ev") (by rw [List.length_map])⟩) (by rw [List.length_map]; omega)
theorem ok_payments (T : Tx K mg A) : FnR P w K mg base (L2.CX P w) 4 A.f_payments (SpD K (R_pays A)) := by
  obtain ⟨fd, F, hb⟩ := T.F_payments
  refine fnD F sc_payments hb (fun ds O Post h => by first | (obtain ⟨rfl, _⟩ := h; rfl) | (obtain ⟨_, rfl, _⟩ := h; rfl) | (obtain ⟨_, _, rfl, _⟩ := h; rfl) | (obtain ⟨_, _, _, rfl, _⟩ := h; rfl) | (obtain ⟨_, _, _, _, rfl, _⟩ := h; rfl) | (obtain ⟨_, _, _, _, _, rfl, _⟩ := h; rfl) | (obtain ⟨_, _, _, _, _, _, rfl, _⟩ := h; rfl) | (obtain ⟨_, _, _, _, _, _, _, rfl, _⟩ := h; rfl) | (obtain ⟨_, _, _, _, _, _, _, _, rfl, _⟩ := h; rfl) | (obtain ⟨_, _, _, _, _, _, _, _, _, rfl, _⟩ := h; rfl) | (obtain ⟨_, _, _, _, _, _, _, _, _, _, rfl, _⟩ := h; rfl) | (obtain ⟨_, _, _, _, _, _, _, _, _, _, _, rfl, _⟩ := h; rfl) | (obtain ⟨_, _, _, _, _, _, _, _, _, _, _, _, rfl, _⟩ := h; rfl) | (obtain ⟨_, _, _, _, _, _, _, _, _, _, _, _, _, rfl, _⟩ := h; rfl)) fun cdv A' outer s H E hr => ⟨_, PSs.nox (pss_cons (ps_expr (pe_run (ok_validate_balance T) (hr.mono (by decide)) T.k_validate_balance T.g_validate_balance passL (pa_cons (pv 0) pa_nil)))
      (pss_cons (ps_asg (pe_tup (pa_cons (pe_callTy (call_listK K) (by rfl) T.b_list (by decide +kernel) (pa_cons (pe_propR (pv 0) T.cl_Shares T.p_Shares_cents (ok_Shares_cents T) (hr.mono (by decide)) (fun _ _ _ _ z => cx0 z)) pa_nil)) (pa_cons (pe_lst pa_nil) pa_nil))) (pg_tupK K (n := 2) rfl (pgs_cons (pg_name (i := 1) sc_payments.nd rfl (Or.inr rfl)) (pgs_cons (pg_name (i := 2) sc_payments.nd rfl (Or.inl rfl)) pgs_nil))))
      (pss_cons (ps_for PassesOwn.never rfl (pi_listK K (pe_run (ok_most_groups T) (hr.mono (by decide)) T.k_most_groups T.g_most_groups passL (pa_cons (pe_propR (pv 0) T.cl_Shares T.p_Shares_cents (ok_Shares_cents T) (hr.mono (by decide)) (fun _ _ _ _ z => cx0 z)) pa_nil))) (pg_name (i := 3) sc_payments.nd rfl (Or.inl rfl)) (pss_one (ps_while PassesOwn.never (pt_val (pe_callB (cr_anyK K rfl) (by rfl) T.b_any (by decide +kernel) (pa_cons (pe_lc (own := [("seat", 7)]) rfl sc_payments.nd (pi_listK K (pv 3)) (blkOk_by (N := N_payments) (sc := defScope s_payments) (by decide +kernel)) (fun _ _ _ _ _ => (pg_name (i := 7) sc_payments.nd rfl (by first | exact Or.inl rfl | exact Or.inr rfl))) (fun _ _ _ _ _ => pts_nil) (fun _ _ _ _ _ => (pe_cmpR op_ne (pe_ix (ix_listK K) (pv 1) (pv 7) (fun _ _ => rfl)) pe_int (nomark _)))) pa_nil))) (pss_cons (ps_set (i := 4) sc_payments.nd rfl (Or.inl rfl) (pe_ix (ix_listK K) (pe_lc (own := [("seat", 7)]) rfl sc_payments.nd (pi_listK K (pv 3)) (blkOk_by (N := N_payments) (sc := defScope s_payments) (by decide +kernel)) (fun _ _ _ _ _ => (pg_name (i := 7) sc_payments.nd rfl (by first | exact Or.inl rfl | exact Or.inr rfl))) (fun _ _ _ _ _ => (pts_one (pt_cmpR op_lt (pe_ix (ix_listK K) (pv 1) (pv 7) (fun _ _ => rfl)) pe_int (nomark _)))) (fun _ _ _ _ _ => (pv 7))) pe_int (fun _ _ => rfl)))
      (pss_cons (ps_set (i := 5) sc_payments.nd rfl (Or.inl rfl) (pe_ix (ix_listK K) (pe_lc (own := [("seat", 7)]) rfl sc_payments.nd (pi_listK K (pv 3)) (blkOk_by (N := N_payments) (sc := defScope s_payments) (by decide +kernel)) (fun _ _ _ _ _ => (pg_name (i := 7) sc_payments.nd rfl (by first | exact Or.inl rfl | exact Or.inr rfl))) (fun _ _ _ _ _ => (pts_one (pt_cmpR op_gt (pe_ix (ix_listK K) (pv 1) (pv 7) (fun _ _ => rfl)) pe_int (nomark _)))) (fun _ _ _ _ _ => (pv 7))) pe_int (fun _ _ => rfl)))
      (pss_cons (ps_set (i := 6) sc_payments.nd rfl (Or.inl rfl) (pe_ifExp (pt_cmpR op_lt (pe_ix (ix_listK K) (pv 1) (pv 5) (fun _ _ => rfl)) (pe_op op_sub pe_int (pe_ix (ix_listK K) (pv 1) (pv 4) (fun _ _ => rfl))) (nomark _)) (pe_ix (ix_listK K) (pv 1) (pv 5) (fun _ _ => rfl)) (pe_op op_sub pe_int (pe_ix (ix_listK K) (pv 1) (pv 4) (fun _ _ => rfl)))))
      (pss_cons (ps_asg (pe_tup (pa_cons (pe_op op_add (pe_ix (ix_listK K) (pv 1) (pv 4) (fun _ _ => rfl)) (pv 6)) (pa_cons (pe_op op_sub (pe_ix (ix_listK K) (pv 1) (pv 5) (fun _ _ => rfl)) (pv 6)) pa_nil))) (pg_tupK K (n := 2) rfl (pgs_cons (pg_sub (pv 1) (pv 4) set_list) (pgs_cons (pg_sub (pv 1) (pv 5) set_list) pgs_nil))))
      (pss_one (ps_expr (pe_bm PySem.F.plainAttrs_list PySem.F.slot_list_append PySem.F.type_list_append mt_append (pv 2) (pa_cons (pe_tup (pa_cons (pv 4) (pa_cons (pv 5) (pa_cons (pv 6) pa_nil)))) pa_nil)))))))))))
      (pss_one (ps_ret (pv 2)))))), fun ds O Post hR => ?_⟩
  obtain ⟨cs, rfl, hl, hz, hp⟩ := hR
  walk_at "go"
  refine sd_seq (sd_dropP (Ev.toP (ev_run (ds := [encS A cs]) (O1 := O) (by walk_at "ea") ⟨cs, rfl, hl, hz, rfl, rfl⟩) ?_))
  have hcts : ∀ {δ : Sl} {E : XK} {O : Ow}, δ[0]? = some (some (encS A cs)) → Ev K (tPropR A.c_Shares (SpD K (R_cents A)) E (tVar 0)) δ O (.tup (cs.map .int)) O := fun h => ev_propR (C := A.c_Shares) (nm := ["amounts"]) (ds := [.tup (cs.map .int)]) (ev_var h) ⟨cs, rfl, rfl, rfl⟩
  refine sd_seq (sd_asgG (evp_tup (eap_cons (evp_listT (hcts rfl) fun p1 h1 => eap_cons (evp_lst ea_nil (by simp) fun p2 h2 => eap_nil ⟨by simp, gd_tup rfl (gds_cons (gd_name (gds_cons (gd_name (gds_nil ?_)))))⟩)))))
  walk_at "sl"
  have h21 : p2 ≠ p1 := fun z => by rw [z, setO_same] at h2; cases h2
  have hO2 : O p2 = none := by rw [setO_ne h21] at h2; exact h2
  obtain ⟨Z, hZ⟩ : ∃ Z : List Int → List (Int × Int × Int) → Ow, Z = fun L ps => setO (setO O p1 (.lst (L.map .int))) p2 (.lst (ps.map encPy)) := ⟨_, rfl⟩
  have hZ1 : ∀ L ps, Z L ps p1 = some (.lst (L.map .int)) := fun L ps => by rw [hZ]; show setO _ p2 _ p1 = _; rw [setO_ne h21.symm]; exact setO_same
  have hZ2 : ∀ L ps, Z L ps p2 = some (.lst (ps.map encPy)) := fun L ps => by rw [hZ]; exact setO_same
  have hZs1 : ∀ L L' ps, setO (Z L ps) p1 (.lst (L'.map .int)) = Z L' ps := fun L L' ps => by rw [hZ]; show setO (setO (setO O p1 _) p2 _) p1 _ = _; rw [setO_comm h21, setO_setO]
  have hZs2 : ∀ L ps ps', setO (Z L ps) p2 (.lst (ps'.map encPy)) = Z L ps' := fun L ps ps' => by rw [hZ]; exact setO_setO
  have hZ0 : setO (setO O p1 (.lst (cs.map .int))) p2 (.lst []) = Z cs [] := by rw [hZ]; rfl
  rw [hZ0]
  obtain ⟨ok, hall⟩ := mgs_ok cs
  have hgl : (mgs cs).length ≤ 8 := by
    obtain ⟨g1, g2⟩ := gr_len ok.sub ok.apart
    have := g2 ok.some
    have := seatsC_len cs
    omega
  have hgs : ∀ g ∈ mgs cs, g.Nodup ∧ (∀ s ∈ g, 0 ≤ s ∧ s < cs.length) ∧ g.length ≤ 8 := fun g hg => by
    have hsub : ∀ s ∈ g, s ∈ seatsC cs := fun s hs => by rw [ok.sub g hg] at hs; exact (List.mem_filter.mp hs).1
    refine ⟨by rw [ok.sub g hg]; exact (seatsC_nd cs).filter _, fun s hs => (seatsC_mem.mp (hsub s hs)).1, ?_⟩
    have := seatsC_len cs
    rw [ok.sub g hg]
    exact Nat.le_trans (List.length_filter_le ..) (by omega)
  refine sd_seq (sd_for (O1 := Z cs []) (items := (mgs cs).map fun g => D.lst (g.map .int)) (ei_list (ev_run (ds := [.tup (cs.map .int)]) (ea_cons (hcts rfl) ea_nil) ⟨cs, rfl, hl, rfl, rfl⟩)) (fun i δ' O' => ∃ L ps c3 c4 c5 c6, L.length = cs.length ∧ (ps.length : Nat) ≤ i * 8 ∧ ps ++ (runA ((mgs cs).drop i) L).1 = payF cs ∧ (∀ g ∈ (mgs cs).drop i, (g.map (gvL L)).sum = 0) ∧ O' = Z L ps ∧ δ' = [some (encS A cs), some (.ref p1), some (.ref p2), c3, c4, c5, c6, none]) ⟨cs, [], _, _, _, _, rfl, Nat.zero_le _, by rw [List.drop_zero]; rfl, fun g hg => ok.zero g (List.mem_of_mem_drop hg), rfl, rfl⟩ (fun i d δ' O' hd hI => ?_) (fun δ' O' hI => ?_))
  · obtain ⟨L, ps, c3, c4, c5, c6, hL, hpl, hrun, hzr, rfl, rfl⟩ := hI
    rw [List.getElem?_map] at hd
    cases qg : (mgs cs)[i]? with
    | none => rw [qg] at hd; cases hd
    | some g =>
      rw [qg] at hd; cases hd
      have hgm := List.mem_of_getElem? qg
      obtain ⟨hgn, hgr, hg8⟩ := hgs g hgm
      have hil : i < (mgs cs).length := (List.getElem?_eq_some_iff.mp qg).1
      have hdrop : (mgs cs).drop i = g :: (mgs cs).drop (i + 1) := by
        rw [List.drop_eq_getElem_cons hil]
        congr 1
        exact (List.getElem?_eq_some_iff.mp qg).2
      rw [hdrop] at hrun hzr
      have hgp : GpOk g L := ⟨hgn, fun s hs => by rw [hL]; exact hgr s hs, hzr g (List.mem_cons_self ..)⟩
      have hnz : nzL g L ≤ g.length := List.length_filter_le ..
      obtain ⟨r1, r2, r3, r4, r5⟩ := run_ok g.length L hgp hnz
      have hap : ∀ x ∈ (mgs cs).drop (i + 1), ∀ s ∈ x, s ∉ g := fun x hx s hs hsg => by
        have := ok.apart.sublist (List.drop_sublist i _)
        rw [hdrop] at this
        exact (List.pairwise_cons.mp this).1 x hx s hsg hs
      show Gd K _ (.lst (g.map .int)) _ _ _
      refine gd_name ?_
      walk_at "sl"
      -- the rounds
      refine sd_while (fun m δ' O' => ∃ L1 ps1 c4 c5 c6, GpOk g L1 ∧ nzL g L1 ≤ m ∧ L1.length = cs.length ∧ ps1.length + m ≤ i * 8 + 8 ∧ ps1 ++ (runG m g L1).1 = ps ++ (runG g.length g L).1 ∧ (runG m g L1).2 = (runG g.length g L).2 ∧ O' = Z L1 ps1 ∧ δ' = [some (encS A cs), some (.ref p1), some (.ref p2), some (.lst (g.map .int)), c4, c5, c6, none]) g.length ⟨L, ps, _, _, _, hgp, hnz, hL, by omega, rfl, rfl, rfl, rfl⟩ (fun m δ' O' hW => ?_)
      obtain ⟨L1, ps1, c4, c5, c6, hgp1, hnz1, hL1, hpl1, he1, he2, rfl, rfl⟩ := hW
      have hat : ∀ s ∈ g, atI (L1.map D.int) s = some (.int (gvL L1 s)) := fun s hs => gv_at (hgp1.rg s hs)
      have hget : ∀ {δ : Sl} {k : Nat} {s : Int}, s ∈ g → δ[1]? = some (some (.ref p1)) → δ[k]? = some (some (.int s)) → Ev K (tOp (rIxL K) (tVar 1) (tVar k)) δ (Z L1 ps1) (.int (gvL L1 s)) (Z L1 ps1) := fun hs h1 h2 => ev_op (ev_var h1) (ev_var h2) (r_ixO (hZ1 _ _) (hat _ hs))
      refine ⟨g.any fun s => decide (gvL L1 s ≠ 0), Z L1 ps1, EvT.is (b := (g.map fun s => !(gvL L1 s == 0)).any id) (et_B (ev_cb (ea_cons (d := .lst ((g.map fun s => !(gvL L1 s == 0)).map D.bl)) ?_ ea_nil) c_any)) ?_, fun hb => ?_, fun hb => ?_⟩
      · rw [List.map_map]
        exact ev_lc (items := g.map D.int) (O1 := Z L1 ps1) (ei_list (ev_var rfl)) (cp_map g D.int (fun s => D.bl (!(gvL L1 s == 0))) (fun s => [some (encS A cs), some (.ref p1), some (.ref p2), some (.lst (g.map .int)), c4, c5, c6, some (.int s)]) fun s hs => ⟨gc_name (by decide), et_yes, ev_op (hget hs rfl rfl) ev_int (by walk_at "rr")⟩) (by rw [List.length_map]; omega)
      · rw [List.any_map]
        congr 1
        funext s
        by_cases h : gvL L1 s = 0 <;> simp [h]
      · obtain ⟨m', rfl⟩ : ∃ m', m = m' + 1 := by
          cases m with
          | zero =>
            obtain ⟨s, hs, hne⟩ := any_nz.mp hb
            exact absurd (nz_zero (Nat.le_zero.mp hnz1) s hs) hne
          | succ m' => exact ⟨m', rfl⟩
        have o := stp_ok hgp1 (any_nz.mp hb)
        have er : runG (m' + 1) g L1 = ((gvr g L1, tkr g L1, cts g L1) :: (runG m' g (stpL g L1)).1, (runG m' g (stpL g L1)).2) := by
          show (if _ then _ else _) = _
          rw [if_pos hb]
        rw [er] at he1 he2
        have hfst : ∀ (q : Int → Bool), (∃ s ∈ g, q s = true) → atI ((g.filter q).map D.int) 0 = some (.int (fstS g q)) := fun q hq => by
          have hm := fst_mem hq
          unfold fstS
          cases z : g.filter q with
          | nil =>
            obtain ⟨s, hs, e⟩ := hq
            have : s ∈ g.filter q := List.mem_filter.mpr ⟨hs, e⟩
            rw [z] at this; cases this
          | cons a r => exact atI0
        refine sd_seq (sd_asg (d := .int (gvr g L1)) (O1 := Z L1 ps1) (ev_op (x := .lst ((g.filter fun s => decide (gvL L1 s < 0)).map D.int)) (O1 := Z L1 ps1) (ev_lc (items := g.map D.int) (O1 := Z L1 ps1) (ei_list (ev_var rfl)) (cp_filter g D.int D.int (fun s => [some (encS A cs), some (.ref p1), some (.ref p2), some (.lst (g.map .int)), c4, c5, c6, some (.int s)]) _ fun s hs => ⟨gc_name (by decide), et_test (ev_op (hget hs rfl rfl) ev_int (by walk_at "rr")), fun _ => ev_var rfl⟩) (by rw [List.length_map]; omega)) ev_int (r_ixL (hfst _ ⟨_, o.a.1, decide_eq_true o.a.2⟩))) ?_)
        walk_at "sl"
        refine sd_seq (sd_asg (d := .int (tkr g L1)) (O1 := Z L1 ps1) (ev_op (x := .lst ((g.filter fun s => decide (gvL L1 s > 0)).map D.int)) (O1 := Z L1 ps1) (ev_lc (items := g.map D.int) (O1 := Z L1 ps1) (ei_list (ev_var rfl)) (cp_filter g D.int D.int (fun s => [some (encS A cs), some (.ref p1), some (.ref p2), some (.lst (g.map .int)), some (.int (gvr g L1)), c5, c6, some (.int s)]) _ fun s hs => ⟨gc_name (by decide), et_test (ev_op (hget hs rfl rfl) ev_int (by walk_at "rr")), fun _ => ev_var rfl⟩) (by rw [List.length_map]; omega)) ev_int (r_ixL (hfst _ ⟨_, o.b.1, decide_eq_true o.b.2⟩))) ?_)
        walk_at "sl"
        refine sd_seq (sd_asg (d := .int (cts g L1)) (O1 := Z L1 ps1) (ev_if (O1 := Z L1 ps1) (b := decide (gvL L1 (tkr g L1) < 0 - gvL L1 (gvr g L1))) (et_test (ev_op (hget o.b.1 rfl rfl) (ev_op ev_int (hget o.a.1 rfl rfl) (by walk_at "rr")) (by walk_at "rr"))) (fun e => Ev.is (hget o.b.1 rfl rfl) (by unfold cts; rw [if_pos (of_decide_eq_true e)])) (fun e => Ev.is (ev_op ev_int (hget o.a.1 rfl rfl) (by walk_at "rr")) (by unfold cts; rw [if_neg (of_decide_eq_false e)]))) ?_)
        walk_at "sl"
        have ra := hgp1.rg _ o.a.1
        have rb := hgp1.rg _ o.b.1
        refine sd_seq (sd_asgG (Ev.toP (d := .tup [.int (gvL L1 (gvr g L1) + cts g L1), .int (gvL L1 (tkr g L1) - cts g L1)]) (O1 := Z L1 ps1) (ev_tup (ea_cons (ev_op (hget o.a.1 rfl rfl) (ev_var rfl) (by walk_at "rr")) (ea_cons (ev_op (hget o.b.1 rfl rfl) (ev_var rfl) (by walk_at "rr")) ea_nil)) (by simp)) (gd_tup rfl (gds_cons (gd_sub (k := (gvr g L1).toNat) (ev_var rfl) (ev_var rfl) (hZ1 _ _) (ixN_of (k := (gvr g L1).toNat) (by omega) (by rw [List.length_map]; omega)) (gds_cons (gd_sub (k := (tkr g L1).toNat) (ds := (L1.set (gvr g L1).toNat (gvL L1 (gvr g L1) + cts g L1)).map D.int) (ev_var rfl) (ev_var rfl) ?_ (ixN_of (k := (tkr g L1).toNat) (by omega) (by rw [List.length_map, List.length_set]; omega)) (gds_nil ?_))))))))
        · rw [setO_same, List.map_set]
        rw [← List.map_set, ← List.map_set, hZs1, hZs1]
        show Sd K _ _ _ (Z (stpL g L1) ps1)
        refine sd_app (l := p2) (d := encPy (gvr g L1, tkr g L1, cts g L1)) (O2 := Z (stpL g L1) ps1) (ev_var rfl) (hZ2 _ _) (ev_tup (ea_cons (ev_var rfl) (ea_cons (ev_var rfl) (ea_cons (ev_var rfl) ea_nil))) (by simp)) (hZ2 _ _) (by rw [List.length_map]; omega) ?_
        refine ⟨m', by omega, stpL g L1, ps1 ++ [(gvr g L1, tkr g L1, cts g L1)], _, _, _, stp_gp hgp1 o, by have := (stp_nz hgp1 o).1; omega, by rw [o.len]; exact hL1, by rw [List.length_append, List.length_singleton]; omega, by rw [List.append_assoc]; exact he1, he2, ?_, rfl⟩
        rw [show (ps1.map encPy ++ [encPy (gvr g L1, tkr g L1, cts g L1)]) = (ps1 ++ [(gvr g L1, tkr g L1, cts g L1)]).map encPy from by rw [List.map_append]; rfl, hZs2]
      · have hnone : (runG m g L1) = ([], L1) := by
          cases m with
          | zero => rfl
          | succ m =>
            show (if _ then _ else _) = _
            rw [if_neg (by rw [hb]; simp)]
        rw [hnone] at he1 he2
        have he1 : ps1 = ps ++ (runG g.length g L).1 := by rw [← he1, List.append_nil]
        have he2 : L1 = (runG g.length g L).2 := he2
        refine ⟨L1, ps1, _, _, _, _, hL1, by omega, ?_, fun x hx => ?_, rfl, rfl⟩
        · rw [he1, he2, List.append_assoc]; exact hrun
        · have h0 := hzr x (List.mem_cons_of_mem _ hx)
          rw [show x.map (gvL L1) = x.map (gvL L) from List.map_congr_left fun s hs => by rw [he2]; exact r5 s ((hgs x (List.mem_of_mem_drop hx)).2.1 s hs).1 (hap x hx s hs)]
          exact h0
  · obtain ⟨L, ps, c3, c4, c5, c6, hL, hpl, hrun, hzr, rfl, rfl⟩ := hI
    rw [List.length_map, List.drop_of_length_le (Nat.le_refl _)] at hrun
    have hrun : ps = payF cs := by rw [← hrun]; exact (List.append_nil _).symm
    subst hrun
    refine sd_retD (O2 := setO O p2 (.lst ((payF cs).map encPy))) (ev_var rfl) ?_ (hp p2 hO2)
    rw [hZ]
    exact OSub.set2 h1
theorem ok_balance_after (T : Tx K mg A) : FnR P w K mg base (L2.CX P w) 3 A.f_balance_after (SpD K (R_bafter A)) := by
  obtain ⟨fd, F, hb⟩ := T.F_balance_after
  refine fnD F sc_balance_after hb (fun ds O Post h => by first | (obtain ⟨rfl, _⟩ := h; rfl) | (obtain ⟨_, rfl, _⟩ := h; rfl) | (obtain ⟨_, _, rfl, _⟩ := h; rfl) | (obtain ⟨_, _, _, rfl, _⟩ := h; rfl) | (obtain ⟨_, _, _, _, rfl, _⟩ := h; rfl) | (obtain ⟨_, _, _, _, _, rfl, _⟩ := h; rfl) | (obtain ⟨_, _, _, _, _, _, rfl, _⟩ := h; rfl) | (obtain ⟨_, _, _, _, _, _, _, rfl, _⟩ := h; rfl) | (obtain ⟨_, _, _, _, _, _, _, _, rfl, _⟩ := h; rfl) | (obtain ⟨_, _, _, _, _, _, _, _, _, rfl, _⟩ := h; rfl) | (obtain ⟨_, _, _, _, _, _, _, _, _, _, rfl, _⟩ := h; rfl) | (obtain ⟨_, _, _, _, _, _, _, _, _, _, _, rfl, _⟩ := h; rfl) | (obtain ⟨_, _, _, _, _, _, _, _, _, _, _, _, rfl, _⟩ := h; rfl) | (obtain ⟨_, _, _, _, _, _, _, _, _, _, _, _, _, rfl, _⟩ := h; rfl)) fun cdv A' outer s H E hr => ⟨_, PSs.nox (pss_cons (ps_set (i := 2) sc_balance_after.nd rfl (Or.inl rfl) (pe_callTy (call_listK K) (by rfl) T.b_list (by decide +kernel) (pa_cons (pe_propR (pv 0) T.cl_Shares T.p_Shares_cents (ok_Shares_cents T) (hr.mono (by decide)) (fun _ _ _ _ z => cx0 z)) pa_nil)))
      (pss_cons (ps_for PassesOwn.never rfl (pi_listK K (pv 1)) (pg_tupK K (n := 3) rfl (pgs_cons (pg_name (i := 3) sc_balance_after.nd rfl (Or.inl rfl)) (pgs_cons (pg_name (i := 4) sc_balance_after.nd rfl (Or.inl rfl)) (pgs_cons (pg_name (i := 5) sc_balance_after.nd rfl (Or.inl rfl)) pgs_nil)))) (pss_cons (ps_for PassesOwn.never rfl (pi_tupK K (pe_tup (pa_cons (pv 3) (pa_cons (pv 4) pa_nil)))) (pg_name (i := 6) sc_balance_after.nd rfl (Or.inl rfl)) (pss_one (ps_if (pt_not (pt_chain op_le op_lt pe_int (pv 6) (pe_callB (call_lenK K) (by rfl) T.b_len (by decide +kernel) (pa_cons (pv 2) pa_nil)))) (pss_one ps_never) pss_nil)))
      (pss_cons (ps_if (PW.pt (pw_or (pt_cmpR op_eq (pv 3) (pv 4) (nomark _)) (pw_or1 (pt_not (pt_chain op_le op_le pe_int (pv 5) (pe_glob (v := .int 1000000000000000) rfl T.g_MAX_HANDED ⟨_, rfl⟩)))))) (pss_one ps_never) pss_nil)
      (pss_one (ps_asg (pe_tup (pa_cons (pe_op op_add (pe_ix (ix_listK K) (pv 2) (pv 3) (fun _ _ => rfl)) (pv 5)) (pa_cons (pe_op op_sub (pe_ix (ix_listK K) (pv 2) (pv 4) (fun _ _ => rfl)) (pv 5)) pa_nil))) (pg_tupK K (n := 2) rfl (pgs_cons (pg_sub (pv 2) (pv 3) set_list) (pgs_cons (pg_sub (pv 2) (pv 4) set_list) pgs_nil))))))))
      (pss_one (ps_ret (pe_mkS1K K T.mk_Shares (ok_Shares_Dinit T) (hr.mono (by decide)) T.g_Shares passL (pv 2)))))), fun ds O Post hR => ?_⟩
  obtain ⟨cs, x, ps, rfl, hx, hl, hps, hp⟩ := hR
  walk_at "go"
  refine sd_seq (sd_asgP (evp_listT (ev_propR (C := A.c_Shares) (nm := ["amounts"]) (ds := [.tup (cs.map .int)]) (ev_var rfl) ⟨cs, rfl, rfl, rfl⟩) fun p1 h1 => ?_))
  walk_at "sl"
  have hxO : ∀ L : List Int, LstOf (setO O p1 (.lst (L.map .int))) x (List.map encPy ps) := fun L => by
    rcases hx with rfl | ⟨q, rfl, hq⟩
    · exact .lst
    · exact .own (by rw [setO_ne (fun z => by rw [z, h1] at hq; cases hq)]; exact hq)
  refine sd_seq (sd_forL (O1 := setO O p1 (.lst (cs.map .int))) (ei_L (ev_var rfl) (hxO cs)) (fun i δ' O' => ∃ L c3 c4 c5 c6, L.length = cs.length ∧ (ps.take i).foldl payL cs = L ∧ O' = setO O p1 (.lst (L.map .int)) ∧ δ' = [some (encS A cs), some x, some (.ref p1), c3, c4, c5, c6]) ⟨cs, _, _, _, _, rfl, rfl, rfl, rfl⟩ (fun i δ' O' ⟨L, _, _, _, _, _, _, hO', _⟩ => by rw [hO']; exact hxO L) (fun i d δ' O' hd hI => ?_) (fun δ' O' hI => ?_))
  · obtain ⟨L, c3, c4, c5, c6, hL, hf, rfl, rfl⟩ := hI
    rw [List.getElem?_map] at hd
    cases qp : ps[i]? with
    | none => rw [qp] at hd; cases hd
    | some q =>
      rw [qp] at hd; cases hd
      obtain ⟨⟨ha, hb, hne, hc⟩, hcm⟩ := hps q (List.mem_of_getElem? qp)
      have hstep : (ps.take (i + 1)).foldl payL cs = payL L q := by rw [List.take_add_one, qp, List.foldl_append, hf]; rfl
      show Gd K _ (.tup [.int q.1, .int q.2.1, .int q.2.2]) _ _ _
      refine gd_tup rfl (gds_cons (gd_name (gds_cons (gd_name (gds_cons (gd_name (gds_nil ?_)))))))
      walk_at "sl"
      have el : ((L.map D.int).length : Int) = (cs.length : Int) := by rw [List.length_map, hL]
      refine sd_seq (sd_for (O1 := setO O p1 (.lst (L.map .int))) (items := [.int q.1, .int q.2.1]) (ei_tup (by walk_at "ev")) (fun t δ' O' => O' = setO O p1 (.lst (L.map .int)) ∧ ∃ c6, δ' = [some (encS A cs), some x, some (.ref p1), some (.int q.1), some (.int q.2.1), some (.int q.2.2), c6]) ⟨rfl, _, rfl⟩ (fun t d δ' O' hd hI => ?_) (fun δ' O' hI => ?_))
      · obtain ⟨rfl, c6, rfl⟩ := hI
        obtain ⟨s, rfl, hs⟩ : ∃ s, d = .int s ∧ (0 ≤ s ∧ s < cs.length) := by
          rcases List.mem_cons.mp (List.mem_of_getElem? hd) with z | z
          · exact ⟨_, z, ha⟩
          · rw [List.mem_singleton] at z; exact ⟨_, z, hb⟩
        refine gd_name ?_
        walk_at "sl"
        refine sd_ifF (O1 := setO O p1 (.lst (L.map .int))) (EvT.is (b := !(decide (0 ≤ s) && decide (s < ((L.map D.int).length : Int)))) (et_not (et_test (ev_chain ev_int (ev_var rfl) (by walk_at "rr") (fun _ => ev_cb (ea_cons (ev_var rfl) ea_nil) (c_lenO setO_same)) (fun _ => by walk_at "rr")))) (by rw [el]; simp [hs.1, hs.2])) (sd_next ⟨rfl, _, rfl⟩)
      · obtain ⟨rfl, c6, rfl⟩ := hI
        refine sd_seq (sd_ifF (O1 := setO O p1 (.lst (L.map .int))) (EvT.is (b := (q.1 == q.2.1) || !(decide (1 ≤ q.2.2) && decide (q.2.2 ≤ 1000000000000000))) (by walk_at "et") (by simp [hne, hc, hcm])) (sd_next ?_))
        have hat1 : atI (L.map D.int) q.1 = some (.int (gvL L q.1)) := gv_at (by rw [hL]; exact ha)
        have hat2 : atI (L.map D.int) q.2.1 = some (.int (gvL L q.2.1)) := gv_at (by rw [hL]; exact hb)
        refine sd_asgG (Ev.toP (d := .tup [.int (gvL L q.1 + q.2.2), .int (gvL L q.2.1 - q.2.2)]) (O1 := setO O p1 (.lst (L.map .int))) (ev_tup (ea_cons (ev_op (ev_op (ev_var rfl) (ev_var rfl) (r_ixO setO_same hat1)) (ev_var rfl) (by walk_at "rr")) (ea_cons (ev_op (ev_op (ev_var rfl) (ev_var rfl) (r_ixO setO_same hat2)) (ev_var rfl) (by walk_at "rr")) ea_nil)) (by simp)) (gd_tup rfl (gds_cons (gd_sub (k := q.1.toNat) (ev_var rfl) (ev_var rfl) setO_same (ixN_of (k := q.1.toNat) (by omega) (by rw [List.length_map]; omega)) (gds_cons (gd_sub (k := q.2.1.toNat) (ds := (L.set q.1.toNat (gvL L q.1 + q.2.2)).map D.int) (ev_var rfl) (ev_var rfl) ?_ (ixN_of (k := q.2.1.toNat) (by omega) (by rw [List.length_map, List.length_set]; omega)) (gds_nil ?_)))))))
        · rw [setO_same, List.map_set]
        · refine ⟨payL L q, _, _, _, _, by unfold payL; rw [List.length_set, List.length_set]; exact hL, hstep, ?_, rfl⟩
          rw [← List.map_set, ← List.map_set, setO_setO, setO_setO]; rfl
  · obtain ⟨L, c3, c4, c5, c6, hL, hf, rfl, rfl⟩ := hI
    rw [List.length_map, List.take_of_length_le (Nat.le_refl _)] at hf
    subst hf
    exact sd_retD (O2 := O) (ev_mk (ds := (ps.foldl payL cs).map D.int) (O1 := setO O p1 (.lst ((ps.foldl payL cs).map .int))) (Eq.mp (by rw [List.append_nil]) (ea_starLs (ds := (ps.foldl payL cs).map D.int) (es := []) (t := tNil) (ev_var rfl) (.own setO_same) ea_nil)) (mk_S (by omega))) ((OSub.refl _).set h1) hp
end
end Law

set_option Elab.async false
set_option linter.all false
set_option maxRecDepth 100000
set_option maxHeartbeats 4000000
namespace Law
open PySem PySem.Spec L2 DL
open PyProof.Rows hiding St
local macro_rules | `(tactic| walk_at "sl") => `(tactic| try dsimp only [startD, List.map, List.length_cons, List.length_nil, List.replicate, List.cons_append, List.nil_append, List.set_cons_zero, List.set_cons_succ, Nat.reduceSub, Nat.reduceAdd, wipeD])
local macro_rules | `(tactic| walk_at "go") => `(tactic| ((try dsimp only [cxOf, Cx.nox, Cx.wish, Cx.blk]); walk_at "sl"; walk_at "sl"))
local macro_rules | `(tactic| walk_at "own") => `(tactic| first | assumption | exact setO_same | (rw [setO_ne (by first | assumption | exact Ne.symm (by assumption))]; assumption) | (rw [setO_ne (by first | assumption | exact Ne.symm (by assumption))]; exact setO_same))
local macro_rules | `(tactic| walk_at "side") => `(tactic| first
  | assumption | rfl | exact flat_ints _ | exact atI0 | exact atI1 | exact atI2 | exact atI3 | decide | omega | (simp; done)
  | (refine cmodp ?_; omega) | (refine cdivw ?_ ?_ <;> omega) | (refine cmul_l ?_ ?_ <;> omega) | (refine cmul_r ?_ ?_ <;> omega) | (refine cpow ?_ ?_ ?_ <;> decide))
local macro_rules | `(tactic| walk_at "rr") => `(tactic| first
  | with_reducible exact r_int | with_reducible exact r_bl | with_reducible exact r_eqI | with_reducible exact r_neI | with_reducible exact r_eqB | with_reducible exact r_neB | with_reducible exact r_eqS | with_reducible exact r_neS
  | ((with_reducible apply r_intC); walk_at "side")
  | ((with_reducible apply r_ixL); walk_at "side") | ((with_reducible apply r_ixT); walk_at "side") | ((with_reducible apply r_ixS); walk_at "side") | ((with_reducible apply r_ixO); (focus walk_at "own"); (focus walk_at "side"))
  | ((with_reducible apply r_inT0) <;> walk_at "side") | ((with_reducible apply r_inL0) <;> walk_at "side") | ((with_reducible apply r_inT1) <;> walk_at "side") | ((with_reducible apply r_inL1) <;> walk_at "side")
  | ((with_reducible apply r_inO0); (focus walk_at "own"); (focus walk_at "side"); (focus walk_at "side")) | ((with_reducible apply r_inO1); (focus walk_at "own"); (focus walk_at "side"); (focus walk_at "side"))
  | ((with_reducible apply r_rep) <;> walk_at "side") | ((with_reducible apply r_cat) <;> walk_at "side")
  | ((with_reducible apply r_catA) <;> walk_at "side") | ((with_reducible apply r_catO); (focus walk_at "own"); (focus walk_at "side"))
  | ((with_reducible apply r_addS); (focus walk_at "side")) | with_reducible exact r_isN _ rfl | with_reducible exact r_notN _ rfl
  | ((with_reducible apply r_eqP); (focus walk_at "pl"); (focus walk_at "pl"); (focus decide); (focus decide)) | ((with_reducible apply r_neP); (focus walk_at "pl"); (focus walk_at "pl"); (focus decide); (focus decide)))
local macro_rules | `(tactic| walk_at "pl") => `(tactic| first | exact Pl.ints _ | exact Pl.intsL _ | exact Pl.nilT | exact Pl.nilL | exact Pl.int (n := 0) | assumption)
local macro_rules | `(tactic| walk_at "cc") => `(tactic| first
  | with_reducible exact c_lenL | with_reducible exact c_lenT | with_reducible exact c_lenS | ((with_reducible apply c_lenO); walk_at "own")
  | with_reducible exact c_listL | with_reducible exact c_listT | with_reducible exact c_tupL | with_reducible exact c_sum | with_reducible exact c_intB | with_reducible exact c_int1
  | with_reducible exact c_max2 | ((with_reducible apply c_strI); (focus walk_at "side")) | ((with_reducible apply c_lenStr); (focus walk_at "side"))
  | ((with_reducible apply c_isi); (focus rfl); (focus (first | decide +kernel | rfl))) | ((with_reducible apply c_isi2); (focus rfl); (focus (first | decide +kernel | rfl)); (focus (first | decide +kernel | rfl))))
local macro_rules | `(tactic| walk_at "ea") => `(tactic| first
  | with_reducible exact ea_nil
  | ((with_reducible apply ea_cons); (focus walk_at "ev"); (focus walk_at "ea"))
  | ((with_reducible apply ea_starT); (focus walk_at "ev"); (focus walk_at "ea")) | ((with_reducible apply ea_starL); (focus walk_at "ev"); (focus walk_at "ea")))
local macro_rules | `(tactic| walk_at "ev") => `(tactic| first
  | exact ev_var rfl | with_reducible exact ev_int | with_reducible exact ev_bl | with_reducible exact ev_str | with_reducible exact ev_non | with_reducible exact ev_ty | with_reducible exact ev_ref
  | ((with_reducible apply ev_op); (focus walk_at "ev"); (focus walk_at "ev"); (focus walk_at "rr"))
  | ((with_reducible apply ev_cb); (focus walk_at "ea"); (focus walk_at "cc"))
  | ((with_reducible apply ev_neg); (focus walk_at "ev"))
  | ((with_reducible apply ev_tup); (focus walk_at "ea"); (focus walk_at "side"))
  | ((with_reducible apply ev_lst); (focus walk_at "ea"); (focus walk_at "side"))
  | ((with_reducible apply ev_notV); (focus walk_at "ev"))
  | ((with_reducible apply ev_chain); (focus walk_at "ev"); (focus walk_at "ev"); (focus walk_at "rr"); (focus (intro _; walk_at "ev")); (focus (intro _; walk_at "rr")))
  | walk_at "evx")
local macro_rules | `(tactic| walk_at "et") => `(tactic| first
  | ((with_reducible apply et_test); walk_at "ev") | ((with_reducible apply et_B); walk_at "ev") | with_reducible exact et_yes
  | ((with_reducible apply et_not); walk_at "et")
  | ((with_reducible apply et_and); (focus walk_at "et"); (focus (intro _; walk_at "et")))
  | ((with_reducible apply et_or); (focus walk_at "et"); (focus (intro _; walk_at "et"))))
local macro_rules | `(tactic| walk_at "s1") => `(tactic| first
  | ((with_reducible apply sd_asg); (focus walk_at "ev"); walk_at "sl")
  | ((with_reducible apply sd_par); (focus walk_at "ea"); walk_at "sl")
  | ((with_reducible apply sd_setL); (focus walk_at "ev"); (focus walk_at "ev"); (focus walk_at "ev"); (focus walk_at "own"); (focus (first | exact ixN_of (k := 0) rfl (by simp) | exact ixN_of (k := 1) rfl (by simp) | exact ixN_of (k := 2) rfl (by simp) | exact ixN_of (k := 3) rfl (by simp) | assumption)); walk_at "sl")
  | ((with_reducible apply sd_app); (focus walk_at "ev"); (focus walk_at "own"); (focus walk_at "ev"); (focus walk_at "own"); (focus walk_at "side"); walk_at "sl")
  | ((with_reducible apply sd_ret); (focus walk_at "ev"))
  | with_reducible apply sd_next)
local macro_rules | `(tactic| walk_at "st") => `(tactic| first | ((with_reducible apply sd_seq); walk_at "s1") | walk_at "s1")
local macro_rules | `(tactic| walk_at "R") => `(tactic| first
  | exact ⟨_, rfl, rfl, rfl⟩ | exact ⟨_, _, rfl, rfl, rfl⟩ | exact ⟨_, _, _, rfl, rfl, rfl⟩ | exact ⟨_, _, _, _, rfl, rfl, rfl⟩
  | exact ⟨_, rfl, by assumption, rfl, rfl⟩ | exact ⟨_, _, rfl, by assumption, rfl, rfl⟩ | exact ⟨_, _, _, rfl, by assumption, rfl, rfl⟩ | exact ⟨_, _, _, _, rfl, by assumption, rfl, rfl⟩
  | exact ⟨_, _, rfl, by assumption, by assumption, rfl, rfl⟩ | exact ⟨_, _, _, rfl, by assumption, by assumption, rfl, rfl⟩ | exact ⟨_, _, _, _, rfl, by assumption, by assumption, rfl, rfl⟩)
local macro_rules | `(tactic| walk_at "evx") => `(tactic| first
  | ((with_reducible apply ev_run); (focus walk_at "ea"); walk_at "R")
  | ((with_reducible apply ev_propR); (focus walk_at "ev"); walk_at "R")
  | ((with_reducible apply ev_fld); (focus walk_at "ev"); (focus walk_at "cls"); (focus walk_at "cls"); (focus rfl))
  | ((with_reducible apply ev_ownIn0); (focus walk_at "ev"); (focus walk_at "ev"); walk_at "R")
  | ((with_reducible apply ev_slL); (focus walk_at "ev"); (focus walk_at "eo"); (focus walk_at "eo"))
  | ((with_reducible apply ev_slT); (focus walk_at "ev"); (focus walk_at "eo"); (focus walk_at "eo"))
  | ((with_reducible apply ev_cvalI); (focus walk_at "ev"); (focus walk_at "cls"); (focus walk_at "cls")))
local macro_rules | `(tactic| walk_at "eo") => `(tactic| first | with_reducible exact eo_none | ((with_reducible apply eo_some); walk_at "ev"))
local macro_rules | `(tactic| walk_at "cls") => `(tactic| first
  | with_reducible exact (by assumption : Tx _ _ _).cl_Shares
  | with_reducible exact (by assumption : Tx _ _ _).na_Shares_amounts
  | with_reducible exact (by assumption : Tx _ _ _).cl_Bill
  | with_reducible exact (by assumption : Tx _ _ _).na_Bill_total
  | with_reducible exact (by assumption : Tx _ _ _).na_Bill_there
  | with_reducible exact (by assumption : Tx _ _ _).cr_Bill
  | with_reducible exact (by assumption : Tx _ _ _).cv_Bill_MAX_SEATS)
section
variable {P : Program} {w : World} {K : PySem.W.Frag} {mg : Str → Option Value} {base : Heap} {A : Ad}
/-! ### numbers that part into groups of sum 0 -/
inductive Pt : Nat → List Int → Prop
  | nil : Pt 0 []
  | cons {k : Nat} {xs g ys : List Int} (h : xs.Perm (g ++ ys)) (hn : g ≠ []) (hz : g.sum = 0) (t : Pt k ys) : Pt (k + 1) xs
theorem Pt.perm {k : Nat} {xs ys : List Int} (h : Pt k xs) (p : ys.Perm xs) : Pt k ys := by
  cases h with
  | nil => rw [p.eq_nil]; exact .nil
  | cons q hn hz t => exact .cons (p.trans q) hn hz t
theorem lsum_perm {l m : List Int} (h : l.Perm m) : l.sum = m.sum := by
  induction h with
  | nil => rfl
  | cons x _ ih => rw [List.sum_cons, List.sum_cons, ih]
  | swap x y l => rw [List.sum_cons, List.sum_cons, List.sum_cons, List.sum_cons]; omega
  | trans _ _ a b => rw [a, b]
theorem Pt.zero {k : Nat} {xs : List Int} (h : Pt k xs) : xs.sum = 0 := by
  induction h with
  | nil => rfl
  | cons p _ hz _ ih => rw [lsum_perm p, List.sum_append, hz, ih]; rfl
theorem Pt.pick {k : Nat} {xs : List Int} (h : Pt k xs) : ∀ {a : Int}, a ∈ xs → ∃ g ys k', k = k' + 1 ∧ xs.Perm ((a :: g) ++ ys) ∧ (a :: g).sum = 0 ∧ Pt k' ys := by
  induction h with
  | nil => exact fun h => nomatch h
  | @cons k xs g ys p hn hz t ih =>
    intro a ha
    rcases List.mem_append.mp (p.mem_iff.mp ha) with z | z
    · have q := List.perm_cons_erase z
      exact ⟨g.erase a, ys, k, rfl, p.trans (q.append_right ys), by rw [← lsum_perm q]; exact hz, t⟩
    · obtain ⟨g', ys', k', rfl, q, hz', t'⟩ := ih z
      refine ⟨g', g ++ ys', k' + 1, rfl, ?_, hz', .cons (.refl _) hn hz t'⟩
      refine p.trans ((q.append_left g).trans ?_)
      rw [← List.append_assoc, ← List.append_assoc]
      exact List.perm_append_comm.append_right ys'
/-- what lies at the places that m names, and the rest -/
def selM (m : Nat → Bool) (r : List Int) : List Int := ((List.range r.length).filter m).map fun j => r.getD j 0
theorem selM_cons (m : Nat → Bool) (b : Int) (r : List Int) : selM m (b :: r) = (if m 0 then [b] else []) ++ selM (fun j => m (j + 1)) r := by
  unfold selM
  rw [List.length_cons, List.range_succ_eq_map, List.filter_cons]
  have e : ((List.map Nat.succ (List.range r.length)).filter m).map (fun j => (b :: r).getD j 0) = ((List.range r.length).filter fun j => m (j + 1)).map fun j => r.getD j 0 := by
    rw [List.filter_map, List.map_map]
    rfl
  split
  · rw [List.map_cons, e]; rfl
  · rw [e]; rfl
theorem sel_perm (m : Nat → Bool) : ∀ r : List Int, r.Perm (selM m r ++ selM (fun j => !m j) r)
  | [] => .refl _
  | b :: r => by
    rw [selM_cons, selM_cons]
    have ih := sel_perm (fun j => m (j + 1)) r
    cases m 0 with
    | true => exact ih.cons b
    | false =>
      simp only [Bool.false_eq_true, if_false, Bool.not_false, if_true, List.nil_append, List.singleton_append]
      exact (ih.cons b).trans (List.perm_middle.symm)
theorem sel_ex : ∀ {r g ys : List Int}, r.Perm (g ++ ys) → ∃ m : Nat → Bool, (selM m r).Perm g ∧ (selM (fun j => !m j) r).Perm ys
  | [], g, ys, h => by
    have e := h.symm.eq_nil
    obtain ⟨rfl, rfl⟩ := List.append_eq_nil_iff.mp e
    exact ⟨fun _ => true, .refl _, .refl _⟩
  | b :: r, g, ys, h => by
    rcases List.mem_append.mp (h.mem_iff.mp (List.mem_cons_self ..)) with z | z
    · have q := List.perm_cons_erase z
      obtain ⟨m, h1, h2⟩ := sel_ex (r := r) (g := g.erase b) (ys := ys) ((List.perm_cons b).mp (h.trans (q.append_right ys)))
      refine ⟨fun j => match j with | 0 => true | j + 1 => m j, ?_, ?_⟩
      · rw [selM_cons]
        exact (h1.cons b).trans q.symm
      · rw [selM_cons]
        exact h2
    · have q := List.perm_cons_erase z
      obtain ⟨m, h1, h2⟩ := sel_ex (r := r) (g := g) (ys := ys.erase b) ((List.perm_cons b).mp (h.trans ((q.append_left g).trans List.perm_middle)))
      refine ⟨fun j => match j with | 0 => false | j + 1 => m j, ?_, ?_⟩
      · rw [selM_cons]
        exact h1
      · rw [selM_cons]
        exact (h2.cons b).trans q.symm
/-- the places that the law goes through -/
def plc : Nat → List (List Int)
  | 0 => [[]]
  | k + 1 => plc k ++ (plc k).map fun P => P ++ [(k : Int)]
def posn (n : Nat) (m : Nat → Bool) : List Int := ((List.range n).filter m).map fun (j : Nat) => (j : Int)
theorem posn_succ (n : Nat) (m : Nat → Bool) : posn (n + 1) m = posn n m ++ (if m n then [(n : Int)] else []) := by
  unfold posn
  rw [List.range_succ, List.filter_append, List.map_append]
  congr 1
  cases e : m n <;> simp [e]
theorem posn_plc (m : Nat → Bool) : ∀ n, posn n m ∈ plc n
  | 0 => List.mem_singleton.mpr rfl
  | n + 1 => by
    rw [posn_succ]
    cases m n with
    | true => exact List.mem_append_right _ (List.mem_map.mpr ⟨_, posn_plc m n, rfl⟩)
    | false => simp only [Bool.false_eq_true, if_false, List.append_nil]; exact List.mem_append_left _ (posn_plc m n)
theorem plc_pos : ∀ (n : Nat) {P : List Int}, P ∈ plc n → ∃ m, P = posn n m
  | 0, P, h => ⟨fun _ => true, List.mem_singleton.mp h⟩
  | n + 1, P, h => by
    rcases List.mem_append.mp h with z | z
    · obtain ⟨m, rfl⟩ := plc_pos n z
      refine ⟨fun j => if j = n then false else m j, ?_⟩
      rw [posn_succ, if_pos rfl]
      simp only [Bool.false_eq_true, if_false, List.append_nil]
      unfold posn
      congr 1
      exact List.filter_congr fun j hj => by rw [if_neg (Nat.ne_of_lt (List.mem_range.mp hj))]
    · obtain ⟨Q, hQ, rfl⟩ := List.mem_map.mp z
      obtain ⟨m, rfl⟩ := plc_pos n hQ
      refine ⟨fun j => if j = n then true else m j, ?_⟩
      rw [posn_succ, if_pos rfl, if_pos rfl]
      congr 1
      unfold posn
      congr 1
      exact List.filter_congr fun j hj => by rw [if_neg (Nat.ne_of_lt (List.mem_range.mp hj))]
theorem plc_len : ∀ n, (plc n).length = 2 ^ n
  | 0 => rfl
  | n + 1 => by show (plc n ++ _).length = _; rw [List.length_append, List.length_map, plc_len n, Nat.pow_succ]; omega
theorem posn_mem {n : Nat} {m : Nat → Bool} {j : Nat} (hj : j < n) : (j : Int) ∈ posn n m ↔ m j = true := by
  unfold posn
  constructor
  · intro h
    obtain ⟨i, hi, e⟩ := List.mem_map.mp h
    have : i = j := by omega
    subst this
    exact (List.mem_filter.mp hi).2
  · intro h
    exact List.mem_map.mpr ⟨j, List.mem_filter.mpr ⟨List.mem_range.mpr hj, h⟩, rfl⟩
def pickI (r P : List Int) : List Int := P.map fun k => r.getD k.toNat 0
def pickO (r P : List Int) : List Int := ((List.range r.length).filter fun (j : Nat) => !decide ((j : Int) ∈ P)).map fun j => r.getD j 0
theorem pickI_pos (r : List Int) (m : Nat → Bool) : pickI r (posn r.length m) = selM m r := by
  unfold pickI posn selM
  rw [List.map_map]
  rfl
theorem pickO_pos (r : List Int) (m : Nat → Bool) : pickO r (posn r.length m) = selM (fun j => !m j) r := by
  unfold pickO selM
  congr 1
  refine List.filter_congr fun j hj => ?_
  have := posn_mem (m := m) (List.mem_range.mp hj)
  cases e : m j with
  | true => rw [decide_eq_true (this.mpr e)]
  | false => rw [decide_eq_false (fun z => by rw [this.mp z] at e; cases e)]
theorem pickO_len (r P : List Int) : (pickO r P).length ≤ r.length := by
  unfold pickO
  rw [List.length_map]
  exact Nat.le_trans (List.length_filter_le ..) (by simp)
def bestP (g : List Int → Int) (a : Int) (r : List Int) (l : List (List Int)) (b : Int) : Int := l.foldl (fun b P => if a + (pickI r P).sum = 0 ∧ pickO r P ≠ [] then (if 1 + g (pickO r P) > b then 1 + g (pickO r P) else b) else b) b
def mst : Nat → List Int → Int
  | 0, _ => 0
  | _ + 1, [] => 0
  | f + 1, a :: r => bestP (mst f) a r (plc r.length) 1
theorem bestP_le (g : List Int → Int) (a : Int) (r : List Int) : ∀ (l : List (List Int)) (b : Int), b ≤ bestP g a r l b ∧ ∀ P ∈ l, a + (pickI r P).sum = 0 → pickO r P ≠ [] → 1 + g (pickO r P) ≤ bestP g a r l b
  | [], b => ⟨Int.le_refl _, fun P h => nomatch h⟩
  | Q :: l, b => by
    have key : ∀ b', b' = (if a + (pickI r Q).sum = 0 ∧ pickO r Q ≠ [] then (if 1 + g (pickO r Q) > b then 1 + g (pickO r Q) else b) else b) → b ≤ b' ∧ (a + (pickI r Q).sum = 0 → pickO r Q ≠ [] → 1 + g (pickO r Q) ≤ b') := fun b' e => by
      subst e
      split
      · split
        · exact ⟨by omega, fun _ _ => Int.le_refl _⟩
        · exact ⟨Int.le_refl _, fun _ _ => by omega⟩
      · rename_i hh
        exact ⟨Int.le_refl _, fun h1 h2 => absurd ⟨h1, h2⟩ hh⟩
    obtain ⟨k1, k2⟩ := key _ rfl
    obtain ⟨h1, h2⟩ := bestP_le g a r l (if a + (pickI r Q).sum = 0 ∧ pickO r Q ≠ [] then (if 1 + g (pickO r Q) > b then 1 + g (pickO r Q) else b) else b)
    refine ⟨Int.le_trans k1 h1, fun P hP e1 e2 => ?_⟩
    rcases List.mem_cons.mp hP with rfl | z
    · exact Int.le_trans (k2 e1 e2) h1
    · exact h2 P z e1 e2
theorem bestP_from (g : List Int → Int) (a : Int) (r : List Int) : ∀ (l : List (List Int)) (b : Int), bestP g a r l b = b ∨ ∃ P ∈ l, a + (pickI r P).sum = 0 ∧ pickO r P ≠ [] ∧ bestP g a r l b = 1 + g (pickO r P)
  | [], b => .inl rfl
  | Q :: l, b => by
    have e : bestP g a r (Q :: l) b = bestP g a r l (if a + (pickI r Q).sum = 0 ∧ pickO r Q ≠ [] then (if 1 + g (pickO r Q) > b then 1 + g (pickO r Q) else b) else b) := rfl
    rw [e]
    rcases bestP_from g a r l (if a + (pickI r Q).sum = 0 ∧ pickO r Q ≠ [] then (if 1 + g (pickO r Q) > b then 1 + g (pickO r Q) else b) else b) with h | ⟨P, hP, h1, h2, h3⟩
    · rw [h]
      split
      · rename_i hh
        split
        · exact .inr ⟨Q, List.mem_cons_self .., hh.1, hh.2, rfl⟩
        · exact .inl rfl
      · exact .inl rfl
    · exact .inr ⟨P, List.mem_cons_of_mem _ hP, h1, h2, h3⟩
theorem mst_pt : ∀ (f : Nat) (xs : List Int), xs.length ≤ f → xs.sum = 0 → ∃ k : Nat, mst f xs = (k : Int) ∧ Pt k xs
  | 0, xs, hl, _ => ⟨0, rfl, by rw [List.eq_nil_of_length_eq_zero (Nat.le_zero.mp hl)]; exact .nil⟩
  | f + 1, [], _, _ => ⟨0, rfl, .nil⟩
  | f + 1, a :: r, hl, hz => by
    rw [List.length_cons] at hl
    rcases bestP_from (mst f) a r (plc r.length) 1 with h | ⟨P, hP, h1, h2, h3⟩
    · exact ⟨1, h, .cons (g := a :: r) (ys := []) (by rw [List.append_nil]) (by simp) hz .nil⟩
    · obtain ⟨m, rfl⟩ := plc_pos _ hP
      rw [pickI_pos] at h1
      rw [pickO_pos] at h2 h3
      have hp := sel_perm m r
      have hs := lsum_perm hp
      rw [List.sum_append] at hs
      rw [List.sum_cons] at hz
      have hlen := hp.length_eq
      rw [List.length_append] at hlen
      obtain ⟨k, hk, hpt⟩ := mst_pt f (selM (fun j => !m j) r) (by omega) (by omega)
      refine ⟨k + 1, ?_, .cons (g := a :: selM m r) (hp.cons a) (by simp) (by rw [List.sum_cons]; exact h1) hpt⟩
      show bestP (mst f) a r (plc r.length) 1 = _
      rw [h3, hk]; omega
theorem mst_ge : ∀ (f : Nat) {k : Nat} {xs : List Int}, xs.length ≤ f → Pt k xs → (k : Int) ≤ mst f xs
  | 0, k, xs, hl, h => by
    rw [List.eq_nil_of_length_eq_zero (Nat.le_zero.mp hl)] at h
    cases h with
    | nil => exact Int.le_refl _
    | cons p hn _ _ => exact absurd (List.append_eq_nil_iff.mp p.symm.eq_nil).1 hn
  | f + 1, k, [], _, h => by
    cases h with
    | nil => exact Int.le_refl _
    | cons p hn _ _ => exact absurd (List.append_eq_nil_iff.mp p.symm.eq_nil).1 hn
  | f + 1, k, a :: r, hl, h => by
    rw [List.length_cons] at hl
    obtain ⟨g, ys, k', rfl, p, hz, t⟩ := h.pick (List.mem_cons_self ..)
    obtain ⟨b1, b2⟩ := bestP_le (mst f) a r (plc r.length) 1
    show _ ≤ bestP (mst f) a r (plc r.length) 1
    have p' : r.Perm (g ++ ys) := (List.perm_cons a).mp p
    obtain ⟨m, h1, h2⟩ := sel_ex p'
    by_cases hy : ys = []
    · subst hy
      have : k' = 0 := by
        cases t with
        | nil => rfl
        | cons p hn _ _ => exact absurd (List.append_eq_nil_iff.mp p.symm.eq_nil).1 hn
      subst this
      exact b1
    · have hlen := h2.length_eq
      have hle := p'.length_eq
      rw [List.length_append] at hle
      have := b2 (posn r.length m) (posn_plc m _) (by rw [pickI_pos, lsum_perm h1]; rw [List.sum_cons] at hz; exact hz) (by rw [pickO_pos]; exact fun z => hy (by rw [z] at h2; exact h2.symm.eq_nil))
      rw [pickO_pos] at this
      have ih := mst_ge f (k := k') (xs := selM (fun j => !m j) r) (by omega) (t.perm h2)
      omega
theorem pt_groups : ∀ {gs : List (List Int)}, (∀ g ∈ gs, g ≠ [] ∧ g.sum = 0) → Pt gs.length gs.flatten
  | [], _ => .nil
  | g :: gs, h => .cons (g := g) (ys := gs.flatten) (by rw [List.flatten_cons]) (h g (List.mem_cons_self ..)).1 (h g (List.mem_cons_self ..)).2 (pt_groups fun x hx => h x (List.mem_cons_of_mem _ hx))
theorem selM_map (f : Int → Int) (m : Nat → Bool) : ∀ c : List Int, selM m (c.map f) = (selM m c).map f
  | [] => rfl
  | b :: c => by
    rw [List.map_cons, selM_cons, selM_cons, List.map_append, selM_map f _ c]
    cases m 0 <;> rfl
theorem selM_sub (m : Nat → Bool) {c : List Int} {s : Int} (h : s ∈ selM m c) : s ∈ c := (sel_perm m c).mem_iff.mpr (List.mem_append_left _ h)
theorem pt_lab {f : Int → Int} {k : Nat} {xs : List Int} (h : Pt k xs) : ∀ {c : List Int}, c.Nodup → (c.map f).Perm xs → ∃ lab : Int → Nat, (∀ s ∈ c, 1 ≤ lab s ∧ lab s ≤ k) ∧ ∀ i, 1 ≤ i → i ≤ k → (∃ s ∈ c, lab s = i) ∧ ((c.filter fun s => decide (lab s = i)).map f).sum = 0 := by
  induction h with
  | nil =>
    intro c _ hp
    have : c = [] := List.map_eq_nil_iff.mp hp.eq_nil
    subst this
    exact ⟨fun _ => 0, (fun s hs => nomatch hs), fun i h1 h2 => by omega⟩
  | @cons k xs g ys p hn hz t ih =>
    intro c hc hp
    obtain ⟨m, h1, h2⟩ := sel_ex (hp.trans p)
    rw [selM_map] at h1 h2
    have hpc := sel_perm m c
    have hnd := hpc.nodup_iff.mp hc
    obtain ⟨nd1, nd2, ndx⟩ := List.nodup_append.mp hnd
    obtain ⟨lab, l1, l2⟩ := ih nd2 h2
    have hmem : ∀ s, s ∈ c ↔ s ∈ selM m c ∨ s ∈ selM (fun j => !m j) c := fun s => by rw [hpc.mem_iff, List.mem_append]
    refine ⟨fun s => if s ∈ selM m c then k + 1 else lab s, fun s hs => ?_, fun i hi1 hi2 => ?_⟩
    · show 1 ≤ (if s ∈ selM m c then k + 1 else lab s) ∧ (if s ∈ selM m c then k + 1 else lab s) ≤ k + 1
      rcases (hmem s).mp hs with z | z
      · rw [if_pos z]; omega
      · rw [if_neg (fun y => ndx s y s z rfl)]
        have := l1 s z
        omega
    · have hfil : ((c.filter fun s => decide ((if s ∈ selM m c then k + 1 else lab s) = i)).map f).sum = (((selM m c).filter fun s => decide (k + 1 = i)).map f).sum + (((selM (fun j => !m j) c).filter fun s => decide (lab s = i)).map f).sum := by
        rw [lsum_perm ((hpc.filter _).map f), List.filter_append, List.map_append, List.sum_append]
        congr 2
        · congr 1
          exact List.filter_congr fun s hs => by rw [if_pos hs]
        · congr 1
          exact List.filter_congr fun s hs => by rw [if_neg (fun y => ndx s y s hs rfl)]
      by_cases e : i = k + 1
      · subst e
        refine ⟨?_, ?_⟩
        · obtain ⟨x, hx⟩ := List.exists_mem_of_ne_nil _ hn
          obtain ⟨s, hs, _⟩ := List.mem_map.mp (h1.mem_iff.mpr hx)
          exact ⟨s, (hmem s).mpr (.inl hs), if_pos hs⟩
        · rw [hfil]
          have e1 : (selM m c).filter (fun s => decide (k + 1 = k + 1)) = selM m c := List.filter_eq_self.mpr fun s _ => by simp
          have e2 : (selM (fun j => !m j) c).filter (fun s => decide (lab s = k + 1)) = [] := List.filter_eq_nil_iff.mpr fun s hs => by have := l1 s hs; simp; omega
          rw [e1, e2, lsum_perm h1, hz]; rfl
      · obtain ⟨⟨s, hs, hl⟩, hz2⟩ := l2 i hi1 (by omega)
        refine ⟨⟨s, (hmem s).mpr (.inr hs), (if_neg (fun y => ndx s y s hs rfl)).trans hl⟩, ?_⟩
        have e1 : (selM m c).filter (fun s => decide (k + 1 = i)) = [] := List.filter_eq_nil_iff.mpr fun s hs => by simp; omega
        rw [hfil, e1, hz2]; rfl
/-- the numbers that are not 0 -/
def owing (cs : List Int) : List Int := cs.filter fun c => decide (c ≠ 0)
theorem owing_seats (cs : List Int) : owing cs = (seatsC cs).map (gvL cs) := by
  unfold owing seatsC
  conv => lhs; rw [← gv_all cs]
  rw [List.filter_map]
  rfl
theorem gs_perm {c : List Int} {gs : List (List Int)} {f : Int → Int} (hc : c.Nodup) (h : GrOk f c gs) (hall : ∀ s ∈ c, s ∈ gs.flatten) : gs.flatten.Perm c := by
  have hnd : gs.flatten.Nodup := by
    have h1 : ∀ g ∈ gs, g.Nodup := fun g hg => by rw [h.sub g hg]; exact hc.filter _
    have h2 := h.apart
    clear h hall
    induction gs with
    | nil => exact List.nodup_nil
    | cons g gs ih =>
      obtain ⟨a1, a2⟩ := List.pairwise_cons.mp h2
      rw [List.flatten_cons]
      refine List.nodup_append.mpr ⟨h1 g (List.mem_cons_self ..), ih (fun x hx => h1 x (List.mem_cons_of_mem _ hx)) a2, fun a ha b hb e => ?_⟩
      subst e
      obtain ⟨g2, hg2, hb2⟩ := List.mem_flatten.mp hb
      exact a1 g2 hg2 a ha hb2
  refine (List.perm_ext_iff_of_nodup hnd hc).mpr fun s => ⟨fun hs => ?_, hall s⟩
  obtain ⟨g, hg, hsg⟩ := List.mem_flatten.mp hs
  rw [h.sub g hg] at hsg
  exact (List.mem_filter.mp hsg).1
theorem mst_mgs {cs : List Int} (hz : cs.sum = 0) (f : Nat) (hf : (owing cs).length ≤ f) : mst f (owing cs) = ((mgs cs).length : Int) := by
  obtain ⟨ok, all⟩ := mgs_ok cs
  have hp := gs_perm (seatsC_nd cs) ok (all hz)
  have h1 : Pt (mgs cs).length (owing cs) := by
    have := pt_groups (gs := (mgs cs).map fun g => g.map (gvL cs)) fun x hx => by
      obtain ⟨g, hg, rfl⟩ := List.mem_map.mp hx
      exact ⟨fun z => ok.some g hg (List.map_eq_nil_iff.mp z), ok.zero g hg⟩
    rw [List.length_map, ← List.map_flatten] at this
    rw [owing_seats]
    exact this.perm (hp.map _).symm
  have h2 := mst_ge f hf h1
  have hzo : (owing cs).sum = 0 := by rw [owing_seats, seatsC_sum, hz]
  obtain ⟨k, hk, hpt⟩ := mst_pt f _ hf hzo
  obtain ⟨lab, _, l2⟩ := pt_lab hpt (c := seatsC cs) (seatsC_nd cs) (by rw [owing_seats])
  have h3 := bst_most (gvL cs) _ (seatsC cs) lab k rfl (seatsC_nd cs) l2
  have h3 : k ≤ (mgs cs).length := h3
  omega
theorem few_owing {cs : List Int} (hz : cs.sum = 0) : fewF cs = ((owing cs).length : Int) - ((mgs cs).length : Int) := by
  obtain ⟨ok, all⟩ := mgs_ok cs
  have hp := (gs_perm (seatsC_nd cs) ok (all hz)).length_eq
  rw [owing_seats, List.length_map, ← hp]
  unfold fewF
  generalize mgs cs = gs
  clear ok all hp
  induction gs with
  | nil => rfl
  | cons g gs ih => rw [List.map_cons, List.sum_cons, ih, List.flatten_cons, List.length_append, List.length_cons]; omega
end
end Law

set_option Elab.async false
set_option linter.all false
set_option maxRecDepth 100000
set_option maxHeartbeats 4000000
namespace Law
open PySem PySem.Spec L2 DL
open PyProof.Rows hiding St
local macro_rules | `(tactic| walk_at "sl") => `(tactic| try dsimp only [startD, List.map, List.length_cons, List.length_nil, List.replicate, List.cons_append, List.nil_append, List.set_cons_zero, List.set_cons_succ, Nat.reduceSub, Nat.reduceAdd, wipeD])
local macro_rules | `(tactic| walk_at "go") => `(tactic| ((try dsimp only [cxOf, Cx.nox, Cx.wish, Cx.blk]); walk_at "sl"; walk_at "sl"))
local macro_rules | `(tactic| walk_at "own") => `(tactic| first | assumption | exact setO_same | (rw [setO_ne (by first | assumption | exact Ne.symm (by assumption))]; assumption) | (rw [setO_ne (by first | assumption | exact Ne.symm (by assumption))]; exact setO_same))
local macro_rules | `(tactic| walk_at "side") => `(tactic| first
  | assumption | rfl | exact flat_ints _ | exact atI0 | exact atI1 | exact atI2 | exact atI3 | decide | omega | (simp; done)
  | (refine cmodp ?_; omega) | (refine cdivw ?_ ?_ <;> omega) | (refine cmul_l ?_ ?_ <;> omega) | (refine cmul_r ?_ ?_ <;> omega) | (refine cpow ?_ ?_ ?_ <;> decide))
local macro_rules | `(tactic| walk_at "rr") => `(tactic| first
  | with_reducible exact r_int | with_reducible exact r_bl | with_reducible exact r_eqI | with_reducible exact r_neI | with_reducible exact r_eqB | with_reducible exact r_neB | with_reducible exact r_eqS | with_reducible exact r_neS
  | ((with_reducible apply r_intC); walk_at "side")
  | ((with_reducible apply r_ixL); walk_at "side") | ((with_reducible apply r_ixT); walk_at "side") | ((with_reducible apply r_ixS); walk_at "side") | ((with_reducible apply r_ixO); (focus walk_at "own"); (focus walk_at "side"))
  | ((with_reducible apply r_inT0) <;> walk_at "side") | ((with_reducible apply r_inL0) <;> walk_at "side") | ((with_reducible apply r_inT1) <;> walk_at "side") | ((with_reducible apply r_inL1) <;> walk_at "side")
  | ((with_reducible apply r_inO0); (focus walk_at "own"); (focus walk_at "side"); (focus walk_at "side")) | ((with_reducible apply r_inO1); (focus walk_at "own"); (focus walk_at "side"); (focus walk_at "side"))
  | ((with_reducible apply r_rep) <;> walk_at "side") | ((with_reducible apply r_cat) <;> walk_at "side")
  | ((with_reducible apply r_catA) <;> walk_at "side") | ((with_reducible apply r_catO); (focus walk_at "own"); (focus walk_at "side"))
  | ((with_reducible apply r_addS); (focus walk_at "side")) | with_reducible exact r_isN _ rfl | with_reducible exact r_notN _ rfl
  | ((with_reducible apply r_eqP); (focus walk_at "pl"); (focus walk_at "pl"); (focus decide); (focus decide)) | ((with_reducible apply r_neP); (focus walk_at "pl"); (focus walk_at "pl"); (focus decide); (focus decide)))
local macro_rules | `(tactic| walk_at "pl") => `(tactic| first | exact Pl.ints _ | exact Pl.intsL _ | exact Pl.nilT | exact Pl.nilL | exact Pl.int (n := 0) | assumption)
local macro_rules | `(tactic| walk_at "cc") => `(tactic| first
  | with_reducible exact c_lenL | with_reducible exact c_lenT | with_reducible exact c_lenS | ((with_reducible apply c_lenO); walk_at "own")
  | with_reducible exact c_listL | with_reducible exact c_listT | with_reducible exact c_tupL | with_reducible exact c_sum | with_reducible exact c_intB | with_reducible exact c_int1
  | with_reducible exact c_max2 | ((with_reducible apply c_strI); (focus walk_at "side")) | ((with_reducible apply c_lenStr); (focus walk_at "side"))
  | ((with_reducible apply c_isi); (focus rfl); (focus (first | decide +kernel | rfl))) | ((with_reducible apply c_isi2); (focus rfl); (focus (first | decide +kernel | rfl)); (focus (first | decide +kernel | rfl))))
local macro_rules | `(tactic| walk_at "ea") => `(tactic| first
  | with_reducible exact ea_nil
  | ((with_reducible apply ea_cons); (focus walk_at "ev"); (focus walk_at "ea"))
  | ((with_reducible apply ea_starT); (focus walk_at "ev"); (focus walk_at "ea")) | ((with_reducible apply ea_starL); (focus walk_at "ev"); (focus walk_at "ea")))
local macro_rules | `(tactic| walk_at "ev") => `(tactic| first
  | exact ev_var rfl | with_reducible exact ev_int | with_reducible exact ev_bl | with_reducible exact ev_str | with_reducible exact ev_non | with_reducible exact ev_ty | with_reducible exact ev_ref
  | ((with_reducible apply ev_op); (focus walk_at "ev"); (focus walk_at "ev"); (focus walk_at "rr"))
  | ((with_reducible apply ev_cb); (focus walk_at "ea"); (focus walk_at "cc"))
  | ((with_reducible apply ev_neg); (focus walk_at "ev"))
  | ((with_reducible apply ev_tup); (focus walk_at "ea"); (focus walk_at "side"))
  | ((with_reducible apply ev_lst); (focus walk_at "ea"); (focus walk_at "side"))
  | ((with_reducible apply ev_notV); (focus walk_at "ev"))
  | ((with_reducible apply ev_chain); (focus walk_at "ev"); (focus walk_at "ev"); (focus walk_at "rr"); (focus (intro _; walk_at "ev")); (focus (intro _; walk_at "rr")))
  | walk_at "evx")
local macro_rules | `(tactic| walk_at "et") => `(tactic| first
  | ((with_reducible apply et_test); walk_at "ev") | ((with_reducible apply et_B); walk_at "ev") | with_reducible exact et_yes
  | ((with_reducible apply et_not); walk_at "et")
  | ((with_reducible apply et_and); (focus walk_at "et"); (focus (intro _; walk_at "et")))
  | ((with_reducible apply et_or); (focus walk_at "et"); (focus (intro _; walk_at "et"))))
local macro_rules | `(tactic| walk_at "s1") => `(tactic| first
  | ((with_reducible apply sd_asg); (focus walk_at "ev"); walk_at "sl")
  | ((with_reducible apply sd_par); (focus walk_at "ea"); walk_at "sl")
  | ((with_reducible apply sd_setL); (focus walk_at "ev"); (focus walk_at "ev"); (focus walk_at "ev"); (focus walk_at "own"); (focus (first | exact ixN_of (k := 0) rfl (by simp) | exact ixN_of (k := 1) rfl (by simp) | exact ixN_of (k := 2) rfl (by simp) | exact ixN_of (k := 3) rfl (by simp) | assumption)); walk_at "sl")
  | ((with_reducible apply sd_app); (focus walk_at "ev"); (focus walk_at "own"); (focus walk_at "ev"); (focus walk_at "own"); (focus walk_at "side"); walk_at "sl")
  | ((with_reducible apply sd_ret); (focus walk_at "ev"))
  | with_reducible apply sd_next)
local macro_rules | `(tactic| walk_at "st") => `(tactic| first | ((with_reducible apply sd_seq); walk_at "s1") | walk_at "s1")
local macro_rules | `(tactic| walk_at "R") => `(tactic| first
  | exact ⟨_, rfl, rfl, rfl⟩ | exact ⟨_, _, rfl, rfl, rfl⟩ | exact ⟨_, _, _, rfl, rfl, rfl⟩ | exact ⟨_, _, _, _, rfl, rfl, rfl⟩
  | exact ⟨_, rfl, by assumption, rfl, rfl⟩ | exact ⟨_, _, rfl, by assumption, rfl, rfl⟩ | exact ⟨_, _, _, rfl, by assumption, rfl, rfl⟩ | exact ⟨_, _, _, _, rfl, by assumption, rfl, rfl⟩
  | exact ⟨_, _, rfl, by assumption, by assumption, rfl, rfl⟩ | exact ⟨_, _, _, rfl, by assumption, by assumption, rfl, rfl⟩ | exact ⟨_, _, _, _, rfl, by assumption, by assumption, rfl, rfl⟩)
local macro_rules | `(tactic| walk_at "evx") => `(tactic| first
  | ((with_reducible apply ev_run); (focus walk_at "ea"); walk_at "R")
  | ((with_reducible apply ev_propR); (focus walk_at "ev"); walk_at "R")
  | ((with_reducible apply ev_fld); (focus walk_at "ev"); (focus walk_at "cls"); (focus walk_at "cls"); (focus rfl))
  | ((with_reducible apply ev_ownIn0); (focus walk_at "ev"); (focus walk_at "ev"); walk_at "R")
  | ((with_reducible apply ev_slL); (focus walk_at "ev"); (focus walk_at "eo"); (focus walk_at "eo"))
  | ((with_reducible apply ev_slT); (focus walk_at "ev"); (focus walk_at "eo"); (focus walk_at "eo"))
  | ((with_reducible apply ev_cvalI); (focus walk_at "ev"); (focus walk_at "cls"); (focus walk_at "cls")))
local macro_rules | `(tactic| walk_at "eo") => `(tactic| first | with_reducible exact eo_none | ((with_reducible apply eo_some); walk_at "ev"))
local macro_rules | `(tactic| walk_at "cls") => `(tactic| first
  | with_reducible exact (by assumption : Tx _ _ _).cl_Shares
  | with_reducible exact (by assumption : Tx _ _ _).na_Shares_amounts
  | with_reducible exact (by assumption : Tx _ _ _).cl_Bill
  | with_reducible exact (by assumption : Tx _ _ _).na_Bill_total
  | with_reducible exact (by assumption : Tx _ _ _).na_Bill_there
  | with_reducible exact (by assumption : Tx _ _ _).cr_Bill
  | with_reducible exact (by assumption : Tx _ _ _).cv_Bill_MAX_SEATS)
section
variable {P : Program} {w : World} {K : PySem.W.Frag} {mg : Str → Option Value} {base : Heap} {A : Ad}
/-! ### most groups, by the law -/
def encLL (L : List (List Int)) : D := .lst (L.map fun g => .lst (g.map .int))
def R_lplc : DR := fun ds O Post => ∃ n : Nat, ds = [.int (n : Int)] ∧ n ≤ 10 ∧ Post (encLL (plc n)) O
theorem plc_el : ∀ (n : Nat) {P : List Int}, P ∈ plc n → P.length ≤ n
  | 0, P, h => by rw [List.mem_singleton.mp h]; exact Nat.le_refl _
  | n + 1, P, h => by
    rcases List.mem_append.mp h with z | z
    · have := plc_el n z; omega
    · obtain ⟨Q, hQ, rfl⟩ := List.mem_map.mp z
      have := plc_el n hQ
      rw [List.length_append, List.length_singleton]; omega
theorem plc_in : ∀ (n : Nat) {P : List Int}, P ∈ plc n → ∀ k ∈ P, 0 ≤ k ∧ k < n
  | 0, P, h => by rw [List.mem_singleton.mp h]; exact fun k hk => nomatch hk
  | n + 1, P, h => by
    rcases List.mem_append.mp h with z | z
    · exact fun k hk => by have := plc_in n z k hk; omega
    · obtain ⟨Q, hQ, rfl⟩ := List.mem_map.mp z
      intro k hk
      rcases List.mem_append.mp hk with y | y
      · have := plc_in n hQ k y; omega
      · rw [List.mem_singleton] at y; omega
theorem two_pow10 {n : Nat} (h : n ≤ 10) : 2 ^ n ≤ 1024 := Nat.le_trans (Nat.pow_le_pow_right (by decide) h) (by decide)
theorem ok_law_places (T : Tx K mg A) : FnR P w K mg base (L2.CX P w) 1 A.f_law_places (SpD K (R_lplc)) := by
  obtain ⟨fd, F, hb⟩ := T.F_law_places
  refine fnD F sc_law_places hb (fun ds O Post h => by first | (obtain ⟨rfl, _⟩ := h; rfl) | (obtain ⟨_, rfl, _⟩ := h; rfl) | (obtain ⟨_, _, rfl, _⟩ := h; rfl) | (obtain ⟨_, _, _, rfl, _⟩ := h; rfl) | (obtain ⟨_, _, _, _, rfl, _⟩ := h; rfl) | (obtain ⟨_, _, _, _, _, rfl, _⟩ := h; rfl) | (obtain ⟨_, _, _, _, _, _, rfl, _⟩ := h; rfl) | (obtain ⟨_, _, _, _, _, _, _, rfl, _⟩ := h; rfl) | (obtain ⟨_, _, _, _, _, _, _, _, rfl, _⟩ := h; rfl) | (obtain ⟨_, _, _, _, _, _, _, _, _, rfl, _⟩ := h; rfl) | (obtain ⟨_, _, _, _, _, _, _, _, _, _, rfl, _⟩ := h; rfl) | (obtain ⟨_, _, _, _, _, _, _, _, _, _, _, rfl, _⟩ := h; rfl) | (obtain ⟨_, _, _, _, _, _, _, _, _, _, _, _, rfl, _⟩ := h; rfl) | (obtain ⟨_, _, _, _, _, _, _, _, _, _, _, _, _, rfl, _⟩ := h; rfl)) fun cdv A' outer s H E hr => ⟨_, PSs.nox (pss_cons (ps_set (i := 1) sc_law_places.nd rfl (Or.inl rfl) (pe_lst (pa_cons (pe_lst pa_nil) pa_nil)))
      (pss_cons (ps_for PassesOwn.never rfl (pi_range1 (by rfl) T.b_range (pa_cons (pv 0) pa_nil)) (pg_name (i := 2) sc_law_places.nd rfl (Or.inr rfl)) (pss_one (ps_set (i := 1) sc_law_places.nd rfl (Or.inl rfl) (pe_op op_cat (pv 1) (pe_lc (own := [("_law_some", 3)]) rfl sc_law_places.nd (pi_listK K (pv 1)) (blkOk_by (N := N_law_places) (sc := defScope s_law_places) (by decide +kernel)) (fun _ _ _ _ _ => (pg_name (i := 3) sc_law_places.nd rfl (by first | exact Or.inl rfl | exact Or.inr rfl))) (fun _ _ _ _ _ => pts_nil) (fun _ _ _ _ _ => (pe_op op_cat (pv 3) (pe_lst (pa_cons (pv 2) pa_nil)))))))))
      (pss_one (ps_ret (pv 1))))), fun ds O Post hR => ?_⟩
  obtain ⟨n, rfl, hn, hp⟩ := hR
  walk_at "go"
  refine sd_seq (sd_asg (d := encLL (plc 0)) (O1 := O) (Ev.is (d := .lst [.lst []]) (ev_lst (ea_cons (ev_lst ea_nil (by simp)) ea_nil) (by simp)) rfl) ?_)
  walk_at "sl"
  refine sd_seq (sd_for (O1 := O) (ei_rngN (j := (n : Int)) (by walk_at "ea") (by omega)) (fun i δ' O' => O' = O ∧ ∃ c2 c3 : Option D, δ' = [some (.int (n : Int)), some (encLL (plc i)), c2, c3]) ⟨rfl, _, _, rfl⟩ (fun i d δ' O' hd hI => ?_) (fun δ' O' hI => ?_))
  · obtain ⟨rfl, c2, c3, rfl⟩ := hI
    have hi : i < n := by
      have := (List.getElem?_eq_some_iff.mp hd).1
      simpa using this
    rw [List.getElem?_map, List.getElem?_range (by simpa using hi)] at hd
    cases hd
    refine gd_name ?_
    walk_at "sl"
    have hl := plc_len i
    have h2 := two_pow10 (show i ≤ 10 by omega)
    refine sd_asg (d := encLL (plc (i + 1))) (O1 := O') (Ev.is (d := .lst ((plc i).map (fun g => D.lst (g.map .int)) ++ (plc i).map fun g => D.lst (g.map .int ++ [.int (i : Int)]))) (ev_op (x := encLL (plc i)) (ev_var rfl) (ev_lc (ei_list (ds := (plc i).map fun g => D.lst (g.map .int)) (ev_var rfl)) (cp_map (plc i) (fun g => D.lst (g.map .int)) (fun g => D.lst (g.map .int ++ [.int (i : Int)])) (fun g => [some (.int (n : Int)), some (encLL (plc i)), some (.int (i : Int)), some (.lst (g.map .int))]) fun g hg => ⟨gc_name (by decide), et_yes, ev_op (ev_var rfl) (ev_lst (ea_cons (ev_var rfl) ea_nil) (by simp)) (r_cat (by have := plc_el i hg; rw [List.length_map]; simp; omega))⟩) (by rw [List.length_map]; omega)) (r_cat (by rw [List.length_map, List.length_map]; omega))) ?_) ⟨rfl, _, _, rfl⟩
    show D.lst _ = D.lst ((plc i ++ (plc i).map fun P => P ++ [(i : Int)]).map fun g => D.lst (g.map .int))
    rw [List.map_append, List.map_map]
    congr 2
    exact List.map_congr_left fun g _ => by show D.lst _ = D.lst ((g ++ [(i : Int)]).map .int); rw [List.map_append]; rfl
  · obtain ⟨rfl, c2, c3, rfl⟩ := hI
    rw [List.length_map, List.length_range, Int.toNat_natCast]
    exact sd_ret (O1 := O') (ev_var rfl) hp
def R_lmost : Nat → DR
  | 0 => fun _ _ _ => False
  | n + 1 => fun ds O Post => ∃ xs : List Int, ds = [.lst (xs.map D.int)] ∧ xs.length ≤ n ∧ n ≤ 8 ∧ Post (.int (mst n xs)) O
theorem bestP_snoc (g : List Int → Int) (a : Int) (r : List Int) {l : List (List Int)} {i : Nat} {P : List Int} (h : l[i]? = some P) (b : Int) : bestP g a r (l.take (i + 1)) b = (if a + (pickI r P).sum = 0 ∧ pickO r P ≠ [] then (if 1 + g (pickO r P) > bestP g a r (l.take i) b then 1 + g (pickO r P) else bestP g a r (l.take i) b) else bestP g a r (l.take i) b) := by
  have e : l.take (i + 1) = l.take i ++ [P] := by rw [List.take_add_one, h]; rfl
  rw [e]
  unfold bestP
  rw [List.foldl_append]
  rfl
theorem cutD_one {d : D} {ds : List D} : DL.cutD (d :: ds) (some ((1 : Nat) : Int)) none = ds := by rw [cutD_drop]; rfl
theorem most_step {k n : Nat} (T : Tx K mg A) (IH : FnR P w K mg base (L2.CX P w) (k + 1) A.f_law_most (SpD K (R_lmost n))) : FnR P w K mg base (L2.CX P w) (k + 1 + 1) A.f_law_most (SpD K (R_lmost (n + 1))) := by
  obtain ⟨fd, F, hb⟩ := T.F_law_most
  refine fnD F sc_law_most hb (fun ds O Post h => by obtain ⟨_, rfl, _⟩ := h; rfl) fun cdv A' outer s H E hr => ⟨_, PSs.nox (pss_cons (ps_if (pt_cmpR (op_eqDK K hr.units) (pv 0) (pe_lst pa_nil) (nomark _)) (pss_one (ps_ret pe_int)) pss_nil)
      (pss_cons (ps_asg (pe_tup (pa_cons pe_int (pa_cons (pe_slice (sl_listK K) (pv 0) (po_some pe_int) po_none) pa_nil))) (pg_tupK K (n := 2) rfl (pgs_cons (pg_name (i := 1) sc_law_most.nd rfl (Or.inl rfl)) (pgs_cons (pg_name (i := 2) sc_law_most.nd rfl (Or.inr rfl)) pgs_nil))))
      (pss_cons (ps_for PassesOwn.never rfl (pi_listK K (pe_run (ok_law_places T) (hr.mono (by omega)) T.k_law_places T.g__law_places passL (pa_cons (pe_callB (call_lenK K) (by rfl) T.b_len (by decide +kernel) (pa_cons (pv 2) pa_nil)) pa_nil))) (pg_name (i := 3) sc_law_most.nd rfl (Or.inr rfl)) (pss_cons (ps_setLc (i := 4) (own := [("_law_k", 6)]) rfl sc_law_most.nd rfl rfl (sw_true rfl rfl rfl (by decide +kernel)) (pi_listK K (pv 3)) (blkOk_by (N := N_law_most) (sc := defScope s_law_most) (by decide +kernel)) (fun _ _ _ _ _ => (pg_name (i := 6) sc_law_most.nd rfl (by first | exact Or.inl rfl | exact Or.inr rfl))) (fun _ _ _ _ _ => pts_nil) (fun _ _ _ _ _ => (pe_ix (ix_listK K) (pv 2) (pv 6) (fun _ _ => rfl))))
      (pss_cons (ps_setLc (i := 5) (own := [("_law_k", 6)]) rfl sc_law_most.nd rfl rfl (sw_true rfl rfl rfl (by decide +kernel)) (pi_range1 (by rfl) T.b_range (pa_cons (pe_callB (call_lenK K) (by rfl) T.b_len (by decide +kernel) (pa_cons (pv 2) pa_nil)) pa_nil)) (blkOk_by (N := N_law_most) (sc := defScope s_law_most) (by decide +kernel)) (fun _ _ _ _ _ => (pg_name (i := 6) sc_law_most.nd rfl (by first | exact Or.inl rfl | exact Or.inr rfl))) (fun _ _ _ _ _ => (pts_one (pt_cmpR (op_notInK K) (pv 6) (pv 3) (by rfl)))) (fun _ _ _ _ _ => (pe_ix (ix_listK K) (pv 2) (pv 6) (fun _ _ => rfl))))
      (pss_one (ps_if (PW.pt (pw_and (pt_cmpR op_eq (pe_op op_add (pe_ix (ix_listK K) (pv 0) pe_int (fun _ _ => rfl)) (pe_callB (cr_sumK K rfl) (by rfl) T.b_sum (by decide +kernel) (pa_cons (pv 4) pa_nil))) pe_int (nomark _)) (pw_and1 (pt_cmpR (op_neDK K hr.units) (pv 5) (pe_lst pa_nil) (nomark _))))) (pss_one (ps_set (i := 1) sc_law_most.nd rfl (Or.inl rfl) (pe_callB (call_max2 rfl) (by rfl) T.b_max (by decide +kernel) (pa_cons (pv 1) (pa_cons (pe_op op_add pe_int (pe_run IH hr T.k_law_most T.g__law_most passL (pa_cons (pv 5) pa_nil))) pa_nil))))) pss_nil)))))
      (pss_one (ps_ret (pv 1)))))), fun ds O Post hR => ?_⟩
  obtain ⟨xs, rfl, hl, h8, hp⟩ := hR
  walk_at "go"
  cases xs with
  | nil =>
    refine sd_seq (sd_ifT (O1 := O) (EvT.is (b := eqD (.lst []) (.lst [])) (et_test (ev_op (ev_var rfl) (ev_lst ea_nil (by simp)) (r_eqP Pl.nilL Pl.nilL (by decide) (by decide)))) (by rw [eqD_nilL]; rfl)) ?_)
    refine sd_ret (O1 := O) ev_int ?_
    have : mst n [] = 0 := by cases n <;> rfl
    rw [this] at hp
    exact hp
  | cons a r =>
    rw [List.length_cons] at hl
    obtain ⟨m, rfl⟩ : ∃ m, n = m + 1 := ⟨n - 1, by omega⟩
    have hp : Post (.int (bestP (mst m) a r (plc r.length) 1)) O := hp
    refine sd_seq (sd_ifF (O1 := O) (EvT.is (b := eqD (.lst ((a :: r).map D.int)) (.lst [])) (et_test (ev_op (ev_var rfl) (ev_lst ea_nil (by simp)) (r_eqP (Pl.intsL _) Pl.nilL (by decide) (by decide)))) (by rw [eqD_nilL]; rfl)) (sd_next ?_))
    refine sd_seq (sd_asgG (Ev.toP (d := .tup [.int 1, .lst (r.map .int)]) (O1 := O) (ev_tup (ea_cons ev_int (ea_cons (Ev.is (d := .lst (DL.cutD (.int a :: r.map .int) (some ((1 : Nat) : Int)) none)) (ev_slL (ev_var rfl) (eo_some ev_int) eo_none) (by rw [cutD_one])) ea_nil)) (by simp)) (gd_tup rfl (gds_cons (gd_name (gds_cons (gd_name (gds_nil ?_))))))))
    walk_at "sl"
    have e2 : ((r.map D.int).length : Int) = (r.length : Int) := by rw [List.length_map]
    refine sd_seq (sd_for (O1 := O) (items := (plc r.length).map fun g => D.lst (g.map .int)) (ei_list (Ev.is (d := encLL (plc r.length)) (ev_run (ds := [.int (r.length : Int)]) (O1 := O) (ea_cons (Ev.is (ev_cb (ea_cons (ev_var rfl) ea_nil) c_lenL) (by rw [e2])) ea_nil) ⟨r.length, rfl, by omega, rfl, rfl⟩) rfl)) (fun i δ' O' => O' = O ∧ ∃ c3 c4 c5 c6 : Option D, δ' = [some (.lst ((a :: r).map .int)), some (.int (bestP (mst m) a r ((plc r.length).take i) 1)), some (.lst (r.map .int)), c3, c4, c5, c6]) ⟨rfl, _, _, _, _, rfl⟩ (fun i d δ' O' hd hI => ?_) (fun δ' O' hI => ?_))
    · obtain ⟨rfl, c3, c4, c5, c6, rfl⟩ := hI
      rw [List.getElem?_map] at hd
      cases eP : (plc r.length)[i]? with
      | none => rw [eP] at hd; cases hd
      | some Q =>
        rw [eP] at hd; cases hd
        have hQ := List.mem_of_getElem? eP
        have hQl := plc_el _ hQ
        have hQi := plc_in _ hQ
        have hsn := bestP_snoc (mst m) a r eP 1
        refine gd_name ?_
        walk_at "sl"
        generalize bestP (mst m) a r ((plc r.length).take i) 1 = B0 at hsn ⊢
        refine sd_seq (sd_asg (d := .lst ((pickI r Q).map .int)) (O1 := O') ?_ ?_)
        · show Ev K _ _ _ (.lst ((Q.map fun k => r.getD k.toNat 0).map .int)) _
          rw [List.map_map]
          refine ev_lc (O1 := O') (ei_list (ds := Q.map D.int) (ev_var rfl)) (cp_map Q D.int _ (fun k => [some (.lst ((a :: r).map .int)), some (.int B0), some (.lst (r.map .int)), some (.lst (Q.map .int)), c4, c5, some (.int k)]) fun k hk => ⟨gc_name (by decide), et_yes, ?_⟩) (by rw [List.length_map]; omega)
          have := hQi k hk
          exact ev_op (ev_var rfl) (ev_var rfl) (r_ixL (gv_at (cs := r) this))
        walk_at "sl"
        refine sd_seq (sd_asg (d := .lst ((pickO r Q).map .int)) (O1 := O') ?_ ?_)
        · unfold pickO
          rw [List.map_map]
          refine ev_lc (O1 := O') (ei_rngN (j := (r.length : Int)) (ea_cons (Ev.is (ev_cb (ea_cons (ev_var rfl) ea_nil) c_lenL) (by rw [e2])) ea_nil) (by omega)) (cp_filter (List.range (r.length : Int).toNat) (fun (j : Nat) => D.int (j : Int)) _ (fun j => [some (.lst ((a :: r).map .int)), some (.int B0), some (.lst (r.map .int)), some (.lst (Q.map .int)), some (.lst ((pickI r Q).map .int)), c5, some (.int (j : Int))]) _ fun j hj => ⟨gc_name (by decide), EvT.is (et_test (ev_op (ev_var rfl) (ev_var rfl) (r_inL1 (by rfl) (flat_ints _)))) (by rw [inD_int]), fun _ => ?_⟩) (by simp; omega)
          have hj := List.mem_range.mp hj
          exact ev_op (ev_var rfl) (ev_var rfl) (r_ixL (gv_at (cs := r) (s := (j : Int)) (by omega)))
        walk_at "sl"
        refine sd_if (O1 := O') (b := decide (a + (pickI r Q).sum = 0 ∧ pickO r Q ≠ [])) (EvT.is (b := (a + (pickI r Q).sum == 0) && !((pickO r Q).map D.int).isEmpty) (et_and (et_test (ev_op (ev_op (ev_op (ev_var rfl) ev_int (r_ixL atI0)) (ev_cb (ea_cons (ev_var rfl) ea_nil) c_sum) r_int) ev_int r_eqI)) fun _ => EvT.is (b := !eqD (.lst ((pickO r Q).map D.int)) (.lst [])) (et_test (ev_op (ev_var rfl) (ev_lst ea_nil (by simp)) (r_neP (Pl.intsL _) Pl.nilL (by decide) (by decide)))) (by rw [eqD_nilL])) ?_) (fun e => ?_) (fun e => sd_next ?_)
        · rw [Bool.decide_and]
          congr 1
          cases pickO r Q <;> simp
        · have e := of_decide_eq_true e
          rw [if_pos e] at hsn
          exact sd_asg (d := .int (bestP (mst m) a r (List.take (i + 1) (plc r.length)) 1)) (O1 := O') (Ev.is (d := .int (if 1 + mst m (pickO r Q) > B0 then 1 + mst m (pickO r Q) else B0)) (ev_cb (ea_cons (ev_var rfl) (ea_cons (ev_op ev_int (ev_run (ds := [.lst ((pickO r Q).map .int)]) (O1 := O') (ea_cons (ev_var rfl) ea_nil) ⟨pickO r Q, rfl, by have := pickO_len r Q; omega, by omega, rfl, rfl⟩) r_int) ea_nil)) c_max2) (by rw [hsn])) ⟨rfl, _, _, _, _, rfl⟩
        · have e := of_decide_eq_false e
          rw [if_neg e] at hsn
          rw [← hsn]
          exact ⟨rfl, _, _, _, _, rfl⟩
    · obtain ⟨rfl, c3, c4, c5, c6, rfl⟩ := hI
      rw [List.length_map, List.take_length]
      exact sd_ret (O1 := O') (ev_var rfl) hp
theorem ok_law_most (T : Tx K mg A) : FnR P w K mg base (L2.CX P w) 10 A.f_law_most (SpD K (R_lmost 9)) := most_step T (most_step T (most_step T (most_step T (most_step T (most_step T (most_step T (most_step T (most_step T fnR0))))))))
end
end Law

set_option Elab.async false
set_option linter.all false
set_option maxRecDepth 100000
set_option maxHeartbeats 4000000
namespace Law
open PySem PySem.Spec L2 DL
open PyProof.Rows hiding St
local macro_rules | `(tactic| walk_at "sl") => `(tactic| try dsimp only [startD, List.map, List.length_cons, List.length_nil, List.replicate, List.cons_append, List.nil_append, List.set_cons_zero, List.set_cons_succ, Nat.reduceSub, Nat.reduceAdd, wipeD])
local macro_rules | `(tactic| walk_at "go") => `(tactic| ((try dsimp only [cxOf, Cx.nox, Cx.wish, Cx.blk]); walk_at "sl"; walk_at "sl"))
local macro_rules | `(tactic| walk_at "own") => `(tactic| first | assumption | exact setO_same | (rw [setO_ne (by first | assumption | exact Ne.symm (by assumption))]; assumption) | (rw [setO_ne (by first | assumption | exact Ne.symm (by assumption))]; exact setO_same))
local macro_rules | `(tactic| walk_at "side") => `(tactic| first
  | assumption | rfl | exact flat_ints _ | exact atI0 | exact atI1 | exact atI2 | exact atI3 | decide | omega | (simp; done)
  | (refine cmodp ?_; omega) | (refine cdivw ?_ ?_ <;> omega) | (refine cmul_l ?_ ?_ <;> omega) | (refine cmul_r ?_ ?_ <;> omega) | (refine cpow ?_ ?_ ?_ <;> decide))
local macro_rules | `(tactic| walk_at "rr") => `(tactic| first
  | with_reducible exact r_int | with_reducible exact r_bl | with_reducible exact r_eqI | with_reducible exact r_neI | with_reducible exact r_eqB | with_reducible exact r_neB | with_reducible exact r_eqS | with_reducible exact r_neS
  | ((with_reducible apply r_intC); walk_at "side")
  | ((with_reducible apply r_ixL); walk_at "side") | ((with_reducible apply r_ixT); walk_at "side") | ((with_reducible apply r_ixS); walk_at "side") | ((with_reducible apply r_ixO); (focus walk_at "own"); (focus walk_at "side"))
  | ((with_reducible apply r_inT0) <;> walk_at "side") | ((with_reducible apply r_inL0) <;> walk_at "side") | ((with_reducible apply r_inT1) <;> walk_at "side") | ((with_reducible apply r_inL1) <;> walk_at "side")
  | ((with_reducible apply r_inO0); (focus walk_at "own"); (focus walk_at "side"); (focus walk_at "side")) | ((with_reducible apply r_inO1); (focus walk_at "own"); (focus walk_at "side"); (focus walk_at "side"))
  | ((with_reducible apply r_rep) <;> walk_at "side") | ((with_reducible apply r_cat) <;> walk_at "side")
  | ((with_reducible apply r_catA) <;> walk_at "side") | ((with_reducible apply r_catO); (focus walk_at "own"); (focus walk_at "side"))
  | ((with_reducible apply r_addS); (focus walk_at "side")) | with_reducible exact r_isN _ rfl | with_reducible exact r_notN _ rfl
  | ((with_reducible apply r_eqP); (focus walk_at "pl"); (focus walk_at "pl"); (focus decide); (focus decide)) | ((with_reducible apply r_neP); (focus walk_at "pl"); (focus walk_at "pl"); (focus decide); (focus decide)))
local macro_rules | `(tactic| walk_at "pl") => `(tactic| first | exact Pl.ints _ | exact Pl.intsL _ | exact Pl.nilT | exact Pl.nilL | exact Pl.int (n := 0) | assumption)
local macro_rules | `(tactic| walk_at "cc") => `(tactic| first
  | with_reducible exact c_lenL | with_reducible exact c_lenT | with_reducible exact c_lenS | ((with_reducible apply c_lenO); walk_at "own")
  | with_reducible exact c_listL | with_reducible exact c_listT | with_reducible exact c_tupL | with_reducible exact c_sum | with_reducible exact c_intB | with_reducible exact c_int1
  | with_reducible exact c_max2 | ((with_reducible apply c_strI); (focus walk_at "side")) | ((with_reducible apply c_lenStr); (focus walk_at "side"))
  | ((with_reducible apply c_isi); (focus rfl); (focus (first | decide +kernel | rfl))) | ((with_reducible apply c_isi2); (focus rfl); (focus (first | decide +kernel | rfl)); (focus (first | decide +kernel | rfl))))
local macro_rules | `(tactic| walk_at "ea") => `(tactic| first
  | with_reducible exact ea_nil
  | ((with_reducible apply ea_cons); (focus walk_at "ev"); (focus walk_at "ea"))
  | ((with_reducible apply ea_starT); (focus walk_at "ev"); (focus walk_at "ea")) | ((with_reducible apply ea_starL); (focus walk_at "ev"); (focus walk_at "ea")))
local macro_rules | `(tactic| walk_at "ev") => `(tactic| first
  | exact ev_var rfl | with_reducible exact ev_int | with_reducible exact ev_bl | with_reducible exact ev_str | with_reducible exact ev_non | with_reducible exact ev_ty | with_reducible exact ev_ref
  | ((with_reducible apply ev_op); (focus walk_at "ev"); (focus walk_at "ev"); (focus walk_at "rr"))
  | ((with_reducible apply ev_cb); (focus walk_at "ea"); (focus walk_at "cc"))
  | ((with_reducible apply ev_neg); (focus walk_at "ev"))
  | ((with_reducible apply ev_tup); (focus walk_at "ea"); (focus walk_at "side"))
  | ((with_reducible apply ev_lst); (focus walk_at "ea"); (focus walk_at "side"))
  | ((with_reducible apply ev_notV); (focus walk_at "ev"))
  | ((with_reducible apply ev_chain); (focus walk_at "ev"); (focus walk_at "ev"); (focus walk_at "rr"); (focus (intro _; walk_at "ev")); (focus (intro _; walk_at "rr")))
  | walk_at "evx")
local macro_rules | `(tactic| walk_at "et") => `(tactic| first
  | ((with_reducible apply et_test); walk_at "ev") | ((with_reducible apply et_B); walk_at "ev") | with_reducible exact et_yes
  | ((with_reducible apply et_not); walk_at "et")
  | ((with_reducible apply et_and); (focus walk_at "et"); (focus (intro _; walk_at "et")))
  | ((with_reducible apply et_or); (focus walk_at "et"); (focus (intro _; walk_at "et"))))
local macro_rules | `(tactic| walk_at "s1") => `(tactic| first
  | ((with_reducible apply sd_asg); (focus walk_at "ev"); walk_at "sl")
  | ((with_reducible apply sd_par); (focus walk_at "ea"); walk_at "sl")
  | ((with_reducible apply sd_setL); (focus walk_at "ev"); (focus walk_at "ev"); (focus walk_at "ev"); (focus walk_at "own"); (focus (first | exact ixN_of (k := 0) rfl (by simp) | exact ixN_of (k := 1) rfl (by simp) | exact ixN_of (k := 2) rfl (by simp) | exact ixN_of (k := 3) rfl (by simp) | assumption)); walk_at "sl")
  | ((with_reducible apply sd_app); (focus walk_at "ev"); (focus walk_at "own"); (focus walk_at "ev"); (focus walk_at "own"); (focus walk_at "side"); walk_at "sl")
  | ((with_reducible apply sd_ret); (focus walk_at "ev"))
  | with_reducible apply sd_next)
local macro_rules | `(tactic| walk_at "st") => `(tactic| first | ((with_reducible apply sd_seq); walk_at "s1") | walk_at "s1")
local macro_rules | `(tactic| walk_at "R") => `(tactic| first
  | exact ⟨_, rfl, rfl, rfl⟩ | exact ⟨_, _, rfl, rfl, rfl⟩ | exact ⟨_, _, _, rfl, rfl, rfl⟩ | exact ⟨_, _, _, _, rfl, rfl, rfl⟩
  | exact ⟨_, rfl, by assumption, rfl, rfl⟩ | exact ⟨_, _, rfl, by assumption, rfl, rfl⟩ | exact ⟨_, _, _, rfl, by assumption, rfl, rfl⟩ | exact ⟨_, _, _, _, rfl, by assumption, rfl, rfl⟩
  | exact ⟨_, _, rfl, by assumption, by assumption, rfl, rfl⟩ | exact ⟨_, _, _, rfl, by assumption, by assumption, rfl, rfl⟩ | exact ⟨_, _, _, _, rfl, by assumption, by assumption, rfl, rfl⟩)
local macro_rules | `(tactic| walk_at "evx") => `(tactic| first
  | ((with_reducible apply ev_run); (focus walk_at "ea"); walk_at "R")
  | ((with_reducible apply ev_propR); (focus walk_at "ev"); walk_at "R")
  | ((with_reducible apply ev_fld); (focus walk_at "ev"); (focus walk_at "cls"); (focus walk_at "cls"); (focus rfl))
  | ((with_reducible apply ev_ownIn0); (focus walk_at "ev"); (focus walk_at "ev"); walk_at "R")
  | ((with_reducible apply ev_slL); (focus walk_at "ev"); (focus walk_at "eo"); (focus walk_at "eo"))
  | ((with_reducible apply ev_slT); (focus walk_at "ev"); (focus walk_at "eo"); (focus walk_at "eo"))
  | ((with_reducible apply ev_cvalI); (focus walk_at "ev"); (focus walk_at "cls"); (focus walk_at "cls")))
local macro_rules | `(tactic| walk_at "eo") => `(tactic| first | with_reducible exact eo_none | ((with_reducible apply eo_some); walk_at "ev"))
local macro_rules | `(tactic| walk_at "cls") => `(tactic| first
  | with_reducible exact (by assumption : Tx _ _ _).cl_Shares
  | with_reducible exact (by assumption : Tx _ _ _).na_Shares_amounts
  | with_reducible exact (by assumption : Tx _ _ _).cl_Bill
  | with_reducible exact (by assumption : Tx _ _ _).na_Bill_total
  | with_reducible exact (by assumption : Tx _ _ _).na_Bill_there
  | with_reducible exact (by assumption : Tx _ _ _).cr_Bill
  | with_reducible exact (by assumption : Tx _ _ _).cv_Bill_MAX_SEATS)
section
variable {P : Program} {w : World} {K : PySem.W.Frag} {mg : Str → Option Value} {base : Heap} {A : Ad}
def R_lsh7 (A : Ad) : DR := fun ds O Post => ∃ cs : List Int, ds = [.lst (cs.map .int)] ∧ (2 ≤ cs.length ∧ cs.length ≤ 7) ∧ O A.tb_law_shares = some (tabM (("_law_shares" ++ ".<locals>." : Str) ++ "<lambda>")) ∧ Post (encS A cs) O
theorem ok_law_shares (T : Tx K mg A) (TB : Tb base mg A) : FnR P w K mg base (L2.CX P w) 5 A.f_law_shares (SpD K (R_lsh7 A)) := by
  obtain ⟨fd, F, hb, hc⟩ := T.F_law_shares
  refine fnDL F sc_law_shares hb hc (fun ds O Post h => by first | (obtain ⟨rfl, _⟩ := h; rfl) | (obtain ⟨_, rfl, _⟩ := h; rfl) | (obtain ⟨_, _, rfl, _⟩ := h; rfl) | (obtain ⟨_, _, _, rfl, _⟩ := h; rfl) | (obtain ⟨_, _, _, _, rfl, _⟩ := h; rfl) | (obtain ⟨_, _, _, _, _, rfl, _⟩ := h; rfl) | (obtain ⟨_, _, _, _, _, _, rfl, _⟩ := h; rfl) | (obtain ⟨_, _, _, _, _, _, _, rfl, _⟩ := h; rfl) | (obtain ⟨_, _, _, _, _, _, _, _, rfl, _⟩ := h; rfl) | (obtain ⟨_, _, _, _, _, _, _, _, _, rfl, _⟩ := h; rfl) | (obtain ⟨_, _, _, _, _, _, _, _, _, _, rfl, _⟩ := h; rfl) | (obtain ⟨_, _, _, _, _, _, _, _, _, _, _, rfl, _⟩ := h; rfl) | (obtain ⟨_, _, _, _, _, _, _, _, _, _, _, _, rfl, _⟩ := h; rfl) | (obtain ⟨_, _, _, _, _, _, _, _, _, _, _, _, _, rfl, _⟩ := h; rfl)) fun cdv A' outer s H E hcd hr => ⟨_, PSs.nox (pss_cons (ps_set (i := 1) sc_law_shares.nd rfl (Or.inl rfl) (pe_lst (pa_cons (pe_lam0 (k := 3) TB.tb_law_shares hcd (lmS_by (N := N_law_shares) (sc := defScope s_law_shares) (by decide +kernel)) (fun _ _ _ _ _ _ => rfl) (fun base1 A1 outer1 s1 H1 E1 f1 c1 hu hr => (StX.pe_makeR T.mk_Shares (ok_Shares_Dinit T) (hr.mono (by decide)) rfl T.g_Shares passL (pa_cons (pe_ix (ix_listK K) (pv 0) pe_int (fun _ _ => rfl)) (pa_cons (pe_ix (ix_listK K) (pv 0) pe_int (fun _ _ => rfl)) pa_nil))))) (pa_cons (pe_lam1 (k := 3) (y := "_law_a") TB.tb_law_shares hcd (lmS_by (N := N_law_shares) (sc := defScope s_law_shares) (by decide +kernel)) (fun _ _ _ _ _ _ _ => ⟨_, rfl, fun _ => rfl⟩) pe_int (fun base1 A1 outer1 s1 H1 E1 f1 c1 hu hr => (StX.pe_makeR T.mk_Shares (ok_Shares_Dinit T) (hr.mono (by decide)) rfl T.g_Shares passL (pa_cons (pe_ix (ix_listK K) (pv 0) pe_int (fun _ _ => rfl)) (pa_cons (pe_ix (ix_listK K) (pv 0) pe_int (fun _ _ => rfl)) (pa_cons (pe_ix (ix_listK K) (pv 0) pe_int (fun _ _ => rfl)) pa_nil)))))) pa_nil))))
      (pss_cons (ps_expr (pe_bm PySem.F.plainAttrs_list PySem.F.slot_list_append PySem.F.type_list_append mt_append (pv 1) (pa_cons (pe_lam1 (k := 3) (y := "_law_b") TB.tb_law_shares hcd (lmS_by (N := N_law_shares) (sc := defScope s_law_shares) (by decide +kernel)) (fun _ _ _ _ _ _ _ => ⟨_, rfl, fun _ => rfl⟩) pe_int (fun base1 A1 outer1 s1 H1 E1 f1 c1 hu hr => (StX.pe_makeR T.mk_Shares (ok_Shares_Dinit T) (hr.mono (by decide)) rfl T.g_Shares passL (pa_cons (pe_ix (ix_listK K) (pv 0) pe_int (fun _ _ => rfl)) (pa_cons (pe_ix (ix_listK K) (pv 0) pe_int (fun _ _ => rfl)) (pa_cons (pe_ix (ix_listK K) (pv 0) pe_int (fun _ _ => rfl)) (pa_cons (pe_ix (ix_listK K) (pv 0) pe_int (fun _ _ => rfl)) pa_nil))))))) pa_nil)))
      (pss_cons (ps_expr (pe_bm PySem.F.plainAttrs_list PySem.F.slot_list_append PySem.F.type_list_append mt_append (pv 1) (pa_cons (pe_lam1 (k := 3) (y := "_law_c") TB.tb_law_shares hcd (lmS_by (N := N_law_shares) (sc := defScope s_law_shares) (by decide +kernel)) (fun _ _ _ _ _ _ _ => ⟨_, rfl, fun _ => rfl⟩) pe_int (fun base1 A1 outer1 s1 H1 E1 f1 c1 hu hr => (StX.pe_makeR T.mk_Shares (ok_Shares_Dinit T) (hr.mono (by decide)) rfl T.g_Shares passL (pa_cons (pe_ix (ix_listK K) (pv 0) pe_int (fun _ _ => rfl)) (pa_cons (pe_ix (ix_listK K) (pv 0) pe_int (fun _ _ => rfl)) (pa_cons (pe_ix (ix_listK K) (pv 0) pe_int (fun _ _ => rfl)) (pa_cons (pe_ix (ix_listK K) (pv 0) pe_int (fun _ _ => rfl)) (pa_cons (pe_ix (ix_listK K) (pv 0) pe_int (fun _ _ => rfl)) pa_nil)))))))) pa_nil)))
      (pss_cons (ps_expr (pe_bm PySem.F.plainAttrs_list PySem.F.slot_list_append PySem.F.type_list_append mt_append (pv 1) (pa_cons (pe_lam1 (k := 3) (y := "_law_d") TB.tb_law_shares hcd (lmS_by (N := N_law_shares) (sc := defScope s_law_shares) (by decide +kernel)) (fun _ _ _ _ _ _ _ => ⟨_, rfl, fun _ => rfl⟩) pe_int (fun base1 A1 outer1 s1 H1 E1 f1 c1 hu hr => (StX.pe_makeR T.mk_Shares (ok_Shares_Dinit T) (hr.mono (by decide)) rfl T.g_Shares passL (pa_cons (pe_ix (ix_listK K) (pv 0) pe_int (fun _ _ => rfl)) (pa_cons (pe_ix (ix_listK K) (pv 0) pe_int (fun _ _ => rfl)) (pa_cons (pe_ix (ix_listK K) (pv 0) pe_int (fun _ _ => rfl)) (pa_cons (pe_ix (ix_listK K) (pv 0) pe_int (fun _ _ => rfl)) (pa_cons (pe_ix (ix_listK K) (pv 0) pe_int (fun _ _ => rfl)) (pa_cons (pe_ix (ix_listK K) (pv 0) pe_int (fun _ _ => rfl)) pa_nil))))))))) pa_nil)))
      (pss_cons (ps_expr (pe_bm PySem.F.plainAttrs_list PySem.F.slot_list_append PySem.F.type_list_append mt_append (pv 1) (pa_cons (pe_lam1 (k := 3) (y := "_law_e") TB.tb_law_shares hcd (lmS_by (N := N_law_shares) (sc := defScope s_law_shares) (by decide +kernel)) (fun _ _ _ _ _ _ _ => ⟨_, rfl, fun _ => rfl⟩) pe_int (fun base1 A1 outer1 s1 H1 E1 f1 c1 hu hr => (StX.pe_makeR T.mk_Shares (ok_Shares_Dinit T) (hr.mono (by decide)) rfl T.g_Shares passL (pa_cons (pe_ix (ix_listK K) (pv 0) pe_int (fun _ _ => rfl)) (pa_cons (pe_ix (ix_listK K) (pv 0) pe_int (fun _ _ => rfl)) (pa_cons (pe_ix (ix_listK K) (pv 0) pe_int (fun _ _ => rfl)) (pa_cons (pe_ix (ix_listK K) (pv 0) pe_int (fun _ _ => rfl)) (pa_cons (pe_ix (ix_listK K) (pv 0) pe_int (fun _ _ => rfl)) (pa_cons (pe_ix (ix_listK K) (pv 0) pe_int (fun _ _ => rfl)) (pa_cons (pe_ix (ix_listK K) (pv 0) pe_int (fun _ _ => rfl)) pa_nil)))))))))) pa_nil)))
      (pss_one (ps_ret (pe_lamC (k := 4) (fun _ => rfl) (hr.mono (by decide)) (pe_ix (ix_listK K) (pv 1) (pe_op op_sub (pe_callB (call_lenK K) (by rfl) T.b_len (by decide +kernel) (pa_cons (pv 0) pa_nil)) pe_int) (fun _ _ => rfl)))))))))), fun ds O Post hR => ?_⟩
  obtain ⟨cs, rfl, hl, hO, hp⟩ := hR
  walk_at "go"
  refine sd_seq (sd_asgP (evp_lst (ea_cons (ev_lamK rfl rfl hO) (ea_cons (ev_lamK rfl rfl hO) ea_nil)) (by simp) fun p hpn => ?_))
  walk_at "sl"
  have hne : A.tb_law_shares ≠ p := fun z => by rw [z, hpn] at hO; cases hO
  have hOs : ∀ {M : MO}, setO O p M A.tb_law_shares = some (tabM (("_law_shares" ++ ".<locals>." : Str) ++ "<lambda>")) := fun {M} => by rw [setO_ne hne]; exact hO
  refine sd_seq (sd_app (l := p) (O2 := setO O p _) (ev_var rfl) setO_same (ev_lamK rfl rfl hOs) setO_same (by simp) ?_)
  rw [setO_setO]
  refine sd_seq (sd_app (l := p) (O2 := setO O p _) (ev_var rfl) setO_same (ev_lamK rfl rfl hOs) setO_same (by simp) ?_)
  rw [setO_setO]
  refine sd_seq (sd_app (l := p) (O2 := setO O p _) (ev_var rfl) setO_same (ev_lamK rfl rfl hOs) setO_same (by simp) ?_)
  rw [setO_setO]
  refine sd_seq (sd_app (l := p) (O2 := setO O p _) (ev_var rfl) setO_same (ev_lamK rfl rfl hOs) setO_same (by simp) ?_)
  rw [setO_setO]
  refine sd_pub (i := 1) setO_same rfl ?_
  rw [delO_setO hpn]
  walk_at "sl"
  have hx : ∀ {cs : List Int} {δ : Sl} {k : Nat}, δ[0]? = some (some (.lst (cs.map .int))) → (hk : k < cs.length) → Ev K (tOp (rIxL K) (tVar 0) (tC (.int (k : Int)))) δ O (.int cs[k]) O := fun {cs δ k} h0 hk => ev_op (ev_var h0) ev_int (r_ixL (atI_of rfl (by rw [List.getElem?_map, List.getElem?_eq_getElem hk]; rfl)))
  match cs, hl, hp with
  | [a, b], _, hp => exact sd_retP (evp_lamC rfl (Ev.toP (O1 := O) (ev_op (ev_var rfl) (ev_op (ev_cb (ea_cons (ev_var rfl) ea_nil) c_lenL) ev_int r_int) (r_ixL (atI_of (k := 0) rfl rfl))) ⟨_, rfl, fun E' => Ev.tox (d := encS A [a, b]) (O1 := O) (ev_mk (ds := [.int a, .int b]) (O1 := O) (ea_cons (hx (cs := [a, b]) (k := 0) rfl (by simp)) (ea_cons (hx (cs := [a, b]) (k := 1) rfl (by simp)) ea_nil)) (mk_S (cs := [a, b]) (by simp))) hp⟩))
  | [a, b, c], _, hp => exact sd_retP (evp_lamC rfl (Ev.toP (O1 := O) (ev_op (ev_var rfl) (ev_op (ev_cb (ea_cons (ev_var rfl) ea_nil) c_lenL) ev_int r_int) (r_ixL (atI_of (k := 1) rfl rfl))) ⟨_, rfl, fun E' => Ev.tox (d := encS A [a, b, c]) (O1 := O) (ev_mk (ds := [.int a, .int b, .int c]) (O1 := O) (ea_cons (hx (cs := [a, b, c]) (k := 0) rfl (by simp)) (ea_cons (hx (cs := [a, b, c]) (k := 1) rfl (by simp)) (ea_cons (hx (cs := [a, b, c]) (k := 2) rfl (by simp)) ea_nil))) (mk_S (cs := [a, b, c]) (by simp))) hp⟩))
  | [a, b, c, d], _, hp => exact sd_retP (evp_lamC rfl (Ev.toP (O1 := O) (ev_op (ev_var rfl) (ev_op (ev_cb (ea_cons (ev_var rfl) ea_nil) c_lenL) ev_int r_int) (r_ixL (atI_of (k := 2) rfl rfl))) ⟨_, rfl, fun E' => Ev.tox (d := encS A [a, b, c, d]) (O1 := O) (ev_mk (ds := [.int a, .int b, .int c, .int d]) (O1 := O) (ea_cons (hx (cs := [a, b, c, d]) (k := 0) rfl (by simp)) (ea_cons (hx (cs := [a, b, c, d]) (k := 1) rfl (by simp)) (ea_cons (hx (cs := [a, b, c, d]) (k := 2) rfl (by simp)) (ea_cons (hx (cs := [a, b, c, d]) (k := 3) rfl (by simp)) ea_nil)))) (mk_S (cs := [a, b, c, d]) (by simp))) hp⟩))
  | [a, b, c, d, e], _, hp => exact sd_retP (evp_lamC rfl (Ev.toP (O1 := O) (ev_op (ev_var rfl) (ev_op (ev_cb (ea_cons (ev_var rfl) ea_nil) c_lenL) ev_int r_int) (r_ixL (atI_of (k := 3) rfl rfl))) ⟨_, rfl, fun E' => Ev.tox (d := encS A [a, b, c, d, e]) (O1 := O) (ev_mk (ds := [.int a, .int b, .int c, .int d, .int e]) (O1 := O) (ea_cons (hx (cs := [a, b, c, d, e]) (k := 0) rfl (by simp)) (ea_cons (hx (cs := [a, b, c, d, e]) (k := 1) rfl (by simp)) (ea_cons (hx (cs := [a, b, c, d, e]) (k := 2) rfl (by simp)) (ea_cons (hx (cs := [a, b, c, d, e]) (k := 3) rfl (by simp)) (ea_cons (hx (cs := [a, b, c, d, e]) (k := 4) rfl (by simp)) ea_nil))))) (mk_S (cs := [a, b, c, d, e]) (by simp))) hp⟩))
  | [a, b, c, d, e, f], _, hp => exact sd_retP (evp_lamC rfl (Ev.toP (O1 := O) (ev_op (ev_var rfl) (ev_op (ev_cb (ea_cons (ev_var rfl) ea_nil) c_lenL) ev_int r_int) (r_ixL (atI_of (k := 4) rfl rfl))) ⟨_, rfl, fun E' => Ev.tox (d := encS A [a, b, c, d, e, f]) (O1 := O) (ev_mk (ds := [.int a, .int b, .int c, .int d, .int e, .int f]) (O1 := O) (ea_cons (hx (cs := [a, b, c, d, e, f]) (k := 0) rfl (by simp)) (ea_cons (hx (cs := [a, b, c, d, e, f]) (k := 1) rfl (by simp)) (ea_cons (hx (cs := [a, b, c, d, e, f]) (k := 2) rfl (by simp)) (ea_cons (hx (cs := [a, b, c, d, e, f]) (k := 3) rfl (by simp)) (ea_cons (hx (cs := [a, b, c, d, e, f]) (k := 4) rfl (by simp)) (ea_cons (hx (cs := [a, b, c, d, e, f]) (k := 5) rfl (by simp)) ea_nil)))))) (mk_S (cs := [a, b, c, d, e, f]) (by simp))) hp⟩))
  | [a, b, c, d, e, f, g], _, hp => exact sd_retP (evp_lamC rfl (Ev.toP (O1 := O) (ev_op (ev_var rfl) (ev_op (ev_cb (ea_cons (ev_var rfl) ea_nil) c_lenL) ev_int r_int) (r_ixL (atI_of (k := 5) rfl rfl))) ⟨_, rfl, fun E' => Ev.tox (d := encS A [a, b, c, d, e, f, g]) (O1 := O) (ev_mk (ds := [.int a, .int b, .int c, .int d, .int e, .int f, .int g]) (O1 := O) (ea_cons (hx (cs := [a, b, c, d, e, f, g]) (k := 0) rfl (by simp)) (ea_cons (hx (cs := [a, b, c, d, e, f, g]) (k := 1) rfl (by simp)) (ea_cons (hx (cs := [a, b, c, d, e, f, g]) (k := 2) rfl (by simp)) (ea_cons (hx (cs := [a, b, c, d, e, f, g]) (k := 3) rfl (by simp)) (ea_cons (hx (cs := [a, b, c, d, e, f, g]) (k := 4) rfl (by simp)) (ea_cons (hx (cs := [a, b, c, d, e, f, g]) (k := 5) rfl (by simp)) (ea_cons (hx (cs := [a, b, c, d, e, f, g]) (k := 6) rfl (by simp)) ea_nil))))))) (mk_S (cs := [a, b, c, d, e, f, g]) (by simp))) hp⟩))
  | [], h, _ => exact absurd h.1 (by simp)
  | [_], h, _ => exact absurd h.1 (by simp)
  | _ :: _ :: _ :: _ :: _ :: _ :: _ :: _ :: _, h, _ => exact absurd h.2 (by simp)
theorem sum_bd {M : Int} (hM : 0 ≤ M) : ∀ {l : List Int} {k : Nat}, l.length ≤ k → (∀ c ∈ l, -M ≤ c ∧ c ≤ M) → -(M * (k : Int)) ≤ l.sum ∧ l.sum ≤ M * (k : Int)
  | [], k, _, _ => by
    have : 0 ≤ M * (k : Int) := Int.mul_nonneg hM (by omega)
    simp only [List.sum_nil]; omega
  | c :: l, k, hl, h => by
    rw [List.length_cons] at hl
    obtain ⟨m, rfl⟩ : ∃ m, k = m + 1 := ⟨k - 1, by omega⟩
    have ih := sum_bd hM (l := l) (k := m) (by omega) fun x hx => h x (List.mem_cons_of_mem _ hx)
    have hc := h c (List.mem_cons_self ..)
    rw [List.sum_cons]
    have e : M * (((m + 1 : Nat) : Int)) = M * (m : Int) + M := by rw [Int.natCast_add, Int.mul_add]; simp
    omega
theorem rep_zer (N : Nat) : (List.replicate N [D.int 0]).flatten = (List.replicate N (0 : Int)).map D.int := by
  induction N with
  | zero => rfl
  | succ N ih => rw [List.replicate_succ, List.flatten_cons, ih, List.replicate_succ]; rfl
def R_lawT (A : Ad) : DR := fun ds O Post => ∃ ns, ds = [.scr ns] ∧ ns.length ≤ 63 ∧ O A.tb_law_shares = some (tabM (("_law_shares" ++ ".<locals>." : Str) ++ "<lambda>")) ∧ ∀ O', Post (.bl true) O'
theorem law_spT {H : Hp} {a c : Addr} {ns : List Int} {E : XK} (hl : ns.length ≤ 63) (hT : ∀ p ∈ [(c, A.tb_law_shares)], H p.2 = some (.tbl #[])) (hS : SqL K H a (ns.map V.int)) : SpD K (R_lawT A) [.ref a] H (fun v _ => v = .bl true) E :=
  sp_tabs [(A.tb_law_shares, ("_law_shares" ++ ".<locals>." : Str) ++ "<lambda>")] (fun p hp => by rw [List.mem_singleton] at hp; subst hp; exact hT _ (List.mem_cons_self ..)) hS ⟨ns, rfl, hl, by simp [tabsO], fun _ => rfl⟩
theorem ok_law (T : Tx K mg A) (TB : Tb base mg A) {fd : FuncData} (F : Fun K "law" "law" s_law A.f_law fd) : FnOk P w K mg base (L2.CX P w) 11 A.f_law fd ["_law_script"] (SpD K (R_lawT A)) := by
  refine fnO F sc_law (fun ds O Post h => by obtain ⟨_, rfl, _⟩ := h; rfl) fun cdv A' outer s H E hr => ⟨_, PSs.nox (pss_cons (ps_set (i := 1) sc_law.nd rfl (Or.inr rfl) (pe_run (ok_law_mix T) (hr.mono (by decide)) T.k_law_mix T.g__law_mix passL (pa_cons (pv 0) (pa_cons pe_int pa_nil))))
      (pss_cons (ps_for PassesOwn.never rfl (pi_range1 (by rfl) T.b_range (pa_cons pe_int pa_nil)) (pg_name (i := 2) sc_law.nd rfl (Or.inl rfl)) (pss_cons (ps_asg (pe_tup (pa_cons (pe_op op_add pe_int (pe_run (ok_law_next T) (hr.mono (by decide)) T.k_law_next T.g__law_next passL (pa_cons (pv 1) (pa_cons pe_int pa_nil)))) (pa_cons (pe_ix (ix_listK K) (pe_lst (pa_cons pe_int (pa_cons pe_int (pa_cons (pe_op op_pow pe_int pe_int) pa_nil)))) (pe_run (ok_law_next T) (hr.mono (by decide)) T.k_law_next T.g__law_next passL (pa_cons (pv 1) (pa_cons pe_int pa_nil))) (fun _ _ => rfl)) pa_nil))) (pg_tupK K (n := 2) rfl (pgs_cons (pg_name (i := 3) sc_law.nd rfl (Or.inl rfl)) (pgs_cons (pg_name (i := 4) sc_law.nd rfl (Or.inr rfl)) pgs_nil))))
      (pss_cons (ps_setLc (i := 5) (own := [("_law_k", 10)]) rfl sc_law.nd rfl rfl (sw_true rfl rfl rfl (by decide +kernel)) (pi_range1 (by rfl) T.b_range (pa_cons (pe_op op_sub (pv 3) pe_int) pa_nil)) (blkOk_by (N := N_law) (sc := defScope s_law) (by decide +kernel)) (fun _ _ _ _ _ => (pg_name (i := 10) sc_law.nd rfl (by first | exact Or.inl rfl | exact Or.inr rfl))) (fun _ _ _ _ _ => pts_nil) (fun _ _ _ _ _ => (pe_op op_sub (pe_run (ok_law_next T) (hr.mono (by decide)) T.k_law_next T.g__law_next passL (pa_cons (pv 1) (pa_cons (pe_op op_add (pe_op op_mul pe_int (pv 4)) pe_int) pa_nil))) (pv 4))))
      (pss_cons (ps_expr (pe_bm PySem.F.plainAttrs_list PySem.F.slot_list_append PySem.F.type_list_append mt_append (pv 5) (pa_cons (pe_op op_sub pe_int (pe_callB (cr_sumK K rfl) (by rfl) T.b_sum (by decide +kernel) (pa_cons (pv 5) pa_nil))) pa_nil)))
      (pss_cons (ps_par (by rfl) sc_law.nd (i := 6) (j := 7) rfl rfl (by decide) rfl rfl (pa_cons (pe_run (ok_law_shares T TB) (hr.mono (by decide)) T.k_law_shares T.g__law_shares passL (pa_cons (pv 5) pa_nil)) (pa_cons (pe_lc (own := [("_law_number", 11)]) rfl sc_law.nd (pi_listK K (pv 5)) (blkOk_by (N := N_law) (sc := defScope s_law) (by decide +kernel)) (fun _ _ _ _ _ => (pg_name (i := 11) sc_law.nd rfl (by first | exact Or.inl rfl | exact Or.inr rfl))) (fun _ _ _ _ _ => (pts_one (pt_cmpR op_ne (pv 11) pe_int (nomark _)))) (fun _ _ _ _ _ => (pv 11))) pa_nil)) (by rfl))
      (pss_cons (ps_set (i := 8) sc_law.nd rfl (Or.inl rfl) (pe_op op_sub (pe_callB (call_lenK K) (by rfl) T.b_len (by decide +kernel) (pa_cons (pv 7) pa_nil)) (pe_run (ok_law_most T) (hr.mono (by decide)) T.k_law_most T.g__law_most passL (pa_cons (pv 7) pa_nil))))
      (pss_cons (ps_set (i := 9) sc_law.nd rfl (Or.inl rfl) (pe_run (ok_payments T) (hr.mono (by decide)) T.k_payments T.g_payments passL (pa_cons (pv 6) pa_nil)))
      (pss_cons (ps_if (pt_not (pt_val (pe_run (ok_law_alike T) (hr.mono (by decide)) T.k_law_alike T.g__law_alike passL (pa_cons (pe_lst (pa_cons (pe_run (ok_fewest_payments T) (hr.mono (by decide)) T.k_fewest_payments T.g_fewest_payments passL (pa_cons (pv 6) pa_nil)) (pa_cons (pe_callB (call_lenK K) (by rfl) T.b_len (by decide +kernel) (pa_cons (pv 9) pa_nil)) pa_nil))) (pa_cons (pe_lst (pa_cons (pv 8) (pa_cons (pv 8) pa_nil))) pa_nil))))) (pss_one (ps_ret pe_bl)) pss_nil)
      (pss_cons (ps_if (pt_cmpR (op_neDK K hr.units) (pe_callTy (call_listK K) (by rfl) T.b_list (by decide +kernel) (pa_cons (pe_propR (pe_run (ok_balance_after T) (hr.mono (by decide)) T.k_balance_after T.g_balance_after passL (pa_cons (pv 6) (pa_cons (pv 9) pa_nil))) T.cl_Shares T.p_Shares_cents (ok_Shares_cents T) (hr.mono (by decide)) (fun _ _ _ _ z => cx0 z)) pa_nil)) (pe_op op_rep (pe_lst (pa_cons pe_int pa_nil)) (pv 3)) (nomark _)) (pss_one (ps_ret pe_bl)) pss_nil)
      (pss_one (ps_if (pt_cmpR (op_neDK K hr.units) (pe_lc (own := [("_law_row", 12)]) rfl sc_law.nd (pi_listK K (pv 9)) (blkOk_by (N := N_law) (sc := defScope s_law) (by decide +kernel)) (fun _ _ _ _ _ => (pg_name (i := 12) sc_law.nd rfl (by first | exact Or.inl rfl | exact Or.inr rfl))) (fun _ _ _ _ _ => (pts_one (PW.pt (pw_or (pt_cmpR op_eq (pe_ix (ix_tupK K) (pv 12) pe_int (fun _ _ => rfl)) (pe_ix (ix_tupK K) (pv 12) pe_int (fun _ _ => rfl)) (nomark _)) (pw_or1 (pt_cmpR op_lt (pe_ix (ix_tupK K) (pv 12) pe_int (fun _ _ => rfl)) pe_int (nomark _))))))) (fun _ _ _ _ _ => (pv 12))) (pe_lst pa_nil) (nomark _)) (pss_one (ps_ret pe_bl)) pss_nil)))))))))))
      (pss_one (ps_ret pe_bl)))), fun ds O Post hR => ?_⟩
  obtain ⟨ns, rfl, hns, hO, hp⟩ := hR
  walk_at "go"
  refine sd_seq (sd_asgP (evp_run (ds := [.scr ns, .int 53]) (O1 := O) (by walk_at "ea") ⟨ns, 53, rfl, hns, by omega, fun h c q0 hc hh hcn hq0 => ?_⟩))
  walk_at "sl"
  have hth : A.tb_law_shares ≠ h := fun z => by rw [z, hh] at hO; cases hO
  have htc : A.tb_law_shares ≠ c := fun z => by rw [z, hcn] at hO; cases hO
  have hOq : ∀ q : DQ, q.put O h c A.tb_law_shares = some (tabM (("_law_shares" ++ ".<locals>." : Str) ++ "<lambda>")) := fun q => by rw [DQ.put_at hth htc]; exact hO
  refine sd_seq (sd_for (O1 := q0.put O h c) (ei_rngN (j := 5) (by walk_at "ea") (by omega)) (fun i δ' O' => ∃ (q : DQ) (c2 c3 c4 c5 c6 c7 c8 c9 c10 c11 c12 : Option D), q.ok ∧ O' = DQ.put q O h c ∧ δ' = [some (.scr ns), some (.ref h), c2, c3, c4, c5, c6, c7, c8, c9, c10, c11, c12]) ⟨q0, none, none, none, none, none, none, none, none, none, none, none, hq0, rfl, rfl⟩ (fun i d δ' O' hd hI => ?_) (fun δ' O' hI => ?_))
  · obtain ⟨q, c2, c3, c4, c5, c6, c7, c8, c9, c10, c11, c12, hq, rfl, rfl⟩ := hI
    refine gd_name ?_
    walk_at "sl"
    obtain ⟨v1, q1, hv10, hv11, hq1, dr1⟩ := q.draw 6 (by omega) (by omega) hq
    obtain ⟨n, hn⟩ : ∃ n, n = 2 + v1 := ⟨_, rfl⟩
    have hnn : 2 ≤ n ∧ n ≤ 7 := by omega
    obtain ⟨v2, q2, hv20, hv21, hq2, dr2⟩ := q1.draw 3 (by omega) (by omega) hq1
    have e9 : (10 : Int) ^ (9 : Int).toNat = 1000000000 := by decide
    obtain ⟨M, hat, hM⟩ : ∃ M : Int, atI [D.int 3, D.int 6, D.int (10 ^ (9 : Int).toNat)] v2 = some (.int M) ∧ 3 ≤ M ∧ M ≤ 1000000000 := by
      have : v2 = 0 ∨ v2 = 1 ∨ v2 = 2 := by omega
      rcases this with rfl | rfl | rfl
      · exact ⟨_, atI0, by omega⟩
      · exact ⟨_, atI1, by omega⟩
      · exact ⟨_, atI2, by rw [e9]; omega⟩
    refine sd_seq (sd_asgG (Ev.toP (d := .tup [.int n, .int M]) (O1 := q2.put O h c) (ev_tup (ea_cons (Ev.is (ev_op ev_int (dr1 hc rfl (by walk_at "ea")) r_int) (by rw [hn])) (ea_cons (ev_op (O1 := q1.put O h c) (by walk_at "ev") (dr2 hc rfl (by walk_at "ea")) (r_ixL hat)) ea_nil)) (by simp)) (gd_tup rfl (gds_cons (gd_name (gds_cons (gd_name (gds_nil ?_))))))))
    walk_at "sl"
    clear dr1 dr2
    refine sd_seq (sd_asgP (evp_lcO (O1 := q2.put O h c) (ei_rngN (j := n - 1) (by walk_at "ea") (by omega)) (by simp; omega) (fun k acc O' => ∃ (l : List Int) (q : DQ), acc = l.map D.int ∧ l.length = k ∧ (∀ x ∈ l, -M ≤ x ∧ x ≤ M) ∧ q.ok ∧ O' = DQ.put q O h c) ⟨[], q2, rfl, rfl, (fun x hx => nomatch hx), hq2, rfl⟩ (fun k x acc O' hx hI => ?_) (fun acc O' pc hI hpc => ?_)))
    · obtain ⟨l, q3, rfl, hl, hb, hq3, rfl⟩ := hI
      refine ⟨_, gc_name (by decide), etp_yes ⟨fun _ => ?_, fun z => nomatch z⟩⟩
      walk_at "sl"
      obtain ⟨v, q4, hv0, hv1, hq4, dr4⟩ := q3.draw (2 * M + 1) (by omega) (by omega) hq3
      exact Ev.toP (d := .int (v - M)) (O1 := q4.put O h c) (ev_op (dr4 hc rfl (ea_cons (ev_var rfl) (ea_cons (ev_op (ev_op ev_int (ev_var rfl) (r_intC (cmul_l (by omega) (by omega)))) ev_int r_int) ea_nil))) (ev_var rfl) r_int) ⟨l ++ [v - M], q4, by rw [List.map_append]; rfl, by rw [List.length_append, hl]; rfl, fun x hx => by
        rcases List.mem_append.mp hx with z | z
        · exact hb x z
        · rw [List.mem_singleton] at z; omega, hq4, rfl⟩
    obtain ⟨l, q3, rfl, hl, hb, hq3, rfl⟩ := hI
    rw [List.length_map, List.length_range] at hl
    walk_at "sl"
    refine sd_seq (sd_app (l := pc) (d := .int (0 - l.sum)) (O2 := setO (q3.put O h c) pc (.lst (l.map .int))) (ev_var rfl) setO_same (ev_op ev_int (ev_cb (ea_cons (ev_var rfl) ea_nil) (c_sumO setO_same)) r_int) setO_same (by rw [List.length_map]; omega) ?_)
    rw [setO_setO]
    obtain ⟨cs, hcs⟩ : ∃ cs, cs = l ++ [0 - l.sum] := ⟨_, rfl⟩
    have ecs : l.map D.int ++ [.int (0 - l.sum)] = cs.map D.int := by rw [hcs, List.map_append]; rfl
    rw [ecs]
    have hcl : cs.length = n.toNat := by rw [hcs, List.length_append, hl]; simp; omega
    have hz : cs.sum = 0 := by rw [hcs, List.sum_append]; simp; omega
    have hsb := sum_bd (M := M) (by omega) (l := l) (k := 6) (by omega) hb
    have hcb : ∀ x ∈ cs, -10000000000 ≤ x ∧ x ≤ 10000000000 := fun x hx => by
      rw [hcs] at hx
      rcases List.mem_append.mp hx with z | z
      · have := hb x z; omega
      · rw [List.mem_singleton] at z; omega
    clear hsb hb ecs hcs hl
    refine sd_pub (i := 5) setO_same rfl ?_
    rw [delO_setO hpc]
    walk_at "sl"
    have how : (owing cs).length ≤ 8 := by
      have : (owing cs).length ≤ cs.length := List.length_filter_le ..
      omega
    refine sd_seq (sd_parP (eap_cons (Ev.toP (d := encS A cs) (O1 := q3.put O h c) (ev_run (ds := [.lst (cs.map .int)]) (O1 := q3.put O h c) (by walk_at "ea") ⟨cs, rfl, by omega, hOq q3, rfl, rfl⟩) (eap_cons (Ev.toP (d := .lst ((owing cs).map .int)) (O1 := q3.put O h c) ?_ (eap_nil ⟨_, _, rfl, ?_⟩))))))
    · refine ev_lc (O1 := q3.put O h c) (ei_list (ds := cs.map D.int) (ev_var rfl)) (cp_filter cs D.int D.int (fun a => [some (.scr ns), some (.ref h), some d, some (.int n), some (.int M), some (.lst (cs.map .int)), c6, c7, c8, c9, c10, some (.int a), c12]) (fun a => decide (a ≠ 0)) fun a ha => ⟨gc_name (by decide), EvT.is (et_test (ev_op (ev_var rfl) ev_int r_neI)) (by by_cases z : a = 0 <;> simp [z]), fun _ => ev_var rfl⟩) (by rw [List.length_map]; omega)
    walk_at "sl"
    refine sd_seq (sd_asg (d := .int (fewF cs)) (O1 := q3.put O h c) (Ev.is (ev_op (ev_cb (ea_cons (ev_var rfl) ea_nil) c_lenL) (ev_run (ds := [.lst ((owing cs).map .int)]) (O1 := q3.put O h c) (by walk_at "ea") ⟨owing cs, rfl, how, Nat.le_refl _, rfl, rfl⟩) r_int) (by rw [List.length_map, mst_mgs hz 8 how, few_owing hz])) ?_)
    walk_at "sl"
    have hpf := payF_ok hz
    have hpb := payF_bd (cs := cs) (M := 10000000000) (by omega) hcb
    have hlt := few_lt (cs := cs) (by omega)
    refine sd_seq (sd_asgP (evp_pub (evp_run (ds := [encS A cs]) (O1 := q3.put O h c) (by walk_at "ea") ⟨cs, rfl, by omega, hz, fun r hr => ⟨r, _, rfl, setO_same, ?_⟩⟩)))
    rw [delO_setO hr]
    walk_at "sl"
    have hSm : Sm 3 (.lst [.int (fewF cs), .int (fewF cs)]) := .lst (by simp) fun d hd => by
      simp only [List.mem_cons, List.not_mem_nil, or_false] at hd
      rcases hd with rfl | rfl <;> exact Sm.int
    refine sd_seq (sd_ifF (O1 := q3.put O h c) (EvT.is (b := !true) (et_not (et_test (ev_run (ds := [.lst [.int (fewF cs), .int (fewF cs)], .lst [.int (fewF cs), .int (fewF cs)]]) (O1 := q3.put O h c) (ea_cons (ev_lst (ea_cons (ev_run (ds := [encS A cs]) (O1 := q3.put O h c) (by walk_at "ea") ⟨cs, rfl, by omega, hz, rfl, rfl⟩) (ea_cons (Ev.is (d := .int ((((payF cs).map encPy).length : Nat) : Int)) (ev_cb (ea_cons (ev_var rfl) ea_nil) c_lenL) (by rw [List.length_map, hpf.2.2])) ea_nil)) (by simp)) (ea_cons (ev_lst (ea_cons (ev_var rfl) (ea_cons (ev_var rfl) ea_nil)) (by simp)) ea_nil)) ⟨_, rfl, hSm, rfl, rfl⟩))) rfl) (sd_next ?_))
    refine sd_seq (sd_ifF (O1 := q3.put O h c) (EvT.is (b := !eqD (.lst ((List.replicate cs.length (0 : Int)).map .int)) (.lst ((List.replicate cs.length (0 : Int)).map .int))) (et_test (ev_op (ev_cb (ea_cons (ev_propR (C := A.c_Shares) (nm := ["amounts"]) (ds := [.tup ((List.replicate cs.length (0 : Int)).map .int)]) (O1 := q3.put O h c) (ev_run (ds := [encS A cs, .lst ((payF cs).map encPy)]) (O1 := q3.put O h c) (by walk_at "ea") ⟨cs, _, payF cs, rfl, .lst, by omega, fun y hy => ⟨hpf.1 y hy, by have := hpb y hy; omega⟩, by rw [hpf.2.1]; rfl, rfl⟩) ⟨_, rfl, rfl, rfl⟩) ea_nil) c_listT) (Ev.is (d := .lst (List.replicate n.toNat [D.int 0]).flatten) (ev_op (ev_lst (ea_cons ev_int ea_nil) (by simp)) (ev_var rfl) (r_rep (by omega) (by simp; omega))) (by rw [rep_zer, hcl])) (r_neP (Pl.intsL _) (Pl.intsL _) (by decide) (by decide)))) (by rw [eqD_self (Pl.intsL _)]; rfl)) (sd_next ?_))
    refine sd_ifF (O1 := q3.put O h c) (EvT.is (b := !eqD (.lst []) (.lst [])) (et_test (ev_op (Ev.is (d := .lst (((payF cs).filter fun _ => false).map encPy)) (ev_lc (O1 := q3.put O h c) (ei_list (ds := (payF cs).map encPy) (ev_var rfl)) (cp_filter (payF cs) encPy encPy (fun y => [some (.scr ns), some (.ref h), some d, some (.int n), some (.int M), some (.lst (cs.map .int)), some (encS A cs), some (.lst ((owing cs).map .int)), some (.int (fewF cs)), some (.lst ((payF cs).map encPy)), c10, c11, some (encPy y)]) (fun _ => false) fun y hy => ⟨gc_name (by decide), ?_, fun z => nomatch z⟩) (by rw [List.length_map]; omega)) (by simp)) (ev_lst ea_nil (by simp)) (r_neP Pl.nilL Pl.nilL (by decide) (by decide)))) (by rw [eqD_nilL]; rfl)) (sd_next ⟨q3, _, _, _, _, _, _, _, _, _, _, _, hq3, rfl, rfl⟩)
    obtain ⟨hy1, hy2, hy3, hy4⟩ := hpf.1 y hy
    refine EvT.is (b := (y.1 == y.2.1) || decide (y.2.2 < 1)) (et_or (et_test (ev_op (ev_op (x := .tup [.int y.1, .int y.2.1, .int y.2.2]) (ev_var rfl) ev_int (r_ixT atI0)) (ev_op (x := .tup [.int y.1, .int y.2.1, .int y.2.2]) (ev_var rfl) ev_int (r_ixT atI1)) r_eqI)) fun _ => et_test (ev_op (ev_op (x := .tup [.int y.1, .int y.2.1, .int y.2.2]) (ev_var rfl) ev_int (r_ixT atI2)) ev_int r_bl)) ?_
    simp [hy3]; omega
  · exact sd_ret ev_bl (hp _)
end
end Law

set_option Elab.async false
set_option linter.all false
set_option maxRecDepth 100000
set_option maxHeartbeats 4000000
namespace Law
open PySem PySem.Spec L2 DL
open PyProof.Rows hiding St
local macro_rules | `(tactic| walk_at "sl") => `(tactic| try dsimp only [startD, List.map, List.length_cons, List.length_nil, List.replicate, List.cons_append, List.nil_append, List.set_cons_zero, List.set_cons_succ, Nat.reduceSub, Nat.reduceAdd, wipeD])
local macro_rules | `(tactic| walk_at "go") => `(tactic| ((try dsimp only [cxOf, Cx.nox, Cx.wish, Cx.blk]); walk_at "sl"; walk_at "sl"))
local macro_rules | `(tactic| walk_at "own") => `(tactic| first | assumption | exact setO_same | (rw [setO_ne (by first | assumption | exact Ne.symm (by assumption))]; assumption) | (rw [setO_ne (by first | assumption | exact Ne.symm (by assumption))]; exact setO_same))
local macro_rules | `(tactic| walk_at "side") => `(tactic| first
  | assumption | rfl | exact flat_ints _ | exact atI0 | exact atI1 | exact atI2 | exact atI3 | decide | omega | (simp; done)
  | (refine cmodp ?_; omega) | (refine cdivw ?_ ?_ <;> omega) | (refine cmul_l ?_ ?_ <;> omega) | (refine cmul_r ?_ ?_ <;> omega) | (refine cpow ?_ ?_ ?_ <;> decide))
local macro_rules | `(tactic| walk_at "rr") => `(tactic| first
  | with_reducible exact r_int | with_reducible exact r_bl | with_reducible exact r_eqI | with_reducible exact r_neI | with_reducible exact r_eqB | with_reducible exact r_neB | with_reducible exact r_eqS | with_reducible exact r_neS
  | ((with_reducible apply r_intC); walk_at "side")
  | ((with_reducible apply r_ixL); walk_at "side") | ((with_reducible apply r_ixT); walk_at "side") | ((with_reducible apply r_ixS); walk_at "side") | ((with_reducible apply r_ixO); (focus walk_at "own"); (focus walk_at "side"))
  | ((with_reducible apply r_inT0) <;> walk_at "side") | ((with_reducible apply r_inL0) <;> walk_at "side") | ((with_reducible apply r_inT1) <;> walk_at "side") | ((with_reducible apply r_inL1) <;> walk_at "side")
  | ((with_reducible apply r_inO0); (focus walk_at "own"); (focus walk_at "side"); (focus walk_at "side")) | ((with_reducible apply r_inO1); (focus walk_at "own"); (focus walk_at "side"); (focus walk_at "side"))
  | ((with_reducible apply r_rep) <;> walk_at "side") | ((with_reducible apply r_cat) <;> walk_at "side")
  | ((with_reducible apply r_catA) <;> walk_at "side") | ((with_reducible apply r_catO); (focus walk_at "own"); (focus walk_at "side"))
  | ((with_reducible apply r_addS); (focus walk_at "side")) | with_reducible exact r_isN _ rfl | with_reducible exact r_notN _ rfl
  | ((with_reducible apply r_eqP); (focus walk_at "pl"); (focus walk_at "pl"); (focus decide); (focus decide)) | ((with_reducible apply r_neP); (focus walk_at "pl"); (focus walk_at "pl"); (focus decide); (focus decide)))
local macro_rules | `(tactic| walk_at "pl") => `(tactic| first | exact Pl.ints _ | exact Pl.intsL _ | exact Pl.nilT | exact Pl.nilL | exact Pl.int (n := 0) | assumption)
local macro_rules | `(tactic| walk_at "cc") => `(tactic| first
  | with_reducible exact c_lenL | with_reducible exact c_lenT | with_reducible exact c_lenS | ((with_reducible apply c_lenO); walk_at "own")
  | with_reducible exact c_listL | with_reducible exact c_listT | with_reducible exact c_tupL | with_reducible exact c_sum | with_reducible exact c_intB | with_reducible exact c_int1
  | with_reducible exact c_max2 | ((with_reducible apply c_strI); (focus walk_at "side")) | ((with_reducible apply c_lenStr); (focus walk_at "side"))
  | ((with_reducible apply c_isi); (focus rfl); (focus (first | decide +kernel | rfl))) | ((with_reducible apply c_isi2); (focus rfl); (focus (first | decide +kernel | rfl)); (focus (first | decide +kernel | rfl))))
local macro_rules | `(tactic| walk_at "ea") => `(tactic| first
  | with_reducible exact ea_nil
  | ((with_reducible apply ea_cons); (focus walk_at "ev"); (focus walk_at "ea"))
  | ((with_reducible apply ea_starT); (focus walk_at "ev"); (focus walk_at "ea")) | ((with_reducible apply ea_starL); (focus walk_at "ev"); (focus walk_at "ea")))
local macro_rules | `(tactic| walk_at "ev") => `(tactic| first
  | exact ev_var rfl | with_reducible exact ev_int | with_reducible exact ev_bl | with_reducible exact ev_str | with_reducible exact ev_non | with_reducible exact ev_ty | with_reducible exact ev_ref
  | ((with_reducible apply ev_op); (focus walk_at "ev"); (focus walk_at "ev"); (focus walk_at "rr"))
  | ((with_reducible apply ev_cb); (focus walk_at "ea"); (focus walk_at "cc"))
  | ((with_reducible apply ev_neg); (focus walk_at "ev"))
  | ((with_reducible apply ev_tup); (focus walk_at "ea"); (focus walk_at "side"))
  | ((with_reducible apply ev_lst); (focus walk_at "ea"); (focus walk_at "side"))
  | ((with_reducible apply ev_notV); (focus walk_at "ev"))
  | ((with_reducible apply ev_chain); (focus walk_at "ev"); (focus walk_at "ev"); (focus walk_at "rr"); (focus (intro _; walk_at "ev")); (focus (intro _; walk_at "rr")))
  | walk_at "evx")
local macro_rules | `(tactic| walk_at "et") => `(tactic| first
  | ((with_reducible apply et_test); walk_at "ev") | ((with_reducible apply et_B); walk_at "ev") | with_reducible exact et_yes
  | ((with_reducible apply et_not); walk_at "et")
  | ((with_reducible apply et_and); (focus walk_at "et"); (focus (intro _; walk_at "et")))
  | ((with_reducible apply et_or); (focus walk_at "et"); (focus (intro _; walk_at "et"))))
local macro_rules | `(tactic| walk_at "s1") => `(tactic| first
  | ((with_reducible apply sd_asg); (focus walk_at "ev"); walk_at "sl")
  | ((with_reducible apply sd_par); (focus walk_at "ea"); walk_at "sl")
  | ((with_reducible apply sd_setL); (focus walk_at "ev"); (focus walk_at "ev"); (focus walk_at "ev"); (focus walk_at "own"); (focus (first | exact ixN_of (k := 0) rfl (by simp) | exact ixN_of (k := 1) rfl (by simp) | exact ixN_of (k := 2) rfl (by simp) | exact ixN_of (k := 3) rfl (by simp) | assumption)); walk_at "sl")
  | ((with_reducible apply sd_app); (focus walk_at "ev"); (focus walk_at "own"); (focus walk_at "ev"); (focus walk_at "own"); (focus walk_at "side"); walk_at "sl")
  | ((with_reducible apply sd_ret); (focus walk_at "ev"))
  | with_reducible apply sd_next)
local macro_rules | `(tactic| walk_at "st") => `(tactic| first | ((with_reducible apply sd_seq); walk_at "s1") | walk_at "s1")
local macro_rules | `(tactic| walk_at "R") => `(tactic| first
  | exact ⟨_, rfl, rfl, rfl⟩ | exact ⟨_, _, rfl, rfl, rfl⟩ | exact ⟨_, _, _, rfl, rfl, rfl⟩ | exact ⟨_, _, _, _, rfl, rfl, rfl⟩
  | exact ⟨_, rfl, by assumption, rfl, rfl⟩ | exact ⟨_, _, rfl, by assumption, rfl, rfl⟩ | exact ⟨_, _, _, rfl, by assumption, rfl, rfl⟩ | exact ⟨_, _, _, _, rfl, by assumption, rfl, rfl⟩
  | exact ⟨_, _, rfl, by assumption, by assumption, rfl, rfl⟩ | exact ⟨_, _, _, rfl, by assumption, by assumption, rfl, rfl⟩ | exact ⟨_, _, _, _, rfl, by assumption, by assumption, rfl, rfl⟩)
local macro_rules | `(tactic| walk_at "evx") => `(tactic| first
  | ((with_reducible apply ev_run); (focus walk_at "ea"); walk_at "R")
  | ((with_reducible apply ev_propR); (focus walk_at "ev"); walk_at "R")
  | ((with_reducible apply ev_fld); (focus walk_at "ev"); (focus walk_at "cls"); (focus walk_at "cls"); (focus rfl))
  | ((with_reducible apply ev_ownIn0); (focus walk_at "ev"); (focus walk_at "ev"); walk_at "R")
  | ((with_reducible apply ev_slL); (focus walk_at "ev"); (focus walk_at "eo"); (focus walk_at "eo"))
  | ((with_reducible apply ev_slT); (focus walk_at "ev"); (focus walk_at "eo"); (focus walk_at "eo"))
  | ((with_reducible apply ev_cvalI); (focus walk_at "ev"); (focus walk_at "cls"); (focus walk_at "cls")))
local macro_rules | `(tactic| walk_at "eo") => `(tactic| first | with_reducible exact eo_none | ((with_reducible apply eo_some); walk_at "ev"))
set_option maxHeartbeats 0 in
theorem mkTx {K : PySem.W.Frag} {h : Heap} {mg : Str → Option Value} (X : K.In h) (G : h.Ns mainGlobals mg)
    {c_Shares c_Bill f_Shares_cents f_law_alike f_law_mix f_law_places f_law_most f_law_next f_Shares_Dinit f_law_shares f_balance_after f_subsets f_most_groups f_Shares_Dlen f_validate_balance f_fewest_payments f_payments f_law p_Shares_cents : Addr}
    {oc_Shares_cents kV_Shares_cents dc_Shares_cents pm_Shares_cents cv_Shares_cents ct_Shares_cents oc_law_alike kV_law_alike dc_law_alike pm_law_alike cv_law_alike ct_law_alike oc_law_mix kV_law_mix dc_law_mix pm_law_mix cv_law_mix ct_law_mix oc_law_places kV_law_places dc_law_places pm_law_places cv_law_places ct_law_places oc_law_most kV_law_most dc_law_most pm_law_most cv_law_most ct_law_most oc_law_next kV_law_next dc_law_next pm_law_next cv_law_next ct_law_next oc_Shares_Dinit kV_Shares_Dinit dc_Shares_Dinit pm_Shares_Dinit cv_Shares_Dinit ct_Shares_Dinit oc_law_shares kV_law_shares dc_law_shares pm_law_shares ct_law_shares oc_balance_after kV_balance_after dc_balance_after pm_balance_after cv_balance_after ct_balance_after oc_subsets kV_subsets dc_subsets pm_subsets cv_subsets ct_subsets oc_most_groups kV_most_groups dc_most_groups pm_most_groups cv_most_groups ct_most_groups oc_Shares_Dlen kV_Shares_Dlen dc_Shares_Dlen pm_Shares_Dlen cv_Shares_Dlen ct_Shares_Dlen oc_validate_balance kV_validate_balance dc_validate_balance pm_validate_balance cv_validate_balance ct_validate_balance oc_fewest_payments kV_fewest_payments dc_fewest_payments pm_fewest_payments cv_fewest_payments ct_fewest_payments oc_payments kV_payments dc_payments pm_payments cv_payments ct_payments oc_law kV_law dc_law pm_law cv_law ct_law : Value}
    {cc_law_shares tb_law_shares : Addr}
    {ce_law_shares : Value}
    {co_law_shares : Option Addr}
    {vv_law_shares : Array Value}
    {cl_law_shares : Array (Option Value)}
    {od_Shares_cents an_Shares_cents od_law_alike an_law_alike od_law_mix an_law_mix od_law_places an_law_places od_law_most an_law_most od_law_next an_law_next od_Shares_Dinit an_Shares_Dinit od_law_shares an_law_shares od_balance_after an_balance_after od_subsets an_subsets od_most_groups an_most_groups od_Shares_Dlen an_Shares_Dlen od_validate_balance an_validate_balance od_fewest_payments an_fewest_payments od_payments an_payments od_law an_law : Option Addr}
    {sl_Shares_cents sl_law_alike sl_law_mix sl_law_places sl_law_most sl_law_next sl_Shares_Dinit sl_law_shares sl_balance_after sl_subsets sl_most_groups sl_Shares_Dlen sl_validate_balance sl_fewest_payments sl_payments sl_law : Array (Option Value)}
    {t_MAX_HANDED u_Bill_MAX_SEATS : Tok}
    {rs_Shares_cents : List Value}
    (ns_Shares : PySem.W.nsIn K mainGlobals "Shares" = some (some (.ref c_Shares)))
    (ns_Bill : PySem.W.nsIn K mainGlobals "Bill" = some (some (.ref c_Bill)))
    (ns_law_alike : PySem.W.nsIn K mainGlobals "_law_alike" = some (some (.ref f_law_alike)))
    (ns_law_mix : PySem.W.nsIn K mainGlobals "_law_mix" = some (some (.ref f_law_mix)))
    (ns_law_places : PySem.W.nsIn K mainGlobals "_law_places" = some (some (.ref f_law_places)))
    (ns_law_most : PySem.W.nsIn K mainGlobals "_law_most" = some (some (.ref f_law_most)))
    (ns_law_next : PySem.W.nsIn K mainGlobals "_law_next" = some (some (.ref f_law_next)))
    (ns_law_shares : PySem.W.nsIn K mainGlobals "_law_shares" = some (some (.ref f_law_shares)))
    (ns_balance_after : PySem.W.nsIn K mainGlobals "balance_after" = some (some (.ref f_balance_after)))
    (ns_subsets : PySem.W.nsIn K mainGlobals "subsets" = some (some (.ref f_subsets)))
    (ns_most_groups : PySem.W.nsIn K mainGlobals "most_groups" = some (some (.ref f_most_groups)))
    (ns_validate_balance : PySem.W.nsIn K mainGlobals "validate_balance" = some (some (.ref f_validate_balance)))
    (ns_fewest_payments : PySem.W.nsIn K mainGlobals "fewest_payments" = some (some (.ref f_fewest_payments)))
    (ns_payments : PySem.W.nsIn K mainGlobals "payments" = some (some (.ref f_payments)))
    (ns_law : PySem.W.nsIn K mainGlobals "law" = some (some (.ref f_law)))
    (rd_Bill : PySem.W.readsIn K c_Bill (.type "type") = true)
    (ga_Bill : PySem.W.specialIn K (.ref c_Bill) "__getattribute__" = some (some (.builtin "type.__getattribute__")))
    (fi_Shares_cents : PySem.W.findIn K (.ref c_Shares) "cents" = some (some (.ref p_Shares_cents)))
    (pgt_Shares_cents : PySem.W.specialIn K (.ref p_Shares_cents) "__get__" = some (some (.builtin "property.__get__")))
    (ptk_Shares_cents : PySem.W.takesIn K (.ref p_Shares_cents) = some true)
    (prc_Shares_cents : PySem.W.recIn K p_Shares_cents "property" = some (.ref f_Shares_cents :: rs_Shares_cents))
    (l_Shares_cents : K.lookup f_Shares_cents = some ⟨oc_Shares_cents, od_Shares_cents, .func (PySem.W.fnOf "cents" "Shares.cents" (defArgs s_Shares_cents) (defBody s_Shares_cents) (defScope s_Shares_cents) .none kV_Shares_cents dc_Shares_cents pm_Shares_cents an_Shares_cents cv_Shares_cents ct_Shares_cents), sl_Shares_cents⟩)
    (cd_Shares_cents : PySem.W.codeIn K cv_Shares_cents "Shares.cents" = true)
    (kp_Shares_cents : PySem.W.keepIn K (.ref f_Shares_cents) = true)
    (l_law_alike : K.lookup f_law_alike = some ⟨oc_law_alike, od_law_alike, .func (PySem.W.fnOf "_law_alike" "_law_alike" (defArgs s_law_alike) (defBody s_law_alike) (defScope s_law_alike) .none kV_law_alike dc_law_alike pm_law_alike an_law_alike cv_law_alike ct_law_alike), sl_law_alike⟩)
    (cd_law_alike : PySem.W.codeIn K cv_law_alike "_law_alike" = true)
    (kp_law_alike : PySem.W.keepIn K (.ref f_law_alike) = true)
    (l_law_mix : K.lookup f_law_mix = some ⟨oc_law_mix, od_law_mix, .func (PySem.W.fnOf "_law_mix" "_law_mix" (defArgs s_law_mix) (defBody s_law_mix) (defScope s_law_mix) .none kV_law_mix dc_law_mix pm_law_mix an_law_mix cv_law_mix ct_law_mix), sl_law_mix⟩)
    (cd_law_mix : PySem.W.codeIn K cv_law_mix "_law_mix" = true)
    (kp_law_mix : PySem.W.keepIn K (.ref f_law_mix) = true)
    (l_law_places : K.lookup f_law_places = some ⟨oc_law_places, od_law_places, .func (PySem.W.fnOf "_law_places" "_law_places" (defArgs s_law_places) (defBody s_law_places) (defScope s_law_places) .none kV_law_places dc_law_places pm_law_places an_law_places cv_law_places ct_law_places), sl_law_places⟩)
    (cd_law_places : PySem.W.codeIn K cv_law_places "_law_places" = true)
    (kp_law_places : PySem.W.keepIn K (.ref f_law_places) = true)
    (l_law_most : K.lookup f_law_most = some ⟨oc_law_most, od_law_most, .func (PySem.W.fnOf "_law_most" "_law_most" (defArgs s_law_most) (defBody s_law_most) (defScope s_law_most) .none kV_law_most dc_law_most pm_law_most an_law_most cv_law_most ct_law_most), sl_law_most⟩)
    (cd_law_most : PySem.W.codeIn K cv_law_most "_law_most" = true)
    (kp_law_most : PySem.W.keepIn K (.ref f_law_most) = true)
    (l_law_next : K.lookup f_law_next = some ⟨oc_law_next, od_law_next, .func (PySem.W.fnOf "_law_next" "_law_next" (defArgs s_law_next) (defBody s_law_next) (defScope s_law_next) .none kV_law_next dc_law_next pm_law_next an_law_next cv_law_next ct_law_next), sl_law_next⟩)
    (cd_law_next : PySem.W.codeIn K cv_law_next "_law_next" = true)
    (kp_law_next : PySem.W.keepIn K (.ref f_law_next) = true)
    (fi_Shares_Dinit : PySem.W.findIn K (.ref c_Shares) "__init__" = some (some (.ref f_Shares_Dinit)))
    (l_Shares_Dinit : K.lookup f_Shares_Dinit = some ⟨oc_Shares_Dinit, od_Shares_Dinit, .func (PySem.W.fnOf "__init__" "Shares.__init__" (defArgs s_Shares_Dinit) (defBody s_Shares_Dinit) (defScope s_Shares_Dinit) .none kV_Shares_Dinit dc_Shares_Dinit pm_Shares_Dinit an_Shares_Dinit cv_Shares_Dinit ct_Shares_Dinit), sl_Shares_Dinit⟩)
    (cd_Shares_Dinit : PySem.W.codeIn K cv_Shares_Dinit "Shares.__init__" = true)
    (kp_Shares_Dinit : PySem.W.keepIn K (.ref f_Shares_Dinit) = true)
    (fn_Shares_Dinit : PySem.W.isFn K (.ref f_Shares_Dinit) = true)
    (fk_Shares_Dinit : PySem.W.fnIn K f_Shares_Dinit = true)
    (l_law_shares : K.lookup f_law_shares = some ⟨oc_law_shares, od_law_shares, .func (PySem.W.fnOf "_law_shares" "_law_shares" (defArgs s_law_shares) (defBody s_law_shares) (defScope s_law_shares) .none kV_law_shares dc_law_shares pm_law_shares an_law_shares (.ref cc_law_shares) ct_law_shares), sl_law_shares⟩)
    (cd_law_shares : PySem.W.codeIn K (.ref cc_law_shares) "_law_shares" = true)
    (lc_law_shares : K.lookup cc_law_shares = some ⟨ce_law_shares, co_law_shares, .fields vv_law_shares, cl_law_shares⟩)
    (vc_law_shares : vv_law_shares[11]? = some (.ref tb_law_shares))
    (nt_law_shares : K.lookup tb_law_shares = none)
    (kp_law_shares : PySem.W.keepIn K (.ref f_law_shares) = true)
    (l_balance_after : K.lookup f_balance_after = some ⟨oc_balance_after, od_balance_after, .func (PySem.W.fnOf "balance_after" "balance_after" (defArgs s_balance_after) (defBody s_balance_after) (defScope s_balance_after) .none kV_balance_after dc_balance_after pm_balance_after an_balance_after cv_balance_after ct_balance_after), sl_balance_after⟩)
    (cd_balance_after : PySem.W.codeIn K cv_balance_after "balance_after" = true)
    (kp_balance_after : PySem.W.keepIn K (.ref f_balance_after) = true)
    (l_subsets : K.lookup f_subsets = some ⟨oc_subsets, od_subsets, .func (PySem.W.fnOf "subsets" "subsets" (defArgs s_subsets) (defBody s_subsets) (defScope s_subsets) .none kV_subsets dc_subsets pm_subsets an_subsets cv_subsets ct_subsets), sl_subsets⟩)
    (cd_subsets : PySem.W.codeIn K cv_subsets "subsets" = true)
    (kp_subsets : PySem.W.keepIn K (.ref f_subsets) = true)
    (l_most_groups : K.lookup f_most_groups = some ⟨oc_most_groups, od_most_groups, .func (PySem.W.fnOf "most_groups" "most_groups" (defArgs s_most_groups) (defBody s_most_groups) (defScope s_most_groups) .none kV_most_groups dc_most_groups pm_most_groups an_most_groups cv_most_groups ct_most_groups), sl_most_groups⟩)
    (cd_most_groups : PySem.W.codeIn K cv_most_groups "most_groups" = true)
    (kp_most_groups : PySem.W.keepIn K (.ref f_most_groups) = true)
    (fi_Shares_Dlen : PySem.W.findIn K (.ref c_Shares) "__len__" = some (some (.ref f_Shares_Dlen)))
    (l_Shares_Dlen : K.lookup f_Shares_Dlen = some ⟨oc_Shares_Dlen, od_Shares_Dlen, .func (PySem.W.fnOf "__len__" "Shares.__len__" (defArgs s_Shares_Dlen) (defBody s_Shares_Dlen) (defScope s_Shares_Dlen) .none kV_Shares_Dlen dc_Shares_Dlen pm_Shares_Dlen an_Shares_Dlen cv_Shares_Dlen ct_Shares_Dlen), sl_Shares_Dlen⟩)
    (cd_Shares_Dlen : PySem.W.codeIn K cv_Shares_Dlen "Shares.__len__" = true)
    (kp_Shares_Dlen : PySem.W.keepIn K (.ref f_Shares_Dlen) = true)
    (fn_Shares_Dlen : PySem.W.isFn K (.ref f_Shares_Dlen) = true)
    (fk_Shares_Dlen : PySem.W.fnIn K f_Shares_Dlen = true)
    (l_validate_balance : K.lookup f_validate_balance = some ⟨oc_validate_balance, od_validate_balance, .func (PySem.W.fnOf "validate_balance" "validate_balance" (defArgs s_validate_balance) (defBody s_validate_balance) (defScope s_validate_balance) .none kV_validate_balance dc_validate_balance pm_validate_balance an_validate_balance cv_validate_balance ct_validate_balance), sl_validate_balance⟩)
    (cd_validate_balance : PySem.W.codeIn K cv_validate_balance "validate_balance" = true)
    (kp_validate_balance : PySem.W.keepIn K (.ref f_validate_balance) = true)
    (l_fewest_payments : K.lookup f_fewest_payments = some ⟨oc_fewest_payments, od_fewest_payments, .func (PySem.W.fnOf "fewest_payments" "fewest_payments" (defArgs s_fewest_payments) (defBody s_fewest_payments) (defScope s_fewest_payments) .none kV_fewest_payments dc_fewest_payments pm_fewest_payments an_fewest_payments cv_fewest_payments ct_fewest_payments), sl_fewest_payments⟩)
    (cd_fewest_payments : PySem.W.codeIn K cv_fewest_payments "fewest_payments" = true)
    (kp_fewest_payments : PySem.W.keepIn K (.ref f_fewest_payments) = true)
    (l_payments : K.lookup f_payments = some ⟨oc_payments, od_payments, .func (PySem.W.fnOf "payments" "payments" (defArgs s_payments) (defBody s_payments) (defScope s_payments) .none kV_payments dc_payments pm_payments an_payments cv_payments ct_payments), sl_payments⟩)
    (cd_payments : PySem.W.codeIn K cv_payments "payments" = true)
    (kp_payments : PySem.W.keepIn K (.ref f_payments) = true)
    (l_law : K.lookup f_law = some ⟨oc_law, od_law, .func (PySem.W.fnOf "law" "law" (defArgs s_law) (defBody s_law) (defScope s_law) .none kV_law dc_law pm_law an_law cv_law ct_law), sl_law⟩)
    (cd_law : PySem.W.codeIn K cv_law "law" = true)
    (kp_law : PySem.W.keepIn K (.ref f_law) = true)
    (ns_MAX_HANDED : PySem.W.nsIn K mainGlobals "MAX_HANDED" = some (some (.int 1000000000000000 t_MAX_HANDED)))
    (nb_any : PySem.W.nsIn K mainGlobals "any" = some none)
    (nb_bool : PySem.W.nsIn K mainGlobals "bool" = some none)
    (nb_dict : PySem.W.nsIn K mainGlobals "dict" = some none)
    (nb_enumerate : PySem.W.nsIn K mainGlobals "enumerate" = some none)
    (nb_int : PySem.W.nsIn K mainGlobals "int" = some none)
    (nb_isinstance : PySem.W.nsIn K mainGlobals "isinstance" = some none)
    (nb_len : PySem.W.nsIn K mainGlobals "len" = some none)
    (nb_list : PySem.W.nsIn K mainGlobals "list" = some none)
    (nb_max : PySem.W.nsIn K mainGlobals "max" = some none)
    (nb_range : PySem.W.nsIn K mainGlobals "range" = some none)
    (nb_str : PySem.W.nsIn K mainGlobals "str" = some none)
    (nb_sum : PySem.W.nsIn K mainGlobals "sum" = some none)
    (nb_tuple : PySem.W.nsIn K mainGlobals "tuple" = some none)
    (pg_Shares : PySem.W.plainGet K c_Shares Str.empty = true)
    (hd_Shares : PySem.W.hasDictIn K c_Shares = true)
    (po_Shares : PySem.W.plainOver K c_Shares = true)
    (sa_Shares : PySem.W.findIn K (.ref c_Shares) "__setattr__" = some (some (.builtin "object.__setattr__")))
    (mkk_Shares : PySem.W.makesIn K c_Shares = true)
    (kc_Shares : PySem.W.keepIn K (.ref c_Shares) = true)
    (na_Shares_amounts : PySem.W.findIn K (.ref c_Shares) "amounts" = some none)
    (sf_Shares : PySem.W.selfFirst K c_Shares = true)
    (pg_Bill : PySem.W.plainGet K c_Bill Str.empty = true)
    (hd_Bill : PySem.W.hasDictIn K c_Bill = true)
    (po_Bill : PySem.W.plainOver K c_Bill = true)
    (sa_Bill : PySem.W.findIn K (.ref c_Bill) "__setattr__" = some (some (.builtin "object.__setattr__")))
    (na_Bill_total : PySem.W.findIn K (.ref c_Bill) "total" = some none)
    (na_Bill_there : PySem.W.findIn K (.ref c_Bill) "there" = some none)
    (cv_Bill_MAX_SEATS : PySem.W.findCls K (.ref c_Bill) (.type "type") "MAX_SEATS" = some (.val (.int 8 u_Bill_MAX_SEATS)))
    (sf_Bill : PySem.W.selfFirst K c_Bill = true)
    : Tx K mg ⟨c_Shares, c_Bill, .type "type", f_Shares_cents, f_law_alike, f_law_mix, f_law_places, f_law_most, f_law_next, f_Shares_Dinit, f_law_shares, f_balance_after, f_subsets, f_most_groups, f_Shares_Dlen, f_validate_balance, f_fewest_payments, f_payments, f_law, cc_law_shares, tb_law_shares, p_Shares_cents, t_MAX_HANDED, u_Bill_MAX_SEATS⟩ where
  F_Shares_cents := ⟨_, fun_mk (st := s_Shares_cents) l_Shares_cents cd_Shares_cents kp_Shares_cents, (fun_mk (st := s_Shares_cents) l_Shares_cents cd_Shares_cents kp_Shares_cents).binds fun _ _ _ _ _ _ us hl => match us, hl with | [_], _ => rfl⟩
  F_law_alike := ⟨_, fun_mk (st := s_law_alike) l_law_alike cd_law_alike kp_law_alike, (fun_mk (st := s_law_alike) l_law_alike cd_law_alike kp_law_alike).binds fun _ _ _ _ _ _ us hl => match us, hl with | [_, _], _ => rfl⟩
  k_law_alike := kp_law_alike
  g__law_alike := PySem.W.mg_of X G ns_law_alike
  F_law_mix := ⟨_, fun_mk (st := s_law_mix) l_law_mix cd_law_mix kp_law_mix, (fun_mk (st := s_law_mix) l_law_mix cd_law_mix kp_law_mix).binds fun _ _ _ _ _ _ us hl => match us, hl with | [_, _], _ => rfl⟩
  k_law_mix := kp_law_mix
  g__law_mix := PySem.W.mg_of X G ns_law_mix
  F_law_places := ⟨_, fun_mk (st := s_law_places) l_law_places cd_law_places kp_law_places, (fun_mk (st := s_law_places) l_law_places cd_law_places kp_law_places).binds fun _ _ _ _ _ _ us hl => match us, hl with | [_], _ => rfl⟩
  k_law_places := kp_law_places
  g__law_places := PySem.W.mg_of X G ns_law_places
  F_law_most := ⟨_, fun_mk (st := s_law_most) l_law_most cd_law_most kp_law_most, (fun_mk (st := s_law_most) l_law_most cd_law_most kp_law_most).binds fun _ _ _ _ _ _ us hl => match us, hl with | [_], _ => rfl⟩
  k_law_most := kp_law_most
  g__law_most := PySem.W.mg_of X G ns_law_most
  F_law_next := ⟨_, fun_mk (st := s_law_next) l_law_next cd_law_next kp_law_next, (fun_mk (st := s_law_next) l_law_next cd_law_next kp_law_next).binds fun _ _ _ _ _ _ us hl => match us, hl with | [_, _], _ => rfl⟩
  k_law_next := kp_law_next
  g__law_next := PySem.W.mg_of X G ns_law_next
  F_Shares_Dinit := ⟨_, fun_mk (st := s_Shares_Dinit) l_Shares_Dinit cd_Shares_Dinit kp_Shares_Dinit, StX.bind_star1 (B := fun us => bindArgs _ ⟨us, []⟩) (fun _ => rfl) (fun _ _ _ => rfl)⟩
  F_law_shares := ⟨_, fun_mk (st := s_law_shares) l_law_shares cd_law_shares kp_law_shares, (fun_mk (st := s_law_shares) l_law_shares cd_law_shares kp_law_shares).binds fun _ _ _ _ _ _ us hl => match us, hl with | [_], _ => rfl, rfl⟩
  k_law_shares := kp_law_shares
  g__law_shares := PySem.W.mg_of X G ns_law_shares
  F_balance_after := ⟨_, fun_mk (st := s_balance_after) l_balance_after cd_balance_after kp_balance_after, (fun_mk (st := s_balance_after) l_balance_after cd_balance_after kp_balance_after).binds fun _ _ _ _ _ _ us hl => match us, hl with | [_, _], _ => rfl⟩
  k_balance_after := kp_balance_after
  g_balance_after := PySem.W.mg_of X G ns_balance_after
  F_subsets := ⟨_, fun_mk (st := s_subsets) l_subsets cd_subsets kp_subsets, (fun_mk (st := s_subsets) l_subsets cd_subsets kp_subsets).binds fun _ _ _ _ _ _ us hl => match us, hl with | [_, _], _ => rfl⟩
  k_subsets := kp_subsets
  g_subsets := PySem.W.mg_of X G ns_subsets
  F_most_groups := ⟨_, fun_mk (st := s_most_groups) l_most_groups cd_most_groups kp_most_groups, (fun_mk (st := s_most_groups) l_most_groups cd_most_groups kp_most_groups).binds fun _ _ _ _ _ _ us hl => match us, hl with | [_], _ => rfl⟩
  k_most_groups := kp_most_groups
  g_most_groups := PySem.W.mg_of X G ns_most_groups
  F_Shares_Dlen := ⟨_, fun_mk (st := s_Shares_Dlen) l_Shares_Dlen cd_Shares_Dlen kp_Shares_Dlen, (fun_mk (st := s_Shares_Dlen) l_Shares_Dlen cd_Shares_Dlen kp_Shares_Dlen).binds fun _ _ _ _ _ _ us hl => match us, hl with | [_], _ => rfl⟩
  F_validate_balance := ⟨_, fun_mk (st := s_validate_balance) l_validate_balance cd_validate_balance kp_validate_balance, (fun_mk (st := s_validate_balance) l_validate_balance cd_validate_balance kp_validate_balance).binds fun _ _ _ _ _ _ us hl => match us, hl with | [_], _ => rfl⟩
  k_validate_balance := kp_validate_balance
  g_validate_balance := PySem.W.mg_of X G ns_validate_balance
  F_fewest_payments := ⟨_, fun_mk (st := s_fewest_payments) l_fewest_payments cd_fewest_payments kp_fewest_payments, (fun_mk (st := s_fewest_payments) l_fewest_payments cd_fewest_payments kp_fewest_payments).binds fun _ _ _ _ _ _ us hl => match us, hl with | [_], _ => rfl⟩
  k_fewest_payments := kp_fewest_payments
  g_fewest_payments := PySem.W.mg_of X G ns_fewest_payments
  F_payments := ⟨_, fun_mk (st := s_payments) l_payments cd_payments kp_payments, (fun_mk (st := s_payments) l_payments cd_payments kp_payments).binds fun _ _ _ _ _ _ us hl => match us, hl with | [_], _ => rfl⟩
  k_payments := kp_payments
  g_payments := PySem.W.mg_of X G ns_payments
  F_law := ⟨_, fun_mk (st := s_law) l_law cd_law kp_law, (fun_mk (st := s_law) l_law cd_law kp_law).binds fun _ _ _ _ _ _ us hl => match us, hl with | [_], _ => rfl⟩
  g_Bill := PySem.W.mg_of X G ns_Bill
  g_MAX_HANDED := PySem.W.mg_of X G ns_MAX_HANDED
  g_Shares := PySem.W.mg_of X G ns_Shares
  b_any := PySem.W.mg_none_of X G nb_any
  b_bool := PySem.W.mg_none_of X G nb_bool
  b_dict := PySem.W.mg_none_of X G nb_dict
  b_enumerate := PySem.W.mg_none_of X G nb_enumerate
  b_int := PySem.W.mg_none_of X G nb_int
  b_isinstance := PySem.W.mg_none_of X G nb_isinstance
  b_len := PySem.W.mg_none_of X G nb_len
  b_list := PySem.W.mg_none_of X G nb_list
  b_max := PySem.W.mg_none_of X G nb_max
  b_range := PySem.W.mg_none_of X G nb_range
  b_str := PySem.W.mg_none_of X G nb_str
  b_sum := PySem.W.mg_none_of X G nb_sum
  b_tuple := PySem.W.mg_none_of X G nb_tuple
  cl_Shares := ⟨pg_Shares, hd_Shares, po_Shares, sa_Shares⟩
  mk_Shares := ⟨mkk_Shares, fi_Shares_Dinit, fn_Shares_Dinit, kc_Shares⟩
  na_Shares_amounts := na_Shares_amounts
  sf_Shares := sf_Shares
  cl_Bill := ⟨pg_Bill, hd_Bill, po_Bill, sa_Bill⟩
  na_Bill_total := na_Bill_total
  na_Bill_there := na_Bill_there
  cr_Bill := ⟨rd_Bill, ga_Bill⟩
  cv_Bill_MAX_SEATS := ⟨cv_Bill_MAX_SEATS, ⟨_, rfl⟩⟩
  sf_Bill := sf_Bill
  p_Shares_cents := ⟨fi_Shares_cents, pgt_Shares_cents, ptk_Shares_cents, ⟨_, prc_Shares_cents⟩⟩
  d_Shares_Dlen := fi_Shares_Dlen
  df_Shares_Dlen := fn_Shares_Dlen
  dk_Shares_Dlen := fk_Shares_Dlen
set_option maxHeartbeats 0 in
theorem fin {l : PySem.W.OpenLaw} {rq : Str → Bool} {w : World} {K : PySem.W.Frag} {h : Heap} {mg : Str → Option Value} {fa : Addr} (X : K.In h) (G : h.Ns mainGlobals mg) (hmg : mg "law" = some (.ref fa))
    (tabs : ∀ (y : Str) (c P : Addr), rq y = true → PySem.W.tabIn K y = some (c, P) → PySem.W.CodeHd h c P ∧ h.get? P = some { cls := .none, data := .fields #[] })
    (rc_law_shares : rq "_law_shares" = true)
    {c_Shares c_Bill f_Shares_cents f_law_alike f_law_mix f_law_places f_law_most f_law_next f_Shares_Dinit f_law_shares f_balance_after f_subsets f_most_groups f_Shares_Dlen f_validate_balance f_fewest_payments f_payments f_law p_Shares_cents : Addr}
    {oc_Shares_cents kV_Shares_cents dc_Shares_cents pm_Shares_cents cv_Shares_cents ct_Shares_cents oc_law_alike kV_law_alike dc_law_alike pm_law_alike cv_law_alike ct_law_alike oc_law_mix kV_law_mix dc_law_mix pm_law_mix cv_law_mix ct_law_mix oc_law_places kV_law_places dc_law_places pm_law_places cv_law_places ct_law_places oc_law_most kV_law_most dc_law_most pm_law_most cv_law_most ct_law_most oc_law_next kV_law_next dc_law_next pm_law_next cv_law_next ct_law_next oc_Shares_Dinit kV_Shares_Dinit dc_Shares_Dinit pm_Shares_Dinit cv_Shares_Dinit ct_Shares_Dinit oc_law_shares kV_law_shares dc_law_shares pm_law_shares ct_law_shares oc_balance_after kV_balance_after dc_balance_after pm_balance_after cv_balance_after ct_balance_after oc_subsets kV_subsets dc_subsets pm_subsets cv_subsets ct_subsets oc_most_groups kV_most_groups dc_most_groups pm_most_groups cv_most_groups ct_most_groups oc_Shares_Dlen kV_Shares_Dlen dc_Shares_Dlen pm_Shares_Dlen cv_Shares_Dlen ct_Shares_Dlen oc_validate_balance kV_validate_balance dc_validate_balance pm_validate_balance cv_validate_balance ct_validate_balance oc_fewest_payments kV_fewest_payments dc_fewest_payments pm_fewest_payments cv_fewest_payments ct_fewest_payments oc_payments kV_payments dc_payments pm_payments cv_payments ct_payments oc_law kV_law dc_law pm_law cv_law ct_law : Value}
    {cc_law_shares tb_law_shares : Addr}
    {ce_law_shares : Value}
    {co_law_shares : Option Addr}
    {vv_law_shares : Array Value}
    {cl_law_shares : Array (Option Value)}
    {od_Shares_cents an_Shares_cents od_law_alike an_law_alike od_law_mix an_law_mix od_law_places an_law_places od_law_most an_law_most od_law_next an_law_next od_Shares_Dinit an_Shares_Dinit od_law_shares an_law_shares od_balance_after an_balance_after od_subsets an_subsets od_most_groups an_most_groups od_Shares_Dlen an_Shares_Dlen od_validate_balance an_validate_balance od_fewest_payments an_fewest_payments od_payments an_payments od_law an_law : Option Addr}
    {sl_Shares_cents sl_law_alike sl_law_mix sl_law_places sl_law_most sl_law_next sl_Shares_Dinit sl_law_shares sl_balance_after sl_subsets sl_most_groups sl_Shares_Dlen sl_validate_balance sl_fewest_payments sl_payments sl_law : Array (Option Value)}
    {t_MAX_HANDED u_Bill_MAX_SEATS : Tok}
    {rs_Shares_cents : List Value}
    (ns_Shares : PySem.W.nsIn K mainGlobals "Shares" = some (some (.ref c_Shares)))
    (ns_Bill : PySem.W.nsIn K mainGlobals "Bill" = some (some (.ref c_Bill)))
    (ns_law_alike : PySem.W.nsIn K mainGlobals "_law_alike" = some (some (.ref f_law_alike)))
    (ns_law_mix : PySem.W.nsIn K mainGlobals "_law_mix" = some (some (.ref f_law_mix)))
    (ns_law_places : PySem.W.nsIn K mainGlobals "_law_places" = some (some (.ref f_law_places)))
    (ns_law_most : PySem.W.nsIn K mainGlobals "_law_most" = some (some (.ref f_law_most)))
    (ns_law_next : PySem.W.nsIn K mainGlobals "_law_next" = some (some (.ref f_law_next)))
    (ns_law_shares : PySem.W.nsIn K mainGlobals "_law_shares" = some (some (.ref f_law_shares)))
    (ns_balance_after : PySem.W.nsIn K mainGlobals "balance_after" = some (some (.ref f_balance_after)))
    (ns_subsets : PySem.W.nsIn K mainGlobals "subsets" = some (some (.ref f_subsets)))
    (ns_most_groups : PySem.W.nsIn K mainGlobals "most_groups" = some (some (.ref f_most_groups)))
    (ns_validate_balance : PySem.W.nsIn K mainGlobals "validate_balance" = some (some (.ref f_validate_balance)))
    (ns_fewest_payments : PySem.W.nsIn K mainGlobals "fewest_payments" = some (some (.ref f_fewest_payments)))
    (ns_payments : PySem.W.nsIn K mainGlobals "payments" = some (some (.ref f_payments)))
    (ns_law : PySem.W.nsIn K mainGlobals "law" = some (some (.ref f_law)))
    (rd_Bill : PySem.W.readsIn K c_Bill (.type "type") = true)
    (ga_Bill : PySem.W.specialIn K (.ref c_Bill) "__getattribute__" = some (some (.builtin "type.__getattribute__")))
    (fi_Shares_cents : PySem.W.findIn K (.ref c_Shares) "cents" = some (some (.ref p_Shares_cents)))
    (pgt_Shares_cents : PySem.W.specialIn K (.ref p_Shares_cents) "__get__" = some (some (.builtin "property.__get__")))
    (ptk_Shares_cents : PySem.W.takesIn K (.ref p_Shares_cents) = some true)
    (prc_Shares_cents : PySem.W.recIn K p_Shares_cents "property" = some (.ref f_Shares_cents :: rs_Shares_cents))
    (l_Shares_cents : K.lookup f_Shares_cents = some ⟨oc_Shares_cents, od_Shares_cents, .func (PySem.W.fnOf "cents" "Shares.cents" (defArgs s_Shares_cents) (defBody s_Shares_cents) (defScope s_Shares_cents) .none kV_Shares_cents dc_Shares_cents pm_Shares_cents an_Shares_cents cv_Shares_cents ct_Shares_cents), sl_Shares_cents⟩)
    (cd_Shares_cents : PySem.W.codeIn K cv_Shares_cents "Shares.cents" = true)
    (kp_Shares_cents : PySem.W.keepIn K (.ref f_Shares_cents) = true)
    (l_law_alike : K.lookup f_law_alike = some ⟨oc_law_alike, od_law_alike, .func (PySem.W.fnOf "_law_alike" "_law_alike" (defArgs s_law_alike) (defBody s_law_alike) (defScope s_law_alike) .none kV_law_alike dc_law_alike pm_law_alike an_law_alike cv_law_alike ct_law_alike), sl_law_alike⟩)
    (cd_law_alike : PySem.W.codeIn K cv_law_alike "_law_alike" = true)
    (kp_law_alike : PySem.W.keepIn K (.ref f_law_alike) = true)
    (l_law_mix : K.lookup f_law_mix = some ⟨oc_law_mix, od_law_mix, .func (PySem.W.fnOf "_law_mix" "_law_mix" (defArgs s_law_mix) (defBody s_law_mix) (defScope s_law_mix) .none kV_law_mix dc_law_mix pm_law_mix an_law_mix cv_law_mix ct_law_mix), sl_law_mix⟩)
    (cd_law_mix : PySem.W.codeIn K cv_law_mix "_law_mix" = true)
    (kp_law_mix : PySem.W.keepIn K (.ref f_law_mix) = true)
    (l_law_places : K.lookup f_law_places = some ⟨oc_law_places, od_law_places, .func (PySem.W.fnOf "_law_places" "_law_places" (defArgs s_law_places) (defBody s_law_places) (defScope s_law_places) .none kV_law_places dc_law_places pm_law_places an_law_places cv_law_places ct_law_places), sl_law_places⟩)
    (cd_law_places : PySem.W.codeIn K cv_law_places "_law_places" = true)
    (kp_law_places : PySem.W.keepIn K (.ref f_law_places) = true)
    (l_law_most : K.lookup f_law_most = some ⟨oc_law_most, od_law_most, .func (PySem.W.fnOf "_law_most" "_law_most" (defArgs s_law_most) (defBody s_law_most) (defScope s_law_most) .none kV_law_most dc_law_most pm_law_most an_law_most cv_law_most ct_law_most), sl_law_most⟩)
    (cd_law_most : PySem.W.codeIn K cv_law_most "_law_most" = true)
    (kp_law_most : PySem.W.keepIn K (.ref f_law_most) = true)
    (l_law_next : K.lookup f_law_next = some ⟨oc_law_next, od_law_next, .func (PySem.W.fnOf "_law_next" "_law_next" (defArgs s_law_next) (defBody s_law_next) (defScope s_law_next) .none kV_law_next dc_law_next pm_law_next an_law_next cv_law_next ct_law_next), sl_law_next⟩)
    (cd_law_next : PySem.W.codeIn K cv_law_next "_law_next" = true)
    (kp_law_next : PySem.W.keepIn K (.ref f_law_next) = true)
    (fi_Shares_Dinit : PySem.W.findIn K (.ref c_Shares) "__init__" = some (some (.ref f_Shares_Dinit)))
    (l_Shares_Dinit : K.lookup f_Shares_Dinit = some ⟨oc_Shares_Dinit, od_Shares_Dinit, .func (PySem.W.fnOf "__init__" "Shares.__init__" (defArgs s_Shares_Dinit) (defBody s_Shares_Dinit) (defScope s_Shares_Dinit) .none kV_Shares_Dinit dc_Shares_Dinit pm_Shares_Dinit an_Shares_Dinit cv_Shares_Dinit ct_Shares_Dinit), sl_Shares_Dinit⟩)
    (cd_Shares_Dinit : PySem.W.codeIn K cv_Shares_Dinit "Shares.__init__" = true)
    (kp_Shares_Dinit : PySem.W.keepIn K (.ref f_Shares_Dinit) = true)
    (fn_Shares_Dinit : PySem.W.isFn K (.ref f_Shares_Dinit) = true)
    (fk_Shares_Dinit : PySem.W.fnIn K f_Shares_Dinit = true)
    (l_law_shares : K.lookup f_law_shares = some ⟨oc_law_shares, od_law_shares, .func (PySem.W.fnOf "_law_shares" "_law_shares" (defArgs s_law_shares) (defBody s_law_shares) (defScope s_law_shares) .none kV_law_shares dc_law_shares pm_law_shares an_law_shares (.ref cc_law_shares) ct_law_shares), sl_law_shares⟩)
    (cd_law_shares : PySem.W.codeIn K (.ref cc_law_shares) "_law_shares" = true)
    (lc_law_shares : K.lookup cc_law_shares = some ⟨ce_law_shares, co_law_shares, .fields vv_law_shares, cl_law_shares⟩)
    (vc_law_shares : vv_law_shares[11]? = some (.ref tb_law_shares))
    (nt_law_shares : K.lookup tb_law_shares = none)
    (kp_law_shares : PySem.W.keepIn K (.ref f_law_shares) = true)
    (l_balance_after : K.lookup f_balance_after = some ⟨oc_balance_after, od_balance_after, .func (PySem.W.fnOf "balance_after" "balance_after" (defArgs s_balance_after) (defBody s_balance_after) (defScope s_balance_after) .none kV_balance_after dc_balance_after pm_balance_after an_balance_after cv_balance_after ct_balance_after), sl_balance_after⟩)
    (cd_balance_after : PySem.W.codeIn K cv_balance_after "balance_after" = true)
    (kp_balance_after : PySem.W.keepIn K (.ref f_balance_after) = true)
    (l_subsets : K.lookup f_subsets = some ⟨oc_subsets, od_subsets, .func (PySem.W.fnOf "subsets" "subsets" (defArgs s_subsets) (defBody s_subsets) (defScope s_subsets) .none kV_subsets dc_subsets pm_subsets an_subsets cv_subsets ct_subsets), sl_subsets⟩)
    (cd_subsets : PySem.W.codeIn K cv_subsets "subsets" = true)
    (kp_subsets : PySem.W.keepIn K (.ref f_subsets) = true)
    (l_most_groups : K.lookup f_most_groups = some ⟨oc_most_groups, od_most_groups, .func (PySem.W.fnOf "most_groups" "most_groups" (defArgs s_most_groups) (defBody s_most_groups) (defScope s_most_groups) .none kV_most_groups dc_most_groups pm_most_groups an_most_groups cv_most_groups ct_most_groups), sl_most_groups⟩)
    (cd_most_groups : PySem.W.codeIn K cv_most_groups "most_groups" = true)
    (kp_most_groups : PySem.W.keepIn K (.ref f_most_groups) = true)
    (fi_Shares_Dlen : PySem.W.findIn K (.ref c_Shares) "__len__" = some (some (.ref f_Shares_Dlen)))
    (l_Shares_Dlen : K.lookup f_Shares_Dlen = some ⟨oc_Shares_Dlen, od_Shares_Dlen, .func (PySem.W.fnOf "__len__" "Shares.__len__" (defArgs s_Shares_Dlen) (defBody s_Shares_Dlen) (defScope s_Shares_Dlen) .none kV_Shares_Dlen dc_Shares_Dlen pm_Shares_Dlen an_Shares_Dlen cv_Shares_Dlen ct_Shares_Dlen), sl_Shares_Dlen⟩)
    (cd_Shares_Dlen : PySem.W.codeIn K cv_Shares_Dlen "Shares.__len__" = true)
    (kp_Shares_Dlen : PySem.W.keepIn K (.ref f_Shares_Dlen) = true)
    (fn_Shares_Dlen : PySem.W.isFn K (.ref f_Shares_Dlen) = true)
    (fk_Shares_Dlen : PySem.W.fnIn K f_Shares_Dlen = true)
    (l_validate_balance : K.lookup f_validate_balance = some ⟨oc_validate_balance, od_validate_balance, .func (PySem.W.fnOf "validate_balance" "validate_balance" (defArgs s_validate_balance) (defBody s_validate_balance) (defScope s_validate_balance) .none kV_validate_balance dc_validate_balance pm_validate_balance an_validate_balance cv_validate_balance ct_validate_balance), sl_validate_balance⟩)
    (cd_validate_balance : PySem.W.codeIn K cv_validate_balance "validate_balance" = true)
    (kp_validate_balance : PySem.W.keepIn K (.ref f_validate_balance) = true)
    (l_fewest_payments : K.lookup f_fewest_payments = some ⟨oc_fewest_payments, od_fewest_payments, .func (PySem.W.fnOf "fewest_payments" "fewest_payments" (defArgs s_fewest_payments) (defBody s_fewest_payments) (defScope s_fewest_payments) .none kV_fewest_payments dc_fewest_payments pm_fewest_payments an_fewest_payments cv_fewest_payments ct_fewest_payments), sl_fewest_payments⟩)
    (cd_fewest_payments : PySem.W.codeIn K cv_fewest_payments "fewest_payments" = true)
    (kp_fewest_payments : PySem.W.keepIn K (.ref f_fewest_payments) = true)
    (l_payments : K.lookup f_payments = some ⟨oc_payments, od_payments, .func (PySem.W.fnOf "payments" "payments" (defArgs s_payments) (defBody s_payments) (defScope s_payments) .none kV_payments dc_payments pm_payments an_payments cv_payments ct_payments), sl_payments⟩)
    (cd_payments : PySem.W.codeIn K cv_payments "payments" = true)
    (kp_payments : PySem.W.keepIn K (.ref f_payments) = true)
    (l_law : K.lookup f_law = some ⟨oc_law, od_law, .func (PySem.W.fnOf "law" "law" (defArgs s_law) (defBody s_law) (defScope s_law) .none kV_law dc_law pm_law an_law cv_law ct_law), sl_law⟩)
    (cd_law : PySem.W.codeIn K cv_law "law" = true)
    (kp_law : PySem.W.keepIn K (.ref f_law) = true)
    (ns_MAX_HANDED : PySem.W.nsIn K mainGlobals "MAX_HANDED" = some (some (.int 1000000000000000 t_MAX_HANDED)))
    (nb_any : PySem.W.nsIn K mainGlobals "any" = some none)
    (nb_bool : PySem.W.nsIn K mainGlobals "bool" = some none)
    (nb_dict : PySem.W.nsIn K mainGlobals "dict" = some none)
    (nb_enumerate : PySem.W.nsIn K mainGlobals "enumerate" = some none)
    (nb_int : PySem.W.nsIn K mainGlobals "int" = some none)
    (nb_isinstance : PySem.W.nsIn K mainGlobals "isinstance" = some none)
    (nb_len : PySem.W.nsIn K mainGlobals "len" = some none)
    (nb_list : PySem.W.nsIn K mainGlobals "list" = some none)
    (nb_max : PySem.W.nsIn K mainGlobals "max" = some none)
    (nb_range : PySem.W.nsIn K mainGlobals "range" = some none)
    (nb_str : PySem.W.nsIn K mainGlobals "str" = some none)
    (nb_sum : PySem.W.nsIn K mainGlobals "sum" = some none)
    (nb_tuple : PySem.W.nsIn K mainGlobals "tuple" = some none)
    (pg_Shares : PySem.W.plainGet K c_Shares Str.empty = true)
    (hd_Shares : PySem.W.hasDictIn K c_Shares = true)
    (po_Shares : PySem.W.plainOver K c_Shares = true)
    (sa_Shares : PySem.W.findIn K (.ref c_Shares) "__setattr__" = some (some (.builtin "object.__setattr__")))
    (mkk_Shares : PySem.W.makesIn K c_Shares = true)
    (kc_Shares : PySem.W.keepIn K (.ref c_Shares) = true)
    (na_Shares_amounts : PySem.W.findIn K (.ref c_Shares) "amounts" = some none)
    (sf_Shares : PySem.W.selfFirst K c_Shares = true)
    (pg_Bill : PySem.W.plainGet K c_Bill Str.empty = true)
    (hd_Bill : PySem.W.hasDictIn K c_Bill = true)
    (po_Bill : PySem.W.plainOver K c_Bill = true)
    (sa_Bill : PySem.W.findIn K (.ref c_Bill) "__setattr__" = some (some (.builtin "object.__setattr__")))
    (na_Bill_total : PySem.W.findIn K (.ref c_Bill) "total" = some none)
    (na_Bill_there : PySem.W.findIn K (.ref c_Bill) "there" = some none)
    (cv_Bill_MAX_SEATS : PySem.W.findCls K (.ref c_Bill) (.type "type") "MAX_SEATS" = some (.val (.int 8 u_Bill_MAX_SEATS)))
    (sf_Bill : PySem.W.selfFirst K c_Bill = true)
    : LamX.LawAtS l w K (L2.CX l.prog w) 11 63 "_law_script" mg fa h := by
  have T := mkTx X G ns_Shares ns_Bill ns_law_alike ns_law_mix ns_law_places ns_law_most ns_law_next ns_law_shares ns_balance_after ns_subsets ns_most_groups ns_validate_balance ns_fewest_payments ns_payments ns_law rd_Bill ga_Bill fi_Shares_cents pgt_Shares_cents ptk_Shares_cents prc_Shares_cents l_Shares_cents cd_Shares_cents kp_Shares_cents l_law_alike cd_law_alike kp_law_alike l_law_mix cd_law_mix kp_law_mix l_law_places cd_law_places kp_law_places l_law_most cd_law_most kp_law_most l_law_next cd_law_next kp_law_next fi_Shares_Dinit l_Shares_Dinit cd_Shares_Dinit kp_Shares_Dinit fn_Shares_Dinit fk_Shares_Dinit l_law_shares cd_law_shares lc_law_shares vc_law_shares nt_law_shares kp_law_shares l_balance_after cd_balance_after kp_balance_after l_subsets cd_subsets kp_subsets l_most_groups cd_most_groups kp_most_groups fi_Shares_Dlen l_Shares_Dlen cd_Shares_Dlen kp_Shares_Dlen fn_Shares_Dlen fk_Shares_Dlen l_validate_balance cd_validate_balance kp_validate_balance l_fewest_payments cd_fewest_payments kp_fewest_payments l_payments cd_payments kp_payments l_law cd_law kp_law ns_MAX_HANDED nb_any nb_bool nb_dict nb_enumerate nb_int nb_isinstance nb_len nb_list nb_max nb_range nb_str nb_sum nb_tuple pg_Shares hd_Shares po_Shares sa_Shares mkk_Shares kc_Shares na_Shares_amounts sf_Shares pg_Bill hd_Bill po_Bill sa_Bill na_Bill_total na_Bill_there cv_Bill_MAX_SEATS sf_Bill
  have e := hmg.symm.trans (PySem.W.mg_of X G ns_law)
  cases e
  have hs_law_shares := tabs "_law_shares" _ _ rc_law_shares (DL.tab_mk ns_law_shares l_law_shares rfl lc_law_shares vc_law_shares)
  exact ⟨_, [(cc_law_shares, tb_law_shares)], SpD K (R_lawT _), fun p hp => by simp only [List.mem_cons, List.not_mem_nil, or_false] at hp; rcases hp with rfl; exact hs_law_shares.2, fun p hp => by simp only [List.mem_cons, List.not_mem_nil, or_false] at hp; rcases hp with rfl; exact nt_law_shares, fun p hp => by simp only [List.mem_cons, List.not_mem_nil, or_false] at hp; rcases hp with rfl; exact hs_law_shares.1, fun s v => .of_eq rfl, fun H a ns hl _ hT hS => law_spT hl (fun p hp => hT p hp) hS, fun base _ _ hB => ok_law T ⟨hB _ (List.mem_cons_self ..)⟩ (fun_mk (st := s_law) l_law cd_law kp_law)⟩
end Law
open PySem PySem.W PyProof.Rows
set_option maxRecDepth 100000 in
set_option maxHeartbeats 0 in
theorem PySem.Challenge.cw_oddcents_k53_whole_settlements_by_all_gr_holds : PySem.Challenge.rw_oddcents_k53_whole_settlements_by_all_gr.Holds := by
  w_on; o_law; k_head; (case hw => w_witness2)
  k_fill
  refine DL.walk_ofTabs (l := PySem.Challenge.rw_oddcents_k53_whole_settlements_by_all_gr) (n := 63) (k := 11) (x := "_law_script") (CX := fun w => L2.CX (PySem.Challenge.rw_oddcents_k53_whole_settlements_by_all_gr).prog w) rfl (by decide) rfl ⟨rfl, by decide, by decide⟩ (fun w h Y => PySem.W.km_in_of Y) ?F (fun _ _ _ _ _ z => DL.cx0 z)
  case F =>
    intro w mg fa h KX G hmg tabs
    refine' Law.fin KX G hmg tabs ?rc_law_shares ?ns_Shares ?ns_Bill ?ns_law_alike ?ns_law_mix ?ns_law_places ?ns_law_most ?ns_law_next ?ns_law_shares ?ns_balance_after ?ns_subsets ?ns_most_groups ?ns_validate_balance ?ns_fewest_payments ?ns_payments ?ns_law ?rd_Bill ?ga_Bill ?fi_Shares_cents ?pgt_Shares_cents ?ptk_Shares_cents ?prc_Shares_cents ?l_Shares_cents ?cd_Shares_cents ?kp_Shares_cents ?l_law_alike ?cd_law_alike ?kp_law_alike ?l_law_mix ?cd_law_mix ?kp_law_mix ?l_law_places ?cd_law_places ?kp_law_places ?l_law_most ?cd_law_most ?kp_law_most ?l_law_next ?cd_law_next ?kp_law_next ?fi_Shares_Dinit ?l_Shares_Dinit ?cd_Shares_Dinit ?kp_Shares_Dinit ?fn_Shares_Dinit ?fk_Shares_Dinit ?l_law_shares ?cd_law_shares ?lc_law_shares ?vc_law_shares ?nt_law_shares ?kp_law_shares ?l_balance_after ?cd_balance_after ?kp_balance_after ?l_subsets ?cd_subsets ?kp_subsets ?l_most_groups ?cd_most_groups ?kp_most_groups ?fi_Shares_Dlen ?l_Shares_Dlen ?cd_Shares_Dlen ?kp_Shares_Dlen ?fn_Shares_Dlen ?fk_Shares_Dlen ?l_validate_balance ?cd_validate_balance ?kp_validate_balance ?l_fewest_payments ?cd_fewest_payments ?kp_fewest_payments ?l_payments ?cd_payments ?kp_payments ?l_law ?cd_law ?kp_law ?ns_MAX_HANDED ?nb_any ?nb_bool ?nb_dict ?nb_enumerate ?nb_int ?nb_isinstance ?nb_len ?nb_list ?nb_max ?nb_range ?nb_str ?nb_sum ?nb_tuple ?pg_Shares ?hd_Shares ?po_Shares ?sa_Shares ?mkk_Shares ?kc_Shares ?na_Shares_amounts ?sf_Shares ?pg_Bill ?hd_Bill ?po_Bill ?sa_Bill ?na_Bill_total ?na_Bill_there ?cv_Bill_MAX_SEATS ?sf_Bill
    case rc_law_shares => first | rfl | decide +kernel
    case ns_Shares => k_is
    case ns_Bill => k_is
    case ns_law_alike => k_is
    case ns_law_mix => k_is
    case ns_law_places => k_is
    case ns_law_most => k_is
    case ns_law_next => k_is
    case ns_law_shares => k_is
    case ns_balance_after => k_is
    case ns_subsets => k_is
    case ns_most_groups => k_is
    case ns_validate_balance => k_is
    case ns_fewest_payments => k_is
    case ns_payments => k_is
    case ns_law => k_is
    case rd_Bill => k_is
    case ga_Bill => k_is
    case fi_Shares_cents => k_is
    case pgt_Shares_cents => k_is
    case ptk_Shares_cents => k_is
    case prc_Shares_cents => k_is
    case l_Shares_cents => k_is
    case cd_Shares_cents => k_is
    case kp_Shares_cents => k_is
    case l_law_alike => k_is
    case cd_law_alike => k_is
    case kp_law_alike => k_is
    case l_law_mix => k_is
    case cd_law_mix => k_is
    case kp_law_mix => k_is
    case l_law_places => k_is
    case cd_law_places => k_is
    case kp_law_places => k_is
    case l_law_most => k_is
    case cd_law_most => k_is
    case kp_law_most => k_is
    case l_law_next => k_is
    case cd_law_next => k_is
    case kp_law_next => k_is
    case fi_Shares_Dinit => k_is
    case l_Shares_Dinit => k_is
    case cd_Shares_Dinit => k_is
    case kp_Shares_Dinit => k_is
    case fn_Shares_Dinit => k_is
    case fk_Shares_Dinit => k_is
    case l_law_shares => k_is
    case cd_law_shares => k_is
    case lc_law_shares => k_is
    case vc_law_shares => rfl
    case nt_law_shares => exact DL.lk_none rfl
    case kp_law_shares => k_is
    case l_balance_after => k_is
    case cd_balance_after => k_is
    case kp_balance_after => k_is
    case l_subsets => k_is
    case cd_subsets => k_is
    case kp_subsets => k_is
    case l_most_groups => k_is
    case cd_most_groups => k_is
    case kp_most_groups => k_is
    case fi_Shares_Dlen => k_is
    case l_Shares_Dlen => k_is
    case cd_Shares_Dlen => k_is
    case kp_Shares_Dlen => k_is
    case fn_Shares_Dlen => k_is
    case fk_Shares_Dlen => k_is
    case l_validate_balance => k_is
    case cd_validate_balance => k_is
    case kp_validate_balance => k_is
    case l_fewest_payments => k_is
    case cd_fewest_payments => k_is
    case kp_fewest_payments => k_is
    case l_payments => k_is
    case cd_payments => k_is
    case kp_payments => k_is
    case l_law => k_is
    case cd_law => k_is
    case kp_law => k_is
    case ns_MAX_HANDED => k_is
    case nb_any => k_is
    case nb_bool => k_is
    case nb_dict => k_is
    case nb_enumerate => k_is
    case nb_int => k_is
    case nb_isinstance => k_is
    case nb_len => k_is
    case nb_list => k_is
    case nb_max => k_is
    case nb_range => k_is
    case nb_str => k_is
    case nb_sum => k_is
    case nb_tuple => k_is
    case pg_Shares => k_is
    case hd_Shares => k_is
    case po_Shares => k_is
    case sa_Shares => k_is
    case mkk_Shares => k_is
    case kc_Shares => k_is
    case na_Shares_amounts => k_is
    case sf_Shares => k_is
    case pg_Bill => k_is
    case hd_Bill => k_is
    case po_Bill => k_is
    case sa_Bill => k_is
    case na_Bill_total => k_is
    case na_Bill_there => k_is
    case cv_Bill_MAX_SEATS => k_is
    case sf_Bill => k_is

