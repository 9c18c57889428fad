import PyProof.Rows.All
import Wide.All
import OpenK.AllK
import Wide.FinOn
import HandS.ForMost
import HandS.ForExc
import HandS.More
import HandS.Evl
import HandS.Property
import HandS.Star
import HandS.ClsMeth
import HandS.IsInst
import HandS.Wide
import HandS.Zip
import HandS.EndBits
import HandS.TupAny
import HandS.ExcInit
import HandS.Steps
import HandS.SlotsOwn
import HandS.Iter
import HandS.Flow
import KE.GoesMore
import KE.GoesEnum
import HandS.Style
import HandS.Conv
import HandS.OwnEq
import KE.KAssignIn
import HandS.Text
import HandS.StrMore
import KE.DataMinMax
import HandS.TupMul
import HandS.FStr
import HandS.TryOnly
import HandS.TryMany
import HandS.ExcOwn
import HandS.Lambda
import HandS.EndTab
import KE.KDflt
import HandS.Dict
import PySem.Challenge.RW_oddcents_k09_observers_by_search
set_option Elab.async false
set_option linter.all false
set_option maxRecDepth 100000
/-! The data layer: what a reading does, told of plain data (D), owned objects (Ow) and slots alone; no heap in sight. -/
namespace DL
open PySem L2

/-- plain data -/
inductive D where
  | non | bl (b : Bool) | int (i : Int) | str (x : Str) | ref (a : Addr) | ty (n : String)
  | lst (xs : List D) | tup (xs : List D) | ins (C : Addr) (nm : List Str) (xs : List D)
  | scr (ns : List Int)
  /-- whatever a part of the heap tells of the value -/
  | sem (p : Hp → V → Prop)
/-- what an owned object holds -/
inductive MO where
  | lst (xs : List D) | ins (C : Addr) (nm : List Str) (xs : List D)
  | sem (p : Hp → HO → Prop)
abbrev Ow := Addr → Option MO
abbrev Sl := List (Option D)
def Sub (G H : Hp) : Prop := ∀ a o, G a = some o → H a = some o
theorem Sub.refl (G : Hp) : Sub G G := fun _ _ h => h
theorem Sub.trans {G H L : Hp} (a : Sub G H) (b : Sub H L) : Sub G L := fun c o h => b c o (a c o h)

mutual
/-- the value v stands for the datum, by the heap G -/
def Is (K : PySem.W.Frag) (G : Hp) : D → V → Prop
  | .non, v => v = .non
  | .bl b, v => v = .bl b
  | .int i, v => v = .int i
  | .str x, v => v = .str x
  | .ref a, v => v = .ref a
  | .ty n, v => v = .ty n
  | .lst ds, v => ∃ p xs, v = .ref p ∧ G p = some (.lst xs) ∧ IsL K G ds xs
  | .tup ds, v => ∃ p xs, v = .ref p ∧ G p = some (.tup xs) ∧ IsL K G ds xs
  | .ins C nm ds, v => ∃ p dx xs, v = .ref p ∧ G p = some (.ins C dx (nm.zip xs)) ∧ xs.length = nm.length ∧ IsL K G ds xs
  | .scr ns, v => ∃ p, v = .ref p ∧ SqL K G p (ns.map V.int)
  | .sem p, v => ∃ G1, Sub G1 G ∧ p G1 v
def IsL (K : PySem.W.Frag) (G : Hp) : List D → List V → Prop
  | [], vs => vs = []
  | d :: ds, vs => ∃ v r, vs = v :: r ∧ Is K G d v ∧ IsL K G ds r
end
section
variable {K : PySem.W.Frag} {G G' H H' : Hp}
mutual
theorem Is.mono (e : Sub G G') : ∀ {d : D} {v : V}, Is K G d v → Is K G' d v
  | .non, _, h => h
  | .bl _, _, h => h
  | .int _, _, h => h
  | .str _, _, h => h
  | .ref _, _, h => h
  | .ty _, _, h => h
  | .lst _, _, ⟨p, xs, a, b, c⟩ => ⟨p, xs, a, e _ _ b, IsL.mono e c⟩
  | .tup _, _, ⟨p, xs, a, b, c⟩ => ⟨p, xs, a, e _ _ b, IsL.mono e c⟩
  | .ins _ _ _, _, ⟨p, dx, xs, a, b, c, d⟩ => ⟨p, dx, xs, a, e _ _ b, c, IsL.mono e d⟩
  | .scr _, _, ⟨p, a, b⟩ => ⟨p, a, Evl.ex_l e b⟩
  | .sem _, _, ⟨G1, a, b⟩ => ⟨G1, a.trans e, b⟩
theorem IsL.mono (e : Sub G G') : ∀ {ds : List D} {vs : List V}, IsL K G ds vs → IsL K G' ds vs
  | [], _, h => h
  | _ :: _, _, ⟨v, r, a, b, c⟩ => ⟨v, r, a, Is.mono e b, IsL.mono e c⟩
end
theorem IsL.nil : IsL K G [] [] := rfl
theorem IsL.cons {d : D} {ds : List D} {v : V} {vs : List V} (h : Is K G d v) (t : IsL K G ds vs) : IsL K G (d :: ds) (v :: vs) := ⟨v, vs, rfl, h, t⟩
theorem IsL.length : ∀ {ds : List D} {vs : List V}, IsL K G ds vs → ds.length = vs.length
  | [], _, h => by cases h; rfl
  | _ :: _, _, ⟨_, _, rfl, _, t⟩ => by simp [IsL.length t]
theorem IsL.append : ∀ {ds es : List D} {vs ws : List V}, IsL K G ds vs → IsL K G es ws → IsL K G (ds ++ es) (vs ++ ws)
  | [], _, _, _, h, t => by cases h; exact t
  | _ :: _, _, _, _, ⟨v, r, rfl, a, b⟩, t => ⟨v, r ++ _, rfl, a, IsL.append b t⟩
theorem IsL.get : ∀ {ds : List D} {vs : List V} {i : Nat} {d : D}, IsL K G ds vs → ds[i]? = some d → ∃ v, vs[i]? = some v ∧ Is K G d v
  | [], _, _, _, _, e => by simp at e
  | _ :: _, _, 0, _, ⟨v, r, rfl, a, b⟩, e => by simp at e; subst e; exact ⟨v, rfl, a⟩
  | _ :: ds, _, i + 1, d, ⟨v, r, rfl, a, b⟩, e => by
    obtain ⟨w, h1, h2⟩ := IsL.get (i := i) (d := d) b (by simpa using e)
    exact ⟨w, by simpa using h1, h2⟩
theorem IsL.getV : ∀ {ds : List D} {vs : List V} {i : Nat} {v : V}, IsL K G ds vs → vs[i]? = some v → ∃ d, ds[i]? = some d ∧ Is K G d v
  | [], _, _, _, h, e => by cases h; simp at e
  | d :: _, _, 0, _, ⟨v, r, rfl, a, b⟩, e => by simp at e; subst e; exact ⟨d, rfl, a⟩
  | d :: ds, _, i + 1, w, ⟨v, r, rfl, a, b⟩, e => by
    obtain ⟨d', h1, h2⟩ := IsL.getV (i := i) (v := w) b (by simpa using e)
    exact ⟨d', by simpa using h1, h2⟩
theorem IsL.set : ∀ {ds : List D} {vs : List V} (i : Nat) {d : D} {v : V}, IsL K G ds vs → Is K G d v → IsL K G (ds.set i d) (vs.set i v)
  | [], _, _, _, _, h, _ => by cases h; exact rfl
  | _ :: _, _, 0, _, _, ⟨v, r, rfl, a, b⟩, h => ⟨_, r, rfl, h, b⟩
  | _ :: _, _, i + 1, _, _, ⟨v, r, rfl, a, b⟩, h => ⟨v, r.set i _, rfl, a, IsL.set i b h⟩
theorem IsL.take : ∀ {ds : List D} {vs : List V} (n : Nat), IsL K G ds vs → IsL K G (ds.take n) (vs.take n)
  | [], _, n, h => by cases h; simp [IsL]
  | _ :: _, _, 0, ⟨v, r, rfl, a, b⟩ => by simp [IsL]
  | _ :: _, _, n + 1, ⟨v, r, rfl, a, b⟩ => ⟨v, r.take n, rfl, a, IsL.take n b⟩
theorem IsL.drop : ∀ {ds : List D} {vs : List V} (n : Nat), IsL K G ds vs → IsL K G (ds.drop n) (vs.drop n)
  | [], _, n, h => by cases h; simp [IsL]
  | _ :: _, _, 0, ⟨v, r, rfl, a, b⟩ => ⟨v, r, rfl, a, b⟩
  | _ :: _, _, n + 1, ⟨v, r, rfl, a, b⟩ => by simpa using IsL.drop n b
theorem IsL.rep {ds : List D} {vs : List V} (h : IsL K G ds vs) : ∀ n : Nat, IsL K G (List.replicate n ds).flatten (List.replicate n vs).flatten
  | 0 => by simp [IsL]
  | n + 1 => by
    rw [List.replicate_succ, List.replicate_succ, List.flatten_cons, List.flatten_cons]
    exact h.append (IsL.rep h n)
theorem IsL.ints : ∀ {ns : List Int}, IsL K G (ns.map D.int) (ns.map V.int)
  | [] => rfl
  | _ :: _ => ⟨_, _, rfl, rfl, IsL.ints⟩
theorem IsL.intsV : ∀ {ns : List Int} {vs : List V}, IsL K G (ns.map D.int) vs → vs = ns.map V.int
  | [], _, h => h
  | _ :: _, _, ⟨v, r, rfl, a, b⟩ => by rw [IsL.intsV b, show v = _ from a]; rfl
theorem IsL.bls : ∀ {ns : List Bool} {vs : List V}, IsL K G (ns.map D.bl) vs → vs = ns.map V.bl
  | [], _, h => h
  | _ :: _, _, ⟨v, r, rfl, a, b⟩ => by rw [IsL.bls b, show v = _ from a]; rfl
end

/-- an owned object, as it stands in H; what it holds is told by G -/
def MoIs (K : PySem.W.Frag) (G H : Hp) (p : Addr) : MO → Prop
  | .lst ds => ∃ xs, H p = some (.lst xs) ∧ IsL K G ds xs
  | .ins C nm ds => ∃ dx xs, H p = some (.ins C dx (nm.zip xs)) ∧ xs.length = nm.length ∧ IsL K G ds xs
  | .sem q => ∃ o G1, H p = some o ∧ Sub G1 G ∧ q G1 o
/-- the world: G is read, O is owned, the rest of H is nobody's -/
structure Wd (K : PySem.W.Frag) (G : Hp) (O : Ow) (H : Hp) : Prop where
  sub : Sub G H
  own : ∀ p m, O p = some m → G p = none ∧ MoIs K G H p m
/-- what a piece of work may do -/
structure Stp (K : PySem.W.Frag) (G : Hp) (O : Ow) (H : Hp) (G' : Hp) (O' : Ow) (H' : Hp) : Prop where
  wd : Wd K G' O' H'
  ex : Sub G G'
  keep : ∀ a o, H a = some o → O a = none → H' a = some o
  fresh : ∀ a o, H a = some o → O a = none → G a = none → G' a = none ∧ O' a = none
section
variable {K : PySem.W.Frag} {G G1 G2 H H1 H2 : Hp} {O O1 O2 : Ow}
theorem MoIs.there {p : Addr} {m : MO} (h : MoIs K G H p m) : ∃ o, H p = some o := by
  cases m with
  | lst ds => obtain ⟨xs, h, _⟩ := h; exact ⟨_, h⟩
  | ins C nm ds => obtain ⟨dx, xs, h, _⟩ := h; exact ⟨_, h⟩
  | sem q => obtain ⟨o, G1, h, _⟩ := h; exact ⟨_, h⟩
theorem MoIs.mono {p : Addr} {m : MO} (e : Sub G G1) (k : ∀ o, H p = some o → H1 p = some o) (h : MoIs K G H p m) : MoIs K G1 H1 p m := by
  cases m with
  | lst ds => obtain ⟨xs, h, t⟩ := h; exact ⟨xs, k _ h, t.mono e⟩
  | ins C nm ds => obtain ⟨dx, xs, h, l, t⟩ := h; exact ⟨dx, xs, k _ h, l, t.mono e⟩
  | sem q => obtain ⟨o, G2, h, l, t⟩ := h; exact ⟨o, G2, k _ h, l.trans e, t⟩
theorem Wd.gO (w : Wd K G O H) {a : Addr} {o : HO} (h : G a = some o) : O a = none := by
  cases q : O a with
  | none => rfl
  | some m => rw [(w.own a m q).1] at h; cases h
theorem Wd.oNone (w : Wd K G O H) {a : Addr} (h : H a = none) : O a = none := by
  cases q : O a with
  | none => rfl
  | some m => obtain ⟨o, e⟩ := (w.own a m q).2.there; rw [h] at e; cases e
theorem Wd.gNone (w : Wd K G O H) {a : Addr} (h : H a = none) : G a = none := by
  cases q : G a with
  | none => rfl
  | some o => rw [w.sub a o q] at h; cases h
theorem Stp.refl (w : Wd K G O H) : Stp K G O H G O H := ⟨w, Sub.refl G, fun _ _ h _ => h, fun _ _ _ h1 h2 => ⟨h2, h1⟩⟩
theorem Stp.trans (a : Stp K G O H G1 O1 H1) (b : Stp K G1 O1 H1 G2 O2 H2) : Stp K G O H G2 O2 H2 where
  wd := b.wd
  ex := a.ex.trans b.ex
  keep := fun c o h n => by
    have h1 := a.keep c o h n
    refine b.keep c o h1 ?_
    cases q : G c with
    | none => exact (a.fresh c o h n q).2
    | some u => exact a.wd.gO (a.ex c u q)
  fresh := fun c o h n g => by
    obtain ⟨g1, n1⟩ := a.fresh c o h n g
    exact b.fresh c o (a.keep c o h n) n1 g1
/-- a new object, to be read from now on -/
theorem Wd.new {p : Addr} {o : HO} (w : Wd K G O H) (hp : H p = none) : Wd K (upd G p o) O (upd H p o) where
  sub := fun a u e => by
    by_cases h : a = p
    · subst h; rw [upd_same] at e ⊢; exact e
    · rw [upd_ne h] at e ⊢; exact w.sub a u e
  own := fun q m e => by
    have n : q ≠ p := fun z => by subst z; rw [w.oNone hp] at e; cases e
    have g := (w.own q m e).1
    have i : MoIs K G H q m := (w.own q m e).2
    refine ⟨by rw [upd_ne n]; exact g, i.mono (fun a u z => ?_) fun u z => by rw [upd_ne n]; exact z⟩
    rw [upd_ne (ne_of_none z (w.gNone hp))]
    exact z
theorem Stp.new {p : Addr} {o : HO} (w : Wd K G O H) (hp : H p = none) : Stp K G O H (upd G p o) O (upd H p o) where
  wd := w.new hp
  ex := fun a u z => by rw [upd_ne (ne_of_none z (w.gNone hp))]; exact z
  keep := fun a u z _ => by rw [upd_ne (ne_of_none z hp)]; exact z
  fresh := fun a u z n g => ⟨by rw [upd_ne (ne_of_none z hp)]; exact g, n⟩
/-- a new object that nobody reads or owns -/
theorem Stp.newF {p : Addr} {o : HO} (w : Wd K G O H) (hp : H p = none) : Stp K G O H G O (upd H p o) where
  wd := ⟨fun a u z => by rw [upd_ne (ne_of_none z (w.gNone hp))]; exact w.sub a u z, fun q m e => by
    have n : q ≠ p := fun z => by subst z; rw [w.oNone hp] at e; cases e
    have g := (w.own q m e).1
    have i : MoIs K G H q m := (w.own q m e).2
    exact ⟨g, i.mono (Sub.refl G) fun u z => by rw [upd_ne n]; exact z⟩⟩
  ex := Sub.refl G
  keep := fun a u z _ => by rw [upd_ne (ne_of_none z hp)]; exact z
  fresh := fun a u z n g => ⟨g, n⟩
def setO (O : Ow) (p : Addr) (m : MO) : Ow := fun a => if a = p then some m else O a
def delO (O : Ow) (p : Addr) : Ow := fun a => if a = p then none else O a
theorem setO_same {p : Addr} {m : MO} : setO O p m p = some m := by unfold setO; rw [if_pos rfl]
theorem setO_ne {p q : Addr} {m : MO} (h : q ≠ p) : setO O p m q = O q := by unfold setO; rw [if_neg h]
theorem setO_setO {p : Addr} {m n : MO} : setO (setO O p m) p n = setO O p n := by funext a; unfold setO; split <;> rfl
theorem delO_setO {p : Addr} {m : MO} (h : O p = none) : delO (setO O p m) p = O := by
  funext a; unfold delO setO
  split
  · rename_i z; rw [z, h]
  · rfl
theorem setO_comm {p q : Addr} {m n : MO} (h : p ≠ q) : setO (setO O p m) q n = setO (setO O q n) p m := by
  funext a; unfold setO
  by_cases h1 : a = q
  · subst h1; rw [if_pos rfl, if_neg (Ne.symm h), if_pos rfl]
  · rw [if_neg h1, if_neg h1]
theorem setO_id {p : Addr} {m : MO} (h : O p = some m) : setO O p m = O := by
  funext a; unfold setO; split
  · rename_i z; rw [z, h]
  · rfl
def OSub (O O' : Ow) : Prop := ∀ p m, O p = some m → O' p = some m
theorem OSub.refl (O : Ow) : OSub O O := fun _ _ h => h
theorem OSub.set {p : Addr} {m : MO} (s : OSub O O1) (h : O p = none) : OSub O (setO O1 p m) := fun q n e => by
  rw [setO_ne (fun z => by subst z; rw [h] at e; cases e)]; exact s q n e
theorem Wd.drop (w : Wd K G O1 H) (s : OSub O O1) : Wd K G O H := ⟨w.sub, fun p m e => w.own p m (s p m e)⟩
theorem Stp.drop (t : Stp K G O H G1 O2 H1) (s : OSub O1 O2) : Stp K G O H G1 O1 H1 where
  wd := t.wd.drop s
  ex := t.ex
  keep := t.keep
  fresh := fun a o h n g => ⟨(t.fresh a o h n g).1, by
    cases q : O1 a with
    | none => rfl
    | some m => have z := (t.fresh a o h n g).2; rw [s a m q] at z; cases z⟩
/-- a new owned object -/
theorem Stp.newO {p : Addr} {o : HO} {m : MO} (w : Wd K G O H) (hp : H p = none) (hm : MoIs K G (upd H p o) p m) : Stp K G O H G (setO O p m) (upd H p o) where
  wd := ⟨fun a u z => by rw [upd_ne (ne_of_none z (w.gNone hp))]; exact w.sub a u z, fun q n e => by
    by_cases z : q = p
    · subst z; rw [setO_same] at e; cases e; exact ⟨w.gNone hp, hm⟩
    · rw [setO_ne z] at e
      have g := (w.own q n e).1
      have i : MoIs K G H q n := (w.own q n e).2
      exact ⟨g, i.mono (Sub.refl G) fun u y => by rw [upd_ne z]; exact y⟩⟩
  ex := Sub.refl G
  keep := fun a u z _ => by rw [upd_ne (ne_of_none z hp)]; exact z
  fresh := fun a u z n g => ⟨g, by rw [setO_ne (ne_of_none z hp)]; exact n⟩
/-- an owned object is written -/
theorem Stp.write {p : Addr} {o : HO} {m m' : MO} (w : Wd K G O H) (hp : O p = some m) (hm : MoIs K G (upd H p o) p m') : Stp K G O H G (setO O p m') (upd H p o) where
  wd := ⟨fun a u z => by
      rw [upd_ne (fun y => by subst y; rw [(w.own _ _ hp).1] at z; cases z)]; exact w.sub a u z, fun q n e => by
    by_cases z : q = p
    · subst z; rw [setO_same] at e; cases e; exact ⟨(w.own _ _ hp).1, hm⟩
    · rw [setO_ne z] at e
      have g := (w.own q n e).1
      have i : MoIs K G H q n := (w.own q n e).2
      exact ⟨g, i.mono (Sub.refl G) fun u y => by rw [upd_ne z]; exact y⟩⟩
  ex := Sub.refl G
  keep := fun a u z n => by rw [upd_ne (fun y => by subst y; rw [hp] at n; cases n)]; exact z
  fresh := fun a u z n g => ⟨g, by rw [setO_ne (fun y => by subst y; rw [hp] at n; cases n)]; exact n⟩
/-- an owned list is read from now on -/
theorem Stp.pub {p : Addr} {ds : List D} {xs : List V} (w : Wd K G O H) (hp : O p = some (.lst ds)) (hx : H p = some (.lst xs)) : Stp K G O H (upd G p (.lst xs)) (delO O p) H where
  wd := ⟨fun a u z => by
      by_cases h : a = p
      · subst h; rw [upd_same] at z; rw [hx]; exact z
      · rw [upd_ne h] at z; exact w.sub a u z, fun q n e => by
    by_cases z : q = p
    · subst z; unfold delO at e; rw [if_pos rfl] at e; cases e
    · have e' : O q = some n := by unfold delO at e; rwa [if_neg z] at e
      have g := (w.own q n e').1
      have i : MoIs K G H q n := (w.own q n e').2
      exact ⟨by rw [upd_ne z]; exact g, i.mono (fun a u y => by rw [upd_ne (fun k => by subst k; rw [(w.own _ _ hp).1] at y; cases y)]; exact y) fun u y => y⟩⟩
  ex := fun a u y => by rw [upd_ne (fun k => by subst k; rw [(w.own _ _ hp).1] at y; cases y)]; exact y
  keep := fun a u z _ => z
  fresh := fun a u z n g => ⟨by rw [upd_ne (fun k => by subst k; rw [hp] at n; cases n)]; exact g, by unfold delO; split; rfl; exact n⟩
theorem Stp.pubI {p C : Addr} {nm : List Str} {ds : List D} {dx : Addr} {xs : List V} (w : Wd K G O H) (hp : O p = some (.ins C nm ds)) (hx : H p = some (.ins C dx (nm.zip xs))) : Stp K G O H (upd G p (.ins C dx (nm.zip xs))) (delO O p) H where
  wd := ⟨fun a u z => by
      by_cases h : a = p
      · subst h; rw [upd_same] at z; rw [hx]; exact z
      · rw [upd_ne h] at z; exact w.sub a u z, fun q n e => by
    by_cases z : q = p
    · subst z; unfold delO at e; rw [if_pos rfl] at e; cases e
    · have e' : O q = some n := by unfold delO at e; rwa [if_neg z] at e
      have g := (w.own q n e').1
      have i : MoIs K G H q n := (w.own q n e').2
      exact ⟨by rw [upd_ne z]; exact g, i.mono (fun a u y => by rw [upd_ne (fun k => by subst k; rw [(w.own _ _ hp).1] at y; cases y)]; exact y) fun u y => y⟩⟩
  ex := fun a u y => by rw [upd_ne (fun k => by subst k; rw [(w.own _ _ hp).1] at y; cases y)]; exact y
  keep := fun a u z _ => z
  fresh := fun a u z n g => ⟨by rw [upd_ne (fun k => by subst k; rw [hp] at n; cases n)]; exact g, by unfold delO; split; rfl; exact n⟩
end

/-- the slots -/
structure SlIs (K : PySem.W.Frag) (G : Hp) (δ : Sl) (σ : St) : Prop where
  len : σ.length = δ.length
  at_ : ∀ (i : Nat) (d : D), δ[i]? = some (some d) → ∃ v, σ[i]? = some (some v) ∧ Is K G d v
section
variable {K : PySem.W.Frag} {G G1 : Hp} {δ : Sl} {σ : St}
theorem SlIs.mono (e : Sub G G1) (s : SlIs K G δ σ) : SlIs K G1 δ σ := ⟨s.len, fun i d h => let ⟨v, a, b⟩ := s.at_ i d h; ⟨v, a, b.mono e⟩⟩
theorem SlIs.set {i : Nat} {d : D} {v : V} (s : SlIs K G δ σ) (h : Is K G d v) : SlIs K G (δ.set i (some d)) (σ.set i (some v)) where
  len := by simp [s.len]
  at_ := fun j e q => by
    by_cases z : i = j
    · subst z
      by_cases l : i < δ.length
      · rw [List.getElem?_set_self l] at q
        cases q
        exact ⟨v, by rw [List.getElem?_set_self (by rw [s.len]; exact l)], h⟩
      · rw [List.getElem?_eq_none (by simpa using l)] at q; cases q
    · rw [List.getElem?_set_ne z] at q ⊢
      exact s.at_ j e q
theorem SlIs.weak {δ' : Sl} (s : SlIs K G δ σ) (hl : δ'.length = δ.length) (h : ∀ (i : Nat) d, δ'[i]? = some (some d) → δ[i]? = some (some d)) : SlIs K G δ' σ := ⟨by rw [s.len, hl], fun i d e => s.at_ i d (h i d e)⟩
end
/-! ### the judgements over data -/
def Ev (K : PySem.W.Frag) (te : TE) (δ : Sl) (O : Ow) (d : D) (O' : Ow) : Prop :=
  ∀ G H σ, Wd K G O H → SlIs K G δ σ → ∀ Q : VK, (∀ v G' H', Stp K G O H G' O' H' → Is K G' d v → Q v H') → te σ H Q
def EvT (K : PySem.W.Frag) (tt : TT) (δ : Sl) (O : Ow) (b : Bool) (O' : Ow) : Prop :=
  ∀ G H σ, Wd K G O H → SlIs K G δ σ → ∀ Q : Bool → Hp → Prop, (∀ G' H', Stp K G O H G' O' H' → Q b H') → tt σ H Q
def EvA (K : PySem.W.Frag) (ta : TA) (δ : Sl) (O : Ow) (ds : List D) (O' : Ow) : Prop :=
  ∀ G H σ, Wd K G O H → SlIs K G δ σ → ∀ Q : List V → Hp → Prop, (∀ vs G' H', Stp K G O H G' O' H' → IsL K G' ds vs → Q vs H') → ta σ H Q
/-- an operation on data -/
def R2D (K : PySem.W.Frag) (r : R2) (x y : D) (O : Ow) (z : D) : Prop :=
  ∀ G H v w, Wd K G O H → Is K G x v → Is K G y w → ∀ Q : VK, (∀ u G' H', Stp K G O H G' O H' → Is K G' z u → Q u H') → r v w H Q
def RCD (K : PySem.W.Frag) (r : List V → Hp → VK → Prop) (xs : List D) (O : Ow) (z : D) : Prop :=
  ∀ G H vs, Wd K G O H → IsL K G xs vs → ∀ Q : VK, (∀ u G' H', Stp K G O H G' O H' → Is K G' z u → Q u H') → r vs H Q
/-- where a block of statements may end -/
structure DE where
  nx : Sl → Ow → Prop
  rt : D → Ow → Prop
  bk : Sl → Ow → Prop := fun _ _ => False
  ct : Sl → Ow → Prop := fun _ _ => False
structure Real (K : PySem.W.Frag) (P : DE) (D : Ends) (G : Hp) (O : Ow) (H : Hp) : Prop where
  nx : ∀ δ' O' G' H' σ', P.nx δ' O' → Stp K G O H G' O' H' → SlIs K G' δ' σ' → D.nx σ' H'
  rt : ∀ d O' G' H' v, P.rt d O' → Stp K G O H G' O' H' → Is K G' d v → D.rt v H'
  bk : ∀ δ' O' G' H' σ', P.bk δ' O' → Stp K G O H G' O' H' → SlIs K G' δ' σ' → D.bk σ' H'
  ct : ∀ δ' O' G' H' σ', P.ct δ' O' → Stp K G O H G' O' H' → SlIs K G' δ' σ' → D.ct σ' H'
def Sd (K : PySem.W.Frag) (ts : TS) (P : DE) (δ : Sl) (O : Ow) : Prop :=
  ∀ G H σ (D : Ends), Wd K G O H → SlIs K G δ σ → Real K P D G O H → ts D σ H
/-- what an assignment's target does -/
def Gd (K : PySem.W.Frag) (g : TG) (d : D) (δ : Sl) (O : Ow) (N : Sl → Ow → Prop) : Prop :=
  ∀ G H σ v, Wd K G O H → SlIs K G δ σ → Is K G d v → ∀ Q : St → Hp → Prop, (∀ δ' O' G' H' σ', N δ' O' → Stp K G O H G' O' H' → SlIs K G' δ' σ' → Q σ' H') → g v σ H Q
/-- what is walked -/
def ItOk (K : PySem.W.Frag) (J : It) (G : Hp) (items : List D) : Prop :=
  ∀ G' O' H', Sub G G' → Wd K G' O' H' → ∀ i : Nat, (∀ d, items[i]? = some d → J.go i H' ∧ ∀ x H'', J.yld i H' x H'' → ∃ G'', Stp K G' O' H' G'' O' H'' ∧ Is K G'' d x) ∧ (items[i]? = none → J.stop i H')
def EvI (K : PySem.W.Frag) (wi : TI) (δ : Sl) (O : Ow) (items : List D) (O' : Ow) : Prop :=
  ∀ G H σ, Wd K G O H → SlIs K G δ σ → ∀ R : It → Hp → Prop, (∀ J G' H', Stp K G O H G' O' H' → ItOk K J G' items → R J H') → wi σ H R
/-- a def's promise over data: R arguments owned what-is-wanted -/
abbrev DR := List D → Ow → (D → Ow → Prop) → Prop
def SpD (K : PySem.W.Frag) (R : DR) : Sp := fun vs H Q _ => ∃ G O ds Post, Wd K G O H ∧ IsL K G ds vs ∧ R ds O Post ∧ ∀ d O' v G' H', Post d O' → Stp K G O H G' O' H' → Is K G' d v → Q v H'
section
variable {K : PySem.W.Frag} {P : DE} {D : Ends} {G G1 H H1 : Hp} {O O1 : Ow}
theorem Real.step (r : Real K P D G O H) (s : Stp K G O H G1 O1 H1) : Real K P D G1 O1 H1 :=
  ⟨fun δ' O' G' H' σ' p t l => r.nx δ' O' G' H' σ' p (s.trans t) l, fun d O' G' H' v p t l => r.rt d O' G' H' v p (s.trans t) l, fun δ' O' G' H' σ' p t l => r.bk δ' O' G' H' σ' p (s.trans t) l, fun δ' O' G' H' σ' p t l => r.ct δ' O' G' H' σ' p (s.trans t) l⟩
end
end DL

set_option Elab.async false
set_option linter.all false
set_option maxRecDepth 100000
namespace DL
open PySem L2
def EvP (K : PySem.W.Frag) (te : TE) (δ : Sl) (O : Ow) (P : D → Ow → Prop) : Prop :=
  ∀ G H σ, Wd K G O H → SlIs K G δ σ → ∀ Q : VK, (∀ d O' v G' H', P d O' → Stp K G O H G' O' H' → Is K G' d v → Q v H') → te σ H Q
section
variable {K : PySem.W.Frag} {δ : Sl} {O O1 O2 O3 : Ow} {d x y z : D} {ta tb tc te : TE} {t u : TT} {r r' : R2} {i j : Int} {p : Addr} {ds es : List D} {b : Bool}
theorem Ev.toP {P : D → Ow → Prop} (h : Ev K te δ O d O1) (hp : P d O1) : EvP K te δ O P := fun G H σ w s Q k => h G H σ w s Q fun v G' H' st i => k d O1 v G' H' hp st i
theorem EvP.ev (h : EvP K te δ O fun d' O' => d' = d ∧ O' = O1) : Ev K te δ O d O1 := fun G H σ w s Q k => h G H σ w s Q fun d' O' v G' H' hp st i => by
  obtain ⟨rfl, rfl⟩ := hp; exact k v G' H' st i
theorem Ev.is (h : Ev K te δ O d O1) (e : d = x) : Ev K te δ O x O1 := by subst e; exact h
theorem Ev.at (h : Ev K te δ O d O1) (e : O1 = O2) : Ev K te δ O d O2 := by subst e; exact h
theorem EvT.is {b' : Bool} (h : EvT K t δ O b O1) (e : b = b') : EvT K t δ O b' O1 := by subst e; exact h
/-! ### names, constants -/
theorem ev_var {i : Nat} (h : δ[i]? = some (some d)) : Ev K (tVar i) δ O d O := fun G H σ w s Q k => by
  obtain ⟨v, a, b⟩ := s.at_ i d h
  exact ⟨v, a, k v G H (Stp.refl w) b⟩
theorem ev_int : Ev K (tC (.int i)) δ O (.int i) O := fun G H σ w s Q k => k _ G H (Stp.refl w) rfl
theorem ev_bl : Ev K (tC (.bl b)) δ O (.bl b) O := fun G H σ w s Q k => k _ G H (Stp.refl w) rfl
theorem ev_non : Ev K (tC .non) δ O .non O := fun G H σ w s Q k => k _ G H (Stp.refl w) rfl
theorem ev_str {x : Str} : Ev K (tC (.str x)) δ O (.str x) O := fun G H σ w s Q k => k _ G H (Stp.refl w) rfl
theorem ev_ty {n : String} : Ev K (tC (.ty n)) δ O (.ty n) O := fun G H σ w s Q k => k _ G H (Stp.refl w) rfl
theorem ev_ref : Ev K (tC (.ref p)) δ O (.ref p) O := fun G H σ w s Q k => k _ G H (Stp.refl w) rfl
/-! ### operators -/
theorem ev_op (ha : Ev K ta δ O x O1) (hb : Ev K tb δ O1 y O2) (hr : R2D K r x y O2 z) : Ev K (tOp r ta tb) δ O z O2 := fun G H σ w s Q k =>
  ha G H σ w s _ fun v G1 H1 s1 i1 => hb G1 H1 σ s1.wd (s.mono s1.ex) _ fun u G2 H2 s2 i2 => hr G2 H2 v u s2.wd (i1.mono s2.ex) i2 _ fun q G3 H3 s3 i3 => k q G3 H3 ((s1.trans s2).trans s3) i3
theorem ev_un {r : V → Hp → VK → Prop} {f : Int → Int} (ha : Ev K ta δ O (.int i) O1) : Ev K (tUn (rU fun i => .int (f i)) ta) δ O (.int (f i)) O1 := fun G H σ w s Q k =>
  ha G H σ w s _ fun v G1 H1 s1 i1 => ⟨i, i1, k _ G1 H1 s1 rfl⟩
theorem r_int {f : Int → Int → Int} : R2D K (rI0 fun i j => .int (f i j)) (.int i) (.int j) O (.int (f i j)) := fun G H v u w a b Q k => ⟨i, j, a, b, k _ G H (Stp.refl w) rfl⟩
theorem r_bl {f : Int → Int → Bool} : R2D K (rI0 fun i j => .bl (f i j)) (.int i) (.int j) O (.bl (f i j)) := fun G H v u w a b Q k => ⟨i, j, a, b, k _ G H (Stp.refl w) rfl⟩
theorem r_intC {C : Int → Int → Prop} {f : Int → Int → Int} (hc : C i j) : R2D K (rI C fun i j => .int (f i j)) (.int i) (.int j) O (.int (f i j)) := fun G H v u w a b Q k => ⟨i, j, a, b, hc, k _ G H (Stp.refl w) rfl⟩
theorem r_eqI : R2D K rEq (.int i) (.int j) O (.bl (i == j)) := fun G H v u w a b Q k => by
  cases a; cases b
  refine ⟨rfl, ?_⟩
  rw [dec_int]
  exact k _ G H (Stp.refl w) rfl
theorem r_neI : R2D K rNe (.int i) (.int j) O (.bl (!(i == j))) := fun G H v u w a b Q k => by
  cases a; cases b
  refine ⟨rfl, ?_⟩
  rw [dec_int]
  exact k _ G H (Stp.refl w) rfl
theorem r_eqB {a b : Bool} : R2D K rEq (.bl a) (.bl b) O (.bl (a == b)) := fun G H v u w h1 h2 Q k => by
  cases h1; cases h2
  refine ⟨rfl, ?_⟩
  rw [dec_bl]
  exact k _ G H (Stp.refl w) rfl
theorem r_neB {a b : Bool} : R2D K rNe (.bl a) (.bl b) O (.bl (!(a == b))) := fun G H v u w h1 h2 Q k => by
  cases h1; cases h2
  refine ⟨rfl, ?_⟩
  rw [dec_bl]
  exact k _ G H (Stp.refl w) rfl
theorem r_eqS {a b : Str} : R2D K rEq (.str a) (.str b) O (.bl (a == b)) := fun G H v u w h1 h2 Q k => by
  cases h1; cases h2
  refine ⟨rfl, ?_⟩
  rw [dec_str]
  exact k _ G H (Stp.refl w) rfl
theorem r_neS {a b : Str} : R2D K rNe (.str a) (.str b) O (.bl (!(a == b))) := fun G H v u w h1 h2 Q k => by
  cases h1; cases h2
  refine ⟨rfl, ?_⟩
  rw [dec_str]
  exact k _ G H (Stp.refl w) rfl
theorem r_isN (f : Bool) (h : (match x with | .non => some true | .sem _ => none | _ => some false) = some f) : R2D K (fun x y H Q => y = .non ∧ Q (.bl (decide (x = .non))) H) x .non O (.bl f) := fun G H v u w a b Q k => by
  refine ⟨b, ?_⟩
  have e : decide (v = V.non) = f := by
    cases x with
    | sem _ => cases h
    | non => cases h; cases a; rfl
    | lst _ => cases h; obtain ⟨_, _, rfl, _⟩ := a; rfl
    | tup _ => cases h; obtain ⟨_, _, rfl, _⟩ := a; rfl
    | ins _ _ _ => cases h; obtain ⟨_, _, _, rfl, _⟩ := a; rfl
    | scr _ => cases h; obtain ⟨_, rfl, _⟩ := a; rfl
    | _ => cases h; cases a; rfl
  rw [e]
  exact k _ G H (Stp.refl w) rfl
theorem r_notN (f : Bool) (h : (match x with | .non => some true | .sem _ => none | _ => some false) = some f) : R2D K (fun x y H Q => y = .non ∧ Q (.bl (!decide (x = .non))) H) x .non O (.bl (!f)) := fun G H v u w a b Q k => by
  refine ⟨b, ?_⟩
  have e : decide (v = V.non) = f := by
    cases x with
    | sem _ => cases h
    | non => cases h; cases a; rfl
    | lst _ => cases h; obtain ⟨_, _, rfl, _⟩ := a; rfl
    | tup _ => cases h; obtain ⟨_, _, rfl, _⟩ := a; rfl
    | ins _ _ _ => cases h; obtain ⟨_, _, _, rfl, _⟩ := a; rfl
    | scr _ => cases h; obtain ⟨_, rfl, _⟩ := a; rfl
    | _ => cases h; cases a; rfl
  rw [e]
  exact k _ G H (Stp.refl w) rfl
/-! ### tests -/
theorem et_test (h : Ev K te δ O (.bl b) O1) : EvT K (tTest te) δ O b O1 := fun G H σ w s Q k => h G H σ w s _ fun v G1 H1 s1 i1 => ⟨b, i1, k G1 H1 s1⟩
theorem et_B (h : Ev K te δ O (.bl b) O1) : EvT K (tB te) δ O b O1 := fun G H σ w s Q k => h G H σ w s _ fun v G1 H1 s1 i1 => ⟨b, i1, k G1 H1 s1⟩
theorem et_not (h : EvT K t δ O b O1) : EvT K (tNot t) δ O (!b) O1 := fun G H σ w s Q k => h G H σ w s _ fun G1 H1 s1 => k G1 H1 s1
theorem et_and {a b : Bool} (h : EvT K t δ O a O1) (h2 : a = true → EvT K u δ O1 b O1) : EvT K (tAnd t u) δ O (a && b) O1 := fun G H σ w s Q k => h G H σ w s _ fun G1 H1 s1 => by
  cases a with
  | false => exact iteF (k G1 H1 s1)
  | true => exact iteT (h2 rfl G1 H1 σ s1.wd (s.mono s1.ex) _ fun G2 H2 s2 => k G2 H2 (s1.trans s2))
theorem et_or {a b : Bool} (h : EvT K t δ O a O1) (h2 : a = false → EvT K u δ O1 b O1) : EvT K (tOr t u) δ O (a || b) O1 := fun G H σ w s Q k => h G H σ w s _ fun G1 H1 s1 => by
  cases a with
  | true => exact iteT (k G1 H1 s1)
  | false => exact iteF (h2 rfl G1 H1 σ s1.wd (s.mono s1.ex) _ fun G2 H2 s2 => k G2 H2 (s1.trans s2))
theorem et_orT (h : EvT K t δ O true O1) : EvT K (tOr t u) δ O true O1 := fun G H σ w s Q k => h G H σ w s _ fun G1 H1 s1 => iteT (k G1 H1 s1)
theorem et_orF {b : Bool} (h : EvT K t δ O false O1) (h2 : EvT K u δ O1 b O2) : EvT K (tOr t u) δ O b O2 := fun G H σ w s Q k => h G H σ w s _ fun G1 H1 s1 => iteF (h2 G1 H1 σ s1.wd (s.mono s1.ex) _ fun G2 H2 s2 => k G2 H2 (s1.trans s2))
theorem et_andF (h : EvT K t δ O false O1) : EvT K (tAnd t u) δ O false O1 := fun G H σ w s Q k => h G H σ w s _ fun G1 H1 s1 => iteF (k G1 H1 s1)
theorem et_andT {b : Bool} (h : EvT K t δ O true O1) (h2 : EvT K u δ O1 b O2) : EvT K (tAnd t u) δ O b O2 := fun G H σ w s Q k => h G H σ w s _ fun G1 H1 s1 => iteT (h2 G1 H1 σ s1.wd (s.mono s1.ex) _ fun G2 H2 s2 => k G2 H2 (s1.trans s2))
theorem ev_andV {a b : Bool} (h : Ev K ta δ O (.bl a) O1) (h2 : a = true → Ev K tb δ O1 (.bl b) O1) : Ev K (tAndV ta tb) δ O (.bl (a && b)) O1 := fun G H σ w s Q k => h G H σ w s _ fun v G1 H1 s1 i1 => ⟨a, i1, by
  cases a with
  | false => exact iteF (k _ G1 H1 s1 rfl)
  | true => exact iteT (h2 rfl G1 H1 σ s1.wd (s.mono s1.ex) _ fun v G2 H2 s2 i2 => k v G2 H2 (s1.trans s2) i2)⟩
theorem ev_andVF (h : Ev K ta δ O (.bl false) O1) : Ev K (tAndV ta tb) δ O (.bl false) O1 := fun G H σ w s Q k => h G H σ w s _ fun v G1 H1 s1 i1 => ⟨false, i1, iteF (k _ G1 H1 s1 rfl)⟩
theorem ev_andVT (h : Ev K ta δ O (.bl true) O1) (h2 : Ev K tb δ O1 d O2) : Ev K (tAndV ta tb) δ O d O2 := fun G H σ w s Q k => h G H σ w s _ fun v G1 H1 s1 i1 => ⟨true, i1, iteT (h2 G1 H1 σ s1.wd (s.mono s1.ex) _ fun v G2 H2 s2 i2 => k v G2 H2 (s1.trans s2) i2)⟩
theorem ev_orVT (h : Ev K ta δ O (.bl true) O1) : Ev K (tOrV ta tb) δ O (.bl true) O1 := fun G H σ w s Q k => h G H σ w s _ fun v G1 H1 s1 i1 => ⟨true, i1, iteT (k _ G1 H1 s1 rfl)⟩
theorem ev_orVF (h : Ev K ta δ O (.bl false) O1) (h2 : Ev K tb δ O1 d O2) : Ev K (tOrV ta tb) δ O d O2 := fun G H σ w s Q k => h G H σ w s _ fun v G1 H1 s1 i1 => ⟨false, i1, iteF (h2 G1 H1 σ s1.wd (s.mono s1.ex) _ fun v G2 H2 s2 i2 => k v G2 H2 (s1.trans s2) i2)⟩
theorem ev_orV {a b : Bool} (h : Ev K ta δ O (.bl a) O1) (h2 : a = false → Ev K tb δ O1 (.bl b) O1) : Ev K (tOrV ta tb) δ O (.bl (a || b)) O1 := fun G H σ w s Q k => h G H σ w s _ fun v G1 H1 s1 i1 => ⟨a, i1, by
  cases a with
  | true => exact iteT (k _ G1 H1 s1 rfl)
  | false => exact iteF (h2 rfl G1 H1 σ s1.wd (s.mono s1.ex) _ fun v G2 H2 s2 i2 => k v G2 H2 (s1.trans s2) i2)⟩
theorem ev_notV (h : Ev K te δ O (.bl b) O1) : Ev K (tNotV te) δ O (.bl (!b)) O1 := fun G H σ w s Q k => h G H σ w s _ fun v G1 H1 s1 i1 => ⟨b, i1, k _ G1 H1 s1 rfl⟩
theorem ev_if (h : EvT K t δ O b O1) (h1 : b = true → Ev K ta δ O1 d O2) (h2 : b = false → Ev K tb δ O1 d O2) : Ev K (tIf t ta tb) δ O d O2 := fun G H σ w s Q k => h G H σ w s _ fun G1 H1 s1 => by
  cases b with
  | true => exact iteT (h1 rfl G1 H1 σ s1.wd (s.mono s1.ex) _ fun v G2 H2 s2 i2 => k v G2 H2 (s1.trans s2) i2)
  | false => exact iteF (h2 rfl G1 H1 σ s1.wd (s.mono s1.ex) _ fun v G2 H2 s2 i2 => k v G2 H2 (s1.trans s2) i2)
theorem evp_if {P : D → Ow → Prop} (h : EvT K t δ O b O1) (h1 : b = true → EvP K ta δ O1 P) (h2 : b = false → EvP K tb δ O1 P) : EvP K (tIf t ta tb) δ O P := fun G H σ w s Q k => h G H σ w s _ fun G1 H1 s1 => by
  cases b with
  | true => exact iteT (h1 rfl G1 H1 σ s1.wd (s.mono s1.ex) _ fun d O' v G2 H2 hp s2 i2 => k d O' v G2 H2 hp (s1.trans s2) i2)
  | false => exact iteF (h2 rfl G1 H1 σ s1.wd (s.mono s1.ex) _ fun d O' v G2 H2 hp s2 i2 => k d O' v G2 H2 hp (s1.trans s2) i2)
/-- a op b op c -/
theorem ev_chain {k1 k2 : Bool} (ha : Ev K ta δ O x O1) (hb : Ev K tb δ O1 y O2) (hr : R2D K r x y O2 (.bl k1)) (hc : k1 = true → Ev K tc δ O2 z O2) (hr' : k1 = true → R2D K r' y z O2 (.bl k2)) : Ev K (tChain r r' ta tb tc) δ O (.bl (k1 && k2)) O2 := fun G H σ w s Q k =>
  ha G H σ w s _ fun v G1 H1 s1 i1 => hb G1 H1 σ s1.wd (s.mono s1.ex) _ fun u G2 H2 s2 i2 => hr G2 H2 v u s2.wd (i1.mono s2.ex) i2 _ fun q G3 H3 s3 i3 => ⟨k1, i3, by
    cases k1 with
    | false => exact iteF (k _ G3 H3 ((s1.trans s2).trans s3) rfl)
    | true =>
      exact iteT (hc rfl G3 H3 σ s3.wd (s.mono ((s1.ex.trans s2.ex).trans s3.ex)) _ fun v4 G4 H4 s4 i4 => hr' rfl G4 H4 u v4 s4.wd (i2.mono (s3.ex.trans s4.ex)) i4 _ fun v5 G5 H5 s5 i5 => k v5 G5 H5 (((s1.trans s2).trans s3).trans (s4.trans s5)) i5)⟩
/-! ### arguments, tuples, lists -/
theorem ea_nil : EvA K tNil δ O [] O := fun G H σ w s Q k => k [] G H (Stp.refl w) rfl
theorem ea_cons {t : TA} (ha : Ev K ta δ O d O1) (ht : EvA K t δ O1 ds O2) : EvA K (tCons ta t) δ O (d :: ds) O2 := fun G H σ w s Q k =>
  ha G H σ w s _ fun v G1 H1 s1 i1 => ht G1 H1 σ s1.wd (s.mono s1.ex) _ fun vs G2 H2 s2 i2 => k (v :: vs) G2 H2 (s1.trans s2) ⟨v, vs, rfl, i1.mono s2.ex, i2⟩
theorem sz {n : Nat} (h : n ≤ 100000) : n ≤ sizeLine := Evl.sz_of h
theorem ev_tup {t : TA} (h : EvA K t δ O ds O1) (hl : ds.length ≤ 100000) : Ev K (tTup t) δ O (.tup ds) O1 := fun G H σ w s Q k =>
  h G H σ w s _ fun vs G1 H1 s1 i1 => ⟨by rw [← i1.length]; exact sz hl, fun p hp => k _ _ _ (s1.trans (Stp.new s1.wd hp)) ⟨p, vs, rfl, upd_same, i1.mono (Stp.new s1.wd hp (o := .tup vs)).ex⟩⟩
theorem ev_lst {t : TA} (h : EvA K t δ O ds O1) (hl : ds.length ≤ 100000) : Ev K (tLst t) δ O (.lst ds) O1 := fun G H σ w s Q k =>
  h G H σ w s _ fun vs G1 H1 s1 i1 => ⟨by rw [← i1.length]; exact sz hl, fun p hp => k _ _ _ (s1.trans (Stp.new s1.wd hp)) ⟨p, vs, rfl, upd_same, i1.mono (Stp.new s1.wd hp (o := .lst vs)).ex⟩⟩
/-- a display that is owned from now on -/
theorem evp_lst {t : TA} {P : D → Ow → Prop} (h : EvA K t δ O ds O1) (hl : ds.length ≤ 100000) (hp : ∀ p, O1 p = none → P (.ref p) (setO O1 p (.lst ds))) : EvP K (tLst t) δ O P := fun G H σ w s Q k =>
  h G H σ w s _ fun vs G1 H1 s1 i1 => ⟨by rw [← i1.length]; exact sz hl, fun p hn => k _ _ _ _ _ (hp p (s1.wd.oNone hn)) (s1.trans (Stp.newO s1.wd hn ⟨vs, upd_same, i1⟩)) rfl⟩
/-! ### subscripts -/
theorem atI_is {K : PySem.W.Frag} {G : Hp} {ds : List D} {vs : List V} {i : Int} {d : D} (h : IsL K G ds vs) (e : atI ds i = some d) : ∃ v, atI vs i = some v ∧ Is K G d v := by
  unfold atI at e ⊢
  rw [← h.length]
  cases q : ixN ds.length i with
  | none => rw [q] at e; cases e
  | some j =>
    rw [q] at e
    obtain ⟨v, a, b⟩ := h.get (show ds[j]? = some d from e)
    exact ⟨v, a, b⟩
theorem r_ixL (h : atI ds i = some d) : R2D K (rIxL K) (.lst ds) (.int i) O d := fun G H v u w a b Q k => by
  obtain ⟨p, xs, rfl, e, t⟩ := a
  obtain ⟨q, e1, e2⟩ := atI_is t h
  exact ⟨p, xs, i, q, rfl, b, .inl (.inl (w.sub _ _ e)), e1, k q G H (Stp.refl w) e2⟩
theorem r_ixO (ho : O p = some (.lst ds)) (h : atI ds i = some d) : R2D K (rIxL K) (.ref p) (.int i) O d := fun G H v u w a b Q k => by
  obtain ⟨_, xs, e, t⟩ := w.own p _ ho
  obtain ⟨q, e1, e2⟩ := atI_is t h
  exact ⟨p, xs, i, q, a, b, .inl (.inl e), e1, k q G H (Stp.refl w) e2⟩
theorem r_ixS {ns : List Int} {n : Int} (h : atI ns i = some n) : R2D K (rIxL K) (.scr ns) (.int i) O (.int n) := fun G H v u w a b Q k => by
  obtain ⟨p, rfl, e⟩ := a
  have e1 : atI (ns.map V.int) i = some (.int n) := by
    unfold atI at h ⊢
    rw [List.length_map]
    cases q : ixN ns.length i with
    | none => rw [q] at h; cases h
    | some j =>
      rw [q] at h
      have h : ns[j]? = some n := h
      show (ns.map V.int)[j]? = _
      rw [List.getElem?_map, h]; rfl
  exact ⟨p, _, i, _, rfl, b, Evl.ex_l w.sub e, e1, k _ G H (Stp.refl w) rfl⟩
theorem r_ixT (h : atI ds i = some d) : R2D K (rIxT K) (.tup ds) (.int i) O d := fun G H v u w a b Q k => by
  obtain ⟨p, xs, rfl, e, t⟩ := a
  obtain ⟨q, e1, e2⟩ := atI_is t h
  exact ⟨p, xs, i, q, rfl, b, .inl (.inl (w.sub _ _ e)), e1, k q G H (Stp.refl w) e2⟩
/-! ### calls of built-ins -/
theorem ev_cb {r : List V → Hp → VK → Prop} {t : TA} (h : EvA K t δ O ds O1) (hr : RCD K r ds O1 d) : Ev K (tCB r t) δ O d O1 := fun G H σ w s Q k =>
  h G H σ w s _ fun vs G1 H1 s1 i1 => hr G1 H1 vs s1.wd i1 _ fun v G2 H2 s2 i2 => k v G2 H2 (s1.trans s2) i2
theorem isL1 {G : Hp} {d : D} {vs : List V} (h : IsL K G [d] vs) : ∃ v, vs = [v] ∧ Is K G d v := by
  obtain ⟨v, r, rfl, a, b⟩ := h; cases b; exact ⟨v, rfl, a⟩
theorem isL2 {G : Hp} {d e : D} {vs : List V} (h : IsL K G [d, e] vs) : ∃ v w, vs = [v, w] ∧ Is K G d v ∧ Is K G e w := by
  obtain ⟨v, r, rfl, a, w, q, rfl, b, c⟩ := h; cases c; exact ⟨v, w, rfl, a, b⟩
theorem c_lenL : RCD K (fun xs H Q => ∃ p ys, xs = [.ref p] ∧ (SqL K H p ys ∨ SqT K H p ys) ∧ Q (.int ys.length) H) [.lst ds] O (.int (ds.length : Int)) := fun G H vs w a Q k => by
  obtain ⟨v, rfl, p, xs, rfl, e, t⟩ := isL1 a
  refine ⟨p, xs, rfl, .inl (.inl (.inl (w.sub _ _ e))), ?_⟩
  rw [← t.length]; exact k _ G H (Stp.refl w) rfl
theorem c_lenT : RCD K (fun xs H Q => ∃ p ys, xs = [.ref p] ∧ (SqL K H p ys ∨ SqT K H p ys) ∧ Q (.int ys.length) H) [.tup ds] O (.int (ds.length : Int)) := fun G H vs w a Q k => by
  obtain ⟨v, rfl, p, xs, rfl, e, t⟩ := isL1 a
  refine ⟨p, xs, rfl, .inr (.inl (.inl (w.sub _ _ e))), ?_⟩
  rw [← t.length]; exact k _ G H (Stp.refl w) rfl
theorem c_lenO (ho : O p = some (.lst ds)) : RCD K (fun xs H Q => ∃ p ys, xs = [.ref p] ∧ (SqL K H p ys ∨ SqT K H p ys) ∧ Q (.int ys.length) H) [.ref p] O (.int (ds.length : Int)) := fun G H vs w a Q k => by
  obtain ⟨v, rfl, av⟩ := isL1 a
  obtain ⟨_, xs, e, t⟩ := w.own p _ ho
  refine ⟨p, xs, by rw [show v = _ from av], .inl (.inl (.inl e)), ?_⟩
  rw [← t.length]; exact k _ G H (Stp.refl w) rfl
theorem c_lenS {ns : List Int} : RCD K (fun xs H Q => ∃ p ys, xs = [.ref p] ∧ (SqL K H p ys ∨ SqT K H p ys) ∧ Q (.int ys.length) H) [.scr ns] O (.int (ns.length : Int)) := fun G H vs w a Q k => by
  obtain ⟨v, rfl, p, rfl, e⟩ := isL1 a
  refine ⟨p, _, rfl, .inl (Evl.ex_l w.sub e), ?_⟩
  rw [List.length_map]; exact k _ G H (Stp.refl w) rfl
theorem c_listL : RCD K (fun xs H Q => ∃ p ys, xs = [.ref p] ∧ (SqL K H p ys ∨ SqT K H p ys) ∧ ∀ l, H l = none → Q (.ref l) (upd H l (.lst ys))) [.lst ds] O (.lst ds) := fun G H vs w a Q k => by
  obtain ⟨v, rfl, p, xs, rfl, e, t⟩ := isL1 a
  exact ⟨p, xs, rfl, .inl (.inl (.inl (w.sub _ _ e))), fun l hl => k _ _ _ (Stp.new w hl) ⟨l, xs, rfl, upd_same, t.mono (Stp.new w hl (o := .lst xs)).ex⟩⟩
theorem c_listT : RCD K (fun xs H Q => ∃ p ys, xs = [.ref p] ∧ (SqL K H p ys ∨ SqT K H p ys) ∧ ∀ l, H l = none → Q (.ref l) (upd H l (.lst ys))) [.tup ds] O (.lst ds) := fun G H vs w a Q k => by
  obtain ⟨v, rfl, p, xs, rfl, e, t⟩ := isL1 a
  exact ⟨p, xs, rfl, .inr (.inl (.inl (w.sub _ _ e))), fun l hl => k _ _ _ (Stp.new w hl) ⟨l, xs, rfl, upd_same, t.mono (Stp.new w hl (o := .lst xs)).ex⟩⟩
theorem c_tupL : RCD K (fun xs H Q => ∃ p ys, xs = [.ref p] ∧ ((SqL K H p ys ∧ ∀ l, H l = none → Q (.ref l) (upd H l (.tup ys))) ∨ (SqT K H p ys ∧ Q (.ref p) H))) [.lst ds] O (.tup ds) := fun G H vs w a Q k => by
  obtain ⟨v, rfl, p, xs, rfl, e, t⟩ := isL1 a
  exact ⟨p, xs, rfl, .inl ⟨.inl (.inl (w.sub _ _ e)), fun l hl => k _ _ _ (Stp.new w hl) ⟨l, xs, rfl, upd_same, t.mono (Stp.new w hl (o := .tup xs)).ex⟩⟩⟩
theorem c_tupO (ho : O p = some (.lst ds)) : RCD K (fun xs H Q => ∃ p ys, xs = [.ref p] ∧ ((SqL K H p ys ∧ ∀ l, H l = none → Q (.ref l) (upd H l (.tup ys))) ∨ (SqT K H p ys ∧ Q (.ref p) H))) [.ref p] O (.tup ds) := fun G H vs w a Q k => by
  obtain ⟨v, rfl, av⟩ := isL1 a
  obtain ⟨_, xs, e, t⟩ := w.own p _ ho
  exact ⟨p, xs, by rw [show v = _ from av], .inl ⟨.inl (.inl e), fun l hl => k _ _ _ (Stp.new w hl) ⟨l, xs, rfl, upd_same, t.mono (Stp.new w hl (o := .tup xs)).ex⟩⟩⟩
theorem c_sum {ns : List Int} : RCD K (rSum K) [.lst (ns.map .int)] O (.int ns.sum) := fun G H vs w a Q k => by
  obtain ⟨v, rfl, p, xs, rfl, e, t⟩ := isL1 a
  rw [t.intsV] at e
  exact ⟨p, ns, rfl, .inl (.inl (w.sub _ _ e)), k _ G H (Stp.refl w) rfl⟩
theorem c_sumO {ns : List Int} (ho : O p = some (.lst (ns.map .int))) : RCD K (rSum K) [.ref p] O (.int ns.sum) := fun G H vs w a Q k => by
  obtain ⟨v, rfl, av⟩ := isL1 a
  obtain ⟨_, xs, e, t⟩ := w.own p _ ho
  rw [t.intsV] at e
  exact ⟨p, ns, by rw [show v = _ from av], .inl (.inl e), k _ G H (Stp.refl w) rfl⟩
theorem c_int1 : RCD K (fun xs H Q => (∃ i, xs = [.int i] ∧ Q (.int i) H) ∨ ∃ k, xs = [.bl k] ∧ Q (.int (if k then 1 else 0)) H) [.int i] O (.int i) := fun G H vs w a Q k => by
  obtain ⟨v, rfl, av⟩ := isL1 a
  exact .inl ⟨i, by rw [show v = _ from av], k _ G H (Stp.refl w) rfl⟩
theorem c_intB : RCD K (fun xs H Q => (∃ i, xs = [.int i] ∧ Q (.int i) H) ∨ ∃ k, xs = [.bl k] ∧ Q (.int (if k then 1 else 0)) H) [.bl b] O (.int (if b then 1 else 0)) := fun G H vs w a Q k => by
  obtain ⟨v, rfl, av⟩ := isL1 a
  exact .inr ⟨b, by rw [show v = _ from av], k _ G H (Stp.refl w) rfl⟩
/-! ### in -/
def flatD : D → Bool
  | .non => true | .bl _ => true | .int _ => true | .str _ => true
  | _ => false
def vOf : D → V
  | .non => .non | .bl b => .bl b | .int i => .int i | .str x => .str x
  | _ => .non
theorem flat_is {G : Hp} {d : D} {v : V} (h : Is K G d v) (f : flatD d = true) : v = vOf d ∧ flatV v = true := by
  cases d <;> first | (cases h; exact ⟨rfl, rfl⟩) | cases f
theorem flat_isL {G : Hp} : ∀ {ds : List D} {vs : List V}, IsL K G ds vs → ds.all flatD = true → vs = ds.map vOf ∧ vs.all flatV = true
  | [], _, h, _ => by cases h; exact ⟨rfl, rfl⟩
  | d :: ds, _, ⟨v, r, rfl, a, b⟩, f => by
    simp only [List.all_cons, Bool.and_eq_true] at f
    obtain ⟨e1, f1⟩ := flat_is a f.1
    obtain ⟨e2, f2⟩ := flat_isL b f.2
    exact ⟨by rw [e1, e2]; rfl, by simp [f1, f2]⟩
def inD (x : D) (ds : List D) : Bool := inV (vOf x) (ds.map vOf)
theorem inD_int (i : Int) (ns : List Int) : inD (.int i) (ns.map .int) = decide (i ∈ ns) := by
  unfold inD inV
  induction ns with
  | nil => rfl
  | cons n r ih =>
    rw [List.map_cons, List.map_cons, List.any_cons, ih]
    show ((n == i) || _) = _
    by_cases h : n = i
    · subst h; simp
    · rw [beq_eq_false_iff_ne.mpr h]; simp [List.mem_cons, Ne.symm h, eq_comm, h]
theorem r_inL {neg : Bool} (hx : flatD x = true) (ha : ds.all flatD = true) : R2D K (rIn K neg) x (.lst ds) O (.bl (if neg then !inD x ds else inD x ds)) := fun G H v u w a b Q k => by
  obtain ⟨p, xs, rfl, e, t⟩ := b
  obtain ⟨e1, f1⟩ := flat_is a hx
  obtain ⟨e2, f2⟩ := flat_isL t ha
  refine ⟨p, xs, rfl, .inl (.inl (.inl (w.sub _ _ e))), f1, f2, ?_⟩
  rw [e1, e2]; exact k _ G H (Stp.refl w) rfl
theorem r_inT {neg : Bool} (hx : flatD x = true) (ha : ds.all flatD = true) : R2D K (rIn K neg) x (.tup ds) O (.bl (if neg then !inD x ds else inD x ds)) := fun G H v u w a b Q k => by
  obtain ⟨p, xs, rfl, e, t⟩ := b
  obtain ⟨e1, f1⟩ := flat_is a hx
  obtain ⟨e2, f2⟩ := flat_isL t ha
  refine ⟨p, xs, rfl, .inr (.inl (.inl (w.sub _ _ e))), f1, f2, ?_⟩
  rw [e1, e2]; exact k _ G H (Stp.refl w) rfl
theorem r_inO {neg : Bool} (ho : O p = some (.lst ds)) (hx : flatD x = true) (ha : ds.all flatD = true) : R2D K (rIn K neg) x (.ref p) O (.bl (if neg then !inD x ds else inD x ds)) := fun G H v u w a b Q k => by
  obtain ⟨_, xs, e, t⟩ := w.own p _ ho
  obtain ⟨e1, f1⟩ := flat_is a hx
  obtain ⟨e2, f2⟩ := flat_isL t ha
  refine ⟨p, xs, b, .inl (.inl (.inl e)), f1, f2, ?_⟩
  rw [e1, e2]; exact k _ G H (Stp.refl w) rfl
/-! ### lists: +, * -/
theorem r_cat (hl : ds.length + es.length ≤ 100000) : R2D K rCat (.lst ds) (.lst es) O (.lst (ds ++ es)) := fun G H v u w a b Q k => by
  obtain ⟨p, xs, rfl, e, t⟩ := a
  obtain ⟨q, ys, rfl, e', t'⟩ := b
  exact ⟨p, q, xs, ys, rfl, rfl, w.sub _ _ e, w.sub _ _ e', by rw [← t.length, ← t'.length]; exact sz hl, fun l hl => k _ _ _ (Stp.new w hl) ⟨l, _, rfl, upd_same, (t.append t').mono (Stp.new w hl (o := .lst (xs ++ ys))).ex⟩⟩
theorem r_catT (hn : ds ≠ []) (hl : ds.length + es.length ≤ 100000) : R2D K (rCatT K) (.tup ds) (.tup es) O (.tup (ds ++ es)) := fun G H v u w a b Q k => by
  obtain ⟨p, xs, rfl, e, t⟩ := a
  obtain ⟨q, ys, rfl, e', t'⟩ := b
  refine ⟨p, q, xs, ys, rfl, rfl, .inl (.inl (w.sub _ _ e)), .inl (.inl (w.sub _ _ e')), fun z => hn (by subst z; exact List.eq_nil_of_length_eq_zero t.length), by rw [← t.length, ← t'.length]; exact sz hl, fun z => ?_, fun _ l hl => k _ _ _ (Stp.new w hl) ⟨l, _, rfl, upd_same, (t.append t').mono (Stp.new w hl (o := .tup (xs ++ ys))).ex⟩⟩
  subst z
  have z : es = [] := List.eq_nil_of_length_eq_zero t'.length
  subst z
  exact k _ G H (Stp.refl w) ⟨p, xs, rfl, e, by rw [List.append_nil]; exact t⟩
theorem r_rep (h1 : -(2 ^ 63) ≤ i ∧ i < 2 ^ 63) (hl : ds.length * i.toNat ≤ 100000) : R2D K rRep (.lst ds) (.int i) O (.lst (List.replicate i.toNat ds).flatten) := fun G H v u w a b Q k => by
  obtain ⟨p, xs, rfl, e, t⟩ := a
  exact ⟨p, i, xs, rfl, b, w.sub _ _ e, h1.1, h1.2, by rw [← t.length]; exact sz hl, fun l hl => k _ _ _ (Stp.new w hl) ⟨l, _, rfl, upd_same, (t.rep _).mono (Stp.new w hl (o := .lst _)).ex⟩⟩
/-! ### fields, calls of defs -/
theorem lookup_is {G : Hp} : ∀ {nm : List Str} {ds : List D} {vs : List V} {f : Str} {d : D}, IsL K G ds vs → (nm.zip ds).lookup f = some d → ∃ v, (nm.zip vs).lookup f = some v ∧ Is K G d v
  | [], _, _, _, _, _, e => by simp at e
  | _ :: _, [], _, _, _, h, e => by simp at e
  | n :: nm, d0 :: ds, _, f, d, ⟨v, r, rfl, a, b⟩, e => by
    simp only [List.zip_cons_cons, List.lookup_cons] at e ⊢
    cases q : (f == n) with
    | true => rw [q] at e; simp only at e ⊢; cases e; exact ⟨v, rfl, a⟩
    | false => rw [q] at e; simp only at e ⊢; exact lookup_is b e
theorem ev_fld {C : Addr} {nm : List Str} {f : Str} (h : Ev K te δ O (.ins C nm ds) O1) (c : Cls K C) (n : NoAttr K C f) (l : (nm.zip ds).lookup f = some d) : Ev K (tFld K te f) δ O d O1 := fun G H σ w s Q k =>
  h G H σ w s _ fun v G1 H1 s1 i1 => by
    obtain ⟨p, dx, xs, rfl, e, _, t⟩ := i1
    obtain ⟨u, a, b⟩ := lookup_is t l
    exact ⟨p, C, dx, _, u, rfl, s1.wd.sub _ _ e, c, n, a, k u G1 H1 s1 b⟩
theorem ev_fldO {C : Addr} {nm : List Str} {f : Str} (h : Ev K te δ O (.ref p) O1) (ho : O1 p = some (.ins C nm ds)) (c : Cls K C) (n : NoAttr K C f) (l : (nm.zip ds).lookup f = some d) : Ev K (tFld K te f) δ O d O1 := fun G H σ w s Q k =>
  h G H σ w s _ fun v G1 H1 s1 i1 => by
    obtain ⟨_, dx, xs, e, _, t⟩ := s1.wd.own p _ ho
    obtain ⟨u, a, b⟩ := lookup_is t l
    exact ⟨p, C, dx, _, u, i1, e, c, n, a, k u G1 H1 s1 b⟩
theorem sp_run {R : DR} {G H : Hp} {vs : List V} {Q : VK} {E : XK} {Post : D → Ow → Prop} (w : Wd K G O H) (i : IsL K G ds vs) (hr : R ds O Post) (k : ∀ d O' v G' H', Post d O' → Stp K G O H G' O' H' → Is K G' d v → Q v H') : SpD K R vs H Q E := ⟨G, O, ds, Post, w, i, hr, k⟩
theorem evp_call {R : DR} {E : XK} {t : TA} {P : D → Ow → Prop} (h : EvA K t δ O ds O1) (hr : R ds O1 P) : EvP K (tCall (SpD K R) [] E t) δ O P := fun G H σ w s Q k =>
  h G H σ w s _ fun vs G1 H1 s1 i1 => by
    show SpD K R (vs ++ []) H1 Q E
    rw [List.append_nil]
    exact sp_run s1.wd i1 hr fun d O' v G' H' hp st iv => k d O' v G' H' hp (s1.trans st) iv
theorem ev_call {R : DR} {E : XK} {t : TA} (h : EvA K t δ O ds O1) (hr : R ds O1 fun d' O' => d' = d ∧ O' = O2) : Ev K (tCall (SpD K R) [] E t) δ O d O2 := (evp_call h hr).ev
theorem evp_prop {R : DR} {E : XK} {C : Addr} {nm : List Str} {P : D → Ow → Prop} (h : Ev K te δ O (.ins C nm ds) O1) (hr : R [.ins C nm ds] O1 P) : EvP K (tProp C (SpD K R) [] E te) δ O P := fun G H σ w s Q k =>
  h G H σ w s _ fun v G1 H1 s1 i1 => by
    have i2 := i1
    obtain ⟨p, dx, xs, rfl, e, _, t⟩ := i2
    exact ⟨p, dx, _, rfl, s1.wd.sub _ _ e, sp_run (ds := [.ins C nm ds]) s1.wd ⟨_, _, rfl, i1, rfl⟩ hr fun d O' v G' H' hp st iv => k d O' v G' H' hp (s1.trans st) iv⟩
end
end DL

set_option Elab.async false
set_option linter.all false
set_option maxRecDepth 100000
namespace DL
open PySem PySem.Spec L2
section
variable {K : PySem.W.Frag} {δ : Sl} {O O1 O2 O3 : Ow} {d x y z : D} {ta tb tc te tv : TE} {t : TT} {tu tw ts : TS} {i j : Int} {p l : Addr} {ds es : List D} {b : Bool} {P : DE} {g : TG}
/-! ### statements -/
theorem sd_seq (h : Sd K tu { P with nx := fun δ' O' => Sd K tw P δ' O' } δ O) : Sd K (tSeq tu tw) P δ O := fun G H σ D w s r =>
  h G H σ { D with nx := tw D } w s ⟨fun δ' O' G' H' σ' p st sl => p G' H' σ' D st.wd sl (r.step st), r.rt, r.bk, r.ct⟩
theorem sd_next (h : P.nx δ O) : Sd K tNext P δ O := fun G H σ D w s r => r.nx δ O G H σ h (Stp.refl w) s
theorem sd_asgP {i : Nat} (h : EvP K te δ O fun d O' => P.nx (δ.set i (some d)) O') : Sd K (tAsg te (gName i)) P δ O := fun G H σ D w s r =>
  h G H σ w s _ fun d O' v G' H' hp st iv => r.nx _ O' G' H' _ hp st ((s.mono st.ex).set iv)
theorem sd_asg {i : Nat} (h : Ev K te δ O d O1) (k : P.nx (δ.set i (some d)) O1) : Sd K (tAsg te (gName i)) P δ O := sd_asgP (h.toP k)
theorem sd_asgG (h : EvP K te δ O fun d O' => Gd K g d δ O' P.nx) : Sd K (tAsg te g) P δ O := fun G H σ D w s r =>
  h G H σ w s _ fun d O' v G' H' hp st iv => hp G' H' σ v st.wd (s.mono st.ex) iv _ fun δ2 O2 G2 H2 σ2 hn st2 sl => r.nx δ2 O2 G2 H2 σ2 hn (st.trans st2) sl
theorem sd_retP (h : EvP K te δ O P.rt) : Sd K (tRet te) P δ O := fun G H σ D w s r =>
  h G H σ w s _ fun d O' v G' H' hp st iv => r.rt d O' G' H' v hp st iv
theorem sd_ret (h : Ev K te δ O d O1) (k : P.rt d O1) : Sd K (tRet te) P δ O := sd_retP (h.toP k)
theorem sd_retD (h : Ev K te δ O d O1) (s : OSub O2 O1) (k : P.rt d O2) : Sd K (tRet te) P δ O := fun G H σ D w sl r =>
  h G H σ w sl _ fun v G' H' st iv => r.rt d O2 G' H' v k (st.drop s) iv
theorem sd_retN (k : P.rt .non O) : Sd K tRetN P δ O := fun G H σ D w s r => r.rt _ O G H _ k (Stp.refl w) rfl
theorem sd_dropP (h : EvP K te δ O fun _ O' => P.nx δ O') : Sd K (tDrop te) P δ O := fun G H σ D w s r =>
  h G H σ w s _ fun d O' v G' H' hp st iv => r.nx δ O' G' H' σ hp st (s.mono st.ex)
theorem sd_if (h : EvT K t δ O b O1) (h1 : b = true → Sd K tu P δ O1) (h2 : b = false → Sd K tw P δ O1) : Sd K (tIfS t tu tw) P δ O := fun G H σ D w s r =>
  h G H σ w s _ fun G1 H1 s1 => by
    cases b with
    | true => exact iteT (h1 rfl G1 H1 σ D s1.wd (s.mono s1.ex) (r.step s1))
    | false => exact iteF (h2 rfl G1 H1 σ D s1.wd (s.mono s1.ex) (r.step s1))
theorem sd_ifT (h : EvT K t δ O true O1) (h1 : Sd K tu P δ O1) : Sd K (tIfS t tu tw) P δ O := sd_if h (fun _ => h1) (fun e => nomatch e)
theorem sd_ifF (h : EvT K t δ O false O1) (h2 : Sd K tw P δ O1) : Sd K (tIfS t tu tw) P δ O := sd_if h (fun e => nomatch e) (fun _ => h2)
theorem sd_brk (h : P.bk δ O) : Sd K tBreak P δ O := fun G H σ D w s r => r.bk δ O G H σ h (Stp.refl w) s
theorem sd_cont (h : P.ct δ O) : Sd K tCont P δ O := fun G H σ D w s r => r.ct δ O G H σ h (Stp.refl w) s
theorem sd_weak {P' : DE} (h : Sd K ts P' δ O) (h1 : ∀ δ' O', P'.nx δ' O' → P.nx δ' O') (h2 : ∀ d O', P'.rt d O' → P.rt d O') (h3 : ∀ δ' O', P'.bk δ' O' → P.bk δ' O') (h4 : ∀ δ' O', P'.ct δ' O' → P.ct δ' O') : Sd K ts P δ O := fun G H σ D w s r =>
  h G H σ D w s ⟨fun δ' O' G' H' σ' p => r.nx δ' O' G' H' σ' (h1 _ _ p), fun d O' G' H' v p => r.rt d O' G' H' v (h2 _ _ p), fun δ' O' G' H' σ' p => r.bk δ' O' G' H' σ' (h3 _ _ p), fun δ' O' G' H' σ' p => r.ct δ' O' G' H' σ' (h4 _ _ p)⟩
/-- forgetting what was known of the slots, of owned objects -/
theorem sd_forget {δ' : Sl} (h : Sd K ts P δ' O1) (hl : δ'.length = δ.length) (hs : ∀ (i : Nat) d, δ'[i]? = some (some d) → δ[i]? = some (some d)) (ho : OSub O1 O) : Sd K ts P δ O := fun G H σ D w s r => by
  refine h G H σ D (w.drop ho) (s.weak hl hs) ?_
  have st : Stp K G O H G O1 H := (Stp.refl w).drop ho
  exact r.step st
/-- an owned list at slot i is plain data from now on -/
theorem sd_pub {i : Nat} (ho : O p = some (.lst ds)) (hi : δ[i]? = some (some (.ref p))) (h : Sd K ts P (δ.set i (some (.lst ds))) (delO O p)) : Sd K ts P δ O := fun G H σ D w s r => by
  obtain ⟨_, xs, e, tl⟩ := w.own p _ ho
  have st := Stp.pub w ho e
  obtain ⟨v, hv, iv⟩ := s.at_ i _ hi
  have iv : v = .ref p := iv
  subst iv
  have il : i < σ.length := (List.getElem?_eq_some_iff.mp hv).1
  have es : σ = σ.set i (some (.ref p)) := by
    refine List.ext_getElem? fun n => ?_
    by_cases q : i = n
    · subst q; rw [List.getElem?_set_self il, hv]
    · rw [List.getElem?_set_ne q]
  rw [es]
  exact h _ H _ D st.wd ((s.mono st.ex).set (show Is K _ (.lst ds) (.ref p) from ⟨p, xs, rfl, upd_same, tl.mono st.ex⟩)) (r.step st)
theorem sd_pubI {i : Nat} {C : Addr} {nm : List Str} (ho : O p = some (.ins C nm ds)) (hi : δ[i]? = some (some (.ref p))) (h : Sd K ts P (δ.set i (some (.ins C nm ds))) (delO O p)) : Sd K ts P δ O := fun G H σ D w s r => by
  obtain ⟨_, dx, xs, e, hl, tl⟩ := w.own p _ ho
  have st := Stp.pubI w ho e
  obtain ⟨v, hv, iv⟩ := s.at_ i _ hi
  have iv : v = .ref p := iv
  subst iv
  have il : i < σ.length := (List.getElem?_eq_some_iff.mp hv).1
  have es : σ = σ.set i (some (.ref p)) := by
    refine List.ext_getElem? fun n => ?_
    by_cases q : i = n
    · subst q; rw [List.getElem?_set_self il, hv]
    · rw [List.getElem?_set_ne q]
  rw [es]
  exact h _ H _ D st.wd ((s.mono st.ex).set (show Is K _ (.ins C nm ds) (.ref p) from ⟨p, dx, xs, rfl, upd_same, hl, tl.mono st.ex⟩)) (r.step st)
/-- a, b = x, y -/
def EvAP (K : PySem.W.Frag) (ta : TA) (δ : Sl) (O : Ow) (P : List D → Ow → Prop) : Prop :=
  ∀ G H σ, Wd K G O H → SlIs K G δ σ → ∀ Q : List V → Hp → Prop, (∀ ds O' vs G' H', P ds O' → Stp K G O H G' O' H' → IsL K G' ds vs → Q vs H') → ta σ H Q
theorem eap_nil {P : List D → Ow → Prop} (h : P [] O) : EvAP K tNil δ O P := fun G H σ w s Q k => k [] O [] G H h (Stp.refl w) rfl
theorem eap_cons {t : TA} {P : List D → Ow → Prop} (ha : EvP K ta δ O fun d O' => EvAP K t δ O' fun ds O2 => P (d :: ds) O2) : EvAP K (tCons ta t) δ O P := fun G H σ w s Q k =>
  ha G H σ w s _ fun d O' v G1 H1 hp s1 i1 => hp G1 H1 σ s1.wd (s.mono s1.ex) _ fun ds O2 vs G2 H2 hq s2 i2 => k (d :: ds) O2 (v :: vs) G2 H2 hq (s1.trans s2) ⟨v, vs, rfl, i1.mono s2.ex, i2⟩
theorem EvA.toP {t : TA} {P : List D → Ow → Prop} (h : EvA K t δ O ds O1) (hp : P ds O1) : EvAP K t δ O P := fun G H σ w s Q k => h G H σ w s Q fun vs G' H' st i => k ds O1 vs G' H' hp st i
theorem sd_parP {i j : Nat} {ta : TA} (h : EvAP K ta δ O fun ds O' => ∃ a b, ds = [a, b] ∧ P.nx ((δ.set i (some a)).set j (some b)) O') : Sd K (tPar i j ta) P δ O := fun G H σ D w s r =>
  h G H σ w s _ fun ds O' vs G' H' hp st iv => by
    obtain ⟨a, b, rfl, hn⟩ := hp
    obtain ⟨v, u, rfl, ia, ib⟩ := isL2 iv
    exact ⟨v, u, rfl, r.nx _ O' G' H' _ hn st (((s.mono st.ex).set ia).set ib)⟩
theorem sd_par {i j : Nat} {ta : TA} {a b : D} (h : EvA K ta δ O [a, b] O1) (k : P.nx ((δ.set i (some a)).set j (some b)) O1) : Sd K (tPar i j ta) P δ O := sd_parP (h.toP ⟨a, b, rfl, k⟩)
/-! ### targets -/
theorem gd_name {i : Nat} {N : Sl → Ow → Prop} (h : N (δ.set i (some d)) O) : Gd K (gName i) d δ O N := fun G H σ v w s iv Q k => k _ O G H _ h (Stp.refl w) (s.set iv)
def Gds (K : PySem.W.Frag) (g : TGs) (ds : List D) (δ : Sl) (O : Ow) (N : Sl → Ow → Prop) : Prop :=
  ∀ G H σ vs, Wd K G O H → SlIs K G δ σ → IsL K G ds vs → ∀ Q : St → Hp → Prop, (∀ δ' O' G' H' σ', N δ' O' → Stp K G O H G' O' H' → SlIs K G' δ' σ' → Q σ' H') → g vs σ H Q
theorem gds_nil {N : Sl → Ow → Prop} (h : N δ O) : Gds K gNil [] δ O N := fun G H σ vs w s iv Q k => ⟨iv, k _ O G H σ h (Stp.refl w) s⟩
theorem gds_cons {gs : TGs} {N : Sl → Ow → Prop} (h : Gd K g d δ O fun δ' O' => Gds K gs ds δ' O' N) : Gds K (gCons g gs) (d :: ds) δ O N := fun G H σ vs w s iv Q k => by
  obtain ⟨v, r, rfl, a, b⟩ := iv
  exact ⟨v, r, rfl, h G H σ v w s a _ fun δ' O' G' H' σ' hn st sl => hn G' H' σ' r st.wd sl (b.mono st.ex) _ fun δ2 O2 G2 H2 σ2 hn2 st2 sl2 => k δ2 O2 G2 H2 σ2 hn2 (st.trans st2) sl2⟩
theorem gd_tup {n : Nat} {gs : TGs} {N : Sl → Ow → Prop} (hn : ds.length = n) (h : Gds K gs ds δ O N) : Gd K (gTup K n gs) (.tup ds) δ O N := fun G H σ v w s iv Q k => by
  obtain ⟨p, xs, rfl, e, t⟩ := iv
  exact ⟨p, xs, rfl, .inl (.inl (w.sub _ _ e)), by rw [← t.length]; exact hn, h G H σ xs w s t _ k⟩
/-! ### lists that are owned -/
theorem sd_app (h1 : Ev K ta δ O (.ref l) O1) (h0 : O1 l = some (.lst es)) (h2 : Ev K te δ O1 d O2) (h3 : O2 l = some (.lst ds)) (hz : ds.length < 100000) (k : P.nx δ (setO O2 l (.lst (ds ++ [d])))) :
    Sd K (tDrop (tBM K "list" rAppend ta (tCons te tNil))) P δ O := fun G H σ D w s r =>
  h1 G H σ w s _ fun v G1 H1 s1 i1 => by
    have i1 : v = .ref l := i1
    subst i1
    obtain ⟨_, xs0, e0, _⟩ := s1.wd.own l _ h0
    refine ⟨.inl ⟨rfl, xs0, .inl (.inl e0)⟩, h2 G1 H1 σ s1.wd (s.mono s1.ex) _ fun u G2 H2 s2 i2 => ?_⟩
    obtain ⟨_, xs, e, t⟩ := s2.wd.own l _ h3
    refine ⟨l, xs, u, rfl, rfl, e, by rw [← t.length]; exact Evl.sz_lt hz, ?_⟩
    have st := Stp.write (o := .lst (xs ++ [u])) (m' := .lst (ds ++ [d])) s2.wd h3 ⟨_, upd_same, t.append ⟨u, [], rfl, i2, rfl⟩⟩
    exact r.nx _ _ _ _ _ k ((s1.trans s2).trans st) (s.mono ((s1.ex.trans s2.ex).trans st.ex))
theorem sd_setL {k : Nat} (h : Ev K te δ O d O1) (h1 : Ev K ta δ O1 (.ref l) O2) (h2 : Ev K tb δ O2 (.int i) O3) (h3 : O3 l = some (.lst ds)) (hj : ixN ds.length i = some k) (kk : P.nx δ (setO O3 l (.lst (ds.set k d)))) :
    Sd K (tAsg te (gSub ta tb rSetL)) P δ O := fun G H σ D w s r =>
  h G H σ w s _ fun v G1 H1 s1 i1 => h1 G1 H1 σ s1.wd (s.mono s1.ex) _ fun u G2 H2 s2 i2 => h2 G2 H2 σ s2.wd (s.mono (s1.ex.trans s2.ex)) _ fun q G3 H3 s3 i3 => by
    have i2 : u = .ref l := i2
    subst i2
    obtain ⟨_, xs, e, t⟩ := s3.wd.own l _ h3
    refine ⟨l, xs, i, k, rfl, i3, e, by rw [← t.length]; exact hj, ?_⟩
    have st := Stp.write (o := .lst (xs.set k v)) (m' := .lst (ds.set k d)) s3.wd h3 ⟨_, upd_same, t.set k (i1.mono (s2.ex.trans s3.ex))⟩
    exact r.nx _ _ _ _ _ kk (((s1.trans s2).trans s3).trans st) (s.mono (((s1.ex.trans s2.ex).trans s3.ex).trans st.ex))
/-! ### fields of an owned instance -/
theorem putF_new {f : Str} {v : V} : ∀ {nm : List Str} {xs : List V}, f ∉ nm → xs.length = nm.length → putF f v (nm.zip xs) = (nm ++ [f]).zip (xs ++ [v])
  | [], [], _, _ => rfl
  | n :: nm, x :: xs, h, e => by
    simp only [List.mem_cons, not_or] at h
    show (if n = f then (n, v) :: nm.zip xs else (n, x) :: putF f v (nm.zip xs)) = _
    rw [if_neg (fun z => h.1 z.symm), putF_new h.2 (by simpa using e)]
    rfl
theorem putF_old {f : Str} {v : V} : ∀ {nm : List Str} {xs : List V} {j : Nat}, nm[j]? = some f → (∀ k, k < j → nm[k]? ≠ some f) → xs.length = nm.length → putF f v (nm.zip xs) = nm.zip (xs.set j v)
  | n :: nm, x :: xs, 0, h, _, e => by
    have h : n = f := by simpa using h
    show (if n = f then _ else _) = _
    rw [if_pos h]; rfl
  | n :: nm, x :: xs, j + 1, h, hk, e => by
    have h0 : n ≠ f := fun z => hk 0 (Nat.succ_pos _) (by simp [z])
    show (if n = f then (n, v) :: nm.zip xs else (n, x) :: putF f v (nm.zip xs)) = _
    rw [if_neg h0, putF_old (j := j) (by simpa using h) (fun k q z => hk (k + 1) (Nat.succ_lt_succ q) (by simpa using z)) (by simpa using e)]
    rfl
  | [], _, _, h, _, _ => by simp at h
theorem sd_fldN {C : Addr} {nm : List Str} {f : Str} (h : Ev K tv δ O d O1) (h1 : Ev K ta δ O1 (.ref p) O2) (ho : O2 p = some (.ins C nm ds)) (c : Cls K C) (n : NoAttr K C f) (hf : f ∉ nm) (hz : nm.length < 1000) (k : P.nx δ (setO O2 p (.ins C (nm ++ [f]) (ds ++ [d])))) :
    Sd K (sFld K ta tv f) P δ O := fun G H σ D w s r =>
  h G H σ w s _ fun v G1 H1 s1 i1 => h1 G1 H1 σ s1.wd (s.mono s1.ex) _ fun u G2 H2 s2 i2 => by
    have i2 : u = .ref p := i2
    subst i2
    obtain ⟨_, dx, xs, e, hl, t⟩ := s2.wd.own p _ ho
    refine ⟨p, C, dx, _, rfl, e, c, n, by rw [List.length_zip, hl, Nat.min_self]; exact hz, ?_⟩
    rw [putF_new hf hl]
    have st := Stp.write (o := .ins C dx ((nm ++ [f]).zip (xs ++ [v]))) (m' := .ins C (nm ++ [f]) (ds ++ [d])) s2.wd ho ⟨dx, _, upd_same, by simp [hl], t.append ⟨v, [], rfl, i1.mono s2.ex, rfl⟩⟩
    exact r.nx _ _ _ _ _ k ((s1.trans s2).trans st) (s.mono ((s1.ex.trans s2.ex).trans st.ex))
theorem sd_fldS {C : Addr} {nm : List Str} {f : Str} {j : Nat} (h : Ev K tv δ O d O1) (h1 : Ev K ta δ O1 (.ref p) O2) (ho : O2 p = some (.ins C nm ds)) (c : Cls K C) (n : NoAttr K C f) (hf : nm[j]? = some f) (hk : ∀ k, k < j → nm[k]? ≠ some f) (hz : nm.length < 1000) (k : P.nx δ (setO O2 p (.ins C nm (ds.set j d)))) :
    Sd K (sFld K ta tv f) P δ O := fun G H σ D w s r =>
  h G H σ w s _ fun v G1 H1 s1 i1 => h1 G1 H1 σ s1.wd (s.mono s1.ex) _ fun u G2 H2 s2 i2 => by
    have i2 : u = .ref p := i2
    subst i2
    obtain ⟨_, dx, xs, e, hl, t⟩ := s2.wd.own p _ ho
    refine ⟨p, C, dx, _, rfl, e, c, n, by rw [List.length_zip, hl, Nat.min_self]; exact hz, ?_⟩
    rw [putF_old hf hk hl]
    have st := Stp.write (o := .ins C dx (nm.zip (xs.set j v))) (m' := .ins C nm (ds.set j d)) s2.wd ho ⟨dx, _, upd_same, by simp [hl], t.set j (i1.mono s2.ex)⟩
    exact r.nx _ _ _ _ _ k ((s1.trans s2).trans st) (s.mono ((s1.ex.trans s2.ex).trans st.ex))
/-! ### loops -/
theorem sd_for {wi : TI} {items : List D} (hi : EvI K wi δ O items O1) (I : Nat → Sl → Ow → Prop) (h0 : I 0 δ O1)
    (hs : ∀ i d δ' O', items[i]? = some d → I i δ' O' → Gd K g d δ' O' fun δ2 O2 => Sd K tu { P with nx := I (i + 1), ct := I (i + 1), bk := P.nx } δ2 O2) (hd : ∀ δ' O', I items.length δ' O' → P.nx δ' O') : Sd K (tFor wi g tu) P δ O := fun G H σ D w s r =>
  hi G H σ w s _ fun J G1 H1 s1 ok => by
    refine ⟨fun i m σ' H' => i + m = items.length ∧ ∃ δ' O' G', I i δ' O' ∧ Stp K G O H G' O' H' ∧ Sub G1 G' ∧ SlIs K G' δ' σ', ⟨items.length, by omega, δ, O1, G1, h0, s1, Sub.refl _, s.mono s1.ex⟩, fun i m σ' H' hW => ?_⟩
    obtain ⟨em, δ', O', G', hI, st, sb, sl⟩ := hW
    obtain ⟨go, stop⟩ := ok G' O' H' sb st.wd i
    by_cases hl : i < items.length
    · obtain ⟨g1, g2⟩ := go items[i] (List.getElem?_eq_getElem hl)
      refine .inr ⟨g1, fun σ2 H2 => ∃ δ2 O2 G2, I (i + 1) δ2 O2 ∧ Stp K G O H G2 O2 H2 ∧ Sub G1 G2 ∧ SlIs K G2 δ2 σ2, fun σ2 H2 ⟨δ2, O2, G2, a, b, c, e⟩ => ⟨m - 1, by omega, by omega, δ2, O2, G2, a, b, c, e⟩, fun x H2 hy => ?_⟩
      obtain ⟨G2, st2, ix⟩ := g2 x H2 hy
      refine hs i _ δ' O' (List.getElem?_eq_getElem hl) hI G2 H2 σ' x st2.wd (sl.mono st2.ex) ix _ fun δ3 O3 G3 H3 σ3 hb st3 sl3 => ?_
      have stx := (st.trans st2).trans st3
      exact hb G3 H3 σ3 _ st3.wd sl3 ⟨fun δ4 O4 G4 H4 σ4 p st4 sl4 => ⟨δ4, O4, G4, p, stx.trans st4, (sb.trans st2.ex).trans (st3.ex.trans st4.ex), sl4⟩, fun d O4 G4 H4 v p st4 iv => r.rt d O4 G4 H4 v p (stx.trans st4) iv,
        fun δ4 O4 G4 H4 σ4 p st4 sl4 => r.nx δ4 O4 G4 H4 σ4 p (stx.trans st4) sl4, fun δ4 O4 G4 H4 σ4 p st4 sl4 => ⟨δ4, O4, G4, p, stx.trans st4, (sb.trans st2.ex).trans (st3.ex.trans st4.ex), sl4⟩⟩
    · have e : i = items.length := by omega
      refine .inl ⟨stop (List.getElem?_eq_none (by omega)), ?_⟩
      subst e
      exact r.nx δ' O' G' H' σ' (hd δ' O' hI) st sl
theorem sd_while {c : TT} (W : Nat → Sl → Ow → Prop) (m0 : Nat) (h0 : W m0 δ O) (hs : ∀ m δ' O', W m δ' O' → ∃ b O1, EvT K c δ' O' b O1 ∧ (b = true → Sd K tu { P with nx := fun δ2 O2 => ∃ m', m' < m ∧ W m' δ2 O2, ct := fun δ2 O2 => ∃ m', m' < m ∧ W m' δ2 O2, bk := P.nx } δ' O1) ∧ (b = false → P.nx δ' O1)) :
    Sd K (tWhile c tu) P δ O := fun G H σ D w s r => by
  refine ⟨fun m σ' H' => ∃ δ' O' G', W m δ' O' ∧ Stp K G O H G' O' H' ∧ SlIs K G' δ' σ', ⟨m0, δ, O, G, h0, Stp.refl w, s⟩, fun m σ' H' hW => ?_⟩
  obtain ⟨δ', O', G', hI, st, sl⟩ := hW
  obtain ⟨b, O1, hb, h1, h2⟩ := hs m δ' O' hI
  refine hb G' H' σ' st.wd sl _ fun G1 H1 s1 => ?_
  cases b with
  | false => exact iteF (r.nx δ' O1 G1 H1 σ' (h2 rfl) (st.trans s1) (sl.mono s1.ex))
  | true =>
    refine iteT ⟨fun σ2 H2 => ∃ m', m' < m ∧ ∃ δ2 O2 G2, W m' δ2 O2 ∧ Stp K G O H G2 O2 H2 ∧ SlIs K G2 δ2 σ2, fun σ2 H2 ⟨m', a, q⟩ => ⟨m', a, q⟩, ?_⟩
    have stx := st.trans s1
    exact h1 rfl G1 H1 σ' _ s1.wd (sl.mono s1.ex) ⟨fun δ4 O4 G4 H4 σ4 ⟨m', a, p⟩ st4 sl4 => ⟨m', a, δ4, O4, G4, p, stx.trans st4, sl4⟩, fun d O4 G4 H4 v p st4 iv => r.rt d O4 G4 H4 v p (stx.trans st4) iv,
        fun δ4 O4 G4 H4 σ4 p st4 sl4 => r.nx δ4 O4 G4 H4 σ4 p (stx.trans st4) sl4, fun δ4 O4 G4 H4 σ4 ⟨m', a, p⟩ st4 sl4 => ⟨m', a, δ4, O4, G4, p, stx.trans st4, sl4⟩⟩
/-! ### what is walked -/
theorem ei_list (h : Ev K te δ O (.lst ds) O1) : EvI K (iList K te) δ O ds O1 := fun G H σ w s R k =>
  h G H σ w s _ fun v G1 H1 s1 i1 => by
    obtain ⟨p, xs, rfl, e, t⟩ := i1
    refine ⟨p, rfl, ⟨xs, .inl (.inl (s1.wd.sub _ _ e))⟩, k _ G1 H1 s1 fun G' O' H' sb w' i => ?_⟩
    have e' : SqL K H' p xs := .inl (.inl (w'.sub _ _ (sb _ _ e)))
    refine ⟨fun d hd => ?_, fun hn => ⟨xs, e', by rw [← t.length]; exact List.getElem?_eq_none_iff.mp hn⟩⟩
    obtain ⟨u, hu, iu⟩ := t.get hd
    refine ⟨⟨xs, u, e', hu⟩, fun x H'' hy => ?_⟩
    obtain ⟨rfl, fx⟩ := hy
    have ex : u = x := Option.some.inj (hu.symm.trans (fx xs e'))
    subst ex
    exact ⟨G', Stp.refl w', iu.mono sb⟩
theorem ei_tup (h : Ev K te δ O (.tup ds) O1) : EvI K (iTup K te) δ O ds O1 := fun G H σ w s R k =>
  h G H σ w s _ fun v G1 H1 s1 i1 => by
    obtain ⟨p, xs, rfl, e, t⟩ := i1
    refine ⟨p, rfl, ⟨xs, .inl (.inl (s1.wd.sub _ _ e))⟩, k _ G1 H1 s1 fun G' O' H' sb w' i => ?_⟩
    have e' : SqT K H' p xs := .inl (.inl (w'.sub _ _ (sb _ _ e)))
    refine ⟨fun d hd => ?_, fun hn => ⟨xs, e', by rw [← t.length]; exact List.getElem?_eq_none_iff.mp hn⟩⟩
    obtain ⟨u, hu, iu⟩ := t.get hd
    refine ⟨⟨xs, u, e', hu⟩, fun x H'' hy => ?_⟩
    obtain ⟨rfl, fx⟩ := hy
    have ex : u = x := Option.some.inj (hu.symm.trans (fx xs e'))
    subst ex
    exact ⟨G', Stp.refl w', iu.mono sb⟩
theorem ei_scr {ns : List Int} (h : Ev K te δ O (.scr ns) O1) : EvI K (iList K te) δ O (ns.map .int) O1 := fun G H σ w s R k =>
  h G H σ w s _ fun v G1 H1 s1 i1 => by
    obtain ⟨p, rfl, e⟩ := i1
    refine ⟨p, rfl, ⟨_, Evl.ex_l s1.wd.sub e⟩, k _ G1 H1 s1 fun G' O' H' sb w' i => ?_⟩
    have e' : SqL K H' p (ns.map V.int) := Evl.ex_l w'.sub (Evl.ex_l sb e)
    refine ⟨fun d hd => ?_, fun hn => ⟨_, e', by rw [List.length_map]; simpa using hn⟩⟩
    rw [List.getElem?_map] at hd
    cases q : ns[i]? with
    | none => rw [q] at hd; cases hd
    | some n =>
      rw [q] at hd
      cases hd
      have hu : (ns.map V.int)[i]? = some (.int n) := by rw [List.getElem?_map, q]; rfl
      refine ⟨⟨_, _, e', hu⟩, fun x H'' hy => ?_⟩
      obtain ⟨rfl, fx⟩ := hy
      have ex : V.int n = x := Option.some.inj (hu.symm.trans (fx _ e'))
      subst ex
      exact ⟨G', Stp.refl w', rfl⟩
/-- the ints of a range -/
def rng (lo : Int) (n : Nat) : List D := (List.range n).map fun k => .int (lo + (k : Nat))
theorem itr_ok {lo : Int} {n : Nat} {G : Hp} : ItOk K (Itr lo n) G (rng lo n) := fun G' O' H' sb w' i => by
  refine ⟨fun d hd => ?_, fun hn => ?_⟩
  · unfold rng at hd
    rw [List.getElem?_map] at hd
    by_cases h : i < n
    · rw [List.getElem?_range h] at hd
      cases hd
      refine ⟨h, fun x H'' hy => ?_⟩
      obtain ⟨rfl, rfl⟩ := hy
      exact ⟨G', Stp.refl w', rfl⟩
    · rw [List.getElem?_eq_none (by simpa using h)] at hd; cases hd
  · unfold rng at hn
    rw [List.getElem?_eq_none_iff, List.length_map, List.length_range] at hn
    exact hn
theorem ei_rng1 {ta : TA} (h : EvA K ta δ O [.int j] O1) (hj : -1000000 ≤ j ∧ j ≤ 1000000) : EvI K (iRng1 ta) δ O (rng 0 j.toNat) O1 := fun G H σ w s R k =>
  h G H σ w s _ fun vs G1 H1 s1 i1 => by
    obtain ⟨v, rfl, a⟩ := isL1 i1
    cases a
    exact ⟨j, rfl, by omega, by omega, k _ G1 H1 s1 itr_ok⟩
theorem ei_rng2 {ta : TA} (h : EvA K ta δ O [.int i, .int j] O1) (hi : -1000000 ≤ i ∧ i ≤ 1000000) (hj : -1000000 ≤ j ∧ j ≤ 1000000) : EvI K (iRng2 ta) δ O (rng i (j - i).toNat) O1 := fun G H σ w s R k =>
  h G H σ w s _ fun vs G1 H1 s1 i1 => by
    obtain ⟨v, u, rfl, a, b⟩ := isL2 i1
    cases a; cases b
    exact ⟨i, j, rfl, by omega, k _ G1 H1 s1 itr_ok⟩
/-! ### comprehensions -/
def wipeD (δ : Sl) : List Nat → Sl
  | [] => δ
  | v :: vs => (wipeD δ vs).set v none
theorem wipeD_is {G : Hp} {σ : St} (s : SlIs K G δ σ) : ∀ vs : List Nat, SlIs K G (wipeD δ vs) (wipe σ vs)
  | [] => s
  | v :: vs => by
    have h := wipeD_is s vs
    refine ⟨by simp [wipe, wipeD, h.len], fun i d e => ?_⟩
    show ∃ u, ((wipe σ vs).set v none)[i]? = _ ∧ _
    have e : ((wipeD δ vs).set v none)[i]? = some (some d) := e
    by_cases q : v = i
    · subst q
      by_cases l : v < (wipeD δ vs).length
      · rw [List.getElem?_set_self l] at e; cases e
      · rw [List.getElem?_eq_none (by simpa using l)] at e; cases e
    · rw [List.getElem?_set_ne q] at e ⊢
      exact h.at_ i d e
theorem wipe_get {σ : St} {n : Nat} : ∀ {vs : List Nat}, (wipe σ vs)[n]? = if n ∈ vs then (if n < σ.length then some none else none) else σ[n]?
  | [] => by simp [wipe]
  | v :: vs => by
    show ((wipe σ vs).set v none)[n]? = _
    by_cases q : v = n
    · subst q
      by_cases l : v < σ.length
      · rw [List.getElem?_set_self (by rw [wipe_length]; exact l)]; simp [l]
      · rw [List.getElem?_eq_none (by rw [List.length_set, wipe_length]; omega)]; simp [l]
    · rw [List.getElem?_set_ne q, wipe_get (vs := vs)]
      have e : (n ∈ v :: vs) = (n ∈ vs) := by simp [List.mem_cons, Ne.symm q]
      simp only [e]
theorem wipe_set {σ τ : St} {v : Option V} {j : Nat} {vs : List Nat} (hj : j ∈ vs) (h : wipe τ vs = wipe σ vs) : wipe (τ.set j v) vs = wipe σ vs := by
  rw [← h]
  refine List.ext_getElem? fun n => ?_
  rw [wipe_get, wipe_get, List.length_set]
  by_cases q : n ∈ vs
  · rw [if_pos q, if_pos q]
  · rw [if_neg q, if_neg q, List.getElem?_set_ne (fun (z : j = n) => q (by rw [← z]; exact hj))]
theorem wipe_wipe {σ : St} {vs : List Nat} : wipe (wipe σ vs) vs = wipe σ vs := by
  refine List.ext_getElem? fun n => ?_
  rw [wipe_get, wipe_length]
  by_cases q : n ∈ vs
  · rw [if_pos q, wipe_get, if_pos q]
  · rw [if_neg q]
/-- a target within a comprehension: its own slots alone are stored -/
def Gc (K : PySem.W.Frag) (g : TG) (vs : List Nat) (x : D) (δ δ2 : Sl) : Prop :=
  ∀ G H σ τ v, SlIs K G δ τ → wipe τ vs = wipe σ vs → Sub G H → Is K G x v → ∀ Q : St → Hp → Prop, (∀ σ2, wipe σ2 vs = wipe σ vs → SlIs K G δ2 σ2 → Q σ2 H) → g v τ H Q
theorem gc_name {vs : List Nat} {j : Nat} (hj : j ∈ vs) : Gc K (gName j) vs x δ (δ.set j (some x)) := fun G H σ τ v s e _ iv Q k => k _ (wipe_set hj e) (s.set iv)
theorem gc_tup2 {vs : List Nat} {i j : Nat} (hi : i ∈ vs) (hj : j ∈ vs) : Gc K (gTup K 2 (gCons (gName i) (gCons (gName j) gNil))) vs (.tup [x, y]) δ ((δ.set i (some x)).set j (some y)) := fun G H σ τ v s e sb iv Q k => by
  obtain ⟨p, xs, rfl, e1, t⟩ := iv
  obtain ⟨a, b, rfl, ia, ib⟩ := isL2 t
  exact ⟨p, _, rfl, .inl (.inl (sb _ _ e1)), rfl, a, [b], rfl, b, [], rfl, rfl, k _ (wipe_set hj (wipe_set hi e)) ((s.set ia).set ib)⟩
/-- the run of a comprehension over its items -/
inductive Cp (K : PySem.W.Frag) (g : TG) (tt : TT) (te : TE) (vs : List Nat) (δ : Sl) : List D → Ow → List D → Ow → Prop
  | nil {O : Ow} : Cp K g tt te vs δ [] O [] O
  | yes {O O1 O2 O3 : Ow} {x d : D} {items out : List D} (δ2 : Sl) (h : Gc K g vs x δ δ2) (h1 : EvT K tt δ2 O true O1) (h2 : Ev K te δ2 O1 d O2) (t : Cp K g tt te vs δ items O2 out O3) : Cp K g tt te vs δ (x :: items) O (d :: out) O3
  | no {O O1 O3 : Ow} {x : D} {items out : List D} (δ2 : Sl) (h : Gc K g vs x δ δ2) (h1 : EvT K tt δ2 O false O1) (t : Cp K g tt te vs δ items O1 out O3) : Cp K g tt te vs δ (x :: items) O out O3
theorem Stp.writeF {G G' H H' : Hp} {O' : Ow} {a : Addr} {o : HO} (s : Stp K G O H G' O' H') (h1 : H a = none) (h2 : G' a = none) (h3 : O' a = none) : Stp K G O H G' O' (upd H' a o) where
  wd := ⟨fun b u e => by rw [upd_ne (ne_of_none e h2)]; exact s.wd.sub b u e, fun q m e => by
    have n : q ≠ a := fun z => by subst z; rw [h3] at e; cases e
    have i : MoIs K G' H' q m := (s.wd.own q m e).2
    exact ⟨(s.wd.own q m e).1, i.mono (Sub.refl _) fun u z => by rw [upd_ne n]; exact z⟩⟩
  ex := s.ex
  keep := fun b u e n => by rw [upd_ne (ne_of_none e h1)]; exact s.keep b u e n
  fresh := s.fresh
theorem Stp.pubF {G G' H H' : Hp} {O' : Ow} {a : Addr} {o : HO} (s : Stp K G O H G' O' H') (h1 : H a = none) (h2 : G' a = none) (h3 : O' a = none) (h4 : H' a = some o) : Stp K G O H (upd G' a o) O' H' where
  wd := ⟨fun b u e => by
      by_cases q : b = a
      · subst q; rw [upd_same] at e; rw [h4]; exact e
      · rw [upd_ne q] at e; exact s.wd.sub b u e, fun q m e => by
    have n : q ≠ a := fun z => by subst z; rw [h3] at e; cases e
    have i : MoIs K G' H' q m := (s.wd.own q m e).2
    exact ⟨by rw [upd_ne n]; exact (s.wd.own q m e).1, i.mono (fun b u z => by rw [upd_ne (ne_of_none z h2)]; exact z) fun u z => z⟩⟩
  ex := fun b u e => by rw [upd_ne (ne_of_none (s.ex b u e) h2)]; exact s.ex b u e
  keep := s.keep
  fresh := fun b u e n g => ⟨by rw [upd_ne (ne_of_none e h1)]; exact (s.fresh b u e n g).1, (s.fresh b u e n g).2⟩
theorem Cp.length {tt : TT} {vs : List Nat} {items out : List D} (c : Cp K g tt te vs δ items O out O1) : out.length ≤ items.length := by
  induction c with
  | nil => exact Nat.le_refl _
  | yes _ _ _ _ _ ih => simp only [List.length_cons]; omega
  | no _ _ _ _ ih => simp only [List.length_cons]; omega
theorem ev_lc {wi : TI} {tt : TT} {vs : List Nat} {items out : List D} (hi : EvI K wi δ O items O1) (hc : Cp K g tt te vs (wipeD δ vs) items O1 out O2) (hz : items.length ≤ 50000) : Ev K (tLc wi g tt te vs) δ O (.lst out) O2 := fun G H σ w s Q k =>
  hi G H σ w s _ fun J G1 H1 s1 ok D hD => by
    refine ⟨fun i m H' => i + m = items.length ∧ ∃ O' G' done rest acc, Cp K g tt te vs (wipeD δ vs) (items.drop i) O' rest O2 ∧ done ++ rest = out ∧ done.length ≤ i ∧ Stp K G1 O1 H1 G' O' H' ∧ G' D = none ∧ O' D = none ∧ H' D = some (.lst acc) ∧ IsL K G' done acc,
      ⟨items.length, by omega, O1, G1, [], out, [], hc, rfl, Nat.le_refl _, Stp.newF s1.wd hD, s1.wd.gNone hD, s1.wd.oNone hD, upd_same, rfl⟩, fun i m H' hW => ?_⟩
    obtain ⟨em, O', G', done, rest, acc, cp, eo, ld, st, gD, oD, hD', il⟩ := hW
    obtain ⟨go, stop⟩ := ok G' O' H' st.ex st.wd i
    by_cases hl : i < items.length
    · obtain ⟨g1, g2⟩ := go items[i] (List.getElem?_eq_getElem hl)
      refine .inr ⟨g1, fun H2 => ∃ O' G' done rest acc, Cp K g tt te vs (wipeD δ vs) (items.drop (i + 1)) O' rest O2 ∧ done ++ rest = out ∧ done.length ≤ i + 1 ∧ Stp K G1 O1 H1 G' O' H2 ∧ G' D = none ∧ O' D = none ∧ H2 D = some (.lst acc) ∧ IsL K G' done acc,
        fun H2 q => ⟨m - 1, by omega, by omega, q⟩, fun x H2 hy => ?_⟩
      obtain ⟨G2, st2, ix⟩ := g2 x H2 hy
      have d2 := st2.fresh D _ hD' oD gD
      have k2 := st2.keep D _ hD' oD
      rw [List.drop_eq_getElem_cons hl] at cp
      have sl2 : SlIs K G2 (wipeD δ vs) (wipe σ vs) := wipeD_is (s.mono ((s1.ex.trans st.ex).trans st2.ex)) vs
      cases cp with
      | @yes _ O3 O4 _ _ d _ out' δ2 h h1 h2 t =>
        refine h G2 H2 σ (wipe σ vs) x sl2 wipe_wipe st2.wd.sub ix _ fun σ2 ew sl => ⟨ew, h1 G2 H2 σ2 st2.wd sl _ fun G3 H3 s3 => iteT (h2 G3 H3 σ2 s3.wd (sl.mono s3.ex) _ fun y G4 H4 s4 iy => ?_)⟩
        have d3 := s3.fresh D _ k2 d2.2 d2.1
        have k3 := s3.keep D _ k2 d2.2
        have d4 := s4.fresh D _ k3 d3.2 d3.1
        have k4 := s4.keep D _ k3 d3.2
        have sx := ((st.trans st2).trans s3).trans s4
        refine ⟨acc, k4, ?_, O4, G4, done ++ [d], out', acc ++ [y], t, by rw [List.append_assoc]; exact eo, by rw [List.length_append]; simp; exact ld, sx.writeF hD d4.1 d4.2, d4.1, d4.2, upd_same, (il.mono (st2.ex.trans (s3.ex.trans s4.ex))).append ⟨y, [], rfl, iy, rfl⟩⟩
        rw [← il.length]
        exact Evl.sz_lt (by omega)
      | @no _ O3 _ _ _ out' δ2 h h1 t =>
        refine h G2 H2 σ (wipe σ vs) x sl2 wipe_wipe st2.wd.sub ix _ fun σ2 ew sl => ⟨ew, h1 G2 H2 σ2 st2.wd sl _ fun G3 H3 s3 => iteF ?_⟩
        have d3 := s3.fresh D _ k2 d2.2 d2.1
        have k3 := s3.keep D _ k2 d2.2
        exact ⟨O3, G3, done, rest, acc, t, eo, by omega, (st.trans st2).trans s3, d3.1, d3.2, k3, il.mono (st2.ex.trans s3.ex)⟩
    · refine .inl ⟨stop (List.getElem?_eq_none (by omega)), ?_⟩
      rw [List.drop_eq_nil_of_le (by omega)] at cp
      cases cp
      rw [List.append_nil] at eo
      subst eo
      have sp := st.pubF hD gD oD hD'
      exact k _ _ _ (s1.trans sp) ⟨D, acc, rfl, upd_same, il.mono fun b u e => by rw [upd_ne (ne_of_none e gD)]; exact e⟩
theorem cp_map {α : Type} {tt : TT} {vs : List Nat} (l : List α) (enc f : α → D) (δ2 : α → Sl) (h : ∀ a ∈ l, Gc K g vs (enc a) δ (δ2 a) ∧ EvT K tt (δ2 a) O true O ∧ Ev K te (δ2 a) O (f a) O) : Cp K g tt te vs δ (l.map enc) O (l.map f) O := by
  induction l with
  | nil => exact .nil
  | cons a r ih =>
    obtain ⟨h1, h2, h3⟩ := h a (List.mem_cons_self ..)
    exact .yes _ h1 h2 h3 (ih fun b hb => h b (List.mem_cons_of_mem _ hb))
theorem cp_filter {α : Type} {tt : TT} {vs : List Nat} (l : List α) (enc f : α → D) (δ2 : α → Sl) (q : α → Bool) (h : ∀ a ∈ l, Gc K g vs (enc a) δ (δ2 a) ∧ EvT K tt (δ2 a) O (q a) O ∧ (q a = true → Ev K te (δ2 a) O (f a) O)) : Cp K g tt te vs δ (l.map enc) O ((l.filter q).map f) O := by
  induction l with
  | nil => exact .nil
  | cons a r ih =>
    obtain ⟨h1, h2, h3⟩ := h a (List.mem_cons_self ..)
    have t := ih fun b hb => h b (List.mem_cons_of_mem _ hb)
    cases e : q a with
    | true => rw [List.filter_cons, e, if_pos rfl]; rw [e] at h2; exact .yes _ h1 h2 (h3 e) t
    | false => rw [List.filter_cons, e]; rw [e] at h2; exact .no _ h1 h2 t
theorem et_yes : EvT K tYes δ O true O := fun G H σ w s Q k => k G H (Stp.refl w)
/-! ### a def's body -/
def startD (N : List Str) (ds : List D) : Sl := ds.map some ++ List.replicate (N.length - ds.length) none
theorem start_is {G : Hp} {N : List Str} : ∀ {ds : List D} {vs : List V}, IsL K G ds vs → SlIs K G (startD N ds) (start N vs) := fun {ds vs} h => by
  refine ⟨by simp [startD, L2.start, h.length], fun i d e => ?_⟩
  unfold startD at e
  unfold L2.start
  by_cases l : i < ds.length
  · rw [List.getElem?_append_left (by simpa using l), List.getElem?_map] at e
    cases q : ds[i]? with
    | none => rw [q] at e; cases e
    | some d' =>
      rw [q] at e
      cases e
      obtain ⟨v, hv, iv⟩ := h.get q
      exact ⟨v, by rw [List.getElem?_append_left (by rw [List.length_map, ← h.length]; exact l), List.getElem?_map, hv]; rfl, iv⟩
  · rw [List.getElem?_append_right (by simpa using l)] at e
    rw [List.getElem?_replicate] at e
    split at e <;> cases e
theorem body_of {R : DR} {N : List Str} {vs : List V} {H : Hp} {Q : VK} {E : XK} (hsp : SpD K R vs H Q E) (h : ∀ ds O Post, R ds O Post → Sd K ts ⟨fun _ O' => Post .non O', Post, fun _ _ => False, fun _ _ => False⟩ (startD N ds) O) : ts { nx := fun _ H' => Q .non H', rt := Q } (start N vs) H := by
  obtain ⟨G, O, ds, Post, w, i, hr, k⟩ := hsp
  exact h ds O Post hr G H _ _ w (start_is i) ⟨fun δ' O' G' H' σ' p st _ => k .non O' .non G' H' p st rfl, fun d O' G' H' v p st iv => k d O' v G' H' p st iv, fun _ _ _ _ _ p => p.elim, fun _ _ _ _ _ p => p.elim⟩
end
/-- THE RULE for a def over data -/
theorem fnD {P : Program} {w : World} {K : PySem.W.Frag} {mg : Str → Option Value} {base : Heap} {x qual : Str} {st : Stmt} {f : Addr} {fd : FuncData} {N ps : List Str} {k : Nat} {R : DR} (F : Fun K x qual st f fd) (S : FnScope N ps (defScope st)) (hb : Binds K fd ps [])
    (len : ∀ ds O Post, R ds O Post → ds.length = ps.length)
    (hbody : ∀ (cdv : Value) (A : Around) (outer : List Env) (s : Shared) (H : Hp) (E : XK), Room k (A.deeper (PyProof.Rows.envOfC qual (defScope st) s.heap.objs.size f cdv)) →
      ∃ t, PSs (cxOf (L2.CX P w) P w K mg base N qual (defScope st) f cdv A outer s H E) (defBody st) t ∧ ∀ ds O Post, R ds O Post → Sd K t ⟨fun _ O' => Post .non O', Post, fun _ _ => False, fun _ _ => False⟩ (startD N ds) O) :
    FnR P w K mg base (L2.CX P w) (k + 1) f (SpD K R) := by
  have F1 : FnOk P w K mg base (L2.CX P w) (k + 1) f fd ps (SpD K R) := by
    refine F.okX S (fun vs H Q E h => ?_) (fun cdv A outer s H vs Q E hr h => ?_)
    · obtain ⟨G, O, ds, Post, _, i, hr, _⟩ := h
      rw [← i.length]; exact len ds O Post hr
    · obtain ⟨t, h1, h2⟩ := hbody cdv A outer s H E hr
      exact ⟨t, h1, body_of h h2⟩
  refine (F1.raw hb .nil).imp fun vs H Q E h => ?_
  rw [List.append_nil]; exact h
end DL

set_option Elab.async false
set_option linter.all false
set_option maxRecDepth 100000
/-! rules of syntax that the layer lacks, and what they do to data -/
namespace DL
open PySem PySem.Spec L2
open PyProof.Rows hiding St
def tRun (sp : Sp) (E : XK) (t : TA) : TE := fun σ H Q => t σ H fun vs H1 => sp vs H1 Q E
section
variable {X : Cx} {CX : CXT} {k i : Nat} {f C : Addr} {sp : Sp} {E : XK} {x m : Str} {e o : Expr} {es : List Expr} {te ta tb : TE} {t : TA} {p sp_ pos apos : Pos}
/-! ### calls of defs by a positional promise -/
theorem pe_run (F : FnR X.prog X.w X.K X.mg X.base CX k f sp) (hr : Room k X.A) (hk : PySem.W.keepIn X.K (.ref f) = true) (hm : X.mg x = some (.ref f)) (hx : Passes CX X E) (ha : PA X (e :: es) t) (hg : Gl X x := by rfl) (hdb : (x == ("__debug__" : Str)) = false := by decide)
    (he : starEach (e :: es) X.env = (false, eval e X.env) :: starEach es X.env := by rfl) (hpl : (backTo pos (starEach es X.env)).any (·.1) = false := by rfl) :
    PE X (.Call (.Name x p) (e :: es) [] pos) (tRun sp E t) := by
  refine ⟨fun pins s σ H Q I h => ?_⟩
  refine wpAny_Call_Name_kw (ld_glob I hg hm ?_ hdb)
  refine PySem.W.callWith_K (h₀ := X.base) I.ok.mod.kin hk (thn (ha.run pos pins s σ H _ I h) fun us s1 ⟨vs, H1, I1, r, q⟩ => ⟨I1.kIn, ?_⟩) he hpl
  exact wpAny_call (run_fnR F hr hx I1 r q)
theorem pe_runS (F : FnR X.prog X.w X.K X.mg X.base CX k f sp) (hr : Room k X.A) (hk : PySem.W.keepIn X.K (.ref f) = true) (hm : X.mg x = some (.ref f)) (hx : Passes CX X E) (ha : PA X (e :: es) t) (hg : Gl X x := by rfl) (hdb : (x == ("__debug__" : Str)) = false := by decide)
    (he : starEach (e :: es) X.env = (false, eval e X.env) :: starEach es X.env := by rfl) (hst : (backTo pos (starEach es X.env)).any (·.1) = true := by rfl) :
    PE X (.Call (.Name x p) (e :: es) [] pos) (tRun sp E t) := StX.pe_callS2 F hr hk hg hm hx ha hdb he hst
/-! ### a class's instance made -/
/-- C() -/
theorem pe_mk0 (M : Mk X.K C f) (F : FnR X.prog X.w X.K X.mg X.base CX k f sp) (hr : Room (k + 1) X.A) (hm : X.mg x = some (.ref C)) (hx : Passes CX X E) (hg : Gl X x := by rfl) (hdb : (x == ("__debug__" : Str)) = false := by decide) :
    PE X (.Call (.Name x p) [] [] pos) (StX.tMakeR C sp E tNil) := by
  refine ⟨fun pins s σ H Q I h => ?_⟩
  refine wpAny_Call_Name_kw (ld_glob I hg hm ?_ hdb)
  exact PySem.W.callWith_K0 I.kIn M.kp (StX.run_makeR (us := []) M F hr hx I .nil h)
/-- C(e, .., *y) -/
theorem pe_mkS2 (M : Mk X.K C f) (F : FnR X.prog X.w X.K X.mg X.base CX k f sp) (hr : Room (k + 1) X.A) (hm : X.mg x = some (.ref C)) (hx : Passes CX X E) (ha : PA X (e :: es) t) (hg : Gl X x := by rfl) (hdb : (x == ("__debug__" : Str)) = false := by decide)
    (he : starEach (e :: es) X.env = (false, eval e X.env) :: starEach es X.env := by rfl) (hst : (backTo pos (starEach es X.env)).any (·.1) = true := by rfl) : PE X (.Call (.Name x p) (e :: es) [] pos) (StX.tMakeR C sp E t) := by
  refine ⟨fun pins s σ H Q I h => ?_⟩
  refine wpAny_Call_Name_kw (ld_glob I hg hm ?_ hdb)
  refine PySem.W.callWith_S2 (h₀ := X.base) I.ok.mod.kin M.kp (thn (ha.run pos pins s σ H _ I h) fun us s1 ⟨vs, H1, I1, r, q⟩ => ⟨I1.kIn, ?_⟩) he hst
  exact StX.run_makeR M F hr hx I1 r q
/-- C( *y) -/
theorem pe_mkS1 (M : Mk X.K C f) (F : FnR X.prog X.w X.K X.mg X.base CX k f sp) (hr : Room (k + 1) X.A) (hm : X.mg x = some (.ref C)) (hx : Passes CX X E) (he : PE X e te) (hg : Gl X x := by rfl) (hdb : (x == ("__debug__" : Str)) = false := by decide)
    (hst : starEach [.Starred e sp_] X.env = [(true, eval e X.env)] := by rfl) : PE X (.Call (.Name x p) [.Starred e sp_] [] pos) (StX.tMakeR C sp E (StX.tStar X.K te tNil)) := by
  refine ⟨fun pins s σ H Q I h => ?_⟩
  refine wpAny_Call_Name_kw (ld_glob I hg hm ?_ hdb)
  refine PySem.W.callWith_S (h₀ := X.base) I.ok.mod.kin M.kp (thn (he.run pins s σ H _ I h) fun v s1 ⟨y, H1, I1, ry, a, xs, ey, hxs, q⟩ => ?_) hst
  subst ey
  obtain rfl : v = Value.ref a := ry
  refine StX.star_any I1 hxs fun us s2 I2 rv => ⟨I2.kIn, ?_⟩
  have q' : ∀ x dx, H1 x = Option.none → H1 dx = Option.none → dx ≠ x → sp (V.ref x :: (xs ++ [])) (upd (upd H1 dx (.own x)) x (.ins C dx [])) (fun v H2 => v = .non ∧ Q (.ref x) H2) E := q
  rw [List.append_nil] at q'
  exact StX.run_makeR M F hr hx I2 rv q'
/-- x(e, ..), x a local that holds the class -/
def tIsC (C : Addr) (i : Nat) (t : TE) : TE := fun σ H Q => σ[i]? = some (some (.ref C)) ∧ t σ H Q
theorem pe_mkL (M : Mk X.K C f) (F : FnR X.prog X.w X.K X.mg X.base CX k f sp) (hr : Room (k + 1) X.A) (hx : Passes CX X E) (ha : PA X (e :: es) t) (hN : X.N[i]? = some x) (hv : Vis X.env.scope x) (hd : (x == ("__debug__" : Str)) = false := by decide) (hcd : (x == ("__classdict__" : Str)) = false := by decide)
    (he : starEach (e :: es) X.env = (false, eval e X.env) :: starEach es X.env := by rfl) (hpl : (backTo pos (starEach es X.env)).any (·.1) = false := by rfl) : PE X (.Call (.Name x p) (e :: es) [] pos) (tIsC C i (StX.tMakeR C sp E t)) := by
  refine ⟨fun pins s σ H Q I h => ?_⟩
  obtain ⟨hs, h⟩ := h
  refine wpAny_Call_Name_kw (thn ((pe_var (pos := p) (i := i) hN hv hd hcd).run pins s σ H (fun v H1 => v = .ref C ∧ H1 = H) I ⟨.ref C, hs, rfl, rfl⟩) fun u s1 ⟨v, H1, I1, r1, q1⟩ => ?_)
  obtain ⟨ev, eH⟩ := q1
  subst ev
  rw [eH] at I1
  obtain rfl : u = Value.ref C := r1
  refine PySem.W.callWith_K (h₀ := X.base) I.ok.mod.kin M.kp (thn (ha.run pos pins s1 σ H _ I1 h) fun us s2 ⟨vs, H2, I2, r, q⟩ => ⟨I2.kIn, ?_⟩) he hpl
  exact StX.run_makeR M F hr hx I2 r q
theorem pe_mkLS (M : Mk X.K C f) (F : FnR X.prog X.w X.K X.mg X.base CX k f sp) (hr : Room (k + 1) X.A) (hx : Passes CX X E) (ha : PA X (e :: es) t) (hN : X.N[i]? = some x) (hv : Vis X.env.scope x) (hd : (x == ("__debug__" : Str)) = false := by decide) (hcd : (x == ("__classdict__" : Str)) = false := by decide)
    (he : starEach (e :: es) X.env = (false, eval e X.env) :: starEach es X.env := by rfl) (hst : (backTo pos (starEach es X.env)).any (·.1) = true := by rfl) : PE X (.Call (.Name x p) (e :: es) [] pos) (tIsC C i (StX.tMakeR C sp E t)) := by
  refine ⟨fun pins s σ H Q I h => ?_⟩
  obtain ⟨hs, h⟩ := h
  refine wpAny_Call_Name_kw (thn ((pe_var (pos := p) (i := i) hN hv hd hcd).run pins s σ H (fun v H1 => v = .ref C ∧ H1 = H) I ⟨.ref C, hs, rfl, rfl⟩) fun u s1 ⟨v, H1, I1, r1, q1⟩ => ?_)
  obtain ⟨ev, eH⟩ := q1
  subst ev
  rw [eH] at I1
  obtain rfl : u = Value.ref C := r1
  refine PySem.W.callWith_S2 (h₀ := X.base) I.ok.mod.kin M.kp (thn (ha.run pos pins s1 σ H _ I1 h) fun us s2 ⟨vs, H2, I2, r, q⟩ => ⟨I2.kIn, ?_⟩) he hst
  exact StX.run_makeR M F hr hx I2 r q
/-! ### a property by a positional promise -/
def tPropR (C : Addr) (sp : Sp) (E : XK) (ta : TE) : TE := fun σ H Q => ta σ H fun x H1 => ∃ a dx fs, x = .ref a ∧ H1 a = some (.ins C dx fs) ∧ sp [.ref a] H1 Q E
theorem pe_propR {pp g : Addr} {fn : Str} (he : PE X e ta) (c : Cls X.K C) (hp : PropOf X.K C fn pp g) (F : FnR X.prog X.w X.K X.mg X.base CX k g sp) (hr : Room (k + 1) X.A) (hx : ∀ (H : Hp) (s : Shared) (e : Value) (s' : Shared), CX X.stack H s E e s' → False)
    (hab : attributeBase e fn X.env (eval e X.env) = eval e X.env := by rfl) : PE X (.Attribute e fn pos) (tPropR C sp E ta) := by
  refine ⟨fun pins s σ H Q I h => ?_⟩
  refine attr_of hab (thn (he.run pins s σ H _ I h) fun u s1 ⟨x, H1, I1, rx, a, dx, fs, ex, ea, q⟩ => ?_)
  subst ex
  obtain rfl : u = Value.ref a := rx
  obtain ⟨mA, Ob, r, _, _, _⟩ := ins_get I1.hok ea
  obtain ⟨od, J, hl⟩ := Ob.look
  obtain ⟨rest, hrec⟩ := hp.rec_
  have I2 : Inv X pins σ H1 { s1 with toks := s1.toks + 1 } := I1.tok (s1.toks + 1)
  have hc : (PySem.W.clsIn X.K C).isSome = true := by
    obtain ⟨cd, hc, _⟩ := PySem.W.any_some c.hd
    rw [hc]
    rfl
  refine PySem.W.get_bind I1.kIn J (PySem.W.plainGet_of (c.get fn)).1 (PySem.W.findObj_data hc hp.at_ hp.get hp.tak) (PySem.W.plainGet_of (c.get fn)).2 (wpAny_call (PySem.W.prop_get (s := { s1 with toks := s1.toks + 1 }) I1.kIn hrec ?_))
  refine codeAny_mono (F X.A.in1 X.stack { s1 with toks := s1.toks + 1 } H1 [.ref a] [.ref a] Q E hr.in1 I2.env0.in1 (.cons rfl .nil) q) fun r s' hq => ?_
  cases r with
  | error e => exact (hx _ _ _ _ hq).elim
  | ok fl =>
    cases fl with
    | ret u =>
      obtain ⟨v, H', I3, rv, q⟩ := I2.after hq
      exact wpAny_of_eq (PySem.W.handedOut_of (handed_of rv)) ⟨v, H', I3, rv, q⟩
    | next => exact False.elim hq
    | brk => exact False.elim hq
    | cont => exact False.elim hq
/-! ### operators of own classes -/
theorem inst_at {pins : List (Addr × Obj)} {σ : St} {H : Hp} {s : Shared} {a dx : Addr} {fs : List (Str × V)} (I : Inv X pins σ H s) (h : H a = some (.ins C dx fs)) : ∃ od, PySem.W.InstAt s.heap a (PySem.W.instObj C dx) C (some od) := by
  obtain ⟨mA, Ob, _, _, _, _⟩ := ins_get I.hok h
  obtain ⟨od, J, _⟩ := Ob.look
  exact ⟨od, J⟩
def rOwnS (C : Addr) (sp : Sp) (E : XK) : R2 := fun x y H Q => ∃ a dx fs b dy gs, x = .ref a ∧ y = .ref b ∧ H a = some (.ins C dx fs) ∧ H b = some (.ins C dy gs) ∧ sp [x, y] H Q E
theorem op_ownS {op : Operator} (hc : PySem.W.selfFirst X.K C = true) (hs : PySem.W.findIn X.K (.ref C) (PySem.dunder op.info.2) = some (some (.ref f))) (hf : PySem.W.isFn X.K (.ref f) = true) (F : FnR X.prog X.w X.K X.mg X.base CX k f sp) (hr : Room k X.A) (hx : Passes CX X E) :
    OpR X (binaryOp op) (rOwnS C sp E) := by
  intro pins s σ H x y v u Q I rx ry h
  obtain ⟨a, dx, fs, b, dy, gs, rfl, rfl, ha, hb, q⟩ := h
  cases (show v = Value.ref a from rx)
  cases (show u = Value.ref b from ry)
  obtain ⟨od, J⟩ := inst_at I ha
  obtain ⟨od', J'⟩ := inst_at I hb
  obtain ⟨m, hF⟩ := I.fr
  refine PySem.W.binop_K hF I.ok.mod.kin J J'.type hc hs hf ?_
  refine wpAny_mono (wpAny_call (run_fnR (us := [.ref a, .ref b]) (vs := [.ref a, .ref b]) F hr hx I (.cons rfl (.cons rfl .nil)) q)) (fun w s' z => ?_) fun _ _ x => x
  obtain ⟨z', H', I', rz, qz⟩ := z
  exact SlX.cmpback rz ⟨z', H', I', rz, qz⟩
/-- x op n, n an int -/
def rOwnI (C : Addr) (sp : Sp) (E : XK) : R2 := fun x y H Q => ∃ a dx fs i, x = .ref a ∧ y = .int i ∧ H a = some (.ins C dx fs) ∧ sp [x, y] H Q E
theorem op_ownI {op : Operator} {fo ro rc : Option Value} (hc : PySem.W.selfFirst X.K C = true) (hs : PySem.W.findIn X.K (.ref C) (PySem.dunder op.info.2) = some (some (.ref f))) (hf : PySem.W.isFn X.K (.ref f) = true) (h3 : PySem.W.findIn X.K (.ref C) (dunderR op.info.2) = some rc) (hp : rc = none ∨ ∃ g : Addr, rc = some (.ref g))
    (h1 : PySem.W.findIn X.K (.type "int") (PySem.dunder op.info.2) = some fo) (h2 : PySem.W.findIn X.K (.type "int") (dunderR op.info.2) = some ro) (hsub : PySem.W.subIn X.K (.type "int") (.ref C) = some false) (F : FnR X.prog X.w X.K X.mg X.base CX k f sp) (hr : Room k X.A) (hx : Passes CX X E) :
    OpR X (binaryOp op) (rOwnI C sp E) := by
  intro pins s σ H x y v u Q I rx ry h
  obtain ⟨a, dx, fs, i, rfl, rfl, ha, q⟩ := h
  cases (show v = Value.ref a from rx)
  obtain ⟨tk, e⟩ := (show ∃ t, u = Value.int i t from ry)
  subst e
  obtain ⟨od, J⟩ := inst_at I ha
  obtain ⟨m, hF⟩ := I.fr
  refine PySem.W.ksp_binT hF I.ok.mod.kin J rfl hc hs hf h3 hp h1 h2 hsub ?_
  refine wpAny_mono (wpAny_call (run_fnR (us := [.ref a, .int i tk]) (vs := [.ref a, .int i]) F hr hx I (.cons rfl (.cons ⟨tk, rfl⟩ .nil)) q)) (fun w s' z => ?_) fun _ _ x => x
  obtain ⟨z', H', I', rz, qz⟩ := z
  exact SlX.cmpback rz ⟨z', H', I', rz, qz⟩
/-- -x -/
def rOwn1 (C : Addr) (sp : Sp) (E : XK) : V → Hp → VK → Prop := fun x H Q => ∃ a dx fs, x = .ref a ∧ H a = some (.ins C dx fs) ∧ sp [x] H Q E
theorem un_own (hs : PySem.W.findIn X.K (.ref C) "__neg__" = some (some (.ref f))) (hf : PySem.W.isFn X.K (.ref f) = true) (F : FnR X.prog X.w X.K X.mg X.base CX k f sp) (hr : Room k X.A) (hx : Passes CX X E) : UnR X (unaryOp .USub) (rOwn1 C sp E) := by
  intro pins s σ H x v Q I rx h
  obtain ⟨a, dx, fs, rfl, ha, q⟩ := h
  cases (show v = Value.ref a from rx)
  obtain ⟨od, J⟩ := inst_at I ha
  obtain ⟨m, hF⟩ := I.fr
  exact PySem.W.ksp_neg hF I.ok.mod.kin J hs hf (wpAny_call (run_fnR (us := [.ref a]) (vs := [.ref a]) F hr hx I (.cons rfl .nil) q))
/-- x[i] -/
def rOwnX (C : Addr) (sp : Sp) (E : XK) : R2 := fun x y H Q => ∃ a dx fs, x = .ref a ∧ H a = some (.ins C dx fs) ∧ sp [x, y] H Q E
theorem pe_ixOwn (hs : PySem.W.findIn X.K (.ref C) "__getitem__" = some (some (.ref f))) (hfi : PySem.W.fnIn X.K f = true) (hf : PySem.W.isFn X.K (.ref f) = true) (F : FnR X.prog X.w X.K X.mg X.base CX k f sp) (hr : Room (k + 1) X.A) (hx : Passes CX X E) (ha : PE X e ta) (hb : PE X o tb)
    (hsl : ∀ a i, subscripted o true (.ref a) i = runValue (.builtin "lifetime.subscript" ⟨[.ref a, i], []⟩) := by intro _ _; with_unfolding_all rfl) : PE X (.Subscript e o pos) (tOp (rOwnX C sp E) ta tb) := by
  refine ⟨fun pins s σ H Q I h => ?_⟩
  refine Subscript_ (binT ha hb I h fun v u s2 x y H2 I2 rx ry q2 => ?_)
  obtain ⟨a, dx, fs, rfl, hh, q⟩ := q2
  cases (show v = Value.ref a from rx)
  obtain ⟨od, J⟩ := inst_at I2 hh
  obtain ⟨m, hF⟩ := I2.fr
  refine PySem.W.sub_K hF I2.ok.mod.kin J hs hfi hf ?_ (hsl a u)
  exact wpAny_call (SlX.run_at (us := [.ref a, u]) (ws := [.ref a, y]) F hr.in1 I2.env0.in1 hx I2 (.cons rfl (.cons ry .nil)) q)
/-- y in x -/
def rOwnIn (C : Addr) (sp : Sp) (E : XK) (neg : Bool) : R2 := fun y x H Q => ∃ a dx fs, x = .ref a ∧ H a = some (.ins C dx fs) ∧ sp [x, y] H (fun z H' => ∃ b, z = .bl b ∧ Q (.bl (if neg then !b else b)) H') E
theorem op_inOwn (hs : PySem.W.findIn X.K (.ref C) "__contains__" = some (some (.ref f))) (hf : PySem.W.isFn X.K (.ref f) = true) (F : FnR X.prog X.w X.K X.mg X.base CX k f sp) (hr : Room k X.A) (hx : Passes CX X E) : OpR X (compareOp .In) (rOwnIn C sp E false) := by
  intro pins s σ H y x u v Q I ry rx h
  obtain ⟨a, dx, fs, rfl, ha, q⟩ := h
  cases (show v = Value.ref a from rx)
  obtain ⟨od, J⟩ := inst_at I ha
  obtain ⟨m, hF⟩ := I.fr
  refine PySem.W.in_K hF I.ok.mod.kin J hs hf (wpAny_mono (wpAny_call (run_fnR (us := [.ref a, u]) (vs := [.ref a, y]) F hr hx I (.cons rfl (.cons ry .nil)) q)) (fun w s' z => ?_) fun _ _ x => x)
  obtain ⟨z', H', I', rz, b, ez, qz⟩ := z
  subst ez
  cases (show w = Value.bool b from rz)
  exact wpAny_truthy_bool ⟨.bl b, H', I', rfl, qz⟩
end
theorem cx0 {P : Program} {w : World} {outer : List Env} {H : Hp} {s s' : Shared} {e : Value} (h : L2.CX P w outer H s E0 e s') : False := by
  obtain ⟨_, _, _, _, _, _, _, _, _, _, _, _, z⟩ := h
  exact z
/-! ### the same over data -/
section
variable {K : PySem.W.Frag} {δ : Sl} {O O1 O2 O3 : Ow} {d x y z : D} {ta tb tc te tv : TE} {t : TA} {i j : Int} {p C : Addr} {ds es : List D} {nm nm' : List Str} {b : Bool} {R : DR} {E : XK} {P : D → Ow → Prop}
theorem evp_run (h : EvA K t δ O ds O1) (hr : R ds O1 P) : EvP K (tRun (SpD K R) E t) δ O P := fun G H σ w s Q k =>
  h G H σ w s _ fun vs G1 H1 s1 i1 => sp_run s1.wd i1 hr fun d O' v G' H' hp st iv => k d O' v G' H' hp (s1.trans st) iv
theorem ev_run (h : EvA K t δ O ds O1) (hr : R ds O1 fun d' O' => d' = d ∧ O' = O2) : Ev K (tRun (SpD K R) E t) δ O d O2 := (evp_run h hr).ev
theorem evp_propR (h : Ev K te δ O (.ins C nm ds) O1) (hr : R [.ins C nm ds] O1 P) : EvP K (tPropR C (SpD K R) E te) δ O P := fun G H σ w s Q k =>
  h G H σ w s _ fun v G1 H1 s1 i1 => by
    have i2 := i1
    obtain ⟨p, dx, xs, rfl, e, _, t⟩ := i2
    exact ⟨p, dx, _, rfl, s1.wd.sub _ _ e, sp_run (ds := [.ins C nm ds]) s1.wd ⟨_, _, rfl, i1, rfl⟩ hr fun d O' v G' H' hp st iv => k d O' v G' H' hp (s1.trans st) iv⟩
theorem ev_propR (h : Ev K te δ O (.ins C nm ds) O1) (hr : R [.ins C nm ds] O1 fun d' O' => d' = d ∧ O' = O2) : Ev K (tPropR C (SpD K R) E te) δ O d O2 := (evp_propR h hr).ev
theorem evp_propO (h : Ev K te δ O (.ref p) O1) (ho : O1 p = some (.ins C nm ds)) (hr : R [.ref p] O1 P) : EvP K (tPropR C (SpD K R) E te) δ O P := fun G H σ w s Q k =>
  h G H σ w s _ fun v G1 H1 s1 i1 => by
    obtain ⟨_, dx, xs, e, _, t⟩ := s1.wd.own p _ ho
    exact ⟨p, dx, _, i1, e, sp_run (ds := [.ref p]) s1.wd ⟨_, _, rfl, rfl, rfl⟩ hr fun d O' v G' H' hp st iv => k d O' v G' H' hp (s1.trans st) iv⟩
theorem lookup_none {G : Hp} {f : Str} : ∀ {nm : List Str} {xs : List V}, f ∉ nm → (nm.zip xs).lookup f = none
  | [], _, _ => by simp
  | _ :: _, [], _ => by simp
  | n :: nm, x :: xs, h => by
    simp only [List.mem_cons, not_or] at h
    simp only [List.zip_cons_cons, List.lookup_cons]
    rw [beq_eq_false_iff_ne.mpr h.1]
    exact lookup_none (G := G) h.2
theorem evp_meth {m : Str} (h : Ev K ta δ O (.ins C nm ds) O1) (hm : m ∉ nm) (ht : EvA K t δ O1 es O2) (hr : R (.ins C nm ds :: es) O2 P) : EvP K (tMethR C m (SpD K R) E ta t) δ O P := fun G H σ w s Q k =>
  h G H σ w s _ fun v G1 H1 s1 i1 => by
    have i2 := i1
    obtain ⟨p, dx, xs, rfl, e, _, _⟩ := i2
    refine ⟨p, dx, _, rfl, s1.wd.sub _ _ e, lookup_none (G := G) hm, ht G1 H1 σ s1.wd (s.mono s1.ex) _ fun vs G2 H2 s2 i3 => ?_⟩
    exact sp_run (ds := .ins C nm ds :: es) s2.wd ⟨_, _, rfl, i1.mono s2.ex, i3⟩ hr fun d O' v G' H' hp st iv => k d O' v G' H' hp ((s1.trans s2).trans st) iv
theorem ev_meth {m : Str} (h : Ev K ta δ O (.ins C nm ds) O1) (hm : m ∉ nm) (ht : EvA K t δ O1 es O2) (hr : R (.ins C nm ds :: es) O2 fun d' O' => d' = d ∧ O' = O3) : Ev K (tMethR C m (SpD K R) E ta t) δ O d O3 := (evp_meth h hm ht hr).ev
theorem evp_methO {m : Str} (h : Ev K ta δ O (.ref p) O1) (ho : O1 p = some (.ins C nm ds)) (hm : m ∉ nm) (ht : EvA K t δ O1 es O2) (hr : R (.ref p :: es) O2 P) : EvP K (tMethR C m (SpD K R) E ta t) δ O P := fun G H σ w s Q k =>
  h G H σ w s _ fun v G1 H1 s1 i1 => by
    have i1 : v = .ref p := i1
    subst i1
    obtain ⟨_, dx, xs, e, _, _⟩ := s1.wd.own p _ ho
    refine ⟨p, dx, _, rfl, e, lookup_none (G := G) hm, ht G1 H1 σ s1.wd (s.mono s1.ex) _ fun vs G2 H2 s2 i3 => ?_⟩
    exact sp_run (ds := .ref p :: es) s2.wd ⟨_, _, rfl, rfl, i3⟩ hr fun d O' v G' H' hp st iv => k d O' v G' H' hp ((s1.trans s2).trans st) iv
/-- a new instance: its __init__ gets it as an owned one without fields -/
theorem evp_mk (h : EvA K t δ O ds O1) (hr : ∀ x, O1 x = none → R (.ref x :: ds) (setO O1 x (.ins C [] [])) fun d' O' => d' = .non ∧ P (.ref x) O') : EvP K (StX.tMakeR C (SpD K R) E t) δ O P := fun G H σ w s Q k =>
  h G H σ w s _ fun vs G1 H1 s1 i1 x dx hx hdx ne => by
    have hxd : (upd H1 dx (.own x)) x = none := by rw [upd_ne (Ne.symm ne)]; exact hx
    have st1 := Stp.newF (o := .own x) s1.wd hdx
    have st2 := Stp.newO (o := .ins C dx []) (m := .ins C [] []) st1.wd hxd ⟨dx, [], upd_same, rfl, rfl⟩
    refine sp_run (ds := .ref x :: ds) st2.wd ⟨_, _, rfl, rfl, i1.mono (st1.trans st2).ex⟩ (hr x (s1.wd.oNone hx)) fun d O' v G' H' hp st iv => ?_
    obtain ⟨rfl, hp⟩ := hp
    exact ⟨iv, k (.ref x) O' _ G' H' hp (s1.trans ((st1.trans st2).trans st)) rfl⟩
/-- .. that is plain data from then on -/
theorem ev_mk (h : EvA K t δ O ds O1) (hr : ∀ x, O1 x = none → R (.ref x :: ds) (setO O1 x (.ins C [] [])) fun d' O' => d' = .non ∧ O' = setO O1 x (.ins C nm es)) : Ev K (StX.tMakeR C (SpD K R) E t) δ O (.ins C nm es) O1 := fun G H σ w s Q k => by
  refine evp_mk (P := fun d O' => ∃ x, O1 x = none ∧ d = .ref x ∧ O' = setO O1 x (.ins C nm es)) h (fun x hx => ?_) G H σ w s Q fun d O' v G' H' hp st iv => ?_
  · have z := hr x hx
    have e : (fun (d' : D) (O' : Ow) => d' = .non ∧ ∃ x', O1 x' = none ∧ D.ref x = .ref x' ∧ O' = setO O1 x' (.ins C nm es)) = fun d' O' => d' = .non ∧ O' = setO O1 x (.ins C nm es) := by
      funext d' O'
      refine propext ⟨fun ⟨a, x', b, c, e⟩ => ?_, fun ⟨a, e⟩ => ⟨a, x, hx, rfl, e⟩⟩
      cases c
      exact ⟨a, e⟩
    rw [e]
    exact z
  · obtain ⟨x, hx, rfl, rfl⟩ := hp
    have iv : v = .ref x := iv
    subst iv
    obtain ⟨_, dx, xs, e, hl, tl⟩ := st.wd.own x _ setO_same
    have st2 := Stp.pubI st.wd setO_same e
    rw [delO_setO hx] at st2
    exact k _ _ _ (st.trans st2) ⟨x, dx, xs, rfl, upd_same, hl, tl.mono st2.ex⟩
theorem ev_isC {k : Nat} (hk : δ[k]? = some (some (.ref C))) (h : Ev K te δ O d O1) : Ev K (tIsC C k te) δ O d O1 := fun G H σ w s Q kk => by
  obtain ⟨v, a, b⟩ := s.at_ k _ hk
  cases (show v = .ref C from b)
  exact ⟨a, h G H σ w s Q kk⟩
theorem ea_starT (h : Ev K te δ O (.tup ds) O1) (ht : EvA K t δ O1 es O2) : EvA K (StX.tStar K te t) δ O (ds ++ es) O2 := fun G H σ w s Q k =>
  h G H σ w s _ fun v G1 H1 s1 i1 => by
    obtain ⟨p, xs, rfl, e, tl⟩ := i1
    exact ⟨p, xs, rfl, .inl (.inl (.inl (s1.wd.sub _ _ e))), ht G1 H1 σ s1.wd (s.mono s1.ex) _ fun vs G2 H2 s2 i2 => k _ G2 H2 (s1.trans s2) ((tl.mono s2.ex).append i2)⟩
theorem ea_starL (h : Ev K te δ O (.lst ds) O1) (ht : EvA K t δ O1 es O2) : EvA K (StX.tStar K te t) δ O (ds ++ es) O2 := fun G H σ w s Q k =>
  h G H σ w s _ fun v G1 H1 s1 i1 => by
    obtain ⟨p, xs, rfl, e, tl⟩ := i1
    exact ⟨p, xs, rfl, .inr (.inl (.inl (s1.wd.sub _ _ e))), ht G1 H1 σ s1.wd (s.mono s1.ex) _ fun vs G2 H2 s2 i2 => k _ G2 H2 (s1.trans s2) ((tl.mono s2.ex).append i2)⟩
theorem evp_ownS (ha : Ev K ta δ O (.ins C nm ds) O1) (hb : Ev K tb δ O1 (.ins C nm' es) O2) (hr : R [.ins C nm ds, .ins C nm' es] O2 P) : EvP K (tOp (rOwnS C (SpD K R) E) ta tb) δ O P := fun G H σ w s Q k =>
  ha G H σ w s _ fun v G1 H1 s1 i1 => hb G1 H1 σ s1.wd (s.mono s1.ex) _ fun u G2 H2 s2 i2 => by
    have j1 := i1.mono s2.ex
    have k1 := j1
    have k2 := i2
    obtain ⟨p, dx, xs, rfl, e, _, _⟩ := k1
    obtain ⟨q, dy, ys, rfl, e', _, _⟩ := k2
    exact ⟨p, dx, _, q, dy, _, rfl, rfl, s2.wd.sub _ _ e, s2.wd.sub _ _ e', sp_run (ds := [.ins C nm ds, .ins C nm' es]) s2.wd ⟨_, _, rfl, j1, _, _, rfl, i2, rfl⟩ hr fun d O' v G' H' hp st iv => k d O' v G' H' hp ((s1.trans s2).trans st) iv⟩
theorem ev_ownS (ha : Ev K ta δ O (.ins C nm ds) O1) (hb : Ev K tb δ O1 (.ins C nm' es) O2) (hr : R [.ins C nm ds, .ins C nm' es] O2 fun d' O' => d' = d ∧ O' = O3) : Ev K (tOp (rOwnS C (SpD K R) E) ta tb) δ O d O3 := (evp_ownS ha hb hr).ev
theorem ev_ownI (ha : Ev K ta δ O (.ins C nm ds) O1) (hb : Ev K tb δ O1 (.int i) O2) (hr : R [.ins C nm ds, .int i] O2 fun d' O' => d' = d ∧ O' = O3) : Ev K (tOp (rOwnI C (SpD K R) E) ta tb) δ O d O3 := EvP.ev fun G H σ w s Q k =>
  ha G H σ w s _ fun v G1 H1 s1 i1 => hb G1 H1 σ s1.wd (s.mono s1.ex) _ fun u G2 H2 s2 i2 => by
    have j1 := i1.mono s2.ex
    have k1 := j1
    obtain ⟨p, dx, xs, rfl, e, _, _⟩ := k1
    exact ⟨p, dx, _, i, rfl, i2, s2.wd.sub _ _ e, sp_run (ds := [.ins C nm ds, .int i]) s2.wd ⟨_, _, rfl, j1, _, _, rfl, i2, rfl⟩ hr fun d O' v G' H' hp st iv => k d O' v G' H' hp ((s1.trans s2).trans st) iv⟩
theorem ev_own1 (ha : Ev K ta δ O (.ins C nm ds) O1) (hr : R [.ins C nm ds] O1 fun d' O' => d' = d ∧ O' = O3) : Ev K (tUn (rOwn1 C (SpD K R) E) ta) δ O d O3 := EvP.ev fun G H σ w s Q k =>
  ha G H σ w s _ fun v G1 H1 s1 i1 => by
    have k1 := i1
    obtain ⟨p, dx, xs, rfl, e, _, _⟩ := k1
    exact ⟨p, dx, _, rfl, s1.wd.sub _ _ e, sp_run (ds := [.ins C nm ds]) s1.wd ⟨_, _, rfl, i1, rfl⟩ hr fun d O' v G' H' hp st iv => k d O' v G' H' hp (s1.trans st) iv⟩
theorem ev_ownX (ha : Ev K ta δ O (.ins C nm ds) O1) (hb : Ev K tb δ O1 y O2) (hr : R [.ins C nm ds, y] O2 fun d' O' => d' = d ∧ O' = O3) : Ev K (tOp (rOwnX C (SpD K R) E) ta tb) δ O d O3 := EvP.ev fun G H σ w s Q k =>
  ha G H σ w s _ fun v G1 H1 s1 i1 => hb G1 H1 σ s1.wd (s.mono s1.ex) _ fun u G2 H2 s2 i2 => by
    have j1 := i1.mono s2.ex
    have k1 := j1
    obtain ⟨p, dx, xs, rfl, e, _, _⟩ := k1
    exact ⟨p, dx, _, rfl, s2.wd.sub _ _ e, sp_run (ds := [.ins C nm ds, y]) s2.wd ⟨_, _, rfl, j1, _, _, rfl, i2, rfl⟩ hr fun d O' v G' H' hp st iv => k d O' v G' H' hp ((s1.trans s2).trans st) iv⟩
theorem ev_ownIn {neg b : Bool} (ha : Ev K ta δ O y O1) (hb : Ev K tb δ O1 (.ins C nm ds) O2) (hr : R [.ins C nm ds, y] O2 fun d' O' => d' = .bl b ∧ O' = O3) : Ev K (tOp (rOwnIn C (SpD K R) E neg) ta tb) δ O (.bl (if neg then !b else b)) O3 := fun G H σ w s Q k =>
  ha G H σ w s _ fun v G1 H1 s1 i1 => hb G1 H1 σ s1.wd (s.mono s1.ex) _ fun u G2 H2 s2 i2 => by
    have k1 := i2
    obtain ⟨p, dx, xs, rfl, e, _, _⟩ := k1
    refine ⟨p, dx, _, rfl, s2.wd.sub _ _ e, sp_run (ds := [.ins C nm ds, y]) s2.wd ⟨_, _, rfl, i2, _, _, rfl, i1.mono s2.ex, rfl⟩ hr fun d O' v G' H' hp st iv => ?_⟩
    obtain ⟨rfl, rfl⟩ := hp
    exact ⟨b, iv, k _ G' H' ((s1.trans s2).trans st) rfl⟩
end
end DL

set_option Elab.async false
set_option linter.all false
set_option maxRecDepth 100000
namespace PySem
open Sem (wp)
set_option maxHeartbeats 1000000 in
theorem meets_enumerate_newB1 {v : Value} {o : Obj} {H : Heap → Prop} (B : Begins v o H) :
    Meets (Builtin.«enumerate.__new__» ⟨[.type "enumerate", v], []⟩) (fun _ R s => H s.heap ∧
      R (.ok (.ret (.ref (s.heap.push o).objs.size))) { s with heap := (s.heap.push o).push { cls := .type "enumerate", data := .fields #[.none, .bool false, .ref s.heap.objs.size, rawInt 0, .none, .none] } }) :=
  .of_wp fun prog w A R s h => by
    obtain ⟨hp, g, d, tk, os⟩ := s; obtain ⟨h1, h⟩ := h
    have hsub := sub_enumerate
    have q1 : ∀ {A' : Around} {E : Value → Shared → Prop} {Q : Value → Shared → Prop}, Q (.ref hp.objs.size) ⟨hp.push o, g, d, tk, os⟩ → wpAny (model prog w) A' (pyIter v) Q E ⟨hp, g, d, tk, os⟩ :=
      fun q => B.iter prog w _ _ ⟨hp, g, d, tk, os⟩ _ h1 q
    wp_walk using q1
    refine wpAny_stack_any fun st => wpAny_pure ?_
    split
    · rename_i c _ _ _ _ _
      cases (c == Value.type "enumerate")
      · wp_walk using q1
        exact ⟨_, rfl, h⟩
      · wp_walk using q1
        exact ⟨_, rfl, h⟩
    · wp_walk using q1
      exact ⟨_, rfl, h⟩
theorem enum_begins1 {prog : Program} {w : World} {A : Around} {E : Value → Shared → Prop} {s : Shared} {v : Value} {o : Obj} {H : Heap → Prop} {Q : Value → Shared → Prop} (B : Begins v o H) (h1 : H s.heap)
    (h : ∀ h', IsEnum h' (s.heap.objs.size + 1) s.heap.objs.size 0 .none → h'.get? s.heap.objs.size = some o → h'.objs.size = s.heap.objs.size + 2 →
      (∀ b o, s.heap.get? b = some o → h'.get? b = some o) → Q (.ref (s.heap.objs.size + 1)) { s with heap := h' }) :
    wpAny (model prog w) A (call (.type "enumerate") [v]) Q E s := by
  refine callType_new F.called_enumerate (by decide) (F.typeCall_enumerate_1 _) (F.newCall_enumerate_1 _) (fun obj => F.args_object_init_2 obj _) F.entry_enumerate_new
    (meets_enumerate_newB1 B) ⟨h1, ?_⟩
  have hz : (s.heap.push o).objs.size = s.heap.objs.size + 1 := Heap.size_push ..
  show _ ∧ _
  rw [hz]
  have he : IsEnum ((s.heap.push o).push { cls := .type "enumerate", data := .fields #[.none, .bool false, .ref s.heap.objs.size, rawInt 0, .none, .none] }) (s.heap.objs.size + 1) s.heap.objs.size 0 .none := by
    have := Heap.get?_push_size (s.heap.push o) (o := { cls := .type "enumerate", data := .fields #[.none, .bool false, .ref s.heap.objs.size, rawInt 0, .none, .none] }) rfl
    rw [hz] at this; exact this
  refine ⟨⟨_, he, rfl⟩, h _ he (Heap.get?_push_of_some _ (Heap.get?_push_size _ B.free)) (by rw [Heap.size_push, hz]) fun b o x => Heap.get?_push_of_some _ (Heap.get?_push_of_some _ x)⟩
theorem enumT_end {prog : Program} {w : World} {A : Around} {E : Value → Shared → Prop} {s : Shared} {e it l : Addr} {i : Nat} {items : Array Value} {old : Value} {Q : Option Value → Shared → Prop} (hh : A.handled = none)
    (he : IsEnum s.heap e it i old) (hit : s.heap.IsTupleIter it l i) (hl : s.heap.IsTuple l items) (hx : items[i]? = none)
    (hQ : ∀ h', Heap.ExtBut it s.heap h' → Q none { s with heap := h' }) : wpAny (model prog w) A (pyNext (.ref e)) Q E s := by
  have hT : s.TypeIs (.ref e) "enumerate" := ⟨_, he, rfl⟩
  unfold pyNext
  refine wpAny_bind (wpAny_attempt (wpAny_callSpecial?_slot (name := Str.ofString "__next__") hT F.slot_enumerate_next
    (wpAny_call_entry F.slot_enumerate_next hT F.entry_enumerate_next ?_ (F.args_enumerate_next_1 _))))
  show wpAny _ _ (field (.ref e) 2 >>= _) _ _ _
  refine wpAny_bind (wpAny_field he rfl (x := .ref it) rfl ?_)
  refine wpAny_bind (wpAny_nextOf_tuple_end hh hit hl hx fun h' x he' hx' => ?_)
  obtain ⟨o, ho, hc⟩ := hx'
  refine wpAny_bind (wpAny_isInstance (T := "StopIteration") (b := true) ⟨o, ho, hc⟩ isSubtype_stop ?_)
  exact wpAny_pure (hQ _ he')
end PySem
namespace DL
open PySem PySem.Spec L2
open PyProof.Rows hiding St
/-! ### enumerate(tuple) -/
def IteT (K : PySem.W.Frag) (a : Addr) : It :=
  ⟨fun i H => ∃ (xs : List V) (x : V), SqT K H a xs ∧ xs[i]? = some x, fun i H v H' => ∃ T x, v = .ref T ∧ H T = none ∧ H' = upd H T (.tup [.int (i : Nat), x]) ∧ ∀ xs, SqT K H a xs → xs[i]? = some x, fun i H => ∃ xs : List V, SqT K H a xs ∧ xs.length ≤ i⟩
theorem sqt_inj {X : Cx} {pins : List (Addr × Obj)} {σ : St} {H : Hp} {s : Shared} {a : Addr} {xs ys : List V} (I : Inv X pins σ H s) (h1 : SqT X.K H a xs) (h2 : SqT X.K H a ys) : xs = ys := I.tuple_inj h1 h2
theorem turn_enumT {P : Program} {w : World} {K : PySem.W.Frag} {elts : List Expr} {kk : Nat} {tpos : Pos} (a e it : Addr) :
    Turn P w K (.Tuple elts kk tpos) (IteT K a) [e, it] e (fun i h => (∃ old, IsEnum h e it ((i : Nat) : Int) old) ∧ h.IsTupleIter it a i ∧ e ≠ it ∧ a ≠ it ∧ a ≠ e) where
  mem := by simp
  obj := fun i h st b hb => by
    obtain ⟨⟨old, he⟩, ⟨o, ho, hc, hd⟩, _⟩ := st
    have e' : b = e ∨ b = it := by simpa using hb
    rcases e' with z | z
    · rw [z]; exact ⟨_, he, fun v q => nomatch q⟩
    · rw [z]; exact ⟨o, ho, fun v q => by rw [hd] at q; cases q⟩
  keep := fun i h h' st k => let ⟨⟨old, he⟩, hi, hne⟩ := st; ⟨⟨old, k e (by simp) _ he⟩, hi.at fun o q => k it (by simp) o q, hne⟩
  item := by
    intro X hP hw hK hc i pins s σ H E I hf st hg
    subst hP hw hK
    obtain ⟨⟨old, he⟩, hit, hne, ha1, ha2⟩ := st
    obtain ⟨xs, x, hq, hx⟩ := hg
    obtain ⟨its, rv, pt, hz⟩ := I.tuple hq
    obtain ⟨u, hu, ru⟩ := rv.get hx
    have hel : e < s.heap.objs.size := Heap.lt_size he
    have hil : it < s.heap.objs.size := by obtain ⟨_, q, _⟩ := hit; exact Heap.lt_size q
    have hT : s.heap.IsTuple a its.toArray := pt
    have hlt : i < its.toArray.size := by
      have := (List.getElem?_eq_some_iff.mp hu).1
      simpa using this
    refine wpAny_pyNext_enum_itemD (Draws.tuple (A := X.A.in1) (I.ok.hd hc) it a ha1 its.toArray) he ⟨hit, hT⟩ hlt hne (by simp [hne, Ne.symm ha2]) fun y h' tk hy ho hst' hT' hsz hk => ?_
    have ey : y = u := by
      have hy : its.toArray[i]? = some y := hy
      rw [List.getElem?_toArray, hu] at hy
      exact (Option.some.inj hy).symm
    subst ey
    refine ⟨_, rfl, wpAny_letOwnedTupleGo_enum (s := { s with heap := h', toks := tk + 1 }) ho fun h'' he' sb => ?_⟩
    have hT2 : h''.get? s.heap.objs.size = some { cls := .type "tuple", data := .seq #[.int i tk, y] } := (sb.2 _ (Nat.ne_of_gt hel)).trans hT'
    have new : ObjOk X.prog X.w (upd H s.heap.objs.size (.tup [.int (i : Nat), x])) h'' s.heap.objs.size (.tup [.int (i : Nat), x]) :=
      ⟨by show 2 ≤ sizeLine; decide, [.int i tk, y], .cons ⟨_, rfl⟩ (.cons ru .nil), ⟨_, hT2, rfl, _, rfl⟩⟩
    have I1 : Inv X pins σ (upd H s.heap.objs.size (.tup [.int (i : Nat), x])) { s with heap := h'', toks := tk + 1 } :=
      I.turnedNew (ch := [e, it]) (fun b ob hb q => (sb.2 b (fun z => hb (by simp [z]))).trans (hk b ob (fun z => hb (by simp [z])) (fun z => hb (by simp [z])) q)) hf (Nat.le_refl _) new
    refine ⟨.ref s.heap.objs.size, _, I1, rfl, ⟨_, x, rfl, I.hok.fresh (Nat.le_refl _), rfl, fun ys hy => by rw [sqt_inj I hy hq]; exact hx⟩, ⟨⟨y, ?_⟩, hst'.1.at fun o q => (sb.2 it (Ne.symm hne)).trans q, hne, ha1, ha2⟩, fun b hb => ?_⟩
    · have e1 : ((i + 1 : Nat) : Int) = (i : Int) + 1 := by omega
      rw [e1]; exact he'
    · have hb' : b < s.heap.objs.size := by
        have e' : b = e ∨ b = it := by simpa using hb
        rcases e' with z | z
        · rw [z]; exact hel
        · rw [z]; exact hil
      rw [upd_ne (Nat.ne_of_lt hb')]
      exact (hf b hb).1
  done := by
    intro X hP hw hK hc i pins s σ H E I hf st hg
    subst hP hw hK
    obtain ⟨⟨old, he⟩, hit, hne, ha1, ha2⟩ := st
    obtain ⟨xs, hq, hx⟩ := hg
    obtain ⟨its, rv, pt, hz⟩ := I.tuple hq
    obtain ⟨f0, f1, f2, f3, f4, f5⟩ := hf it (by simp)
    have hl := rv.length
    have hT : s.heap.IsTuple a its.toArray := pt
    exact enumT_end (I.ok.hd hc) he hit hT (by simp; omega) fun h' eb => ⟨rfl, I.turned (t' := s.toks) (fun b o hb q => eb b o hb q) f0 f1 f3 f4 f5⟩
  self := fun A i s Q E st h => let ⟨⟨_, he⟩, _⟩ := st; wpAny_pyIter_enum he h
def iEnumT (K : PySem.W.Frag) (ta : TA) : TI := fun σ H R => ta σ H fun vs H1 => ∃ a xs, vs = [.ref a] ∧ SqT K H1 a xs ∧ R (IteT K a) H1
theorem pi_enumT {X : Cx} {e : Expr} {ta : TA} {p pos tpos : Pos} {elts : List Expr} {kk : Nat} (hm : X.mg "enumerate" = none) (ha : PA X [e] ta) (hg : Gl X "enumerate" := by rfl) (hs : starEach [e] X.env = [(false, eval e X.env)] := by rfl) :
    PI X (.Tuple elts kk tpos) (.Call (.Name "enumerate" p) [e] [] pos) (iEnumT X.K ta) := by
  refine ⟨fun pins s σ H R I h => ?_⟩
  refine Call_ (ld_blt I hg hm boot_enumerate (PyProof.Rows.callWith_type1 (thn (ha.run pos pins s σ H _ I h) fun us s1 ⟨vs, H1, I1, r1, q1⟩ => ?_) hs rfl))
  obtain ⟨a, xs, ex, hq, q⟩ := q1
  subst ex
  cases r1 with
  | cons r rr =>
    cases rr
    cases r
    obtain ⟨its, rv, p', hz⟩ := I1.tuple hq
    have hal : a < s1.heap.objs.size := by obtain ⟨o, ho, _⟩ := p'; exact Heap.lt_size ho
    refine enum_begins1 (begins_tuple a its.toArray) p' fun h' he hit hsz hk => wpAny_pyIter_enum he ?_
    have I2 : Inv X pins σ H1 { s1 with heap := h' } := I1.kept (t' := s1.toks) hk
    refine ⟨s1.heap.objs.size + 1, [s1.heap.objs.size + 1, s1.heap.objs.size], _, _, H1, rfl, I2, turn_enumT a (s1.heap.objs.size + 1) s1.heap.objs.size, ⟨⟨.none, he⟩, ⟨_, hit, rfl, rfl⟩, Nat.succ_ne_self _, Nat.ne_of_lt hal, Nat.ne_of_lt (Nat.lt_succ_of_lt hal)⟩, fun b hb => ?_, q⟩
    have e' : b = s1.heap.objs.size + 1 ∨ b = s1.heap.objs.size := by simpa using hb
    have hle : s1.heap.objs.size ≤ b := by
      rcases e' with z | z
      · rw [z]; exact Nat.le_add_right _ _
      · rw [z]; exact Nat.le_refl _
    exact I1.fpOk hle (I1.hok.fresh hle)
section
variable {K : PySem.W.Frag} {δ : Sl} {O O1 O2 O3 : Ow} {d x y z : D} {ta tb tc te tv : TE} {t : TA} {i j : Int} {p C : Addr} {ds es : List D} {nm nm' : List Str} {b : Bool} {R : DR} {E : XK} {P : D → Ow → Prop}
/-- the pairs that enumerate gives -/
def enumD (ds : List D) : List D := ds.mapIdx fun k d => .tup [.int (k : Nat), d]
theorem enumD_get {ds : List D} {k : Nat} : (enumD ds)[k]? = (ds[k]?).map fun d => .tup [.int (k : Nat), d] := by simp [enumD, List.getElem?_mapIdx]
theorem ei_enumT (h : EvA K t δ O [.tup ds] O1) : EvI K (iEnumT K t) δ O (enumD ds) O1 := fun G H σ w s R k =>
  h G H σ w s _ fun vs G1 H1 s1 i1 => by
    obtain ⟨v, rfl, p, xs, rfl, e, tl⟩ := isL1 i1
    refine ⟨p, xs, rfl, .inl (.inl (s1.wd.sub _ _ e)), k _ G1 H1 s1 fun G' O' H' sb w' i => ?_⟩
    have e' : SqT K H' p xs := .inl (.inl (w'.sub _ _ (sb _ _ e)))
    refine ⟨fun d hd => ?_, fun hn => ⟨xs, e', by rw [← tl.length]; rw [enumD_get, Option.map_eq_none_iff] at hn; exact List.getElem?_eq_none_iff.mp hn⟩⟩
    rw [enumD_get] at hd
    cases q : ds[i]? with
    | none => rw [q] at hd; cases hd
    | some d0 =>
      rw [q] at hd
      cases hd
      obtain ⟨u, hu, iu⟩ := tl.get q
      refine ⟨⟨xs, u, e', hu⟩, fun x H'' hy => ?_⟩
      obtain ⟨T, u', rfl, hT, rfl, fx⟩ := hy
      have ex : u = u' := Option.some.inj (hu.symm.trans (fx xs e'))
      subst ex
      have st := Stp.new (o := .tup [.int (i : Nat), u]) w' hT
      exact ⟨_, st, T, _, rfl, upd_same, _, _, rfl, rfl, _, _, rfl, (iu.mono sb).mono st.ex, rfl⟩
/-- the pairs that zip gives -/
def zipD (ds es : List D) : List D := (ds.zip es).map fun q => .tup [q.1, q.2]
theorem zipD_get {ds es : List D} {k : Nat} : (zipD ds es)[k]? = ((ds.zip es)[k]?).map fun q => .tup [q.1, q.2] := by simp [zipD]
theorem ei_zipL (h : EvA K t δ O [.lst ds, .lst es] O1) : EvI K (RZ.iZipA K t) δ O (zipD ds es) O1 := fun G H σ w s R k =>
  h G H σ w s _ fun vs G1 H1 s1 i1 => by
    obtain ⟨v, u, rfl, ⟨p, xs, rfl, e, tl⟩, ⟨q, ys, rfl, e2, tl2⟩⟩ := isL2 i1
    refine ⟨p, q, xs, ys, rfl, .inl ⟨.inl (.inl (s1.wd.sub _ _ e)), .inl (.inl (s1.wd.sub _ _ e2)), k _ G1 H1 s1 fun G' O' H' sb w' i => ?_⟩⟩
    have e' : SqL K H' p xs := .inl (.inl (w'.sub _ _ (sb _ _ e)))
    have e2' : SqL K H' q ys := .inl (.inl (w'.sub _ _ (sb _ _ e2)))
    refine ⟨fun d hd => ?_, fun hn => ⟨xs, ys, e', e2', ?_⟩⟩
    · rw [zipD_get] at hd
      cases h1 : ds[i]? with
      | none => rw [List.getElem?_eq_none (by rw [List.length_zip]; have := List.getElem?_eq_none_iff.mp h1; omega)] at hd; cases hd
      | some d1 =>
        cases h2 : es[i]? with
        | none => rw [List.getElem?_eq_none (by rw [List.length_zip]; have := List.getElem?_eq_none_iff.mp h2; omega)] at hd; cases hd
        | some d2 =>
          rw [(show (ds.zip es)[i]? = some (d1, d2) from List.getElem?_zip_eq_some.mpr ⟨h1, h2⟩)] at hd
          cases hd
          obtain ⟨u1, hu1, iu1⟩ := tl.get h1
          obtain ⟨u2, hu2, iu2⟩ := tl2.get h2
          refine ⟨⟨xs, ys, u1, u2, e', e2', hu1, hu2⟩, fun x H'' hy => ?_⟩
          obtain ⟨T, w1, w2, rfl, hT, rfl, fx, fy⟩ := hy
          have ex : u1 = w1 := Option.some.inj (hu1.symm.trans (fx xs e'))
          have ey : u2 = w2 := Option.some.inj (hu2.symm.trans (fy ys e2'))
          subst ex; subst ey
          have st := Stp.new (o := .tup [u1, u2]) w' hT
          exact ⟨_, st, T, _, rfl, upd_same, _, _, rfl, (iu1.mono sb).mono st.ex, _, _, rfl, (iu2.mono sb).mono st.ex, rfl⟩
    · rw [zipD_get, Option.map_eq_none_iff, List.getElem?_eq_none_iff, List.length_zip] at hn
      rw [← tl.length, ← tl2.length]
      omega
theorem ei_zipT (h : EvA K t δ O [.tup ds, .tup es] O1) : EvI K (RZ.iZipA K t) δ O (zipD ds es) O1 := fun G H σ w s R k =>
  h G H σ w s _ fun vs G1 H1 s1 i1 => by
    obtain ⟨v, u, rfl, ⟨p, xs, rfl, e, tl⟩, ⟨q, ys, rfl, e2, tl2⟩⟩ := isL2 i1
    refine ⟨p, q, xs, ys, rfl, .inr ⟨.inl (.inl (s1.wd.sub _ _ e)), .inl (.inl (s1.wd.sub _ _ e2)), k _ G1 H1 s1 fun G' O' H' sb w' i => ?_⟩⟩
    have e' : SqT K H' p xs := .inl (.inl (w'.sub _ _ (sb _ _ e)))
    have e2' : SqT K H' q ys := .inl (.inl (w'.sub _ _ (sb _ _ e2)))
    refine ⟨fun d hd => ?_, fun hn => ⟨xs, ys, e', e2', ?_⟩⟩
    · rw [zipD_get] at hd
      cases h1 : ds[i]? with
      | none => rw [List.getElem?_eq_none (by rw [List.length_zip]; have := List.getElem?_eq_none_iff.mp h1; omega)] at hd; cases hd
      | some d1 =>
        cases h2 : es[i]? with
        | none => rw [List.getElem?_eq_none (by rw [List.length_zip]; have := List.getElem?_eq_none_iff.mp h2; omega)] at hd; cases hd
        | some d2 =>
          rw [(show (ds.zip es)[i]? = some (d1, d2) from List.getElem?_zip_eq_some.mpr ⟨h1, h2⟩)] at hd
          cases hd
          obtain ⟨u1, hu1, iu1⟩ := tl.get h1
          obtain ⟨u2, hu2, iu2⟩ := tl2.get h2
          refine ⟨⟨xs, ys, u1, u2, e', e2', hu1, hu2⟩, fun x H'' hy => ?_⟩
          obtain ⟨T, w1, w2, rfl, hT, rfl, fx, fy⟩ := hy
          have ex : u1 = w1 := Option.some.inj (hu1.symm.trans (fx xs e'))
          have ey : u2 = w2 := Option.some.inj (hu2.symm.trans (fy ys e2'))
          subst ex; subst ey
          have st := Stp.new (o := .tup [u1, u2]) w' hT
          exact ⟨_, st, T, _, rfl, upd_same, _, _, rfl, (iu1.mono sb).mono st.ex, _, _, rfl, (iu2.mono sb).mono st.ex, rfl⟩
    · rw [zipD_get, Option.map_eq_none_iff, List.getElem?_eq_none_iff, List.length_zip] at hn
      rw [← tl.length, ← tl2.length]
      omega
/-! ### slices -/
def cutD (ds : List D) (lo hi : Option Int) : List D := (ds.drop (HT.sIx ds.length 0 lo)).take (HT.sIx ds.length ds.length hi - HT.sIx ds.length 0 lo)
theorem cut_is {G : Hp} {vs : List V} {lo hi : Option Int} (h : IsL K G ds vs) : IsL K G (cutD ds lo hi) (cutV vs lo hi) := by
  unfold cutD cutV
  rw [h.length]
  exact (h.drop _).take _
def EvO (K : PySem.W.Frag) (to : TO) (δ : Sl) (O : Ow) (o : Option Int) (O' : Ow) : Prop :=
  ∀ G H σ, Wd K G O H → SlIs K G δ σ → ∀ Q : Option Int → Hp → Prop, (∀ G' H', Stp K G O H G' O' H' → Q o H') → to σ H Q
theorem eo_none : EvO K tNoPart δ O none O := fun G H σ w s Q k => k G H (Stp.refl w)
theorem eo_some (h : Ev K te δ O (.int i) O1) : EvO K (tPart te) δ O (some i) O1 := fun G H σ w s Q k => h G H σ w s _ fun v G1 H1 s1 i1 => ⟨i, i1, k G1 H1 s1⟩
theorem ev_slL {tl th : TO} {lo hi : Option Int} (h : Ev K te δ O (.lst ds) O1) (h1 : EvO K tl δ O1 lo O2) (h2 : EvO K th δ O2 hi O3) : Ev K (tSl (rSlL K) te tl th) δ O (.lst (cutD ds lo hi)) O3 := fun G H σ w s Q k =>
  h G H σ w s _ fun v G1 H1 s1 i1 => h1 G1 H1 σ s1.wd (s.mono s1.ex) _ fun G2 H2 s2 => h2 G2 H2 σ s2.wd (s.mono (s1.ex.trans s2.ex)) _ fun G3 H3 s3 => by
    obtain ⟨p, xs, rfl, e, t⟩ := i1
    refine ⟨p, xs, rfl, .inl (.inl (s3.wd.sub _ _ (s3.ex _ _ (s2.ex _ _ e)))), fun l hl => ?_⟩
    have st := Stp.new (o := .lst (cutV xs lo hi)) s3.wd hl
    exact k _ _ _ (((s1.trans s2).trans s3).trans st) ⟨l, _, rfl, upd_same, ((cut_is t).mono (s2.ex.trans s3.ex)).mono st.ex⟩
/-! ### class constants, class methods, calls of instances -/
theorem ev_cval {mc : Value} {f : Str} {v : V} {u : Value} (h : Ev K te δ O (.ref C) O1) (r : ClX.CRead K C mc) (c : ClX.CVal K C mc f v u) (hv : v = vOf d) (hf : flatD d = true) : Ev K (ClX.tCVal K te f) δ O d O1 := fun G H σ w s Q k =>
  h G H σ w s _ fun x G1 H1 s1 i1 => ⟨C, mc, v, u, i1, r, c, k v G1 H1 s1 (by subst hv; cases d <;> first | rfl | cases hf)⟩
theorem evp_cmeth (h : Ev K ta δ O (.ref C) O1) (ht : EvA K t δ O1 es O2) (hr : R (.ref C :: es) O2 P) : EvP K (ClX.tCMeth C (SpD K R) E ta t) δ O P := fun G H σ w s Q k =>
  h G H σ w s _ fun v G1 H1 s1 i1 => ⟨i1, ht G1 H1 σ s1.wd (s.mono s1.ex) _ fun vs G2 H2 s2 i3 =>
    sp_run (ds := .ref C :: es) s2.wd ⟨_, _, rfl, rfl, i3⟩ hr fun d O' v G' H' hp st iv => k d O' v G' H' hp ((s1.trans s2).trans st) iv⟩
theorem ev_cmeth (h : Ev K ta δ O (.ref C) O1) (ht : EvA K t δ O1 es O2) (hr : R (.ref C :: es) O2 fun d' O' => d' = d ∧ O' = O3) : Ev K (ClX.tCMeth C (SpD K R) E ta t) δ O d O3 := (evp_cmeth h ht hr).ev
theorem evp_callO {X : Cx} (h : Ev K ta δ O (.ins C nm ds) O1) (ht : EvA K t δ O1 es O2) (hr : R (.ins C nm ds :: es) O2 P) : EvP K (StX.tCallO X C (SpD K R) E ta t) δ O P := fun G H σ w s Q k =>
  h G H σ w s _ fun v G1 H1 s1 i1 => by
    have i2 := i1
    obtain ⟨p, dx, xs, rfl, e, _, _⟩ := i2
    exact ⟨p, rfl, ht G1 H1 σ s1.wd (s.mono s1.ex) _ fun vs G2 H2 s2 i3 => ⟨.inr ⟨dx, _, s2.wd.sub _ _ (s2.ex _ _ e)⟩, sp_run (ds := .ins C nm ds :: es) s2.wd ⟨_, _, rfl, i1.mono s2.ex, i3⟩ hr fun d O' v G' H' hp st iv => k d O' v G' H' hp ((s1.trans s2).trans st) iv⟩⟩
theorem ev_callO {X : Cx} (h : Ev K ta δ O (.ins C nm ds) O1) (ht : EvA K t δ O1 es O2) (hr : R (.ins C nm ds :: es) O2 fun d' O' => d' = d ∧ O' = O3) : Ev K (StX.tCallO X C (SpD K R) E ta t) δ O d O3 := (evp_callO h ht hr).ev
/-! ### == of data -/
mutual
def toP : D → PyData
  | .non => .none
  | .bl b => .bool b
  | .int i => .int i
  | .str x => .str x
  | .lst xs => .list (toPs xs)
  | .tup xs => .tuple (toPs xs)
  | _ => .none
def toPs : List D → List PyData
  | [] => []
  | d :: r => toP d :: toPs r
end
mutual
def isP : D → Bool
  | .non => true | .bl _ => true | .int _ => true | .str _ => true
  | .lst xs => isPs xs
  | .tup xs => isPs xs
  | _ => false
def isPs : List D → Bool
  | [] => true
  | d :: r => isP d && isPs r
end
mutual
theorem dp_of {G H : Hp} (sb : Sub G H) : ∀ {d : D} {v : V}, isP d = true → Is K G d v → Dp K H v (toP d)
  | .non, _, _, h => by cases h; exact .non
  | .bl _, _, _, h => by cases h; exact .bl _
  | .int _, _, _, h => by cases h; exact .int _
  | .str _, _, _, h => by cases h; exact .str _
  | .lst _, _, q, h => by obtain ⟨p, xs, rfl, e, t⟩ := h; exact .lst (.inl (.inl (sb _ _ e))) (dps_of sb q t)
  | .tup _, _, q, h => by obtain ⟨p, xs, rfl, e, t⟩ := h; exact .tup (.inl (.inl (sb _ _ e))) (dps_of sb q t)
  | .ref _, _, q, _ => by cases q
  | .ty _, _, q, _ => by cases q
  | .ins _ _ _, _, q, _ => by cases q
  | .scr _, _, q, _ => by cases q
  | .sem _, _, q, _ => by cases q
theorem dps_of {G H : Hp} (sb : Sub G H) : ∀ {ds : List D} {vs : List V}, isPs ds = true → IsL K G ds vs → DpAll K H vs (toPs ds)
  | [], _, _, h => by cases h; exact .nil
  | d :: ds, _, q, ⟨v, r, rfl, a, b⟩ => by
    have q : (isP d && isPs ds) = true := q
    rw [Bool.and_eq_true] at q
    exact .cons (dp_of sb q.1 a) (dps_of sb q.2 b)
end
theorem r_eqD (h1 : isP x = true) (h2 : isP y = true) (s1 : SeqAt.shaped (toP x) = true) (s2 : SeqAt.shaped (toP y) = true) : R2D K (rEqD K) x y O (.bl (PyData.eqv (toP x) (toP y))) := fun G H v u w a b Q k =>
  ⟨toP x, toP y, dp_of w.sub h1 a, dp_of w.sub h2 b, s1, s2, k _ G H (Stp.refl w) rfl⟩
theorem r_neD (h1 : isP x = true) (h2 : isP y = true) (s1 : SeqAt.shaped (toP x) = true) (s2 : SeqAt.shaped (toP y) = true) : R2D K (rNeD K) x y O (.bl (!PyData.eqv (toP x) (toP y))) := fun G H v u w a b Q k =>
  ⟨toP x, toP y, dp_of w.sub h1 a, dp_of w.sub h2 b, s1, s2, k _ G H (Stp.refl w) rfl⟩
/-! ### isinstance -/
def tyD : D → Option String
  | .non => some "NoneType" | .bl _ => some "bool" | .int _ => some "int" | .str _ => some "str" | .lst _ => some "list" | .tup _ => some "tuple"
  | _ => none
theorem tyX_of {G H : Hp} {v : V} {T : String} (sb : Sub G H) (h : tyD x = some T) (i : Is K G x v) : TyX K H v (.type T) := by
  cases x with
  | non => cases h; cases i; exact .base .non
  | bl b => cases h; cases i; exact .base (.bl _)
  | int b => cases h; cases i; exact .base (.int _)
  | str b => cases h; cases i; exact .base (.str _)
  | lst b => cases h; obtain ⟨p, xs, rfl, e, _⟩ := i; exact .base (.lst (sb _ _ e))
  | tup b => cases h; obtain ⟨p, xs, rfl, e, _⟩ := i; exact .base (.tup (sb _ _ e))
  | _ => cases h
theorem c_isi {T c : String} (h : tyD x = some T) (e : kitB T c = some b) : RCD K (rIsi K) [x, .ty c] O (.bl b) := fun G H vs w a Q k => by
  obtain ⟨v, u, rfl, iv, iu⟩ := isL2 a
  cases iu
  exact ⟨v, _, _, _, b, rfl, .ty c, tyX_of w.sub h iv, kit_ty e, k _ G H (Stp.refl w) rfl⟩
theorem c_isi2 {T c1 c2 : String} {b1 b2 : Bool} (h : tyD x = some T) (e1 : kitB T c1 = some b1) (e2 : kitB T c2 = some b2) : RCD K (rIsiT K) [x, .tup [.ty c1, .ty c2]] O (.bl (b1 || b2)) := fun G H vs w a Q k => by
  obtain ⟨v, u, rfl, iv, p, xs, rfl, e, t⟩ := isL2 a
  obtain ⟨u1, u2, rfl, i1, i2⟩ := isL2 t
  cases i1; cases i2
  have hk : PySem.W.kitAny K (.type T) [.type c1, .type c2] = some (b1 || b2) := by
    cases b1 with
    | true => exact kitAny_cons (b := true) (kit_ty e1) (fun z => nomatch z) fun _ => rfl
    | false =>
      refine kitAny_cons (b := false) (kit_ty e1) (fun _ => ?_) (fun z => nomatch z)
      cases b2 with
      | true => exact kitAny_cons (b := true) (kit_ty e2) (fun z => nomatch z) fun _ => rfl
      | false => exact kitAny_cons (b := false) (kit_ty e2) (fun _ => kitAny_nil) (fun z => nomatch z)
  exact ⟨v, p, _, _, [.type c1, .type c2], _, rfl, w.sub _ _ e, .cons (.ty c1) (.cons (.ty c2) .nil), tyX_of w.sub h iv, hk, k _ G H (Stp.refl w) rfl⟩
end
end DL

set_option Elab.async false
set_option linter.all false
set_option maxRecDepth 100000
namespace DL
open PySem PySem.Spec L2
open PyProof.Rows hiding St
theorem cmul_l {i j : Int} (h1 : -18446744073709551616 < i) (h2 : i < 18446744073709551616) : CMul i j := .inl ⟨h1, h2⟩
theorem cmul_r {i j : Int} (h1 : -18446744073709551616 < j) (h2 : j < 18446744073709551616) : CMul i j := .inr ⟨h1, h2⟩
theorem cdivw {i j : Int} (h1 : 0 < j) (h2 : j ≤ 1000000000000000000000000000000) : CDivW i j := wide_div (b := 110) h1 (by
  have : j.natAbs ≤ 1000000000000000000000000000000 := by omega
  exact Nat.lt_of_le_of_lt this (by decide)) (by decide) (by decide)
theorem cmodp {i j : Int} (h1 : 0 < j) : (fun (_ j : Int) => 0 < j) i j := h1
theorem cpow {i j : Int} (h0 : 0 ≤ j) (h1 : j ≤ 1000000) (h2 : i.natAbs < 18446744073709551616) : CPow i j := ⟨h0, h1, h2⟩
section
variable {K : PySem.W.Frag} {δ : Sl} {O O1 O2 O3 : Ow} {d x y z : D} {ta tb tc te tv : TE} {t : TA} {i j : Int} {p C : Addr} {ds es : List D} {nm nm' : List Str} {b : Bool} {R : DR} {E : XK} {P : DE}
theorem sd_never {tu tw : TS} {tt : TT} (h : EvT K tt δ O b O1) (hb : b = false) (k : Sd K tw P δ O1) : Sd K (tIfS tt tu tw) P δ O := by subst hb; exact sd_ifF h k
theorem atI0 {α : Type} {a : α} {l : List α} : atI (a :: l) 0 = some a := atI_nat (j := 0) rfl
theorem atI1 {α : Type} {a b : α} {l : List α} : atI (a :: b :: l) 1 = some b := atI_nat (j := 1) rfl
theorem atI2 {α : Type} {a b c : α} {l : List α} : atI (a :: b :: c :: l) 2 = some c := atI_nat (j := 2) rfl
theorem atI3 {α : Type} {a b c e : α} {l : List α} : atI (a :: b :: c :: e :: l) 3 = some e := atI_nat (j := 3) rfl
theorem atI_of {α : Type} {l : List α} {i : Int} {k : Nat} {a : α} (hk : i = (k : Int)) (h : l[k]? = some a) : atI l i = some a := by subst hk; exact atI_nat h
theorem ixN_of {n : Nat} {i : Int} {k : Nat} (hk : i = (k : Int)) (h : k < n) : ixN n i = some k := by subst hk; exact Evl.ixN_nat h
theorem r_catA (hl : ds.length + es.length ≤ 100000) : R2D K (rCatA K) (.tup ds) (.tup es) O (.tup (ds ++ es)) := fun G H v u w a b Q k => by
  obtain ⟨p, xs, rfl, e, t⟩ := a
  obtain ⟨q, ys, rfl, e', t'⟩ := b
  refine ⟨p, q, xs, ys, rfl, rfl, .inl (.inl (w.sub _ _ e)), .inl (.inl (w.sub _ _ e')), by rw [← t.length, ← t'.length]; exact sz hl, fun z => ?_, fun _ z => ?_, fun _ _ l hl => k _ _ _ (Stp.new w hl) ⟨l, _, rfl, upd_same, (t.append t').mono (Stp.new w hl (o := .tup (xs ++ ys))).ex⟩⟩
  · subst z
    have z : ds = [] := List.eq_nil_of_length_eq_zero t.length
    subst z
    exact k _ G H (Stp.refl w) ⟨q, ys, rfl, e', t'⟩
  · subst z
    have z : es = [] := List.eq_nil_of_length_eq_zero t'.length
    subst z
    exact k _ G H (Stp.refl w) ⟨p, xs, rfl, e, by rw [List.append_nil]; exact t⟩
theorem ev_slT {tl th : TO} {lo hi : Option Int} (h : Ev K te δ O (.tup ds) O1) (h1 : EvO K tl δ O1 lo O2) (h2 : EvO K th δ O2 hi O3) : Ev K (tSl (rSlA K) te tl th) δ O (.tup (cutD ds lo hi)) O3 := fun G H σ w s Q k =>
  h G H σ w s _ fun v G1 H1 s1 i1 => h1 G1 H1 σ s1.wd (s.mono s1.ex) _ fun G2 H2 s2 => h2 G2 H2 σ s2.wd (s.mono (s1.ex.trans s2.ex)) _ fun G3 H3 s3 => by
    obtain ⟨p, xs, rfl, e, t⟩ := i1
    have e3 := s3.ex _ _ (s2.ex _ _ e)
    have t3 := t.mono (s2.ex.trans s3.ex)
    refine ⟨p, xs, rfl, .inl (.inl (s3.wd.sub _ _ e3)), fun z => ?_, fun z l hl => ?_⟩
    · have e5 : cutD ds lo hi = ds := by
        unfold cutD
        rw [t.length, z.1, z.2, Nat.sub_zero, List.drop_zero, ← t.length]
        exact List.take_length
      rw [e5] at k
      exact k _ _ _ ((s1.trans s2).trans s3) ⟨p, xs, rfl, e3, t3⟩
    · have st := Stp.new (o := .tup (cutV xs lo hi)) s3.wd hl
      exact k _ _ _ (((s1.trans s2).trans s3).trans st) ⟨l, _, rfl, upd_same, (cut_is t3).mono st.ex⟩
/-- isinstance of an own instance -/
theorem c_isiOwn {C' : Addr} (c : Cls K C) (ha : PySem.W.findIn K (.ref C) "__class__" = some (some (.builtin "object.__class__")))
      (hn : PySem.W.specialIn K (.builtin "object.__class__") "__get__" = some (some (.builtin "getset_descriptor.__get__"))) (htk : PySem.W.takesIn K (.builtin "object.__class__") = some true)
      (hm : PySem.W.mroIn K C (.type "object") = some true) (hk : PySem.W.kitOne K (.ref C) (.ref C') = some b) : RCD K (rIsi K) [.ins C nm ds, .ref C'] O (.bl b) := fun G H vs w a Q k => by
  obtain ⟨v, u, rfl, ⟨p, dx, xs, rfl, e, _, _⟩, iu⟩ := isL2 a
  cases iu
  exact ⟨_, _, _, _, b, rfl, .own C', .base (.ins (w.sub _ _ e) c ha hn htk hm), hk, k _ G H (Stp.refl w) rfl⟩
/-- isinstance of data of a built-in type and an own class -/
theorem c_isiT {T : String} {C' : Addr} (h : tyD x = some T) (hk : PySem.W.kitOne K (.type T) (.ref C') = some b) : RCD K (rIsi K) [x, .ref C'] O (.bl b) := fun G H vs w a Q k => by
  obtain ⟨v, u, rfl, iv, iu⟩ := isL2 a
  cases iu
  exact ⟨_, _, _, _, b, rfl, .own C', tyX_of w.sub h iv, hk, k _ G H (Stp.refl w) rfl⟩
theorem rgV_is {G : Hp} {lo hi : Int} : IsL K G (rng lo (hi - lo).toNat) (rgV lo hi) := by
  unfold rng rgV
  generalize List.range (hi - lo).toNat = l
  induction l with
  | nil => exact rfl
  | cons a r ih => exact ⟨_, _, rfl, rfl, ih⟩
theorem ev_listRg (h : Ev K te δ O (.int j) O1) (hj : 0 ≤ j ∧ j ≤ 100000) : Ev K (tLstRg (tRg1 te)) δ O (.lst (rng 0 j.toNat)) O1 := fun G H σ w s Q k =>
  h G H σ w s _ fun v G1 H1 s1 i1 => ⟨j, i1, RgOk.of_le (by omega) (by omega) (by omega) (by omega), fun q hq => by
    have st := Stp.new (o := .lst (rgV 0 j)) s1.wd hq
    have e : rng 0 j.toNat = rng 0 (j - 0).toNat := by rw [Int.sub_zero]
    exact k _ _ _ (s1.trans st) ⟨q, _, rfl, upd_same, by rw [e]; exact rgV_is⟩⟩
end
/-! ### defs with a star parameter -/
def Rstar (n : Nat) (R : DR) : DR := fun ds O Post => ∃ ws rest, ds = ws ++ rest ∧ ws.length = n ∧ rest.length ≤ 100000 ∧ R (ws ++ [.tup rest]) O Post
theorem isL_split {K : PySem.W.Frag} {G : Hp} : ∀ {ds es : List D} {vs : List V}, IsL K G (ds ++ es) vs → ∃ us ws, vs = us ++ ws ∧ IsL K G ds us ∧ IsL K G es ws
  | [], _, vs, h => ⟨[], vs, rfl, rfl, h⟩
  | d :: ds, es, _, ⟨v, r, rfl, a, b⟩ => by
    obtain ⟨us, ws, rfl, h1, h2⟩ := isL_split b
    exact ⟨v :: us, ws, rfl, ⟨v, us, rfl, a, h1⟩, h2⟩
theorem fnDS {P : Program} {w : World} {K : PySem.W.Frag} {mg : Str → Option Value} {base : Heap} {x qual pv : Str} {st : Stmt} {f : Addr} {fd : FuncData} {N ps : List Str} {k : Nat} {R : DR} (F : Fun K x qual st f fd) (S : FnScope N (ps ++ [pv]) (defScope st))
    (hb : ∀ us rest : List Value, us.length = ps.length → bindArgs fd ⟨us ++ rest, []⟩ = (newTuple rest >>= fun t => pure (ps.zip us ++ [(pv, t)])))
    (hbody : ∀ (cdv : Value) (A : Around) (outer : List Env) (s : Shared) (H : Hp) (E : XK), Room k (A.deeper (PyProof.Rows.envOfC qual (defScope st) s.heap.objs.size f cdv)) →
      ∃ t, PSs (cxOf (L2.CX P w) P w K mg base N qual (defScope st) f cdv A outer s H E) (defBody st) t ∧ ∀ ds O Post, R ds O Post → Sd K t ⟨fun _ O' => Post .non O', Post, fun _ _ => False, fun _ _ => False⟩ (startD N ds) O) :
    FnR P w K mg base (L2.CX P w) (k + 1) f (SpD K (Rstar ps.length R)) := by
  obtain ⟨oc, od, kV, doc, pm, an, cdv, ct, osl, rfl, lk, hcd⟩ := F.ex
  refine (StX.fn_star (sp := SpD K R) lk hcd S StX.cxUp hb fun A outer s H vs Q E hr h => ?_).imp fun vs H Q E h => ?_
  · obtain ⟨t, h1, h2⟩ := hbody cdv A outer s H E hr
    exact ⟨t, h1, body_of h h2⟩
  · obtain ⟨G, O, ds, Post, wd, i, ⟨ws, rest, rfl, hl, hz, hR⟩, kk⟩ := h
    obtain ⟨us, vs', rfl, i1, i2⟩ := isL_split i
    refine ⟨us, vs', rfl, by rw [← i1.length]; exact hl, by rw [← i2.length]; exact sz hz, fun p hp => ?_⟩
    have st := Stp.new (o := .tup vs') wd hp
    refine ⟨_, O, ws ++ [.tup rest], Post, st.wd, (i1.mono st.ex).append (show IsL K _ [.tup rest] [.ref p] from ⟨_, _, rfl, ⟨p, vs', rfl, upd_same, i2.mono st.ex⟩, rfl⟩), hR, fun d O' v G' H' hp' st' iv => kk d O' v G' H' hp' (st.trans st') iv⟩
end DL

set_option Elab.async false
set_option linter.all false
set_option maxRecDepth 100000
namespace DL
open PySem PySem.Spec L2
open PyProof.Rows hiding St
/-- plain data of a depth -/
inductive Pl : Nat → D → Prop
  | non {n : Nat} : Pl n .non
  | bl {n : Nat} {b : Bool} : Pl n (.bl b)
  | int {n : Nat} {i : Int} : Pl n (.int i)
  | str {n : Nat} {x : Str} (h : PyData.canLay0 (.str x) = true) : Pl n (.str x)
  | lst {n : Nat} {ds : List D} (h : ∀ d ∈ ds, Pl n d) : Pl (n + 1) (.lst ds)
  | tup {n : Nat} {ds : List D} (h : ∀ d ∈ ds, Pl n d) : Pl (n + 1) (.tup ds)
theorem pls_isP : ∀ {ds : List D}, (∀ d ∈ ds, isP d = true) → isPs ds = true
  | [], _ => rfl
  | d :: r, h => by
    show (isP d && isPs r) = true
    rw [h d (List.mem_cons_self ..), pls_isP fun x hx => h x (List.mem_cons_of_mem _ hx)]; rfl
theorem pls_can : ∀ {ds : List D}, (∀ d ∈ ds, (toP d).canLay0 = true) → PyData.canLayAll0 (toPs ds) = true
  | [], _ => rfl
  | d :: r, h => by
    show (PyData.canLay0 (toP d) && PyData.canLayAll0 (toPs r)) = true
    rw [h d (List.mem_cons_self ..), pls_can fun x hx => h x (List.mem_cons_of_mem _ hx)]; rfl
theorem pls_dep {n : Nat} : ∀ {ds : List D}, (∀ d ∈ ds, (toP d).depth ≤ n) → PyData.depthAll (toPs ds) ≤ n
  | [], _ => Nat.zero_le _
  | d :: r, h => by
    show max (PyData.depth (toP d)) (PyData.depthAll (toPs r)) ≤ n
    exact Nat.max_le.mpr ⟨h d (List.mem_cons_self ..), pls_dep fun x hx => h x (List.mem_cons_of_mem _ hx)⟩
theorem Pl.isP {n : Nat} {d : D} (h : Pl n d) : DL.isP d = true := by
  induction h with
  | lst _ ih => exact pls_isP ih
  | tup _ ih => exact pls_isP ih
  | _ => rfl
theorem Pl.can {n : Nat} {d : D} (h : Pl n d) : (toP d).canLay0 = true := by
  induction h with
  | lst _ ih => exact pls_can ih
  | tup _ ih => exact pls_can ih
  | str h => exact h
  | _ => rfl
theorem Pl.dep {n : Nat} {d : D} (h : Pl n d) : (toP d).depth ≤ n := by
  induction h with
  | lst _ ih => exact Nat.succ_le_succ (pls_dep ih)
  | tup _ ih => exact Nat.succ_le_succ (pls_dep ih)
  | _ => exact Nat.zero_le _
theorem Pl.shaped {n : Nat} {d : D} (h : Pl n d) (hn : n ≤ 60) : SeqAt.shaped (toP d) = true := by
  unfold SeqAt.shaped
  rw [h.can, decide_eq_true (Nat.le_trans h.dep (by omega))]; rfl
theorem Pl.mono {n : Nat} {d : D} (h : Pl n d) : ∀ {m : Nat}, n ≤ m → Pl m d := by
  induction h with
  | non => intro _ _; exact .non
  | bl => intro _ _; exact .bl
  | int => intro _ _; exact .int
  | str h => intro _ _; exact .str h
  | lst _ ih => intro m hm; obtain ⟨m', rfl⟩ : ∃ k, m = k + 1 := ⟨m - 1, by omega⟩; exact .lst fun d hd => ih d hd (by omega)
  | tup _ ih => intro m hm; obtain ⟨m', rfl⟩ : ∃ k, m = k + 1 := ⟨m - 1, by omega⟩; exact .tup fun d hd => ih d hd (by omega)
theorem Pl.ints (ns : List Int) : Pl 1 (.tup (ns.map .int)) := .tup fun d hd => by obtain ⟨i, _, rfl⟩ := List.mem_map.mp hd; exact .int
theorem Pl.intsL (ns : List Int) : Pl 1 (.lst (ns.map .int)) := .lst fun d hd => by obtain ⟨i, _, rfl⟩ := List.mem_map.mp hd; exact .int
theorem Pl.nilT : Pl 1 (.tup []) := .tup fun d hd => nomatch hd
theorem Pl.nilL : Pl 1 (.lst []) := .lst fun d hd => nomatch hd
def eqD (x y : D) : Bool := PyData.eqv (toP x) (toP y)
theorem eqD_self {n : Nat} {d : D} (h : Pl n d) : eqD d d = true := SeqAt.eqv_refl _ h.can
theorem eqD_nilT {ds : List D} : eqD (.tup ds) (.tup []) = ds.isEmpty := by cases ds <;> rfl
theorem eqD_nilL {ds : List D} : eqD (.lst ds) (.lst []) = ds.isEmpty := by cases ds <;> rfl
theorem eqD_int {i j : Int} : eqD (.int i) (.int j) = (i == j) := rfl
theorem eqvs_ints : ∀ (xs ys : List Int), PyData.eqvAll (toPs (xs.map .int)) (toPs (ys.map .int)) = decide (xs = ys)
  | [], [] => rfl
  | [], _ :: _ => by simp [toPs, PyData.eqvAll]
  | _ :: _, [] => by simp [toPs, PyData.eqvAll]
  | x :: xs, y :: ys => by
    show ((x == y) && PyData.eqvAll (toPs (xs.map .int)) (toPs (ys.map .int))) = _
    rw [eqvs_ints xs ys]
    by_cases h : x = y
    · subst h; simp
    · simp [h]
theorem eqD_ints (xs ys : List Int) : eqD (.tup (xs.map .int)) (.tup (ys.map .int)) = decide (xs = ys) := eqvs_ints xs ys
theorem eqD_intsL (xs ys : List Int) : eqD (.lst (xs.map .int)) (.lst (ys.map .int)) = decide (xs = ys) := eqvs_ints xs ys
section
variable {K : PySem.W.Frag} {δ : Sl} {O O1 O2 O3 : Ow} {d x y z : D} {ta tb tc te tv : TE} {t : TA} {i j : Int} {p C : Addr} {ds es : List D} {nm nm' : List Str} {b : Bool} {R : DR} {E : XK} {P : DE} {n m : Nat}
theorem ev_cvalI {mc : Value} {f : Str} {k : Int} {u : Value} (h : Ev K te δ O (.ref C) O1) (r : ClX.CRead K C mc) (c : ClX.CVal K C mc f (.int k) u) : Ev K (ClX.tCVal K te f) δ O (.int k) O1 := ev_cval h r c rfl rfl
theorem r_eqP (h1 : Pl n x) (h2 : Pl m y) (hn : n ≤ 60) (hm : m ≤ 60) : R2D K (rEqD K) x y O (.bl (eqD x y)) := r_eqD h1.isP h2.isP (h1.shaped hn) (h2.shaped hm)
theorem r_neP (h1 : Pl n x) (h2 : Pl m y) (hn : n ≤ 60) (hm : m ≤ 60) : R2D K (rNeD K) x y O (.bl (!eqD x y)) := r_neD h1.isP h2.isP (h1.shaped hn) (h2.shaped hm)
end
/-- a law's own promise, and the defs that walk_of wants -/
theorem fnO {P : Program} {w : World} {K : PySem.W.Frag} {mg : Str → Option Value} {base : Heap} {x qual : Str} {st : Stmt} {f : Addr} {fd : FuncData} {N ps : List Str} {k : Nat} {R : DR} (F : Fun K x qual st f fd) (S : FnScope N ps (defScope st))
    (len : ∀ ds O Post, R ds O Post → ds.length = ps.length)
    (hbody : ∀ (cdv : Value) (A : Around) (outer : List Env) (s : Shared) (H : Hp) (E : XK), Room k (A.deeper (PyProof.Rows.envOfC qual (defScope st) s.heap.objs.size f cdv)) →
      ∃ t, PSs (cxOf (L2.CX P w) P w K mg base N qual (defScope st) f cdv A outer s H E) (defBody st) t ∧ ∀ ds O Post, R ds O Post → Sd K t ⟨fun _ O' => Post .non O', Post, fun _ _ => False, fun _ _ => False⟩ (startD N ds) O) :
    FnOk P w K mg base (L2.CX P w) (k + 1) f fd ps (SpD K R) := by
  refine F.okX S (fun vs H Q E h => ?_) (fun cdv A outer s H vs Q E hr h => ?_)
  · obtain ⟨G, O, ds, Post, _, i, hr, _⟩ := h
    rw [← i.length]; exact len ds O Post hr
  · obtain ⟨t, h1, h2⟩ := hbody cdv A outer s H E hr
    exact ⟨t, h1, body_of h h2⟩
/-- nothing is promised -/
theorem fnR0 {P : Program} {w : World} {K : PySem.W.Frag} {mg : Str → Option Value} {base : Heap} {CX : CXT} {k : Nat} {f : Addr} : FnR P w K mg base CX k f (SpD K fun _ _ _ => False) := by
  intro A outer s H us vs Q E hr e0 r hs
  obtain ⟨_, _, _, _, _, _, z, _⟩ := hs
  exact z.elim
end DL

set_option Elab.async false
set_option linter.all false
set_option maxRecDepth 100000
/-! the rules whose reading bears the written part, told of a K (so that they serve within a comprehension's block) -/
namespace DL
open PySem PySem.Spec L2
open PyProof.Rows hiding St
section
variable {X : Cx} (K : PySem.W.Frag)
theorem op_inK (h : X.K = K := by rfl) : OpR X (compareOp .In) (rIn K false) := by subst h; exact op_in_seq
theorem op_notInK (h : X.K = K := by rfl) : OpR X (compareOp .NotIn) (rIn K true) := by subst h; exact op_notIn_seq
theorem ix_listK (h : X.K = K := by rfl) : IxR X (rIxL K) := by subst h; exact ix_list
theorem ix_tupK (h : X.K = K := by rfl) : IxR X (rIxT K) := by subst h; exact ix_tup
theorem call_lenK (h : X.K = K := by rfl) : CallR X (.builtin "len") (fun xs H Q => ∃ p ys, xs = [.ref p] ∧ (SqL K H p ys ∨ SqT K H p ys) ∧ Q (.int ys.length) H) := by subst h; exact call_len_seq
theorem call_listK (h : X.K = K := by rfl) : CallR X (.type "list") (fun xs H Q => ∃ p ys, xs = [.ref p] ∧ (SqL K H p ys ∨ SqT K H p ys) ∧ ∀ l, H l = none → Q (.ref l) (upd H l (.lst ys))) := by subst h; exact call_list_of
theorem call_tupleK (h : X.K = K := by rfl) : CallR X (.type "tuple") (fun xs H Q => ∃ p ys, xs = [.ref p] ∧ ((SqL K H p ys ∧ ∀ l, H l = none → Q (.ref l) (upd H l (.tup ys))) ∨ (SqT K H p ys ∧ Q (.ref p) H))) := by subst h; exact call_tuple_of
theorem cr_sumK (hc : X.calm = true) (h : X.K = K := by rfl) : CallR X (.builtin "sum") (rSum K) := by subst h; exact cr_sum hc
theorem cr_maxK (hc : X.calm = true) (h : X.K = K := by rfl) : CallR X (.builtin "max") (rMax K) := by subst h; exact cr_max hc
theorem cr_minK (hc : X.calm = true) (h : X.K = K := by rfl) : CallR X (.builtin "min") (rMin K) := by subst h; exact cr_min hc
theorem cr_anyK (hc : X.calm = true) (h : X.K = K := by rfl) : CallR X (.builtin "any") (rAny K) := by subst h; exact cr_any hc
theorem cr_allK (hc : X.calm = true) (h : X.K = K := by rfl) : CallR X (.builtin "all") (rAll K) := by subst h; exact cr_all hc
theorem mt_indexK (h : X.K = K := by rfl) : MtR X "list.index" (rIndex K) := by subst h; exact mt_index
theorem call_isiK1 (h : X.K = K := by rfl) : CallR X (.builtin "isinstance") (rIsi K) := by subst h; exact call_isi
theorem call_isiK2 (h : X.K = K := by rfl) : CallR X (.builtin "isinstance") (rIsiT K) := by subst h; exact call_isiT
theorem op_eqDK (hu : X.A.units + 64 < cLine) (h : X.K = K := by rfl) : OpR X (compareOp .Eq) (rEqD K) := by subst h; exact op_eqD hu
theorem op_neDK (hu : X.A.units + 64 < cLine) (h : X.K = K := by rfl) : OpR X (compareOp .NotEq) (rNeD K) := by subst h; exact op_neD hu
theorem op_catAK (h : X.K = K := by rfl) : OpR X (binaryOp .Add) (rCatA K) := by subst h; exact op_catA
theorem sl_listK (h : X.K = K := by rfl) : SlR X (rSlL K) := by subst h; exact sl_list
theorem sl_tupAK (h : X.K = K := by rfl) : SlR X (rSlA K) := by subst h; exact sl_tupA
variable {e o : Expr} {es elts : List Expr} {te ta : TE} {t : TA} {f : Str} {p pos tpos : Pos} {tg : Expr} {kk : Nat}
theorem pe_fldK (he : PE X e ta) (h : X.K = K := by rfl) (hb : attributeBase e f X.env (eval e X.env) = eval e X.env := by rfl) : PE X (.Attribute e f pos) (tFld K ta f) := by subst h; exact pe_fld he hb
theorem pe_cvalK (he : PE X e ta) (h : X.K = K := by rfl) (hb : attributeBase e f X.env (eval e X.env) = eval e X.env := by rfl) : PE X (.Attribute e f pos) (ClX.tCVal K ta f) := by subst h; exact ClX.pe_cval he hb
theorem pi_listK (hl : PE X e te) (h : X.K = K := by rfl) : PI X tg e (iList K te) := by subst h; exact pi_list hl
theorem pi_tupK (hl : PE X e te) (h : X.K = K := by rfl) : PI X tg e (iTup K te) := by subst h; exact pi_tup hl
theorem pi_enumTK (hm : X.mg "enumerate" = none) (ha : PA X [e] t) (h : X.K = K := by rfl) (hg : Gl X "enumerate" := by rfl) (hs : starEach [e] X.env = [(false, eval e X.env)] := by rfl) : PI X (.Tuple elts kk tpos) (.Call (.Name "enumerate" p) [e] [] pos) (iEnumT K t) := by
  subst h; exact pi_enumT hm ha hg hs
theorem pi_enumLK (hm : X.mg "enumerate" = none) (ha : PA X [e] t) (h : X.K = K := by rfl) (hg : Gl X "enumerate" := by rfl) (hs : starEach [e] X.env = [(false, eval e X.env)] := by rfl) : PI X (.Tuple elts kk tpos) (.Call (.Name "enumerate" p) [e] [] pos) (iEnum K t) := by
  subst h; exact pi_enum hg hm ha hs
theorem pi_zipK {e2 : Expr} (hm : X.mg "zip" = none) (ha : PA X [e, e2] t) (h : X.K = K := by rfl) (hg : Gl X "zip" := by rfl) (hs : starEach [e, e2] X.env = (false, eval e X.env) :: starEach [e2] X.env := by rfl) (hpl : (backTo pos (starEach [e2] X.env)).any (·.1) = false := by rfl) :
    PI X (.Tuple elts kk tpos) (.Call (.Name "zip" p) [e, e2] [] pos) (RZ.iZipA K t) := by subst h; exact RZ.pi_zipA hg hm ha hs hpl
theorem pa_starK (he : PE X e te) (hr : PA X es t) (h : X.K = K := by rfl) (hs : starEach (.Starred e p :: es) X.env = (true, eval e X.env) :: starEach es X.env := by rfl) : PA X (.Starred e p :: es) (StX.tStar K te t) := by subst h; exact StX.pa_star he hr hs
theorem pe_mkS1K {CX : CXT} {k : Nat} {f' C : Addr} {sp : Sp} {E : XK} {x : Str} {sp_ : Pos} (M : Mk X.K C f') (F : FnR X.prog X.w X.K X.mg X.base CX k f' sp) (hr : Room (k + 1) X.A) (hm : X.mg x = some (.ref C)) (hx : Passes CX X E) (he : PE X e te) (h : X.K = K := by rfl) (hg : Gl X x := by rfl) (hdb : (x == ("__debug__" : Str)) = false := by decide)
    (hst : starEach [.Starred e sp_] X.env = [(true, eval e X.env)] := by rfl) : PE X (.Call (.Name x p) [.Starred e sp_] [] pos) (StX.tMakeR C sp E (StX.tStar K te tNil)) := by subst h; exact pe_mkS1 M F hr hm hx he hg hdb hst
theorem pg_tupK {n : Nat} {gs : TGs} (hc : X.calm = true) (hgs : PGs X elts gs) (hn : (assignEach elts X.env).length = n := by rfl) (h : X.K = K := by rfl) (hst : (assignEach elts X.env).findIdx? (·.1) = none := by rfl) : PG X (.Tuple elts kk tpos) (gTup K n gs) := by subst h; exact pg_tup hc hgs hn hst
def tCallI (C : Addr) (sp : Sp) (E : XK) (tf : TE) (t : TA) : TE := fun σ H Q => tf σ H fun y H1 => ∃ a, y = V.ref a ∧ t σ H1 fun vs H2 => (∃ dx fs, H2 a = some (.ins C dx fs)) ∧ sp (V.ref a :: vs) H2 Q E
theorem pe_callI {CX : CXT} {k : Nat} {C g : Addr} {sp : Sp} {E : XK} {tf : TE} {fe : Expr} (hf : PE X fe tf) (c : StX.CallO X.K C g) (F : FnR X.prog X.w X.K X.mg X.base CX k g sp) (hr : Room k X.A) (hx : Passes CX X E) (ha : PA X (e :: es) t)
    (ht : eval (.Call fe (e :: es) [] pos) X.env = (do callWith pos (← eval fe X.env) [] (backTo pos (starEach (e :: es) X.env)) (backToKw pos (keywordEach [] X.env))) := by rfl)
    (he : starEach (e :: es) X.env = (false, eval e X.env) :: starEach es X.env := by rfl) (hpl : (backTo pos (starEach es X.env)).any (·.1) = false := by rfl) : PE X (.Call fe (e :: es) [] pos) (tCallI C sp E tf t) := by
  refine ⟨fun pins s σ H Q I h => ?_⟩
  rw [ht]
  refine wpAny_bind (thn (hf.run pins s σ H _ I h) fun v s1 ⟨y, H1, I1, ry, a, ey, q⟩ => ?_)
  subst ey
  obtain rfl : v = Value.ref a := ry
  refine StX.callO_with (thn (ha.run pos pins s1 σ H1 _ I1 q) fun us s2 ⟨vs, H2, I2, r, hi, hs⟩ => ?_) he hpl
  have hi' : StX.InsC X H2 a C := .inr hi
  obtain ⟨ox, od, J, hd⟩ := StX.insC_at I2 hi'
  exact ⟨⟨C, ox, od, J, hd⟩, StX.run_callO c F hr hx I2 hi' r hs⟩
end
section
variable {K : PySem.W.Frag} {δ : Sl} {O O1 O2 O3 : Ow} {d x y z : D} {ta tb tc te tv : TE} {t : TA} {i j : Int} {p C : Addr} {ds es : List D} {nm nm' : List Str} {b : Bool} {R : DR} {E : XK} {P : D → Ow → Prop}
theorem sd_yes {tu tw : TS} {tt : TT} {P : DE} (h : EvT K tt δ O b O1) (hb : b = true) (k : Sd K tu P δ O1) : Sd K (tIfS tt tu tw) P δ O := by subst hb; exact sd_ifT h k
theorem sd_no {tu tw : TS} {tt : TT} {P : DE} (h : EvT K tt δ O b O1) (hb : b = false) (k : Sd K tw P δ O1) : Sd K (tIfS tt tu tw) P δ O := by subst hb; exact sd_ifF h k
theorem EvA.is (h : EvA K t δ O ds O1) (e : ds = es) : EvA K t δ O es O1 := by subst e; exact h
theorem ev_neg (ha : Ev K ta δ O (.int i) O1) : Ev K (tUn (rU fun i => .int (-i)) ta) δ O (.int (-i)) O1 := fun G H σ w s Q k =>
  ha G H σ w s _ fun v G1 H1 s1 i1 => ⟨i, i1, k _ G1 H1 s1 rfl⟩
theorem r_inL0 (hx : flatD x = true) (ha : ds.all flatD = true) : R2D K (rIn K false) x (.lst ds) O (.bl (inD x ds)) := r_inL (neg := false) hx ha
theorem r_inT0 (hx : flatD x = true) (ha : ds.all flatD = true) : R2D K (rIn K false) x (.tup ds) O (.bl (inD x ds)) := r_inT (neg := false) hx ha
theorem r_inO0 (ho : O p = some (.lst ds)) (hx : flatD x = true) (ha : ds.all flatD = true) : R2D K (rIn K false) x (.ref p) O (.bl (inD x ds)) := r_inO (neg := false) ho hx ha
theorem r_inL1 (hx : flatD x = true) (ha : ds.all flatD = true) : R2D K (rIn K true) x (.lst ds) O (.bl (!inD x ds)) := r_inL (neg := true) hx ha
theorem r_inT1 (hx : flatD x = true) (ha : ds.all flatD = true) : R2D K (rIn K true) x (.tup ds) O (.bl (!inD x ds)) := r_inT (neg := true) hx ha
theorem r_inO1 (ho : O p = some (.lst ds)) (hx : flatD x = true) (ha : ds.all flatD = true) : R2D K (rIn K true) x (.ref p) O (.bl (!inD x ds)) := r_inO (neg := true) ho hx ha
theorem ev_ownIn0 {b : Bool} (ha : Ev K ta δ O y O1) (hb : Ev K tb δ O1 (.ins C nm ds) O2) (hr : R [.ins C nm ds, y] O2 fun d' O' => d' = .bl b ∧ O' = O3) : Ev K (tOp (rOwnIn C (SpD K R) E false) ta tb) δ O (.bl b) O3 := ev_ownIn (neg := false) ha hb hr
theorem flat_ints (ns : List Int) : (ns.map D.int).all flatD = true := by simp [flatD]
theorem rng0 (n : Nat) : rng 0 n = (List.range n).map fun (k : Nat) => D.int (k : Int) := by
  unfold rng
  refine List.map_congr_left fun k _ => ?_
  rw [Int.zero_add]
theorem ei_rngN (h : EvA K t δ O [.int j] O1) (hj : -1000000 ≤ j ∧ j ≤ 1000000) : EvI K (iRng1 t) δ O ((List.range j.toNat).map fun (k : Nat) => D.int (k : Int)) O1 := by
  rw [← rng0]; exact ei_rng1 h hj
theorem atI_neg1 {α : Type} {l : List α} {v : α} (h : l.getLast? = some v) : atI l (-1) = some v := by
  obtain ⟨ys, rfl⟩ := List.getLast?_eq_some_iff.mp h
  exact atI_last _ _
theorem evp_callI (h : Ev K ta δ O (.ins C nm ds) O1) (ht : EvA K t δ O1 es O2) (hr : R (.ins C nm ds :: es) O2 P) : EvP K (tCallI C (SpD K R) E ta t) δ O P := fun G H σ w s Q k =>
  h G H σ w s _ fun v G1 H1 s1 i1 => by
    have i2 := i1
    obtain ⟨p, dx, xs, rfl, e, _, _⟩ := i2
    exact ⟨p, rfl, ht G1 H1 σ s1.wd (s.mono s1.ex) _ fun vs G2 H2 s2 i3 => ⟨⟨dx, _, s2.wd.sub _ _ (s2.ex _ _ e)⟩, sp_run (ds := .ins C nm ds :: es) s2.wd ⟨_, _, rfl, i1.mono s2.ex, i3⟩ hr fun d O' v G' H' hp st iv => k d O' v G' H' hp ((s1.trans s2).trans st) iv⟩⟩
theorem ev_callI (h : Ev K ta δ O (.ins C nm ds) O1) (ht : EvA K t δ O1 es O2) (hr : R (.ins C nm ds :: es) O2 fun d' O' => d' = d ∧ O' = O3) : Ev K (tCallI C (SpD K R) E ta t) δ O d O3 := (evp_callI h ht hr).ev
theorem evp_op {r : R2} {P : D → Ow → Prop} (ha : EvP K ta δ O fun x O1 => EvP K tb δ O1 fun y O2 => ∃ z, R2D K r x y O2 z ∧ P z O2) : EvP K (tOp r ta tb) δ O P := fun G H σ w s Q k =>
  ha G H σ w s _ fun x O1 v G1 H1 hp s1 i1 => hp G1 H1 σ s1.wd (s.mono s1.ex) _ fun y O2 u G2 H2 hq s2 i2 => by
    obtain ⟨z, hr, hz⟩ := hq
    exact hr G2 H2 v u s2.wd (i1.mono s2.ex) i2 _ fun q G3 H3 s3 i3 => k z O2 q G3 H3 hz ((s1.trans s2).trans s3) i3
end
end DL

set_option Elab.async false
set_option linter.all false
set_option maxRecDepth 100000
namespace DL
open PySem PySem.Spec L2
open PyProof.Rows hiding St
section
variable {K : PySem.W.Frag} {δ : Sl} {O O1 O2 O3 : Ow} {d x y z : D} {ta tb tc te tv : TE} {t : TA} {i j : Int} {p C : Addr} {ds es : List D} {b : Bool} {P : D → Ow → Prop}
/-- a list times a number that is owned from now on -/
theorem evp_rep (ha : Ev K ta δ O (.lst ds) O1) (hb : Ev K tb δ O1 (.int i) O2) (h1 : -(2 ^ 63) ≤ i ∧ i < 2 ^ 63) (hl : ds.length * i.toNat ≤ 100000) (hp : ∀ p, O2 p = none → P (.ref p) (setO O2 p (.lst (List.replicate i.toNat ds).flatten))) : EvP K (tOp rRep ta tb) δ O P := fun G H σ w s Q k =>
  ha G H σ w s _ fun v G1 H1 s1 i1 => hb G1 H1 σ s1.wd (s.mono s1.ex) _ fun u G2 H2 s2 i2 => by
    obtain ⟨p, xs, rfl, e, t⟩ := i1.mono s2.ex
    exact ⟨p, i, xs, rfl, i2, s2.wd.sub _ _ e, h1.1, h1.2, by rw [← t.length]; exact sz hl, fun l hn => k _ _ _ _ _ (hp l (s2.wd.oNone hn)) ((s1.trans s2).trans (Stp.newO s2.wd hn ⟨_, upd_same, t.rep _⟩)) rfl⟩
theorem evp_ex {ι : Type} {Q : ι → Prop} {f : ι → D} {S : ι → Ow} (h : ∃ x, Q x ∧ Ev K te δ O (f x) (S x)) (k : ∀ x, Q x → P (f x) (S x)) : EvP K te δ O P := by
  obtain ⟨x, q, e⟩ := h; exact e.toP (k x q)
theorem ex_map {ι : Type} {Q : ι → Prop} {f f' : ι → D} {S : ι → Ow} {te' : TE} (h : ∃ x, Q x ∧ Ev K te δ O (f x) (S x)) (k : ∀ x, Ev K te δ O (f x) (S x) → Ev K te' δ O (f' x) (S x)) : ∃ x, Q x ∧ Ev K te' δ O (f' x) (S x) := by
  obtain ⟨x, q, e⟩ := h; exact ⟨x, q, k x e⟩
theorem evp_lc {wi : TI} {tt : TT} {vs : List Nat} {g : TG} {items : List D} (hi : EvI K wi δ O items O1) (hz : items.length ≤ 50000) (h : ∃ out O2, Cp K g tt te vs (wipeD δ vs) items O1 out O2 ∧ P (.lst out) O2) : EvP K (tLc wi g tt te vs) δ O P := by
  obtain ⟨out, O2, c, q⟩ := h
  exact (ev_lc hi c hz).toP q
/-- a filter whose test moves a hidden state -/
theorem cp_st {σ α : Type} {tt : TT} {vs : List Nat} {g : TG} (ok : σ → Prop) (S : σ → Ow) (enc f : α → D) (δ2 : α → Sl) (hg : ∀ a, Gc K g vs (enc a) δ (δ2 a)) : ∀ (l : List α), (∀ a ∈ l, ∀ s, ok s → ∃ b s', ok s' ∧ EvT K tt (δ2 a) (S s) b (S s') ∧ (b = true → Ev K te (δ2 a) (S s') (f a) (S s'))) → ∀ s, ok s → ∃ out s', ok s' ∧ List.Sublist out l ∧ Cp K g tt te vs δ (l.map enc) (S s) (out.map f) (S s')
  | [], _, s, hs => ⟨[], s, hs, List.Sublist.refl _, .nil⟩
  | a :: r, h, s, hs => by
    obtain ⟨b, s1, h1, h2, h3⟩ := h a (List.mem_cons_self ..) s hs
    obtain ⟨out, s2, h4, h5, h6⟩ := cp_st ok S enc f δ2 hg r (fun a ha => h a (List.mem_cons_of_mem _ ha)) s1 h1
    cases b with
    | true => exact ⟨a :: out, s2, h4, h5.cons_cons _, .yes (δ2 a) (hg a) h2 (h3 rfl) h6⟩
    | false => exact ⟨out, s2, h4, h5.cons _, .no (δ2 a) (hg a) h2 h6⟩
/-- a map whose value moves a hidden state -/
theorem cp_mst {σ α β : Type} {tt : TT} {vs : List Nat} {g : TG} (ok : σ → Prop) (S : σ → Ow) (enc : α → D) (V : β → Prop) (f : β → D) (δ2 : α → Sl) (hg : ∀ a, Gc K g vs (enc a) δ (δ2 a)) : ∀ (l : List α), (∀ a ∈ l, ∀ s, ok s → ∃ v s', ok s' ∧ V v ∧ EvT K tt (δ2 a) (S s) true (S s) ∧ Ev K te (δ2 a) (S s) (f v) (S s')) → ∀ s, ok s → ∃ (out : List β) (s' : σ), ok s' ∧ out.length = l.length ∧ (∀ v ∈ out, V v) ∧ Cp K g tt te vs δ (l.map enc) (S s) (out.map f) (S s')
  | [], _, s, hs => ⟨[], s, hs, rfl, (fun _ h => nomatch h), .nil⟩
  | a :: r, h, s, hs => by
    obtain ⟨b, s1, h1, h2, h3, h7⟩ := h a (List.mem_cons_self ..) s hs
    obtain ⟨out, s2, h4, h5, h8, h6⟩ := cp_mst ok S enc V f δ2 hg r (fun a ha => h a (List.mem_cons_of_mem _ ha)) s1 h1
    refine ⟨b :: out, s2, h4, by simp [h5], fun v hv => ?_, .yes (δ2 a) (hg a) h3 h7 h6⟩
    rcases List.mem_cons.mp hv with rfl | hv
    · exact h2
    · exact h8 v hv
theorem ex_lcSt {σ α : Type} {wi : TI} {tt : TT} {vs : List Nat} {g : TG} {s : σ} (ok : σ → Prop) (S : σ → Ow) (enc f : α → D) (δ2 : α → Sl) (l : List α) (hs : ok s) (hz : l.length ≤ 50000) (hi : EvI K wi δ O (l.map enc) (S s)) (hg : ∀ a, Gc K g vs (enc a) (wipeD δ vs) (δ2 a)) (h : ∀ a ∈ l, ∀ s, ok s → ∃ b s', ok s' ∧ EvT K tt (δ2 a) (S s) b (S s') ∧ (b = true → Ev K te (δ2 a) (S s') (f a) (S s'))) :
    ∃ x : List α × σ, (ok x.2 ∧ List.Sublist x.1 l) ∧ Ev K (tLc wi g tt te vs) δ O (.lst (x.1.map f)) (S x.2) := by
  obtain ⟨out, s', h1, h2, h3⟩ := cp_st ok S enc f δ2 hg l h s hs
  exact ⟨(out, s'), ⟨h1, h2⟩, ev_lc hi h3 (by rw [List.length_map]; exact hz)⟩
theorem ex_lcMst {σ α β : Type} {wi : TI} {tt : TT} {vs : List Nat} {g : TG} {s : σ} (ok : σ → Prop) (S : σ → Ow) (enc : α → D) (V : β → Prop) (f : β → D) (δ2 : α → Sl) (l : List α) (hs : ok s) (hz : l.length ≤ 50000) (hi : EvI K wi δ O (l.map enc) (S s)) (hg : ∀ a, Gc K g vs (enc a) (wipeD δ vs) (δ2 a)) (h : ∀ a ∈ l, ∀ s, ok s → ∃ v s', ok s' ∧ V v ∧ EvT K tt (δ2 a) (S s) true (S s) ∧ Ev K te (δ2 a) (S s) (f v) (S s')) :
    ∃ x : List β × σ, (ok x.2 ∧ x.1.length = l.length ∧ ∀ v ∈ x.1, V v) ∧ Ev K (tLc wi g tt te vs) δ O (.lst (x.1.map f)) (S x.2) := by
  obtain ⟨out, s', h1, h2, h3, h4⟩ := cp_mst ok S enc V f δ2 hg l h s hs
  exact ⟨(out, s'), ⟨h1, h2, h3⟩, ev_lc hi h4 (by rw [List.length_map]; exact hz)⟩
theorem ex_tupL {ι : Type} {Q : ι → Prop} {f : ι → List D} {S : ι → Ow} (h : ∃ x, Q x ∧ Ev K te δ O (.lst (f x)) (S x)) : ∃ x, Q x ∧ Ev K (tCB (fun xs H Q => ∃ p ys, xs = [.ref p] ∧ ((SqL K H p ys ∧ ∀ l, H l = none → Q (.ref l) (upd H l (.tup ys))) ∨ (SqT K H p ys ∧ Q (.ref p) H))) (tCons te tNil)) δ O (.tup (f x)) (S x) := by
  obtain ⟨x, q, e⟩ := h; exact ⟨x, q, ev_cb (ea_cons e ea_nil) c_tupL⟩
end
end DL

set_option Elab.async false
set_option linter.all false
set_option maxRecDepth 100000
namespace DL
open PySem PySem.Spec L2
open PyProof.Rows hiding St
section
variable {X : Cx} {o : Expr} {ta : TE} {f : Str} {pos : Pos}
/-- o.f = .. as one of several targets -/
def gFld (K : PySem.W.Frag) (ta : TE) (f : Str) : TG := fun v σ H Q => ta σ H fun x H1 => ∃ a C dx fs, x = .ref a ∧ H1 a = some (.ins C dx fs) ∧ Cls K C ∧ NoAttr K C f ∧ fs.length < 1000 ∧ Q σ (upd H1 a (.ins C dx (putF f v fs)))
theorem pg_fldK (K : PySem.W.Frag) (ha : PE X o ta) (h : X.K = K := by rfl) : PG X (.Attribute o f pos) (gFld K ta f) := by
  subst h
  refine ⟨fun pins s σ H v u Q I r h => ?_⟩
  refine PySem.W.kas_attr (thn (ha.run pins s σ H _ I h) fun ov s1 ⟨x, H1, I1, rx, a, C, dx, fs, ex, ea, c, n, l, q⟩ => ?_)
  subst ex
  obtain rfl : ov = Value.ref a := rx
  exact setattr_ok I1 ea c n l r fun s3 I3 => ⟨σ, _, I3, q⟩
end
section
variable {K : PySem.W.Frag} {δ : Sl} {O O1 O2 O3 : Ow} {d x y z : D} {ta tb tc te tv : TE} {t : TA} {i j : Int} {p q C : Addr} {ds es : List D} {nm nm' : List Str} {b : Bool} {R : DR} {E : XK} {P : D → Ow → Prop} {ts : TS} {PE : DE} {N : Sl → Ow → Prop}
theorem gd_fldN {f : Str} (h1 : Ev K ta δ O (.ref p) O2) (ho : O2 p = some (.ins C nm ds)) (c : Cls K C) (n : NoAttr K C f) (hf : f ∉ nm) (hz : nm.length < 1000) (k : N δ (setO O2 p (.ins C (nm ++ [f]) (ds ++ [d])))) : Gd K (gFld K ta f) d δ O N := fun G H σ v w s iv Q kk =>
  h1 G H σ w s _ fun u G1 H1 s1 i1 => by
    have i1 : u = .ref p := i1
    subst i1
    obtain ⟨_, dx, xs, e, hl, tl⟩ := s1.wd.own p _ ho
    refine ⟨p, C, dx, _, rfl, e, c, n, by rw [List.length_zip, hl, Nat.min_self]; exact hz, ?_⟩
    rw [putF_new hf hl]
    refine kk δ _ G1 _ σ k (s1.trans (Stp.write s1.wd ho ⟨dx, xs ++ [v], upd_same, by simp [hl], tl.append (.cons (iv.mono s1.ex) .nil)⟩)) (s.mono s1.ex)
theorem evp_tup {P : D → Ow → Prop} (h : EvAP K t δ O fun ds O1 => ds.length ≤ 100000 ∧ P (.tup ds) O1) : EvP K (tTup t) δ O P := fun G H σ w s Q k =>
  h G H σ w s _ fun ds O1 vs G1 H1 hp s1 i1 => ⟨by rw [← i1.length]; exact sz hp.1, fun p hn => k _ _ _ _ _ hp.2 (s1.trans (Stp.new s1.wd hn)) ⟨p, vs, rfl, upd_same, i1.mono (Stp.new s1.wd hn (o := .tup vs)).ex⟩⟩
theorem Stp.retag {G H : Hp} {m m' : MO} (w : Wd K G O H) (hp : O p = some m) (hm : MoIs K G H p m') : Stp K G O H G (setO O p m') H := by
  obtain ⟨ho, e⟩ := hm.there
  have eu : upd H p ho = H := by
    funext a
    unfold upd
    by_cases q : a = p
    · subst q; simp [e]
    · simp [q]
  have := Stp.write (o := ho) (m' := m') w hp (by rw [eu]; exact hm)
  rwa [eu] at this
/-- a list held by a field of an owned instance is handed on for good -/
theorem sd_pubF {jj : Nat} (ho : O p = some (.ins C nm ds)) (hj : ds[jj]? = some (.ref q)) (hq : O q = some (.lst es)) (hpq : p ≠ q) (h : Sd K ts PE δ (setO (delO O q) p (.ins C nm (ds.set jj (.lst es))))) : Sd K ts PE δ O := fun G H σ D w s r => by
  obtain ⟨_, xs, e, tl⟩ := w.own q _ hq
  have st := Stp.pub w hq e
  obtain ⟨_, dx, us, e2, hl2, tl2⟩ := w.own p _ ho
  obtain ⟨v, hv, iv⟩ := tl2.get hj
  have iv : v = .ref q := iv
  subst iv
  have es' : us = us.set jj (.ref q) := by
    refine List.ext_getElem? fun n => ?_
    by_cases z : jj = n
    · subst z; rw [List.getElem?_set_self (List.getElem?_eq_some_iff.mp hv).1, hv]
    · rw [List.getElem?_set_ne z]
  have st2 := Stp.retag (p := p) (m' := .ins C nm (ds.set jj (.lst es))) st.wd (by unfold delO; rw [if_neg hpq]; exact ho) ⟨dx, us, e2, hl2, by
    rw [es']
    exact (tl2.mono st.ex).set jj (show Is K _ (.lst es) (.ref q) from ⟨q, xs, rfl, upd_same, tl.mono st.ex⟩)⟩
  have st3 := st.trans st2
  exact h _ H σ D st3.wd (s.mono st3.ex) (r.step st3)
/-! ### methods of lists, max of two -/
theorem ev_index {jj : Nat} {x0 : Int} {ns : List Int} (h : Ev K ta δ O (.lst (ns.map .int)) O1) (ht : EvA K t δ O1 [.int x0] O2) (hj : ns[jj]? = some x0) (hm : ∀ m, m < jj → ns[m]? ≠ some x0) : Ev K (tBM K "list" (rIndex K) ta t) δ O (.int (jj : Nat)) O2 := fun G H σ w s Q k =>
  h G H σ w s _ fun v G1 H1 s1 i1 => by
    obtain ⟨p, xs, rfl, e, tl⟩ := i1
    have ex := tl.intsV
    subst ex
    refine ⟨.inl ⟨rfl, _, .inl (.inl (s1.wd.sub _ _ e))⟩, ht G1 H1 σ s1.wd (s.mono s1.ex) _ fun vs G2 H2 s2 i2 => ?_⟩
    obtain ⟨v, r, rfl, iv, ir⟩ := i2
    have ir : r = [] := ir
    subst ir
    have iv : v = .int x0 := iv
    subst iv
    refine ⟨p, ns.map .int, .int x0, jj, .int x0, rfl, rfl, .inl (.inl (s2.wd.sub _ _ (s2.ex _ _ e))), rfl, by simp [flatV], by rw [List.getElem?_map, hj]; rfl, by simp [eqV], fun m z' hl hz => ?_, k _ G2 H2 (s1.trans s2) rfl⟩
    rw [List.getElem?_map] at hz
    cases hn : ns[m]? with
    | none => rw [hn] at hz; cases hz
    | some i =>
      rw [hn] at hz
      cases hz
      have := hm m hl
      rw [hn] at this
      simp only [eqV]
      have hne : i ≠ x0 := fun z => this (by rw [z])
      simpa using hne
theorem c_max2 : RCD K (fun xs H Q => ∃ i j, xs = [V.int i, V.int j] ∧ Q (.int (if j > i then j else i)) H) [.int i, .int j] O (.int (if j > i then j else i)) := fun G H vs w a Q k => by
  obtain ⟨v, u, rfl, iv, iu⟩ := isL2 a
  cases iv; cases iu
  exact ⟨i, j, rfl, k _ G H (Stp.refl w) rfl⟩
end
end DL

set_option Elab.async false
set_option linter.all false
set_option maxRecDepth 100000
namespace DL
open PySem PySem.Spec L2
open PyProof.Rows hiding St
section
variable {prog : Program} {w : World} {A : Around} {E : Value → Shared → Prop} {s : Shared} {K : PySem.W.Frag} {x y C f : Addr} {ox : Obj} {od : Option Obj}
theorem ne_entry {Q : Fin → Shared → Prop} (X : K.In s.heap) (I : PySem.W.InstAt s.heap x ox C od) (hs : PySem.W.findIn K (.ref C) "__eq__" = some (some (.ref f))) (hf : PySem.W.isFn K (.ref f) = true) (hu : A.units < cLine)
    (hcall : wpAny (model prog w) A (call (.ref f) [.ref x, .ref y]) (fun v s' => ∃ b, v = .bool b ∧ Q (.done (.ret (.bool (!b)))) s') E s) :
    wpAny (model prog w) A (Builtin.«object.__ne__» ⟨[.ref x, .ref y], []⟩) Q E s := by
  unfold Builtin.«object.__ne__»
  repeat (first
    | with_reducible refine wpAny_cRoomFor hu ?_
    | (refine wpAny_bind (m := callSpecialIfBound? (.ref x) (Str.ofString "__eq__") [.ref y])
        (PySem.W.ifBound_K X I hs hf (wpAny_mono hcall (fun r s' hr => by
          obtain ⟨b, rfl, hq⟩ := hr
          repeat (first | exact hq | exact wpAny_pure hq | exact wpAny_truthy_bool hq | (refine wpAny_bind (m := truthy (.bool _)) (wpAny_truthy_bool ?_)) | wp_step)) fun _ _ e => e)))
    | wp_step)
theorem ne_ifBound {M : Model} {args : List Value} {Q : Option Value → Shared → Prop} (X : K.In s.heap) (I : PySem.W.InstAt s.heap x ox C od) (hs : PySem.W.findIn K (.ref C) "__ne__" = some (some (.builtin "object.__ne__")))
    (h : wpAny M A (call (.builtin "object.__ne__") (.ref x :: args)) (fun v => Q (some v)) E s) : wpAny M A (callSpecialIfBound? (.ref x) "__ne__" args) Q E s := by
  simp only [callSpecialIfBound?, bindSpecialIfBound?]
  refine wpAny_holding (wpAny_bind (wpAny_bind (wpAny_bind (I.type.here ((PySem.W.looks_findIn X hs).here ?_)))))
  refine wpAny_bind (wpAny_askSetting (wpAny_ite ?_))
  have fin : wpAny M A (call (.builtin "object.__ne__") ([.ref x] ++ args) >>= fun v => pure (some v)) Q E s := wpAny_bind (wpAny_mono h (fun v s' h' => wpAny_pure h') fun _ _ h' => h')
  split
  · exact wpAny_bind (wpAny_of_eq (F.cmp_object.ne.bind _) (wpAny_pure (by exact fin)))
  · exact wpAny_tryCatch (wpAny_bind (wpAny_of_eq (F.cmp_object.ne.bind _) (wpAny_pure (by exact fin))))
theorem ne_own {Q : Value → Shared → Prop} (hu : A.units + 1 < cLine) (X : K.In s.heap) (I : PySem.W.InstAt s.heap x ox C od) (hb : PySem.W.Looks (model prog w) s.heap (typeOf (.ref y)) (.ref C)) (hm : PySem.W.mroIn K C (.type "object") = some true)
    (hn : PySem.W.findIn K (.ref C) "__ne__" = some (some (.builtin "object.__ne__"))) (hs : PySem.W.findIn K (.ref C) "__eq__" = some (some (.ref f))) (hf : PySem.W.isFn K (.ref f) = true)
    (hcall : wpAny (model prog w) A.in1 (call (.ref f) [.ref x, .ref y]) (fun v s' => ∃ b, v = .bool b ∧ Q (.bool (!b)) s') E s) : wpAny (model prog w) A (richCompare .NotEq (.ref x) (.ref y)) Q E s := by
  have one : wpAny (model prog w) A (tryCompare (.ref x) "__ne__" (.ref y)) (fun r s' => ∃ b, r = some (.bool b) ∧ Q (.bool b) s') E s := by
    unfold tryCompare
    refine wpAny_bind (ne_ifBound X I hn (wpAny_call (codeAny_call_builtin F.cmp_object.ne.plain F.cmpEntry_ne (PySem.W.check_slot F.cmpKind_ne F.cmpSplit_ne (I.type.andThen (PySem.W.looks_mroIn X hm)) (F.cmpArgs_ne _ _) (ne_entry X I hs hf hu (wpAny_mono hcall (fun v s' hv => ?_) fun _ _ e => e))))))
    obtain ⟨b, rfl, hq⟩ := hv
    exact ⟨b, rfl, wpAny_pure ⟨_, rfl, hq⟩⟩
  simp only [richCompare, cmpInfo_NotEq, oneThing_ref]
  refine wpAny_holding (wpAny_bind (wpAny_cRoomFor (Nat.lt_of_succ_lt hu) ?_))
  refine wpAny_bind (I.type.here (wpAny_bind (hb.here ?_)))
  rw [show (Value.ref C != Value.ref C) = false from by simp]
  simp only [Bool.false_eq_true, if_false]
  refine wpAny_bind (wpAny_pure ?_)
  simp only [Bool.false_eq_true, if_false]
  refine wpAny_bind (wpAny_mono one (fun r s' z => ?_) fun _ _ e => e)
  obtain ⟨b, rfl, hq⟩ := z
  exact wpAny_pure hq
end
section
variable {X : Cx} {CX : CXT} {C f : Addr} {sp : Sp} {k : Nat} {E : XK}
def rOwnEq (C : Addr) (sp : Sp) (E : XK) (neg : Bool) : R2 := fun x y H Q => ∃ a dx fs b dy gs, x = .ref a ∧ y = .ref b ∧ H a = some (.ins C dx fs) ∧ H b = some (.ins C dy gs) ∧ sp [x, y] H (fun z H' => ∃ r, z = .bl r ∧ Q (.bl (if neg then !r else r)) H') E
theorem op_ownNe (hm : PySem.W.mroIn X.K C (.type "object") = some true) (hn : PySem.W.findIn X.K (.ref C) "__ne__" = some (some (.builtin "object.__ne__"))) (hs : PySem.W.findIn X.K (.ref C) "__eq__" = some (some (.ref f))) (hf : PySem.W.isFn X.K (.ref f) = true)
    (F : FnR X.prog X.w X.K X.mg X.base CX k f sp) (hr : Room (k + 1) X.A) (hx : ∀ (H : Hp) (s : Shared) (e : Value) (s' : Shared), CX X.stack H s E e s' → False) : OpR X (compareOp .NotEq) (rOwnEq C sp E true) := by
  intro pins s σ H x y v u Q I rx ry h
  obtain ⟨a, dx, fs, b, dy, gs, rfl, rfl, ha, hb, q⟩ := h
  cases (show v = Value.ref a from rx)
  cases (show u = Value.ref b from ry)
  obtain ⟨od, J⟩ := inst_at I ha
  obtain ⟨od', J'⟩ := inst_at I hb
  have hu : X.A.units + 64 < cLine := hr.units
  refine ne_own (by omega) I.kIn J J'.type hm hn hs hf ?_
  refine wpAny_call (codeAny_mono (F X.A.in1 X.stack s H [.ref a, .ref b] [.ref a, .ref b] _ E hr.in1 I.env0.in1 (.cons rfl (.cons rfl .nil)) q) fun r s' hq => ?_)
  cases r with
  | error e => exact (hx _ _ _ _ hq).elim
  | ok fl =>
    cases fl with
    | ret w =>
      obtain ⟨z, H', I', rz, r, ez, qz⟩ := I.after hq
      subst ez
      cases rz
      exact ⟨r, rfl, .bl (!r), H', I', rfl, qz⟩
    | next => exact False.elim hq
    | brk => exact False.elim hq
    | cont => exact False.elim hq
end
section
variable {K : PySem.W.Frag} {δ : Sl} {O O1 O2 O3 : Ow} {ta tb : TE} {C : Addr} {ds es : List D} {nm nm' : List Str} {R : DR} {E : XK}
theorem ev_ownNe {b : Bool} (ha : Ev K ta δ O (.ins C nm ds) O1) (hb : Ev K tb δ O1 (.ins C nm' es) O2) (hr : R [.ins C nm ds, .ins C nm' es] O2 fun d' O' => d' = .bl b ∧ O' = O3) : Ev K (tOp (rOwnEq C (SpD K R) E true) ta tb) δ O (.bl (!b)) O3 := fun G H σ w s Q k =>
  ha G H σ w s _ fun v G1 H1 s1 i1 => hb G1 H1 σ s1.wd (s.mono s1.ex) _ fun u G2 H2 s2 i2 => by
    have j1 := i1.mono s2.ex
    obtain ⟨p, dx, xs, rfl, e, _, _⟩ := id j1
    obtain ⟨p', dx', xs', rfl, e', _, _⟩ := id i2
    refine ⟨p, dx, _, p', dx', _, rfl, rfl, s2.wd.sub _ _ e, s2.wd.sub _ _ e', sp_run (ds := [.ins C nm ds, .ins C nm' es]) s2.wd ⟨_, _, rfl, j1, _, _, rfl, i2, rfl⟩ hr fun d O' v G' H' hp st iv => ?_⟩
    obtain ⟨rfl, rfl⟩ := hp
    have iv : v = .bl b := iv
    subst iv
    exact ⟨b, rfl, k _ G' H' ((s1.trans s2).trans st) rfl⟩
end
end DL

set_option Elab.async false
set_option linter.all false
set_option maxRecDepth 100000
namespace DL
open PySem PySem.Spec L2
open PyProof.Rows hiding St
theorem pe_methR0 {X : Cx} {CX : CXT} {k : Nat} {C f : Addr} {m : Str} {sp : Sp} {E : XK} {o : Expr} {ta : TE} {apos pos : Pos} {pl : Sem Bool} (he : PE X o ta) (c : Cls X.K C) (hm : Meth X.K C m f)
    (F : FnR X.prog X.w X.K X.mg X.base CX k f sp) (hr : Room k X.A) (hx : Passes CX X E)
    (ht : eval (.Call (.Attribute o m apos) [] [] pos) X.env = (do
      let ov ← eval o X.env
      standAt apos.atName
      let (g, first) ← holding [ov] (getMethod ov m pl)
      callWith pos g first (backTo pos (starEach [] X.env)) (backToKw pos (keywordEach [] X.env))) := by rfl) :
    PE X (.Call (.Attribute o m apos) [] [] pos) (tMethR C m sp E ta tNil) := by
  refine ⟨fun pins s σ H Q I h => ?_⟩
  refine PySem.W.methodCall_KW (pl := pl) (thn (he.run pins s σ H _ I h) fun u s1 ⟨x, H1, I1, rx, a, dx, fs, ex, ea, l, q⟩ => ?_) ht
  subst ex
  obtain rfl : u = Value.ref a := rx
  refine getmeth_ok I1 ea c hm l ?_
  exact PySem.W.callWith_K0 (first := [.ref a]) I1.kIn hm.kp (wpAny_call (run_fnR (us := [.ref a]) (vs := [.ref a]) F hr hx I1 (.cons rfl .nil) q))
section
variable {K : PySem.W.Frag} {δ : Sl} {O O1 O2 O3 : Ow} {d x y z : D} {ta tb tc te tv : TE} {t : TA} {i j : Int} {p q C : Addr} {ds es : List D} {nm nm' : List Str} {b : Bool} {R : DR} {E : XK} {P : D → Ow → Prop}
/-- a new instance that is plain data from then on; what it holds is not told by its arguments alone -/
theorem evp_mkI (h : EvA K t δ O ds O1) (hr : ∀ x, O1 x = none → R (.ref x :: ds) (setO O1 x (.ins C [] [])) fun d' O' => d' = .non ∧ ∃ nm es, O' = setO O1 x (.ins C nm es) ∧ P (.ins C nm es) O1) : EvP K (StX.tMakeR C (SpD K R) E t) δ O P := fun G H σ w s Q k => by
  refine evp_mk (P := fun d O' => ∃ x nm es, O1 x = none ∧ d = .ref x ∧ O' = setO O1 x (.ins C nm es) ∧ P (.ins C nm es) O1) h (fun x hx => ?_) G H σ w s Q fun d O' v G' H' hp st iv => ?_
  · have z := hr x hx
    have e : (fun (d' : D) (O' : Ow) => d' = .non ∧ ∃ x' nm es, O1 x' = none ∧ D.ref x = .ref x' ∧ O' = setO O1 x' (.ins C nm es) ∧ P (.ins C nm es) O1) = fun d' O' => d' = .non ∧ ∃ nm es, O' = setO O1 x (.ins C nm es) ∧ P (.ins C nm es) O1 := by
      funext d' O'
      refine propext ⟨fun ⟨a, x', nm, es, b, c, e, f⟩ => ?_, fun ⟨a, nm, es, e, f⟩ => ⟨a, x, nm, es, hx, rfl, e, f⟩⟩
      cases c
      exact ⟨a, nm, es, e, f⟩
    rw [e]
    exact z
  · obtain ⟨x, nm, es, hx, rfl, rfl, hP⟩ := hp
    have iv : v = .ref x := iv
    subst iv
    obtain ⟨_, dx, xs, e, hl, tl⟩ := st.wd.own x _ setO_same
    have st2 := Stp.pubI st.wd setO_same e
    rw [delO_setO hx] at st2
    exact k _ _ _ _ _ hP (st.trans st2) ⟨x, dx, xs, rfl, upd_same, hl, tl.mono st2.ex⟩
theorem evp_methP {m : Str} (h : EvP K ta δ O fun d O1 => ∃ nm ds es O2, d = .ins C nm ds ∧ m ∉ nm ∧ EvA K t δ O1 es O2 ∧ R (.ins C nm ds :: es) O2 P) : EvP K (tMethR C m (SpD K R) E ta t) δ O P := fun G H σ w s Q k =>
  h G H σ w s _ fun d O1 v G1 H1 hp s1 i1 => by
    obtain ⟨nm, ds, es, O2, rfl, hm, ht, hr⟩ := hp
    have i2 := i1
    obtain ⟨p, dx, xs, rfl, e, _, _⟩ := i2
    refine ⟨p, dx, _, rfl, s1.wd.sub _ _ e, lookup_none (G := G) hm, ht G1 H1 σ s1.wd (s.mono s1.ex) _ fun vs G2 H2 s2 i3 => ?_⟩
    exact sp_run (ds := .ins C nm ds :: es) s2.wd ⟨_, _, rfl, i1.mono s2.ex, i3⟩ hr fun d O' v G' H' hp st iv => k d O' v G' H' hp ((s1.trans s2).trans st) iv
end
end DL

set_option Elab.async false
set_option linter.all false
set_option maxRecDepth 100000
namespace DL
open PySem PySem.Spec L2
open PyProof.Rows hiding St
section
variable {X : Cx}
/-- xs[::0 - 1] -/
theorem pe_revZ {e : Expr} {te : TE} {k k2 : Nat} {p1 p2 p3 pos p4 : Pos} (K : PySem.W.Frag) (he : PE X e te) (hK : X.K = K := by rfl) : PE X (.Subscript e (.Slice none none (some (.BinOp (.Constant (.int 0) k p1) .Sub (.Constant (.int 1) k2 p2) p4)) p3) pos) (tRevL K te) := by
  subst hK
  refine ⟨fun pins s σ H Q I h => ?_⟩
  refine Subscript_ (thn (he.run pins s σ H _ I h) fun v s1 ⟨x, H1, I1, r1, q1⟩ => ?_)
  obtain ⟨a, xs, ex, hx, q⟩ := q1
  subst ex
  cases r1
  have hst : PO X (some (.BinOp (.Constant (.int 0) k p1) .Sub (.Constant (.int 1) k2 p2) p4)) (tPart (tOp (rI0 fun i j => .int (i - j)) (tC (.int 0)) (tC (.int 1)))) := po_some (pe_op op_sub pe_int pe_int)
  refine wpAny_Slice (thn (po_none.run pins s1 σ H1 (fun o H2 => o = none ∧ H2 = H1) I1 ⟨rfl, rfl⟩) fun vl s2 ⟨l, H2, I2, pl, el, e2⟩ => ?_)
  subst el e2
  refine thn (po_none.run pins s2 σ H2 (fun o H3 => o = none ∧ H3 = H2) I2 ⟨rfl, rfl⟩) fun vu s3 ⟨u, H3, I3, pu, eu, e3⟩ => ?_
  subst eu e3
  refine thn (hst.run pins s3 σ H3 (fun o H4 => o = some (-1) ∧ H4 = H3) I3 ⟨0, 1, rfl, rfl, -1, rfl, rfl, rfl⟩) fun vs s4 ⟨o, H4, I4, ps, eo, e4⟩ => ?_
  subst eo e4
  have I5 : Inv X pins σ H4 { s4 with heap := s4.heap.push { cls := .type "slice", data := .fields #[vl, vu, vs] } } := I4.kept (t' := s4.toks) fun b ob q => Heap.get?_push_of_some _ q
  obtain ⟨its, r, ht, hz⟩ := I5.list hx
  have hlen := r.length
  show wpAny (model X.prog X.w) X.A (subscriptTail e (.Slice none none (some (.BinOp (.Constant (.int 0) k p1) .Sub (.Constant (.int 1) k2 p2) p4)) p3) (.ref a) (.ref s4.heap.objs.size)) (EP X pins σ Q) X.xe { s4 with heap := s4.heap.push { cls := .type "slice", data := .fields #[vl, vu, vs] } }
  refine tail_any (ops := [.ref a, .ref s4.heap.objs.size]) ht.isList.typeIs (PySem.slot_list_getitem.lookup) ?_ (by with_unfolding_all rfl)
  refine wpAny_getItem_list_slice ht.isList (Heap.IsSliceOf.new _ vl vu vs) pl pu ps (by decide) ?_ (by rw [List.size_toArray]; omega)
  rw [PySem.W.krv_pick]
  refine ⟨.ref _, _, I5.laid (t' := s4.toks) (o := .lst xs.reverse) (fun b ob q => Heap.get?_push_of_some _ q) (Nat.le_refl _) ?_, rfl, q _ (I5.hok.fresh (Nat.le_refl _))⟩
  exact ⟨by rw [List.length_reverse]; exact hz, _, 0, r.reverse, Heap.get?_push_size _ rfl⟩
end
section
variable {K : PySem.W.Frag} {δ : Sl} {O O1 O2 : Ow} {te : TE} {ds : List D} {P : DE} {M : Int} {ns : List Int}
theorem ev_revL (h : Ev K te δ O (.lst ds) O1) : Ev K (tRevL K te) δ O (.lst ds.reverse) O1 := fun G H σ w s Q k =>
  h G H σ w s _ fun v G1 H1 s1 i1 => by
    obtain ⟨p, xs, rfl, e, tl⟩ := i1
    refine ⟨p, xs, rfl, .inl (.inl (s1.wd.sub _ _ e)), fun q hq => ?_⟩
    have st := Stp.new (o := .lst xs.reverse) s1.wd hq
    refine k _ _ _ (s1.trans st) ⟨q, _, rfl, upd_same, ?_⟩
    have : ∀ {ds : List D} {xs : List V}, IsL K G1 ds xs → IsL K G1 ds.reverse xs.reverse := fun {ds} => by
      induction ds with
      | nil => intro xs h; cases h; exact .nil
      | cons d r ih =>
        intro xs h
        obtain ⟨v, vs, rfl, a, b⟩ := h
        rw [List.reverse_cons, List.reverse_cons]
        exact (ih b).append (.cons a .nil)
    exact (this tl).mono st.ex
theorem sd_par3P {i j l : Nat} {ta : TA} (h : EvAP K ta δ O fun ds O' => ∃ a b c, ds = [a, b, c] ∧ P.nx (((δ.set i (some a)).set j (some b)).set l (some c)) O') : Sd K (tPar3 i j l ta) P δ O := fun G H σ D w s r =>
  h G H σ w s _ fun ds O' vs G1 H1 hp s1 i1 => by
    obtain ⟨a, b, c, rfl, hn⟩ := hp
    obtain ⟨u, r1, rfl, iu, t1⟩ := i1
    obtain ⟨v, r2, rfl, iv, t2⟩ := t1
    obtain ⟨x, r3, rfl, ix, t3⟩ := t2
    have t3 : r3 = [] := t3
    subst t3
    exact ⟨u, v, x, rfl, r.nx _ O' G1 H1 _ hn s1 ((((s.mono s1.ex).set iu).set iv).set ix)⟩
theorem c_maxL (h1 : M ∈ ns) (h2 : ∀ y ∈ ns, y ≤ M) : RCD K (rMax K) [.lst (ns.map .int)] O (.int M) := fun G H vs w a Q k => by
  obtain ⟨v, r, rfl, ⟨p, xs, rfl, e, tl⟩, hr⟩ := a
  have hr : r = [] := hr
  subst hr
  have ex := tl.intsV
  subst ex
  refine ⟨p, ns, rfl, .inl (.inl (w.sub _ _ e)), List.length_pos_of_mem h1, fun m hm hle => ?_⟩
  have : m = M := Int.le_antisymm (h2 m hm) (hle M h1)
  subst this
  exact k _ G H (Stp.refl w) rfl
theorem c_minL (h1 : M ∈ ns) (h2 : ∀ y ∈ ns, M ≤ y) : RCD K (rMin K) [.lst (ns.map .int)] O (.int M) := fun G H vs w a Q k => by
  obtain ⟨v, r, rfl, ⟨p, xs, rfl, e, tl⟩, hr⟩ := a
  have hr : r = [] := hr
  subst hr
  have ex := tl.intsV
  subst ex
  refine ⟨p, ns, rfl, .inl (.inl (w.sub _ _ e)), List.length_pos_of_mem h1, fun m hm hle => ?_⟩
  have : m = M := Int.le_antisymm (hle M h1) (h2 m hm)
  subst this
  exact k _ G H (Stp.refl w) rfl
end
end DL

set_option Elab.async false
set_option linter.all false
set_option maxRecDepth 100000
/-! own len and abs; texts -/
namespace DL
open PySem PySem.Spec L2
open PyProof.Rows hiding St
section
variable {X : Cx} {CX : CXT} {k : Nat} {C f : Addr} {sp : Sp} {E : XK}
def rOwnLen (C : Addr) (sp : Sp) (E : XK) : List V → Hp → VK → Prop := fun xs H Q => ∃ a dx fs, xs = [.ref a] ∧ H a = some (.ins C dx fs) ∧ sp [.ref a] H (fun z H' => ∃ n : Int, z = .int n ∧ (0 ≤ n ∧ n < 2 ^ 63) ∧ Q (.int n) H') E
theorem call_lenOwn (hs : PySem.W.findIn X.K (.ref C) "__len__" = some (some (.ref f))) (hf : PySem.W.isFn X.K (.ref f) = true) (F : FnR X.prog X.w X.K X.mg X.base CX k f sp) (hr : Room (k + 1) X.A) (hx : Passes CX X E) : CallR X (.builtin "len") (rOwnLen C sp E) := by
  intro pins s σ H xs us Q I r h
  obtain ⟨a, dx, fs, rfl, ha, q⟩ := h
  obtain ⟨u, rfl, ru⟩ := vals1 r
  cases (show u = Value.ref a from ru)
  obtain ⟨od, J⟩ := inst_at I ha
  obtain ⟨m, hF⟩ := I.fr
  refine PySem.W.len_K hF I.ok.mod.kin J hs hf (wpAny_mono (wpAny_call (SlX.run_at (us := [.ref a]) (ws := [.ref a]) F hr.in1 I.env0.in1 hx I (.cons rfl .nil) q)) (fun w s' z => ?_) fun _ _ x => x)
  obtain ⟨z', H', I', rz, n, ez, hn, qz⟩ := z
  subst ez
  obtain ⟨t, rfl⟩ := (show ∃ t, w = Value.int n t from rz)
  exact ⟨hn, .int n, H', I'.tok _, ⟨_, rfl⟩, qz⟩
def rOwnAbs (C : Addr) (sp : Sp) (E : XK) : List V → Hp → VK → Prop := fun xs H Q => ∃ a dx fs, xs = [.ref a] ∧ H a = some (.ins C dx fs) ∧ sp [.ref a] H Q E
theorem call_absOwn (hs : PySem.W.findIn X.K (.ref C) "__abs__" = some (some (.ref f))) (hf : PySem.W.isFn X.K (.ref f) = true) (F : FnR X.prog X.w X.K X.mg X.base CX k f sp) (hr : Room (k + 1) X.A) (hx : Passes CX X E) : CallR X (.builtin "abs") (rOwnAbs C sp E) := by
  intro pins s σ H xs us Q I r h
  obtain ⟨a, dx, fs, rfl, ha, q⟩ := h
  obtain ⟨u, rfl, ru⟩ := vals1 r
  cases (show u = Value.ref a from ru)
  obtain ⟨od, J⟩ := inst_at I ha
  obtain ⟨m, hF⟩ := I.fr
  refine Calls.call_function_entry kind_abs plain_abs entry_abs (args_abs _) ?_
  unfold Builtin.«abs»
  refine wpAny_bind (m := oneArg "abs" _) (wpAny_pure ?_)
  refine wpAny_bind (m := callSpecial? (.ref a) (Str.ofString "__abs__")) (PySem.W.special_fn (I.ok.mod.kin.keeps hF.keep) J hs (beq_iff_eq.mp hf) (wpAny_mono (wpAny_call (SlX.run_at (us := [.ref a]) (ws := [.ref a]) F hr.in1 I.env0.in1 hx I (.cons rfl .nil) q)) (fun w s' z => ?_) fun _ _ x => x))
  exact wpAny_pure ⟨_, rfl, z⟩
end
/-! ### over data -/
section
variable {K : PySem.W.Frag} {δ : Sl} {O O1 O2 O3 : Ow} {d x y z : D} {ta tb tc te tv : TE} {t : TA} {i j : Int} {p q C : Addr} {ds es : List D} {nm nm' : List Str} {b : Bool} {R : DR} {E : XK} {P : D → Ow → Prop}
theorem c_lenOwn {n : Int} (hn : 0 ≤ n ∧ n < 2 ^ 63) (hr : R [.ins C nm ds] O fun d' O' => d' = .int n ∧ O' = O) : RCD K (rOwnLen C (SpD K R) E) [.ins C nm ds] O (.int n) := fun G H vs w a Q k => by
  obtain ⟨v, rfl, av⟩ := isL1 a
  obtain ⟨p, dx, xs, rfl, e, hl, tl⟩ := id av
  refine ⟨p, dx, _, rfl, w.sub _ _ e, sp_run (ds := [.ins C nm ds]) w ⟨_, _, rfl, av, rfl⟩ hr fun d O' v G' H' hp st iv => ?_⟩
  obtain ⟨rfl, rfl⟩ := hp
  exact ⟨n, iv, hn, k _ G' H' st rfl⟩
theorem c_absOwn {n : Int} (hr : R [.ins C nm ds] O fun d' O' => d' = .int n ∧ O' = O) : RCD K (rOwnAbs C (SpD K R) E) [.ins C nm ds] O (.int n) := fun G H vs w a Q k => by
  obtain ⟨v, rfl, av⟩ := isL1 a
  obtain ⟨p, dx, xs, rfl, e, hl, tl⟩ := id av
  refine ⟨p, dx, _, rfl, w.sub _ _ e, sp_run (ds := [.ins C nm ds]) w ⟨_, _, rfl, av, rfl⟩ hr fun d O' v G' H' hp st iv => ?_⟩
  obtain ⟨rfl, rfl⟩ := hp
  exact k _ G' H' st iv
/-! texts -/
theorem IsL.strs : ∀ {l : List Str} {vs : List V} {G : Hp}, IsL K G (l.map D.str) vs → vs = l.map V.str
  | [], _, _, h => h
  | _ :: _, _, _, ⟨v, r, rfl, a, b⟩ => by rw [IsL.strs b, show v = _ from a]; rfl
theorem isL_strs {G : Hp} : ∀ (l : List Str), IsL K G (l.map D.str) (l.map V.str)
  | [] => rfl
  | _ :: r => ⟨_, _, rfl, rfl, isL_strs r⟩
theorem r_addS {a b : Str} (h : a.length + b.length ≤ 100000) : R2D K (fun x y H Q => ∃ i j, x = .str i ∧ y = .str j ∧ i.length + j.length ≤ sizeLine ∧ Q (.str (i ++ j)) H) (.str a) (.str b) O (.str (a ++ b)) := fun G H v u w e1 e2 Q k => ⟨a, b, e1, e2, sz h, k _ G H (Stp.refl w) rfl⟩
theorem c_strI (h : i.natAbs < 2 ^ 1000) : RCD K (fun xs H Q => ∃ i : Int, xs = [V.int i] ∧ i.natAbs.log2 < 1920 ∧ Q (.str (toString i)) H) [.int i] O (.str (toString i)) := fun G H vs w a Q k => by
  obtain ⟨v, rfl, av⟩ := isL1 a
  refine ⟨i, by rw [show v = _ from av], ?_, k _ G H (Stp.refl w) rfl⟩
  by_cases q : i.natAbs = 0
  · rw [q]; decide
  · have := (Nat.log2_lt q).mpr h
    omega
theorem c_lenStr {a : Str} (h : a.length ≤ 100000) : RCD K (fun xs H Q => ∃ z : Str, xs = [V.str z] ∧ z.length ≤ sizeLine ∧ Q (.int z.length) H) [.str a] O (.int (a.length : Int)) := fun G H vs w e Q k => by
  obtain ⟨v, rfl, av⟩ := isL1 e
  exact ⟨a, by rw [show v = _ from av], sz h, k _ G H (Stp.refl w) rfl⟩
theorem c_intStr {a : Str} {n : Int} (h : intText? a = some n) (hl : a.length ≤ 640) : RCD K (fun xs H Q => ∃ a n, xs = [V.str a] ∧ PySem.intText? a = some n ∧ a.length ≤ 640 ∧ Q (.int n) H) [.str a] O (.int n) := fun G H vs w e Q k => by
  obtain ⟨v, rfl, av⟩ := isL1 e
  exact ⟨a, n, by rw [show v = _ from av], h, hl, k _ G H (Stp.refl w) rfl⟩
theorem ev_join {a : Str} {l : List Str} (h : Ev K ta δ O (.str a) O1) (h2 : Ev K tb δ O1 (.lst (l.map .str)) O2) (hz : (l.map (·.length)).sum + l.length * a.length ≤ 16777216) :
    Ev K (tM1 (fun x xs H Q => ∃ a p, ∃ ys : List Str, x = .str a ∧ xs = [.ref p] ∧ (SqL K H p (ys.map V.str) ∨ SqT K H p (ys.map V.str)) ∧ (ys.map (·.length)).sum + ys.length * a.length ≤ 16777216 ∧ Q (.str (Txt.join a ys)) H) ta tb) δ O (.str (Txt.join a l)) O2 := fun G H σ w s Q k =>
  h G H σ w s _ fun v G1 H1 s1 i1 => ⟨⟨a, i1⟩, h2 G1 H1 σ s1.wd (s.mono s1.ex) _ fun u G2 H2 s2 i2 => by
    obtain ⟨p, xs, rfl, e, tl⟩ := i2
    have ex := tl.strs
    subst ex
    exact ⟨a, p, l, i1, rfl, .inl (.inl (.inl (s2.wd.sub _ _ e))), hz, k _ G2 H2 (s1.trans s2) rfl⟩⟩
theorem ev_joinO {a : Str} {l : List Str} (h : Ev K ta δ O (.str a) O1) (h2 : Ev K tb δ O1 (.ref p) O2) (ho : O2 p = some (.lst (l.map .str))) (hz : (l.map (·.length)).sum + l.length * a.length ≤ 16777216) :
    Ev K (tM1 (fun x xs H Q => ∃ a p, ∃ ys : List Str, x = .str a ∧ xs = [.ref p] ∧ (SqL K H p (ys.map V.str) ∨ SqT K H p (ys.map V.str)) ∧ (ys.map (·.length)).sum + ys.length * a.length ≤ 16777216 ∧ Q (.str (Txt.join a ys)) H) ta tb) δ O (.str (Txt.join a l)) O2 := fun G H σ w s Q k =>
  h G H σ w s _ fun v G1 H1 s1 i1 => ⟨⟨a, i1⟩, h2 G1 H1 σ s1.wd (s.mono s1.ex) _ fun u G2 H2 s2 i2 => by
    have i2 : u = .ref p := i2
    subst i2
    obtain ⟨_, xs, e, tl⟩ := s2.wd.own p _ ho
    have ex := tl.strs
    subst ex
    exact ⟨a, p, l, i1, rfl, .inl (.inl (.inl e)), hz, k _ G2 H2 (s1.trans s2) rfl⟩⟩
theorem ev_split {a c : Str} (h : Ev K ta δ O (.str a) O1) (h2 : Ev K tb δ O1 (.str c) O2) (hc : (c.length == 0) = false) (hz : a.length + 2 ≤ 100000) :
    Ev K (tM1 (fun x xs H Q => ∃ a b, x = .str a ∧ xs = [.str b] ∧ (b.length == 0) = false ∧ a.length + 2 ≤ sizeLine ∧ rNewStrs (Txt.split a b) H Q) ta tb) δ O (.lst ((Txt.split a c).map .str)) O2 := fun G H σ w s Q k =>
  h G H σ w s _ fun v G1 H1 s1 i1 => ⟨⟨a, i1⟩, h2 G1 H1 σ s1.wd (s.mono s1.ex) _ fun u G2 H2 s2 i2 => by
    have i1 : v = .str a := i1
    have i2 : u = .str c := i2
    subst i1 i2
    exact ⟨a, c, rfl, rfl, hc, sz hz, fun p hp => k _ _ _ ((s1.trans s2).trans (Stp.new s2.wd hp)) ⟨p, _, rfl, upd_same, (isL_strs _)⟩⟩⟩
theorem r_ixStr {a : Str} {c : Nat} (hz : a.length ≤ 100000) (h : atI a.cps.toList i = some c) : R2D K rIxS (.str a) (.int i) O (.str ⟨#[c]⟩) := fun G H v u w e1 e2 Q k => ⟨a, i, c, e1, e2, sz hz, h, k _ G H (Stp.refl w) rfl⟩
theorem r_inSign {c : Nat} {a : Str} : R2D K (fun x y H Q => ∃ (c : Nat) (z : Str), x = V.str ⟨#[c]⟩ ∧ y = V.str z ∧ Q (.bl (decide (c ∈ z.cps.toList))) H) (.str ⟨#[c]⟩) (.str a) O (.bl (decide (c ∈ a.cps.toList))) := fun G H v u w e1 e2 Q k => ⟨c, a, e1, e2, k _ G H (Stp.refl w) rfl⟩
theorem r_notInSign {c : Nat} {a : Str} : R2D K (fun x y H Q => ∃ (c : Nat) (z : Str), x = V.str ⟨#[c]⟩ ∧ y = V.str z ∧ Q (.bl (!decide (c ∈ z.cps.toList))) H) (.str ⟨#[c]⟩) (.str a) O (.bl (!decide (c ∈ a.cps.toList))) := fun G H v u w e1 e2 Q k => ⟨c, a, e1, e2, k _ G H (Stp.refl w) rfl⟩
theorem ei_str {a : Str} (h : Ev K te δ O (.str a) O1) : EvI K (iStr te) δ O (a.cps.toList.map fun c => .str ⟨#[c]⟩) O1 := fun G H σ w s R k =>
  h G H σ w s _ fun v G1 H1 s1 i1 => by
    refine ⟨a, i1, k _ G1 H1 s1 fun G' O' H' sb w' i => ?_⟩
    refine ⟨fun d hd => ?_, fun hn => ?_⟩
    · rw [List.getElem?_map] at hd
      cases q : a.cps.toList[i]? with
      | none => rw [q] at hd; cases hd
      | some c =>
        rw [q] at hd
        cases hd
        have ha : a.cps[i]? = some c := by rw [← Array.getElem?_toList]; exact q
        refine ⟨(Array.getElem?_eq_some_iff.mp ha).1, fun x H'' hy => ?_⟩
        obtain ⟨rfl, c', hc', rfl⟩ := hy
        rw [ha] at hc'
        cases hc'
        exact ⟨G', Stp.refl w', rfl⟩
    · rw [List.getElem?_map] at hn
      show a.cps.size ≤ i
      cases q : a.cps.toList[i]? with
      | none => simpa using List.getElem?_eq_none_iff.mp q
      | some c => rw [q] at hn; cases hn
theorem c_any {bs : List Bool} : RCD K (rAny K) [.lst (bs.map .bl)] O (.bl (bs.any id)) := fun G H vs w a Q k => by
  obtain ⟨v, rfl, p, xs, rfl, e, tl⟩ := isL1 a
  have ex := tl.bls
  subst ex
  exact ⟨p, bs, rfl, .inl (.inl (w.sub _ _ e)), k _ G H (Stp.refl w) rfl⟩
theorem r_eqIN : R2D K rEq (.int i) .non O (.bl false) := fun G H v u w a b Q k => by
  cases a; cases b
  exact ⟨rfl, k _ G H (Stp.refl w) rfl⟩
theorem r_catO (ho : O p = some (.lst ds)) (hl : ds.length + es.length ≤ 100000) : R2D K rCat (.ref p) (.lst es) O (.lst (ds ++ es)) := fun G H v u w a b Q k => by
  have a : v = .ref p := a
  subst a
  obtain ⟨_, xs, e, tl⟩ := w.own p _ ho
  obtain ⟨q, ys, rfl, e', tl'⟩ := b
  exact ⟨p, q, xs, ys, rfl, rfl, e, w.sub _ _ e', by rw [← tl.length, ← tl'.length]; exact sz hl, fun l hl => k _ _ _ (Stp.new w hl) ⟨l, _, rfl, upd_same, (tl.append tl').mono (Stp.new w hl (o := .lst (xs ++ ys))).ex⟩⟩
theorem evp_listS {ns : List Int} (h : Ev K te δ O (.scr ns) O1) (hp : ∀ p, O1 p = none → P (.ref p) (setO O1 p (.lst (ns.map .int)))) : EvP K (tCB (fun xs H Q => ∃ p ys, xs = [.ref p] ∧ (SqL K H p ys ∨ SqT K H p ys) ∧ ∀ l, H l = none → Q (.ref l) (upd H l (.lst ys))) (tCons te tNil)) δ O P := fun G H σ w s Q k =>
  h G H σ w s _ fun v G1 H1 s1 i1 => by
    obtain ⟨p, rfl, e⟩ := i1
    exact ⟨p, _, rfl, .inl (Evl.ex_l s1.wd.sub e), fun l hl => k _ _ _ _ _ (hp l (s1.wd.oNone hl)) (s1.trans (Stp.newO s1.wd hl ⟨_, upd_same, .ints⟩)) rfl⟩
theorem evp_lstP {P : D → Ow → Prop} (h : EvAP K t δ O fun ds O1 => ds.length ≤ 100000 ∧ ∀ p, O1 p = none → P (.ref p) (setO O1 p (.lst ds))) : EvP K (tLst t) δ O P := fun G H σ w s Q k =>
  h G H σ w s _ fun ds O1 vs G1 H1 hp s1 i1 => ⟨by rw [← i1.length]; exact sz hp.1, fun p hn => k _ _ _ _ _ (hp.2 p (s1.wd.oNone hn)) (s1.trans (Stp.newO s1.wd hn ⟨vs, upd_same, i1⟩)) rfl⟩
end
end DL

set_option Elab.async false
set_option linter.all false
set_option maxRecDepth 100000
/-! joins, tuple(range), o[i] += e -/
namespace DL
open PySem PySem.Spec L2
open PyProof.Rows hiding St
section
variable {X : Cx} {K : PySem.W.Frag}
theorem pe_joinK {o e : Expr} {to te : TE} {apos pos : Pos} (K : PySem.W.Frag) (ho : PE X o to) (he : PE X e te) (hK : X.K = K := by rfl) (hs : starEach [e] X.env = [(false, eval e X.env)] := by rfl) (hbase : attributeBase o "join" X.env (eval o X.env) = eval o X.env := by rfl) (hline : (apos.endLine == pos.line) = true := by rfl) :
    PE X (.Call (.Attribute o "join" apos) [e] [] pos) (tM1 (fun x xs H Q => ∃ a p, ∃ ys : List Str, x = .str a ∧ xs = [.ref p] ∧ (SqL K H p (ys.map V.str) ∨ SqT K H p (ys.map V.str)) ∧
      (ys.map (·.length)).sum + ys.length * a.length ≤ 16777216 ∧ Q (.str (Txt.join a ys)) H) to te) := by subst hK; exact pe_join ho he hs hbase hline
def rIxP (K : PySem.W.Frag) : R2 := fun x y H Q => ∃ p xs i v, x = .ref p ∧ y = .int i ∧ 0 ≤ i ∧ SqL K H p xs ∧ atI xs i = some v ∧ Q v H
theorem get_list (K : PySem.W.Frag) (hK : X.K = K := by rfl) : PGet X (rIxP K) := by
  subst hK
  intro pins s σ H x y v u Q I rx ry h
  obtain ⟨p, xs, i, z, rfl, rfl, h0, hq, he, q⟩ := h
  cases rx
  obtain ⟨t, rfl⟩ := ry
  obtain ⟨its, r, pl, hz⟩ := I.list hq
  obtain ⟨j, h1, h2, h3, h4, h5⟩ := atI_get he
  obtain ⟨w, ew, rw'⟩ := r.get h2
  have hl := r.length
  have hn := line63
  have fin : EP X pins σ Q w s := ⟨z, H, I, rw', q⟩
  have hj : i.toNat = j := by
    rw [seqIndex_of h0 h5] at h1
    exact Option.some.inj h1
  exact wpAny_getItem_list pl.isList h0 (by omega) (by rw [hj]; simpa using ew) fin
end
section
variable {K : PySem.W.Frag} {δ : Sl} {O O1 O2 O3 : Ow} {d x y z : D} {ta tb tc te tv : TE} {t : TA} {i j : Int} {p q l C : Addr} {ds es : List D} {nm nm' : List Str} {b : Bool} {R : DR} {E : XK} {P : DE}
theorem ev_tupRg (h : Ev K te δ O (.int j) O1) (hj : 0 ≤ j ∧ j ≤ 100000) : Ev K (tTupRg (tRg1 te)) δ O (.tup (rng 0 j.toNat)) O1 := fun G H σ w s Q k =>
  h G H σ w s _ fun v G1 H1 s1 i1 => ⟨j, i1, RgOk.of_le (by omega) (by omega) (by omega) (by omega), fun q hq => by
    have st := Stp.new (o := .tup (rgV 0 j)) s1.wd hq
    have e : rng 0 j.toNat = rng 0 (j - 0).toNat := by rw [Int.sub_zero]
    exact k _ _ _ (s1.trans st) ⟨q, _, rfl, upd_same, by rw [e]; exact rgV_is⟩⟩
theorem sd_augL {k : Nat} {a c : Int} (h1 : Ev K ta δ O (.ref l) O1) (h2 : Ev K tb δ O1 (.int i) O2) (h3 : O2 l = some (.lst ds)) (h0 : 0 ≤ i) (h4 : atI ds i = some (.int a)) (h5 : Ev K te δ O2 (.int c) O3) (h6 : O3 l = some (.lst es)) (hj : ixN es.length i = some k) (kk : P.nx δ (setO O3 l (.lst (es.set k (.int (a + c)))))) :
    Sd K (tAugS ta tb te (rIxP K) (ipI fun i j => i + j) rSetL) P δ O := fun G H σ D w s r =>
  h1 G H σ w s _ fun u G1 H1 s1 i1 => h2 G1 H1 σ s1.wd (s.mono s1.ex) _ fun q G2 H2 s2 i2 => by
    have i1 : u = .ref l := i1
    have i2 : q = .int i := i2
    subst i1 i2
    obtain ⟨_, xs, e, tt⟩ := s2.wd.own l _ h3
    obtain ⟨v, e1, e2⟩ := atI_is tt h4
    have e2 : v = .int a := e2
    subst e2
    refine ⟨l, xs, i, _, rfl, rfl, h0, .inl (.inl e), e1, h5 G2 H2 σ s2.wd (s.mono (s1.ex.trans s2.ex)) _ fun y G3 H3 s3 i3 => ?_⟩
    have i3 : y = .int c := i3
    subst i3
    refine ⟨a, c, rfl, rfl, ?_⟩
    obtain ⟨_, ys, e', t'⟩ := s3.wd.own l _ h6
    refine ⟨l, ys, i, k, rfl, rfl, e', by rw [← t'.length]; exact hj, ?_⟩
    have st := Stp.write (o := .lst (ys.set k (.int (a + c)))) (m' := .lst (es.set k (.int (a + c)))) s3.wd h6 ⟨_, upd_same, t'.set k rfl⟩
    exact r.nx _ _ _ _ _ kk (((s1.trans s2).trans s3).trans st) (s.mono (((s1.ex.trans s2.ex).trans s3.ex).trans st.ex))
end
end DL

set_option Elab.async false
set_option linter.all false
set_option maxRecDepth 100000
/-! max and min of a tuple of ints; enumerate of a list -/
namespace DL
open PySem PySem.Spec L2
open PyProof.Rows hiding St
section
variable {prog : Program} {w : World} {A : Around} {E : Value → Shared → Prop} {s : Shared} {l : Addr} {its : List Value} {ns : List Int} {Q : Value → Shared → Prop}
theorem maxT_raw (hh : A.handled = none) (hl : s.heap.IsTuple l its.toArray) (hi : IntsAre its ns) (hne : 0 < ns.length)
    (h : ∀ h' tk M t', (∀ b o, s.heap.get? b = some o → h'.get? b = some o) → M ∈ ns → (∀ a, a ∈ ns → a ≤ M) → Q (.int M t') { s with heap := h', toks := tk }) : wpAny (model prog w) A (call (.builtin "max") [.ref l]) Q E s := by
  obtain ⟨xs, e⟩ := hi.allInts.items
  have hn : numsOf (intItems xs).toList = ns := by rw [← e]; exact hi.numsOf
  rw [nums_intItems] at hn
  subst hn
  rw [e] at hl
  have hsz : 0 < xs.size := by simpa using hne
  have es : (intItems xs).size = xs.size := by simp [intItems]
  refine call_max_walkH (PySem.W.iter_tupleW (A := A.in1) hh hl fun s₂ e W st hfp hw hk => ?_)
  refine ⟨_, _, _, _, _, _, _, s.heap, _, rfl, W, st, hfp, by omega, hw, hk, fun i j vi vj s' Q' E' _ h1 h2 h3 => CmpOf.ints_gt (numAt xs) (fun _ _ => intItems_at) i j vi vj s' Q' E' h1 h2 h3, fun v s' hP m => ?_⟩
  obtain ⟨h', tk, rfl, hk'⟩ := PySem.W.moved_old e rfl m
  rw [es] at hP
  obtain ⟨t, rfl⟩ := intItems_at hP
  obtain ⟨h1, h2⟩ := argBest_gt (numAt xs) (xs.size - 1)
  refine h h' tk _ t hk' ?_ fun a ha => ?_
  · rw [numAt_eq]; exact PySem.getD_mem (by rw [List.length_map, Array.length_toList]; omega)
  · obtain ⟨j, hj, rfl⟩ := mem_getD ha
    rw [List.length_map, Array.length_toList] at hj
    rw [← numAt_eq]; exact h2 j (by omega)
theorem minT_raw (hh : A.handled = none) (hl : s.heap.IsTuple l its.toArray) (hi : IntsAre its ns) (hne : 0 < ns.length)
    (h : ∀ h' tk M t', (∀ b o, s.heap.get? b = some o → h'.get? b = some o) → M ∈ ns → (∀ a, a ∈ ns → M ≤ a) → Q (.int M t') { s with heap := h', toks := tk }) : wpAny (model prog w) A (call (.builtin "min") [.ref l]) Q E s := by
  obtain ⟨xs, e⟩ := hi.allInts.items
  have hn : numsOf (intItems xs).toList = ns := by rw [← e]; exact hi.numsOf
  rw [nums_intItems] at hn
  subst hn
  rw [e] at hl
  have hsz : 0 < xs.size := by simpa using hne
  have es : (intItems xs).size = xs.size := by simp [intItems]
  refine call_min_walkH (PySem.W.iter_tupleW (A := A.in1) hh hl fun s₂ e W st hfp hw hk => ?_)
  refine ⟨_, _, _, _, _, _, _, s.heap, _, rfl, W, st, hfp, by omega, hw, hk, fun i j vi vj s' Q' E' _ h1 h2 h3 => CmpOf.ints_lt (numAt xs) (fun _ _ => intItems_at) i j vi vj s' Q' E' h1 h2 h3, fun v s' hP m => ?_⟩
  obtain ⟨h', tk, rfl, hk'⟩ := PySem.W.moved_old e rfl m
  rw [es] at hP
  obtain ⟨t, rfl⟩ := intItems_at hP
  obtain ⟨h1, h2⟩ := argBest_lt (numAt xs) (xs.size - 1)
  refine h h' tk _ t hk' ?_ fun a ha => ?_
  · rw [numAt_eq]; exact PySem.getD_mem (by rw [List.length_map, Array.length_toList]; omega)
  · obtain ⟨j, hj, rfl⟩ := mem_getD ha
    rw [List.length_map, Array.length_toList] at hj
    rw [← numAt_eq]; exact h2 j (by omega)
end
section
variable {X : Cx}
def rMaxT (K : PySem.W.Frag) : List V → Hp → VK → Prop := fun vs H Q => ∃ (a : Addr) (ns : List Int), vs = [V.ref a] ∧ SqT K H a (ns.map V.int) ∧ 0 < ns.length ∧ ∀ m, m ∈ ns → (∀ y, y ∈ ns → y ≤ m) → Q (.int m) H
def rMinT (K : PySem.W.Frag) : List V → Hp → VK → Prop := fun vs H Q => ∃ (a : Addr) (ns : List Int), vs = [V.ref a] ∧ SqT K H a (ns.map V.int) ∧ 0 < ns.length ∧ ∀ m, m ∈ ns → (∀ y, y ∈ ns → m ≤ y) → Q (.int m) H
theorem cr_maxT (K : PySem.W.Frag) (hc : X.calm = true) (hK : X.K = K := by rfl) : CallR X (.builtin "max") (rMaxT K) := by
  subst hK
  intro pins s σ H vs us Q I r h
  obtain ⟨a, ns, rfl, hs, hne, q⟩ := h
  obtain ⟨its, rv, hl, _⟩ := I.tuple hs
  rw [Vals.ref1 r]
  exact maxT_raw (I.ok.hd hc) hl rv.ints hne fun h' tk m t' hk h1 h2 => ⟨.int _, H, I.kept hk, ⟨_, rfl⟩, q m h1 h2⟩
theorem cr_minT (K : PySem.W.Frag) (hc : X.calm = true) (hK : X.K = K := by rfl) : CallR X (.builtin "min") (rMinT K) := by
  subst hK
  intro pins s σ H vs us Q I r h
  obtain ⟨a, ns, rfl, hs, hne, q⟩ := h
  obtain ⟨its, rv, hl, _⟩ := I.tuple hs
  rw [Vals.ref1 r]
  exact minT_raw (I.ok.hd hc) hl rv.ints hne fun h' tk m t' hk h1 h2 => ⟨.int _, H, I.kept hk, ⟨_, rfl⟩, q m h1 h2⟩
end
section
variable {K : PySem.W.Frag} {δ : Sl} {O O1 O2 O3 : Ow} {d x y z : D} {ta tb tc te tv : TE} {t : TA} {i j M : Int} {p q l C : Addr} {ds es : List D} {nm nm' : List Str} {b : Bool} {R : DR} {E : XK} {P : DE} {ns : List Int}
theorem c_maxT (h1 : M ∈ ns) (h2 : ∀ y ∈ ns, y ≤ M) : RCD K (rMaxT K) [.tup (ns.map .int)] O (.int M) := fun G H vs w a Q k => by
  obtain ⟨v, rfl, p, xs, rfl, e, t⟩ := isL1 a
  rw [t.intsV] at e
  refine ⟨p, ns, rfl, .inl (.inl (w.sub _ _ e)), List.length_pos_of_mem h1, fun m hm hy => ?_⟩
  have : m = M := Int.le_antisymm (h2 m hm) (hy M h1)
  subst this
  exact k _ G H (Stp.refl w) rfl
theorem c_minT (h1 : M ∈ ns) (h2 : ∀ y ∈ ns, M ≤ y) : RCD K (rMinT K) [.tup (ns.map .int)] O (.int M) := fun G H vs w a Q k => by
  obtain ⟨v, rfl, p, xs, rfl, e, t⟩ := isL1 a
  rw [t.intsV] at e
  refine ⟨p, ns, rfl, .inl (.inl (w.sub _ _ e)), List.length_pos_of_mem h1, fun m hm hy => ?_⟩
  have : m = M := Int.le_antisymm (hy M h1) (h2 m hm)
  subst this
  exact k _ G H (Stp.refl w) rfl
theorem ei_enumL (h : EvA K t δ O [.lst ds] O1) : EvI K (iEnum K t) δ O (enumD ds) O1 := fun G H σ w s R k =>
  h G H σ w s _ fun vs G1 H1 s1 i1 => by
    obtain ⟨v, rfl, p, xs, rfl, e, tl⟩ := isL1 i1
    refine ⟨p, xs, rfl, .inl (.inl (s1.wd.sub _ _ e)), k _ G1 H1 s1 fun G' O' H' sb w' i => ?_⟩
    have e' : SqL K H' p xs := .inl (.inl (w'.sub _ _ (sb _ _ e)))
    refine ⟨fun d hd => ?_, fun hn => ⟨xs, e', by rw [← tl.length]; rw [enumD_get, Option.map_eq_none_iff] at hn; exact List.getElem?_eq_none_iff.mp hn⟩⟩
    rw [enumD_get] at hd
    cases q : ds[i]? with
    | none => rw [q] at hd; cases hd
    | some d0 =>
      rw [q] at hd
      cases hd
      obtain ⟨u, hu, iu⟩ := tl.get q
      refine ⟨⟨xs, u, e', hu⟩, fun x H'' hy => ?_⟩
      obtain ⟨T, u', rfl, hT, rfl, fx⟩ := hy
      have ex : u = u' := Option.some.inj (hu.symm.trans (fx xs e'))
      subst ex
      have st := Stp.new (o := .tup [.int (i : Nat), u]) w' hT
      exact ⟨_, st, T, _, rfl, upd_same, _, _, rfl, rfl, _, _, rfl, (iu.mono sb).mono st.ex, rfl⟩
end
end DL

set_option Elab.async false
set_option linter.all false
set_option maxRecDepth 100000
/-! comprehensions by an invariant -/
namespace DL
open PySem PySem.Spec L2
def EvTP (K : PySem.W.Frag) (tt : TT) (δ : Sl) (O : Ow) (P : Bool → Ow → Prop) : Prop :=
  ∀ G H σ, Wd K G O H → SlIs K G δ σ → ∀ Q : Bool → Hp → Prop, (∀ b O' G' H', P b O' → Stp K G O H G' O' H' → Q b H') → tt σ H Q
section
variable {K : PySem.W.Frag} {δ : Sl} {O O1 O2 O3 : Ow} {d x y z : D} {ta tb tc te tv : TE} {t : TA} {tt tt2 : TT} {i j M : Int} {p q l C : Addr} {ds es : List D} {b : Bool} {R : DR} {E : XK} {P : D → Ow → Prop} {B : Bool → Ow → Prop} {g : TG}
theorem EvT.toP (h : EvT K tt δ O b O1) (hp : B b O1) : EvTP K tt δ O B := fun G H σ w s Q k => h G H σ w s Q fun G' H' st => k b O1 G' H' hp st
theorem etp_yes (h : B true O) : EvTP K tYes δ O B := et_yes.toP h
theorem etp_test (h : EvP K te δ O fun d O' => ∃ b, d = .bl b ∧ B b O') : EvTP K (tTest te) δ O B := fun G H σ w s Q k => h G H σ w s _ fun d O' v G1 H1 hp s1 i1 => by
  obtain ⟨b, rfl, hb⟩ := hp
  exact ⟨b, i1, k b O' G1 H1 hb s1⟩
theorem etp_not (h : EvTP K tt δ O fun b O' => B (!b) O') : EvTP K (tNot tt) δ O B := fun G H σ w s Q k => h G H σ w s _ fun b O' G1 H1 hp s1 => k _ O' G1 H1 hp s1
theorem EvP.weak {P' : D → Ow → Prop} (h : EvP K te δ O P') (k : ∀ d O', P' d O' → P d O') : EvP K te δ O P := fun G H σ w s Q q => h G H σ w s Q fun d O' v G' H' hp => q d O' v G' H' (k d O' hp)
theorem sd_ifP {tu tw : TS} {PE : DE} (h : EvTP K tt δ O fun b O' => (b = true → Sd K tu PE δ O') ∧ (b = false → Sd K tw PE δ O')) : Sd K (tIfS tt tu tw) PE δ O := fun G H σ D w s r =>
  h G H σ w s _ fun b O' G1 H1 hp s1 => by
    cases b with
    | true => exact iteT (hp.1 rfl G1 H1 σ D s1.wd (s.mono s1.ex) (r.step s1))
    | false => exact iteF (hp.2 rfl G1 H1 σ D s1.wd (s.mono s1.ex) (r.step s1))
theorem etp_and (h : EvTP K tt δ O fun b O' => (b = true → EvTP K tt2 δ O' B) ∧ (b = false → B false O')) : EvTP K (tAnd tt tt2) δ O B := fun G H σ w s Q k => h G H σ w s _ fun b O' G1 H1 hp s1 => by
  cases b with
  | false => exact iteF (k _ _ G1 H1 (hp.2 rfl) s1)
  | true => exact iteT (hp.1 rfl G1 H1 σ s1.wd (s.mono s1.ex) _ fun b2 O2 G2 H2 hq s2 => k _ _ G2 H2 hq (s1.trans s2))
theorem etp_or (h : EvTP K tt δ O fun b O' => (b = false → EvTP K tt2 δ O' B) ∧ (b = true → B true O')) : EvTP K (tOr tt tt2) δ O B := fun G H σ w s Q k => h G H σ w s _ fun b O' G1 H1 hp s1 => by
  cases b with
  | true => exact iteT (k _ _ G1 H1 (hp.2 rfl) s1)
  | false => exact iteF (hp.1 rfl G1 H1 σ s1.wd (s.mono s1.ex) _ fun b2 O2 G2 H2 hq s2 => k _ _ G2 H2 hq (s1.trans s2))
theorem evp_opP {r : R2} (h : EvP K ta δ O fun x O1 => EvP K tb δ O1 fun y O2 => ∃ z, R2D K r x y O2 z ∧ P z O2) : EvP K (tOp r ta tb) δ O P := evp_op h
theorem evp_cbP {r : List V → Hp → VK → Prop} (h : EvAP K t δ O fun ds O1 => ∃ d, RCD K r ds O1 d ∧ P d O1) : EvP K (tCB r t) δ O P := fun G H σ w s Q k =>
  h G H σ w s _ fun ds O1 vs G1 H1 ⟨d, hr, hp⟩ s1 i1 => hr G1 H1 vs s1.wd i1 _ fun v G2 H2 s2 i2 => k d O1 v G2 H2 hp (s1.trans s2) i2
theorem evp_lstD (h : EvAP K t δ O fun ds O1 => ds.length ≤ 100000 ∧ P (.lst ds) O1) : EvP K (tLst t) δ O P := fun G H σ w s Q k =>
  h G H σ w s _ fun ds O1 vs G1 H1 hp s1 i1 => ⟨by rw [← i1.length]; exact sz hp.1, fun p hn => k _ _ _ _ _ hp.2 (s1.trans (Stp.new s1.wd hn)) ⟨p, vs, rfl, upd_same, i1.mono (Stp.new s1.wd hn (o := .lst vs)).ex⟩⟩
theorem evp_runP (h : EvAP K t δ O fun ds O1 => R ds O1 P) : EvP K (tRun (SpD K R) E t) δ O P := fun G H σ w s Q k =>
  h G H σ w s _ fun ds O1 vs G1 H1 hr s1 i1 => sp_run s1.wd i1 hr fun d O' v G' H' hp st iv => k d O' v G' H' hp (s1.trans st) iv
theorem evp_lcI {wi : TI} {vs : List Nat} {items : List D} (hi : EvI K wi δ O items O1) (hz : items.length ≤ 50000) (I : Nat → List D → Ow → Prop) (h0 : I 0 [] O1)
    (hs : ∀ i x acc O', items[i]? = some x → I i acc O' → ∃ δ2, Gc K g vs x (wipeD δ vs) δ2 ∧ EvTP K tt δ2 O' fun b O2 => (b = true → EvP K te δ2 O2 fun d O3 => I (i + 1) (acc ++ [d]) O3) ∧ (b = false → I (i + 1) acc O2))
    (hd : ∀ acc O', I items.length acc O' → P (.lst acc) O') : EvP K (tLc wi g tt te vs) δ O P := fun G H σ w s Q k =>
  hi G H σ w s _ fun J G1 H1 s1 ok D hD => by
    refine ⟨fun i m H' => i + m = items.length ∧ ∃ O' G' done acc, I i done O' ∧ done.length ≤ i ∧ Stp K G1 O1 H1 G' O' H' ∧ G' D = none ∧ O' D = none ∧ H' D = some (.lst acc) ∧ IsL K G' done acc,
      ⟨items.length, by omega, O1, G1, [], [], h0, Nat.le_refl _, Stp.newF s1.wd hD, s1.wd.gNone hD, s1.wd.oNone hD, upd_same, rfl⟩, fun i m H' hW => ?_⟩
    obtain ⟨em, O', G', done, acc, hI, ld, st, gD, oD, hD', il⟩ := hW
    obtain ⟨go, stop⟩ := ok G' O' H' st.ex st.wd i
    by_cases hl : i < items.length
    · obtain ⟨g1, g2⟩ := go items[i] (List.getElem?_eq_getElem hl)
      refine .inr ⟨g1, fun H2 => ∃ O' G' done acc, I (i + 1) done O' ∧ done.length ≤ i + 1 ∧ Stp K G1 O1 H1 G' O' H2 ∧ G' D = none ∧ O' D = none ∧ H2 D = some (.lst acc) ∧ IsL K G' done acc,
        fun H2 q => ⟨m - 1, by omega, by omega, q⟩, fun x H2 hy => ?_⟩
      obtain ⟨G2, st2, ix⟩ := g2 x H2 hy
      have d2 := st2.fresh D _ hD' oD gD
      have k2 := st2.keep D _ hD' oD
      have sl2 : SlIs K G2 (wipeD δ vs) (wipe σ vs) := wipeD_is (s.mono ((s1.ex.trans st.ex).trans st2.ex)) vs
      obtain ⟨δ2, h, h1⟩ := hs i _ done O' (List.getElem?_eq_getElem hl) hI
      refine h G2 H2 σ (wipe σ vs) x sl2 wipe_wipe st2.wd.sub ix _ fun σ2 ew sl => ⟨ew, h1 G2 H2 σ2 st2.wd sl _ fun b O3 G3 H3 hb s3 => ?_⟩
      have d3 := s3.fresh D _ k2 d2.2 d2.1
      have k3 := s3.keep D _ k2 d2.2
      cases b with
      | true =>
        refine iteT (hb.1 rfl G3 H3 σ2 s3.wd (sl.mono s3.ex) _ fun d O4 y G4 H4 hI4 s4 iy => ?_)
        have d4 := s4.fresh D _ k3 d3.2 d3.1
        have k4 := s4.keep D _ k3 d3.2
        have sx := ((st.trans st2).trans s3).trans s4
        refine ⟨acc, k4, ?_, O4, G4, done ++ [d], acc ++ [y], hI4, by rw [List.length_append]; simp; exact ld, sx.writeF hD d4.1 d4.2, d4.1, d4.2, upd_same, (il.mono (st2.ex.trans (s3.ex.trans s4.ex))).append ⟨y, [], rfl, iy, rfl⟩⟩
        rw [← il.length]
        exact Evl.sz_lt (by omega)
      | false => exact iteF ⟨O3, G3, done, acc, hb.2 rfl, by omega, (st.trans st2).trans s3, d3.1, d3.2, k3, il.mono (st2.ex.trans s3.ex)⟩
    · refine .inl ⟨stop (List.getElem?_eq_none (by omega)), ?_⟩
      have e : i = items.length := by omega
      subst e
      have sp := st.pubF hD gD oD hD'
      exact k _ _ _ _ _ (hd _ _ hI) (s1.trans sp) ⟨D, acc, rfl, upd_same, il.mono fun b u e => by rw [upd_ne (ne_of_none e gD)]; exact e⟩
end
end DL

set_option Elab.async false
set_option linter.all false
set_option maxRecDepth 100000
/-! texts of numbers, rows of words -/
namespace DL
open PySem PySem.Spec L2 TL
def numS (i : Int) : Str := Str.ofString (toString i)
theorem numS_tl {i : Int} (h : 0 ≤ i) : tl (numS i) = numL i.toNat := by
  obtain ⟨n, rfl⟩ := Int.eq_ofNat_of_zero_le h
  exact tl_num n
theorem tl_len (x : Str) : (tl x).length = x.length := by
  show x.cps.toList.length = x.cps.size
  simp
theorem numS_len {i : Int} (h : 0 ≤ i) (h2 : i ≤ 1000000000000) : 1 ≤ (numS i).length ∧ (numS i).length ≤ 13 := by
  rw [← tl_len, numS_tl h]
  refine ⟨List.length_pos_iff.mpr (numL_ne _), numL_len (by decide) ?_⟩
  have : i.toNat ≤ 1000000000000 := by omega
  exact Nat.lt_of_le_of_lt this (by decide)
theorem numS_read {i : Int} (h : 0 ≤ i) (h2 : i ≤ 1000000000000) : intText? (numS i) = some i := by
  have hl := numS_len h h2
  have e := PySem.intText_digits (x := numS i) (by show NumText.AllDigits (tl (numS i)); rw [numS_tl h]; exact numL_digits _) (by show tl (numS i) ≠ []; rw [numS_tl h]; exact numL_ne _) (by omega)
  rw [e]
  have : NumText.digitsVal (numS i).cps.toList = i.toNat := by
    show NumText.digitsVal (tl (numS i)) = _
    rw [numS_tl h, numL_val]
  rw [this, Int.toNat_of_nonneg h]
theorem numL_head {n : Nat} : ∀ {c : Nat} {r : List Nat}, numL n = c :: r → r ≠ [] → c ≠ 48 := by
  induction n using Nat.strongRecOn with
  | _ n ih =>
    intro c r e hr
    by_cases h : n < 10
    · rw [numL_lt h] at e
      cases e
      exact absurd rfl hr
    · rw [numL_step (by omega)] at e
      by_cases h2 : n / 10 < 10
      · rw [numL_lt h2] at e
        simp only [List.cons_append, List.cons.injEq] at e
        omega
      · cases q : numL (n / 10) with
        | nil => exact absurd q (numL_ne _)
        | cons a l =>
          rw [q] at e
          simp only [List.cons_append, List.cons.injEq] at e
          obtain ⟨rfl, _⟩ := e
          refine ih (n / 10) (by omega) q ?_
          intro z
          subst z
          rw [numL_step (by omega)] at q
          cases q3 : numL (n / 10 / 10) with
          | nil => exact absurd q3 (numL_ne _)
          | cons b l => rw [q3] at q; cases l <;> cases q
theorem digits_in {c : Nat} (h : 48 ≤ c ∧ c ≤ 57) : c ∈ ("0123456789" : Str).cps.toList := by
  have : ("0123456789" : Str).cps.toList = [48, 49, 50, 51, 52, 53, 54, 55, 56, 57] := by decide +kernel
  rw [this]
  have : c = 48 ∨ c = 49 ∨ c = 50 ∨ c = 51 ∨ c = 52 ∨ c = 53 ∨ c = 54 ∨ c = 55 ∨ c = 56 ∨ c = 57 := by omega
  rcases this with rfl | rfl | rfl | rfl | rfl | rfl | rfl | rfl | rfl | rfl <;> decide
theorem numS_digit {i : Int} (h : 0 ≤ i) {c : Nat} (hc : c ∈ (numS i).cps.toList) : 48 ≤ c ∧ c ≤ 57 := by
  have hc : c ∈ tl (numS i) := hc
  rw [numS_tl h] at hc
  exact numL_digits _ c hc
theorem numS_free {i : Int} (h : 0 ≤ i) {s : Nat} (hs : s < 48 ∨ 57 < s) : s ∉ tl (numS i) := by
  rw [numS_tl h]; exact numL_free hs
/-- a row's words are free of blanks and line ends -/
def Wd1 (x : Str) : Prop := 32 ∉ tl x ∧ 10 ∉ tl x
theorem numS_w {i : Int} (h : 0 ≤ i) : Wd1 (numS i) := ⟨numS_free h (by omega), numS_free h (by omega)⟩
theorem table_w : Wd1 "table" := by unfold Wd1; constructor <;> decide +kernel
theorem bill_w : Wd1 "bill" := by unfold Wd1; constructor <;> decide +kernel
theorem join_len (y : Str) : ∀ (parts : List Str), (Txt.join y parts).length ≤ (parts.map (·.length)).sum + parts.length * y.length
  | [] => by rw [join_eq]; exact Nat.zero_le _
  | [x] => by
    rw [join_eq, ← tl_len, tl_join]
    show (tl x).length ≤ _
    rw [tl_len]; simp
  | x :: z :: r => by
    have ih := join_len y (z :: r)
    rw [join_eq, ← tl_len, tl_join] at ih ⊢
    show (tl x ++ (tl y ++ joinL (tl y) ((z :: r).map tl))).length ≤ _
    rw [List.length_append, List.length_append, tl_len, tl_len]
    simp only [List.map_cons, List.sum_cons, List.length_cons, Nat.add_mul, Nat.one_mul] at ih ⊢
    omega
theorem join_free {y : Str} {s : Nat} (hy : s ∉ tl y) : ∀ {parts : List Str}, (∀ p ∈ parts, s ∉ tl p) → s ∉ tl (Txt.join y parts)
  | [], _ => by rw [join_eq, tl_join]; exact List.not_mem_nil
  | [x], h => by rw [join_eq, tl_join]; exact h x (List.mem_singleton.mpr rfl)
  | x :: z :: r, h => by
    have ih := join_free hy (parts := z :: r) fun p hp => h p (List.mem_cons_of_mem _ hp)
    rw [join_eq, tl_join] at ih ⊢
    show s ∉ tl x ++ (tl y ++ joinL (tl y) ((z :: r).map tl))
    rw [List.mem_append, List.mem_append, not_or, not_or]
    exact ⟨h x (List.mem_cons_self ..), hy, ih⟩
theorem split_sp {ws : List Str} (hne : ws ≠ []) (h : ∀ x ∈ ws, Wd1 x) : Txt.split (Txt.join " " ws) " " = ws :=
  split_join (s := 32) (S := []) (by decide +kernel) (by decide +kernel) hne fun p hp => (h p hp).1
theorem split_nl {rows : List Str} (hne : rows ≠ []) (h : ∀ x ∈ rows, 10 ∉ tl x) : Txt.split (Txt.join "\n" rows) "\n" = rows :=
  split_join (s := 10) (S := []) (by decide +kernel) (by decide +kernel) hne h
theorem row_nl {ws : List Str} (h : ∀ x ∈ ws, Wd1 x) : 10 ∉ tl (Txt.join " " ws) := join_free (by decide +kernel) fun p hp => (h p hp).2
theorem head_join (x : Str) : ("table " : Str) ++ x = Txt.join " " ["table", x] := by
  rw [join_eq]
  show _ = ("table" : Str) ++ (" " : Str) ++ Str.join " " [x]
  have e : ("table" : Str) ++ (" " : Str) = "table " := by decide +kernel
  rw [e]
  rfl
theorem _root_.TL.numL_head' {i : Int} (h : 0 ≤ i) {c : Nat} {r : List Nat} (q : (numS i).cps.toList = c :: r) (hr : r ≠ []) : c ≠ 48 := by
  have q : tl (numS i) = c :: r := q
  rw [numS_tl h] at q
  exact numL_head q hr
end DL

set_option Elab.async false
set_option linter.all false
set_option maxRecDepth 100000
/-! a comprehension whose list is owned -/
namespace DL
open PySem PySem.Spec L2
section
variable {K : PySem.W.Frag} {δ : Sl} {O O1 O2 O3 : Ow} {d x y z : D} {ta tb tc te tv : TE} {t : TA} {tt tt2 : TT} {i j M : Int} {p q l C : Addr} {ds es : List D} {b : Bool} {R : DR} {E : XK} {P : D → Ow → Prop} {B : Bool → Ow → Prop} {g : TG}
theorem Stp.ownF {G G' H H' : Hp} {O' : Ow} {a : Addr} {m : MO} (s : Stp K G O H G' O' H') (h1 : H a = none) (h2 : G' a = none) (h3 : O' a = none) (hm : MoIs K G' H' a m) : Stp K G O H G' (setO O' a m) H' where
  wd := ⟨s.wd.sub, fun q n e => by
    by_cases z : q = a
    · subst z; rw [setO_same] at e; cases e; exact ⟨h2, hm⟩
    · rw [setO_ne z] at e; exact s.wd.own q n e⟩
  ex := s.ex
  keep := s.keep
  fresh := fun b u e n g => ⟨(s.fresh b u e n g).1, by rw [setO_ne (ne_of_none e h1)]; exact (s.fresh b u e n g).2⟩
theorem evp_lcO {wi : TI} {vs : List Nat} {items : List D} (hi : EvI K wi δ O items O1) (hz : items.length ≤ 50000) (I : Nat → List D → Ow → Prop) (h0 : I 0 [] O1)
    (hs : ∀ i x acc O', items[i]? = some x → I i acc O' → ∃ δ2, Gc K g vs x (wipeD δ vs) δ2 ∧ EvTP K tt δ2 O' fun b O2 => (b = true → EvP K te δ2 O2 fun d O3 => I (i + 1) (acc ++ [d]) O3) ∧ (b = false → I (i + 1) acc O2))
    (hd : ∀ acc O' D, I items.length acc O' → O' D = none → P (.ref D) (setO O' D (.lst acc))) : EvP K (tLc wi g tt te vs) δ O P := fun G H σ w s Q k =>
  hi G H σ w s _ fun J G1 H1 s1 ok D hD => by
    refine ⟨fun i m H' => i + m = items.length ∧ ∃ O' G' done acc, I i done O' ∧ done.length ≤ i ∧ Stp K G1 O1 H1 G' O' H' ∧ G' D = none ∧ O' D = none ∧ H' D = some (.lst acc) ∧ IsL K G' done acc,
      ⟨items.length, by omega, O1, G1, [], [], h0, Nat.le_refl _, Stp.newF s1.wd hD, s1.wd.gNone hD, s1.wd.oNone hD, upd_same, rfl⟩, fun i m H' hW => ?_⟩
    obtain ⟨em, O', G', done, acc, hI, ld, st, gD, oD, hD', il⟩ := hW
    obtain ⟨go, stop⟩ := ok G' O' H' st.ex st.wd i
    by_cases hl : i < items.length
    · obtain ⟨g1, g2⟩ := go items[i] (List.getElem?_eq_getElem hl)
      refine .inr ⟨g1, fun H2 => ∃ O' G' done acc, I (i + 1) done O' ∧ done.length ≤ i + 1 ∧ Stp K G1 O1 H1 G' O' H2 ∧ G' D = none ∧ O' D = none ∧ H2 D = some (.lst acc) ∧ IsL K G' done acc,
        fun H2 q => ⟨m - 1, by omega, by omega, q⟩, fun x H2 hy => ?_⟩
      obtain ⟨G2, st2, ix⟩ := g2 x H2 hy
      have d2 := st2.fresh D _ hD' oD gD
      have k2 := st2.keep D _ hD' oD
      have sl2 : SlIs K G2 (wipeD δ vs) (wipe σ vs) := wipeD_is (s.mono ((s1.ex.trans st.ex).trans st2.ex)) vs
      obtain ⟨δ2, h, h1⟩ := hs i _ done O' (List.getElem?_eq_getElem hl) hI
      refine h G2 H2 σ (wipe σ vs) x sl2 wipe_wipe st2.wd.sub ix _ fun σ2 ew sl => ⟨ew, h1 G2 H2 σ2 st2.wd sl _ fun b O3 G3 H3 hb s3 => ?_⟩
      have d3 := s3.fresh D _ k2 d2.2 d2.1
      have k3 := s3.keep D _ k2 d2.2
      cases b with
      | true =>
        refine iteT (hb.1 rfl G3 H3 σ2 s3.wd (sl.mono s3.ex) _ fun d O4 y G4 H4 hI4 s4 iy => ?_)
        have d4 := s4.fresh D _ k3 d3.2 d3.1
        have k4 := s4.keep D _ k3 d3.2
        have sx := ((st.trans st2).trans s3).trans s4
        refine ⟨acc, k4, ?_, O4, G4, done ++ [d], acc ++ [y], hI4, by rw [List.length_append]; simp; exact ld, sx.writeF hD d4.1 d4.2, d4.1, d4.2, upd_same, (il.mono (st2.ex.trans (s3.ex.trans s4.ex))).append ⟨y, [], rfl, iy, rfl⟩⟩
        rw [← il.length]
        exact Evl.sz_lt (by omega)
      | false => exact iteF ⟨O3, G3, done, acc, hb.2 rfl, by omega, (st.trans st2).trans s3, d3.1, d3.2, k3, il.mono (st2.ex.trans s3.ex)⟩
    · refine .inl ⟨stop (List.getElem?_eq_none (by omega)), ?_⟩
      have e : i = items.length := by omega
      subst e
      exact k _ _ _ _ _ (hd _ _ D hI oD) (s1.trans (st.ownF hD gD oD ⟨acc, hD', il⟩)) rfl
theorem evp_lcOM {α : Type} {wi : TI} {vs : List Nat} (l : List α) (enc f : α → D) (δ2 : α → Sl) (hi : EvI K wi δ O (l.map enc) O1) (hz : l.length ≤ 50000) (h : ∀ a ∈ l, Gc K g vs (enc a) (wipeD δ vs) (δ2 a) ∧ EvT K tt (δ2 a) O1 true O1 ∧ Ev K te (δ2 a) O1 (f a) O1)
    (hd : ∀ D, O1 D = none → P (.ref D) (setO O1 D (.lst (l.map f)))) : EvP K (tLc wi g tt te vs) δ O P := by
  refine evp_lcO hi (by rw [List.length_map]; exact hz) (fun i acc O' => O' = O1 ∧ acc = (l.take i).map f) ⟨rfl, by simp⟩ (fun i x acc O' hx hI => ?_) (fun acc O' D hI hn => ?_)
  · obtain ⟨rfl, rfl⟩ := hI
    rw [List.getElem?_map] at hx
    cases q : l[i]? with
    | none => rw [q] at hx; cases hx
    | some a =>
      rw [q] at hx; cases hx
      obtain ⟨h1, h2, h3⟩ := h a (List.mem_of_getElem? q)
      refine ⟨δ2 a, h1, h2.toP ⟨fun _ => h3.toP ⟨rfl, ?_⟩, fun z => nomatch z⟩⟩
      rw [List.take_add_one, q, List.map_append]; rfl
  · obtain ⟨rfl, rfl⟩ := hI
    rw [List.length_map, List.take_of_length_le (Nat.le_refl _)]
    exact hd D hn
end
end DL

set_option Elab.async false
set_option linter.all false
set_option maxRecDepth 100000
namespace DL
open PySem PySem.Spec L2
open PyProof.Rows hiding St
def rIxA (K : PySem.W.Frag) : R2 := fun x y H Q => rIxL K x y H Q ∨ rIxT K x y H Q
theorem ix_seqK {X : Cx} (K : PySem.W.Frag) (h : X.K = K := by rfl) : IxR X (rIxA K) := by
  subst h
  intro value slice pins s σ H x y v u Q I rx ry h hs
  rcases h with h | h
  · exact ix_list value slice pins s σ H x y v u Q I rx ry h hs
  · exact ix_tup value slice pins s σ H x y v u Q I rx ry h hs
section
variable {K : PySem.W.Frag} {O : Ow} {ds : List D} {d : D} {i : Int}
theorem r_ixAL (h : atI ds i = some d) : R2D K (rIxA K) (.lst ds) (.int i) O d := fun G H v u w a b Q k => .inl (r_ixL h G H v u w a b Q k)
theorem r_ixAT (h : atI ds i = some d) : R2D K (rIxA K) (.tup ds) (.int i) O d := fun G H v u w a b Q k => .inr (r_ixT h G H v u w a b Q k)
end
/-- data that a law compares with itself -/
inductive Sm : Nat → D → Prop
  | flat {n : Nat} {x : D} (h : Pl 0 x) : Sm n x
  | tup {n : Nat} {ds : List D} (hl : ds.length ≤ 50000) (h : ∀ d ∈ ds, Sm n d) : Sm (n + 1) (.tup ds)
  | lst {n : Nat} {ds : List D} (hl : ds.length ≤ 50000) (h : ∀ d ∈ ds, Sm n d) : Sm (n + 1) (.lst ds)
def R_same : Nat → DR
  | 0 => fun _ _ _ => False
  | n + 1 => fun ds O Post => ∃ x, ds = [x, x] ∧ Sm n x ∧ Post (.bl true) O
theorem Sm.int {n : Nat} {i : Int} : Sm n (.int i) := .flat .int
theorem Sm.bl {n : Nat} {i : Bool} : Sm n (.bl i) := .flat .bl
theorem Sm.ints {n : Nat} {ns : List Int} (h : ns.length ≤ 50000) : Sm (n + 1) (.tup (ns.map .int)) := .tup (by rw [List.length_map]; exact h) fun d hd => by obtain ⟨i, _, rfl⟩ := List.mem_map.mp hd; exact .int
theorem Sm.intsL {n : Nat} {ns : List Int} (h : ns.length ≤ 50000) : Sm (n + 1) (.lst (ns.map .int)) := .lst (by rw [List.length_map]; exact h) fun d hd => by obtain ⟨i, _, rfl⟩ := List.mem_map.mp hd; exact .int
end DL

set_option Elab.async false
set_option linter.all false
set_option maxRecDepth 100000
set_option maxHeartbeats 4000000
namespace DL
open PySem PySem.Spec L2
open PyProof.Rows hiding St
theorem tuple_mul1 (l : Addr) (items : Array Value) (n : Nat) (dd : Option Addr) (sl : Array (Option Value)) (x : Int) (u : Tok) (c0 : (decide (x < -(2 ^ 63)) || decide (x ≥ 2 ^ 63)) = false) (c1 : (items.isEmpty || x == 1) = true) :
    Meets (Builtin.«tuple.__mul__» ⟨[.ref l, .int x u], []⟩) (fun _ R s => s.heap.get? l = some { cls := .type "tuple", dict := dd, data := .seq items n, slots := sl } ∧ R (.ok (.ret (Value.ref l))) s) :=
  .of_wp fun prog w A R s h => by
    obtain ⟨hp, g, d, tk, os⟩ := s
    obtain ⟨hl, h⟩ := h
    have f1 := AutoSeq1.idx_int
    wp_walk using wpAny_loadPart' hl
    repeat (first
      | (refine wpAny_ite_false (decide_eq_false (by rw [c0]; exact Bool.false_ne_true)) ?_; wp_walk using wpAny_loadPart' hl)
      | (refine wpAny_ite_true (decide_eq_true (by rw [c1])) ?_; wp_walk using wpAny_loadPart' hl))
    exact ⟨_, rfl, h⟩
theorem tuple_mul0 (l : Addr) (items : Array Value) (n : Nat) (dd : Option Addr) (sl : Array (Option Value)) (x : Int) (u : Tok) (c0 : (decide (x < -(2 ^ 63)) || decide (x ≥ 2 ^ 63)) = false) (c1 : (items.isEmpty || x == 1) = false) (c2 : (decide (x ≤ 0) || items.isEmpty) = true) :
    Meets (Builtin.«tuple.__mul__» ⟨[.ref l, .int x u], []⟩) (fun _ R s => s.heap.get? l = some { cls := .type "tuple", dict := dd, data := .seq items n, slots := sl } ∧ R (.ok (.ret (Value.ref s.heap.objs.size))) { s with heap := s.heap.push { cls := Value.type "tuple", data := Data.seq #[] }, toks := s.toks }) :=
  .of_wp fun prog w A R s h => by
    obtain ⟨hp, g, d, tk, os⟩ := s
    obtain ⟨hl, h⟩ := h
    have f1 := AutoSeq1.idx_int
    wp_walk using wpAny_loadPart' hl
    repeat (first
      | (refine wpAny_ite_false (decide_eq_false (by rw [c0]; exact Bool.false_ne_true)) ?_; wp_walk using wpAny_loadPart' hl)
      | (refine wpAny_ite_false (decide_eq_false (by rw [c1]; exact Bool.false_ne_true)) ?_; wp_walk using wpAny_loadPart' hl)
      | (refine wpAny_ite_true (decide_eq_true (by rw [c2])) ?_; wp_walk using wpAny_loadPart' hl))
    exact ⟨_, rfl, h⟩
def rRepA (K : PySem.W.Frag) : R2 := fun x y H Q => ∃ l k xs, x = .ref l ∧ y = .int k ∧ SqT K H l xs ∧ 0 ≤ k ∧ k ≤ 1000 ∧ xs.length ≤ 1000 ∧ ((xs = [] ∨ k = 1) → Q (.ref l) H) ∧ (¬ (xs = [] ∨ k = 1) → ∀ p, H p = none → Q (.ref p) (upd H p (.tup (List.replicate k.toNat xs).flatten)))
theorem op_repA {X : Cx} (K : PySem.W.Frag) (hK : X.K = K := by rfl) : OpR X (binaryOp .Mult) (rRepA K) := by
  subst hK
  intro pins s σ H x y v u Q I rx ry h
  obtain ⟨l, k, xs, rfl, rfl, hT, h1, h2, hz, q1, q2⟩ := h
  by_cases hb : 2 ≤ k ∧ xs ≠ []
  · exact op_repT pins s σ H _ _ v u Q I rx ry ⟨l, k, xs, rfl, rfl, hT, hb.2, hb.1, h2, hz, q2 fun z => z.elim hb.2 (fun z => by omega)⟩
  cases rx
  obtain ⟨t, rfl⟩ := ry
  obtain ⟨its, r, ⟨⟨cls, dd, data, sl⟩, ho, hc, n, hd⟩, hs⟩ := I.tuple hT
  simp only at hc hd
  subst hc hd
  have hle : its.length = xs.length := r.length.symm
  have c0 : (decide (k < -(2 ^ 63)) || decide (k ≥ 2 ^ 63)) = false := by
    rw [decide_eq_false (by omega), decide_eq_false (by omega)] <;> rfl
  by_cases hc : xs = [] ∨ k = 1
  · have c1 : (its.toArray.isEmpty || k == 1) = true := by
      rcases hc with e | e
      · subst e
        have : its = [] := List.eq_nil_of_length_eq_zero hle
        subst this; rfl
      · subst e; simp
    exact wpAny_binaryOp_repeat_ref (T := "tuple") (U := "int") (by decide) ⟨_, ho, rfl⟩ (fun s' => typeIs_int s' k t) noFill_tuple_mul F.fills_int_mul F.slot_int_rmul repeat_tuple F.slot_int_index.lookup
      (call_meets F.slot_int_rmul (typeIs_int s k t) F.entry_int_rmul (F.args_int_rmul_2 _ _) (int_rmul_tuple k t l its.toArray n dd sl)
        ⟨ho, rfl, ⟨_, ho, rfl⟩, call_meets F.slot_tuple_mul ⟨_, ho, rfl⟩ F.entry_tuple_mul (F.args_tuple_mul_2 _ _) (tuple_mul1 l its.toArray n dd sl k t c0 c1) ⟨ho, ⟨.ref l, H, I, rfl, q1 hc⟩⟩⟩)
  · have hne : its ≠ [] := fun e => hc (.inl (by subst e; exact List.eq_nil_of_length_eq_zero hle.symm))
    have hi : its.toArray.isEmpty = false := by
      cases its with
      | nil => exact absurd rfl hne
      | cons a b => rfl
    have hk0 : k = 0 := by
      have : ¬ k = 1 := fun z => hc (.inr z)
      have h3 : ¬ 2 ≤ k := fun z => hb ⟨z, fun z2 => hc (.inl z2)⟩
      omega
    subst hk0
    have q3 := q2 hc
    exact wpAny_binaryOp_repeat_ref (T := "tuple") (U := "int") (by decide) ⟨_, ho, rfl⟩ (fun s' => typeIs_int s' 0 t) noFill_tuple_mul F.fills_int_mul F.slot_int_rmul repeat_tuple F.slot_int_index.lookup
      (call_meets F.slot_int_rmul (typeIs_int s 0 t) F.entry_int_rmul (F.args_int_rmul_2 _ _) (int_rmul_tuple 0 t l its.toArray n dd sl)
        ⟨ho, rfl, ⟨_, ho, rfl⟩, call_meets F.slot_tuple_mul ⟨_, ho, rfl⟩ F.entry_tuple_mul (F.args_tuple_mul_2 _ _) (tuple_mul0 l its.toArray n dd sl 0 t c0 (by rw [hi]; rfl) (by simp)) ⟨ho, ⟨.ref s.heap.objs.size, _, I.laid (t' := s.toks) (o := .tup []) (fun b ob q => Heap.get?_push_of_some _ q) (Nat.le_refl _) ⟨Nat.zero_le _, [], .nil, IsTup.new _ _⟩, rfl, q3 _ (I.hok.fresh (Nat.le_refl _))⟩⟩⟩)
theorem r_repA {K : PySem.W.Frag} {O : Ow} {ds : List D} {i : Int} (h : 0 ≤ i ∧ i ≤ 1000) (hl : ds.length ≤ 1000) : R2D K (rRepA K) (.tup ds) (.int i) O (.tup (List.replicate i.toNat ds).flatten) := fun G H v u w a b Q k => by
  obtain ⟨p, xs, rfl, e, t⟩ := a
  refine ⟨p, i, xs, rfl, b, .inl (.inl (w.sub _ _ e)), h.1, h.2, by rw [← t.length]; exact hl, fun hc => ?_, fun _ l hl => k _ _ _ (Stp.new w hl) ⟨l, _, rfl, upd_same, (t.rep _).mono (Stp.new w hl (o := .tup _)).ex⟩⟩
  rcases hc with e2 | e2
  · subst e2
    have : ds = [] := List.eq_nil_of_length_eq_zero t.length
    subst this
    exact k _ G H (Stp.refl w) ⟨p, [], rfl, e, by simp [IsL]⟩
  · subst e2
    exact k _ G H (Stp.refl w) ⟨p, xs, rfl, e, by simpa using t⟩
end DL

set_option Elab.async false
set_option linter.all false
set_option maxRecDepth 100000
/-! pop, lists joined to a new owned list, abs, while with a walrus, formatted texts -/
namespace DL
open PySem PySem.Spec L2
section
variable {K : PySem.W.Frag} {δ : Sl} {O O1 O2 O3 : Ow} {d x y z : D} {ta tb tc te tv : TE} {t : TA} {tt tt2 : TT} {i j M : Int} {p q l C : Addr} {ds es : List D} {b : Bool} {R : DR} {E : XK} {P : D → Ow → Prop} {B : Bool → Ow → Prop} {g : TG}
theorem IsL.erase {G : Hp} : ∀ {ds : List D} {vs : List V} (k : Nat), IsL K G ds vs → IsL K G (ds.eraseIdx k) (vs.eraseIdx k)
  | [], _, _, h => by cases h; exact rfl
  | _ :: _, _, 0, ⟨v, r, rfl, a, b⟩ => b
  | _ :: _, _, k + 1, ⟨v, r, rfl, a, b⟩ => ⟨v, r.eraseIdx k, rfl, a, IsL.erase k b⟩
theorem IsL.dropL {G : Hp} : ∀ {ds : List D} {vs : List V}, IsL K G ds vs → IsL K G ds.dropLast vs.dropLast
  | [], _, h => by cases h; exact rfl
  | [_], _, ⟨v, r, rfl, a, b⟩ => by cases b; exact rfl
  | d :: e :: ds, _, ⟨v, r, rfl, a, b⟩ => by
    obtain ⟨v2, r2, rfl, a2, b2⟩ := b
    exact ⟨v, (v2 :: r2).dropLast, rfl, a, IsL.dropL (ds := e :: ds) ⟨v2, r2, rfl, a2, b2⟩⟩
/-- o.pop(i) of an owned list -/
theorem evp_popAt {k : Nat} (h1 : Ev K ta δ O (.ref l) O1) (h0 : O1 l = some (.lst es)) (h2 : Ev K te δ O1 (.int i) O2) (h3 : O2 l = some (.lst ds)) (hi : -(2 ^ 63) ≤ i ∧ i < 2 ^ 63) (hk : seqIndex? i ds.length = some k) (hd : ds[k]? = some d) (kk : P d (setO O2 l (.lst (ds.eraseIdx k)))) :
    EvP K (tBM K "list" rPopAt ta (tCons te tNil)) δ O P := fun G H σ w s Q kq =>
  h1 G H σ w s _ fun v G1 H1 s1 i1 => by
    have i1 : v = .ref l := i1
    subst i1
    obtain ⟨_, xs0, e0, _⟩ := s1.wd.own l _ h0
    refine ⟨.inl ⟨rfl, xs0, .inl (.inl e0)⟩, h2 G1 H1 σ s1.wd (s.mono s1.ex) _ fun u G2 H2 s2 i2 => ?_⟩
    obtain ⟨_, xs, e, t⟩ := s2.wd.own l _ h3
    have i2 : u = .int i := i2
    subst i2
    obtain ⟨y, hy, iy⟩ := t.get hd
    refine ⟨l, xs, i, k, y, rfl, rfl, e, hi.1, hi.2, by rw [← t.length]; exact hk, hy, ?_⟩
    have st := Stp.write (o := .lst (xs.eraseIdx k)) (m' := .lst (ds.eraseIdx k)) s2.wd h3 ⟨_, upd_same, t.erase k⟩
    exact kq d _ y _ _ kk ((s1.trans s2).trans st) (iy.mono st.ex)
/-- o.pop() of an owned list -/
theorem evp_pop (h1 : Ev K ta δ O (.ref l) O1) (h0 : O1 l = some (.lst ds)) (hd : ds.getLast? = some d) (kk : P d (setO O1 l (.lst ds.dropLast))) :
    EvP K (tBM0 K "list" rPop ta) δ O P := fun G H σ w s Q kq =>
  h1 G H σ w s _ fun v G1 H1 s1 i1 => by
    have i1 : v = .ref l := i1
    subst i1
    obtain ⟨_, xs, e, t⟩ := s1.wd.own l _ h0
    rw [List.getLast?_eq_getElem?] at hd
    obtain ⟨y, hy, iy⟩ := t.get hd
    refine ⟨.inl ⟨rfl, xs, .inl (.inl e)⟩, l, xs, y, rfl, rfl, e, by rw [← t.length]; exact hy, ?_⟩
    have st := Stp.write (o := .lst xs.dropLast) (m' := .lst ds.dropLast) s1.wd h0 ⟨_, upd_same, t.dropL⟩
    exact kq d _ y _ _ kk (s1.trans st) (iy.mono st.ex)
/-- a + b, the new list is owned -/
theorem evp_catN (ha : Ev K ta δ O (.lst ds) O1) (hb : Ev K tb δ O1 (.lst es) O2) (hl : ds.length + es.length ≤ 100000) (hp : ∀ p, O2 p = none → P (.ref p) (setO O2 p (.lst (ds ++ es)))) : EvP K (tOp rCat ta tb) δ O P := fun G H σ w s Q k =>
  ha G H σ w s _ fun v G1 H1 s1 i1 => hb G1 H1 σ s1.wd (s.mono s1.ex) _ fun u G2 H2 s2 i2 => by
    obtain ⟨p, xs, rfl, e, t⟩ := i1.mono s2.ex
    obtain ⟨q, ys, rfl, e', t'⟩ := i2
    exact ⟨p, q, xs, ys, rfl, rfl, s2.wd.sub _ _ e, s2.wd.sub _ _ e', by rw [← t.length, ← t'.length]; exact sz hl, fun l hl => k _ _ _ _ _ (hp l (s2.wd.oNone hl)) ((s1.trans s2).trans (Stp.newO s2.wd hl ⟨_, upd_same, t.append t'⟩)) rfl⟩
/-- a of an owned list + b, new and plain -/
theorem c_abs : RCD K (fun xs H Q => ∃ i, xs = [V.int i] ∧ Q (.int (if i < 0 then -i else i)) H) [.int i] O (.int (if i < 0 then -i else i)) := fun G H vs w a Q k => by
  obtain ⟨v, rfl, e⟩ := isL1 a
  exact ⟨i, by rw [show v = _ from e], k _ G H (Stp.refl w) rfl⟩
/-! ### f-texts -/
theorem ev_fmtI (h : Ev K te δ O (.int i) O1) (hz : i.natAbs < 2 ^ 1000) : Ev K (tFmt te) δ O (.str (toString i)) O1 := fun G H σ w s Q k =>
  h G H σ w s _ fun v G1 H1 s1 i1 => .inr ⟨i, i1, by
    rcases Nat.eq_zero_or_pos i.natAbs with z | z
    · rw [z]; decide
    · exact Nat.lt_of_lt_of_le ((Nat.log2_lt (by omega)).mpr hz) (by decide), k _ G1 H1 s1 rfl⟩
theorem ev_fmtS {a : Str} (h : Ev K te δ O (.str a) O1) (hz : a.length ≤ 100000) : Ev K (tFmt te) δ O (.str a) O1 := fun G H σ w s Q k =>
  h G H σ w s _ fun v G1 H1 s1 i1 => .inl ⟨a, i1, sz hz, k _ G1 H1 s1 rfl⟩
/-- o.append(e), e by what it may give -/
theorem sd_appP {PE : DE} (h1 : Ev K ta δ O (.ref l) O1) (h0 : O1 l = some (.lst es)) (h2 : EvP K te δ O1 fun d O2 => ∃ ds, O2 l = some (.lst ds) ∧ ds.length < 100000 ∧ PE.nx δ (setO O2 l (.lst (ds ++ [d])))) :
    Sd K (tDrop (tBM K "list" rAppend ta (tCons te tNil))) PE δ O := fun G H σ D w s r =>
  h1 G H σ w s _ fun v G1 H1 s1 i1 => by
    have i1 : v = .ref l := i1
    subst i1
    obtain ⟨_, xs0, e0, _⟩ := s1.wd.own l _ h0
    refine ⟨.inl ⟨rfl, xs0, .inl (.inl e0)⟩, h2 G1 H1 σ s1.wd (s.mono s1.ex) _ fun d O2 u G2 H2 hp s2 i2 => ?_⟩
    obtain ⟨ds, h3, hz, k⟩ := hp
    obtain ⟨_, xs, e, t⟩ := s2.wd.own l _ h3
    refine ⟨l, xs, u, rfl, rfl, e, by rw [← t.length]; exact Evl.sz_lt hz, ?_⟩
    have st := Stp.write (o := .lst (xs ++ [u])) (m' := .lst (ds ++ [d])) s2.wd h3 ⟨_, upd_same, t.append ⟨u, [], rfl, i2, rfl⟩⟩
    exact r.nx _ _ _ _ _ k ((s1.trans s2).trans st) (s.mono ((s1.ex.trans s2.ex).trans st.ex))
theorem cutD_drop {ds : List D} {j : Nat} : DL.cutD ds (some (j : Int)) none = ds.drop j := by
  unfold DL.cutD
  rw [HT.sIx_none, HT.sIx_nat]
  by_cases q : j ≤ ds.length
  · rw [Nat.min_eq_left q, List.take_of_length_le (by rw [List.length_drop]; omega)]
  · rw [Nat.min_eq_right (by omega), List.drop_of_length_le (Nat.le_refl _), List.drop_of_length_le (by omega), List.take_nil]
/-! ### written tuples -/
theorem r_ixK {ns : List Int} {n : Int} (hK : ∀ H, SqT K H p (ns.map V.int)) (h : atI ns i = some n) : R2D K (rIxT K) (.ref p) (.int i) O (.int n) := fun G H v u w a b Q k => by
  have hm : atI (ns.map V.int) i = some (.int n) := by
    unfold atI at h ⊢
    rw [List.length_map]
    cases q : ixN ns.length i with
    | none => rw [q] at h; cases h
    | some j =>
      rw [q] at h
      have h : ns[j]? = some n := h
      show (ns.map V.int)[j]? = _
      rw [List.getElem?_map, h]; rfl
  exact ⟨p, _, i, _, a, b, hK H, hm, k _ G H (Stp.refl w) rfl⟩
theorem c_all {bs : List Bool} : RCD K (rAll K) [.lst (bs.map .bl)] O (.bl (bs.all id)) := fun G H vs w a Q k => by
  obtain ⟨v, rfl, p, xs, rfl, e, tl⟩ := isL1 a
  have ex := tl.bls
  subst ex
  exact ⟨p, bs, rfl, .inl (.inl (w.sub _ _ e)), k _ G H (Stp.refl w) rfl⟩
/-! ### x op= e -/
def ipM : TIp := fun x y H Q => ∃ i j, x = .int i ∧ y = .int j ∧ CMul i j ∧ Q (.int (i * j)) H
theorem ip_mul {X : Cx} : PIp X .Mult ipM := by
  intro pins s σ H x y v u Q I r1 r2 h
  obtain ⟨i, j, e1, e2, hc, q⟩ := h
  subst e1; subst e2
  obtain ⟨t, rfl⟩ := r1
  obtain ⟨t', rfl⟩ := r2
  exact PyProof.Rows.imul_int ⟨.int _, H, I.tok _, ⟨_, rfl⟩, q⟩ hc.ok
theorem sd_augI {PE : DE} {k : Nat} {f : Int → Int → Int} (hx : δ[k]? = some (some (.int i))) (h : Ev K te δ O (.int j) O1) (kk : PE.nx (δ.set k (some (.int (f i j)))) O1) : Sd K (tAug k te (ipI f)) PE δ O := fun G H σ D w s r => by
  obtain ⟨v, e, iv⟩ := s.at_ k _ hx
  have iv : v = .int i := iv
  subst iv
  exact ⟨_, e, h G H σ w s _ fun u G1 H1 s1 i1 => ⟨i, j, rfl, i1, r.nx _ _ _ _ _ kk s1 ((s.mono s1.ex).set rfl)⟩⟩
theorem sd_augM {PE : DE} {k : Nat} (hx : δ[k]? = some (some (.int i))) (h : Ev K te δ O (.int j) O1) (hc : CMul i j) (kk : PE.nx (δ.set k (some (.int (i * j)))) O1) : Sd K (tAug k te ipM) PE δ O := fun G H σ D w s r => by
  obtain ⟨v, e, iv⟩ := s.at_ k _ hx
  have iv : v = .int i := iv
  subst iv
  exact ⟨_, e, h G H σ w s _ fun u G1 H1 s1 i1 => ⟨i, j, rfl, i1, hc, r.nx _ _ _ _ _ kk s1 ((s.mono s1.ex).set rfl)⟩⟩
theorem sd_fldAug {PE : DE} {nm : List Str} {f : Str} {jj : Nat} {a c : Int} (h1 : Ev K ta δ O (.ref p) O1) (ho : O1 p = some (.ins C nm ds)) (cl : Cls K C) (n : NoAttr K C f) (hl : (nm.zip ds).lookup f = some (.int a)) (h2 : Ev K tv δ O1 (.int c) O2) (ho2 : O2 p = some (.ins C nm ds)) (hf : nm[jj]? = some f) (hk : ∀ k, k < jj → nm[k]? ≠ some f) (hz : nm.length < 1000)
    (k : PE.nx δ (setO O2 p (.ins C nm (ds.set jj (.int (a + c)))))) : Sd K (sFldAug K ta tv rAdd f) PE δ O := fun G H σ D w s r =>
  h1 G H σ w s _ fun v G1 H1 s1 i1 => by
    have i1 : v = .ref p := i1
    subst i1
    obtain ⟨_, dx, xs, e, l, t⟩ := s1.wd.own p _ ho
    obtain ⟨v, e2, iv⟩ := lookup_is t hl
    have iv : v = .int a := iv
    subst iv
    refine ⟨p, C, dx, _, _, rfl, e, cl, n, e2, h2 G1 H1 σ s1.wd (s.mono s1.ex) _ fun u G2 H2 s2 i2 => ?_⟩
    have i2 : u = .int c := i2
    subst i2
    obtain ⟨_, dx', xs', e', l', t'⟩ := s2.wd.own p _ ho2
    refine ⟨a, c, rfl, rfl, dx', _, e', by rw [List.length_zip, l', Nat.min_self]; exact hz, ?_⟩
    rw [putF_old hf hk l']
    have st := Stp.write (o := .ins C dx' (nm.zip (xs'.set jj (.int (a + c))))) (m' := .ins C nm (ds.set jj (.int (a + c)))) s2.wd ho2 ⟨dx', _, upd_same, by simp [l'], t'.set jj rfl⟩
    exact r.nx _ _ _ _ _ k ((s1.trans s2).trans st) (s.mono ((s1.ex.trans s2.ex).trans st.ex))
/-! ### while (x := e) op b -/
theorem sd_whileW {PE : DE} {tu : TS} {r : R2} {ii : Nat} (W : Nat → Sl → Ow → Prop) (m0 : Nat) (h0 : W m0 δ O)
    (hs : ∀ m δ' O', W m δ' O' → EvP K te δ' O' fun d O1 => ∃ y O2 b, Ev K tb (δ'.set ii (some d)) O1 y O2 ∧ R2D K r d y O2 (.bl b) ∧ (b = true → Sd K tu { PE with nx := fun δ2 O2 => ∃ m', m' < m ∧ W m' δ2 O2, ct := fun δ2 O2 => ∃ m', m' < m ∧ W m' δ2 O2, bk := PE.nx } (δ'.set ii (some d)) O2) ∧ (b = false → PE.nx (δ'.set ii (some d)) O2)) :
    Sd K (tWhileW (wCmp r (wNm (wE te) ii) tb) tu tNext) PE δ O := fun G H σ D w s rr => by
  refine ⟨fun m σ' H' => ∃ δ' O' G', W m δ' O' ∧ Stp K G O H G' O' H' ∧ SlIs K G' δ' σ', ⟨m0, δ, O, G, h0, Stp.refl w, s⟩, fun m σ' H' hW => ?_⟩
  obtain ⟨δ', O', G', hI, st, sl⟩ := hW
  refine hs m δ' O' hI G' H' σ' st.wd sl _ fun d O1 v G1 H1 hp s1 iv => ?_
  obtain ⟨y, O2, b, hb, hr, ht, hf⟩ := hp
  have sl1 := (sl.mono s1.ex).set (i := ii) iv
  refine hb G1 H1 _ s1.wd sl1 _ fun u G2 H2 s2 iu => hr G2 H2 v u s2.wd (iv.mono s2.ex) iu _ fun z G3 H3 s3 iz => ⟨b, iz, ?_⟩
  have stx := ((st.trans s1).trans s2).trans s3
  have slx := sl1.mono (s2.ex.trans s3.ex)
  cases b with
  | false => exact iteF (rr.nx _ O2 G3 H3 _ (hf rfl) stx slx)
  | true =>
    refine iteT ⟨fun σ2 H2 => ∃ m', m' < m ∧ ∃ δ2 O2 G2, W m' δ2 O2 ∧ Stp K G O H G2 O2 H2 ∧ SlIs K G2 δ2 σ2, fun σ2 H2 ⟨m', a, q⟩ => ⟨m', a, q⟩, ?_⟩
    exact ht rfl G3 H3 _ _ s3.wd slx ⟨fun δ4 O4 G4 H4 σ4 ⟨m', a, p⟩ st4 sl4 => ⟨m', a, δ4, O4, G4, p, stx.trans st4, sl4⟩, fun d O4 G4 H4 v p st4 iv => rr.rt d O4 G4 H4 v p (stx.trans st4) iv,
        fun δ4 O4 G4 H4 σ4 p st4 sl4 => rr.nx δ4 O4 G4 H4 σ4 p (stx.trans st4) sl4, fun δ4 O4 G4 H4 σ4 ⟨m', a, p⟩ st4 sl4 => ⟨m', a, δ4, O4, G4, p, stx.trans st4, sl4⟩⟩
end
end DL

set_option Elab.async false
set_option linter.all false
set_option maxRecDepth 100000
/-! lists, owned or plain, read alike -/
namespace DL
open PySem PySem.Spec L2
section
variable {K : PySem.W.Frag} {δ : Sl} {O O1 O2 O3 : Ow} {d x y z : D} {ta tb tc te tv : TE} {t : TA} {tt tt2 : TT} {i j M : Int} {p q l C : Addr} {ds es : List D} {b : Bool} {R : DR} {E : XK} {P : D → Ow → Prop} {B : Bool → Ow → Prop} {g : TG}
def LstOf (O : Ow) (x : D) (ds : List D) : Prop := x = .lst ds ∨ ∃ p, x = .ref p ∧ O p = some (.lst ds)
theorem LstOf.lst : LstOf O (.lst ds) ds := .inl rfl
theorem LstOf.own (h : O p = some (.lst ds)) : LstOf O (.ref p) ds := .inr ⟨p, rfl, h⟩
theorem c_isiLs {c : String} (hx : LstOf O x ds) (e : kitB "list" c = some b) : RCD K (rIsi K) [x, .ty c] O (.bl b) := by
  rcases hx with rfl | ⟨p, rfl, ho⟩
  · exact c_isi rfl e
  · intro G H vs w a Q k
    obtain ⟨v, u, rfl, iv, iu⟩ := isL2 a
    cases iu
    have iv : v = .ref p := iv
    subst iv
    obtain ⟨_, xs, h, _⟩ := w.own p _ ho
    exact ⟨_, _, _, _, b, rfl, .ty c, .base (.lst h), kit_ty e, k _ G H (Stp.refl w) rfl⟩
theorem c_lenLs (hx : LstOf O x ds) : RCD K (fun xs H Q => ∃ p ys, xs = [.ref p] ∧ (SqL K H p ys ∨ SqT K H p ys) ∧ Q (.int ys.length) H) [x] O (.int (ds.length : Int)) := by
  rcases hx with rfl | ⟨p, rfl, ho⟩
  · exact c_lenL
  · exact c_lenO ho
theorem r_ixLs (hx : LstOf O x ds) (h : atI ds i = some d) : R2D K (rIxL K) x (.int i) O d := by
  rcases hx with rfl | ⟨p, rfl, ho⟩
  · exact r_ixL h
  · exact r_ixO ho h
theorem r_ixALs (hx : LstOf O x ds) (h : atI ds i = some d) : R2D K (rIxA K) x (.int i) O d := fun G H v u w a b Q k => .inl (r_ixLs hx h G H v u w a b Q k)
theorem r_isNLs (hx : LstOf O x ds) : R2D K (fun x y H Q => y = .non ∧ Q (.bl (decide (x = .non))) H) x .non O (.bl false) := by
  rcases hx with rfl | ⟨p, rfl, ho⟩
  · exact r_isN _ rfl
  · exact r_isN _ rfl
/-- a + b of lists however held, the new list is owned -/
theorem evp_catLs (ha : Ev K ta δ O x O1) (hb : Ev K tb δ O1 y O2) (hx : LstOf O2 x ds) (hy : LstOf O2 y es) (hl : ds.length + es.length ≤ 100000) (hp : ∀ p, O2 p = none → P (.ref p) (setO O2 p (.lst (ds ++ es)))) : EvP K (tOp rCat ta tb) δ O P := fun G H σ w s Q k =>
  ha G H σ w s _ fun v G1 H1 s1 i1 => hb G1 H1 σ s1.wd (s.mono s1.ex) _ fun u G2 H2 s2 i2 => by
    have get : ∀ {x : D} {ds : List D} {v : V}, LstOf O2 x ds → Is K G2 x v → ∃ p xs, v = .ref p ∧ H2 p = some (.lst xs) ∧ IsL K G2 ds xs := fun {x ds v} hx iv => by
      rcases hx with rfl | ⟨p, rfl, ho⟩
      · obtain ⟨p, xs, rfl, e, t⟩ := iv
        exact ⟨p, xs, rfl, s2.wd.sub _ _ e, t⟩
      · have iv : v = .ref p := iv
        obtain ⟨_, xs, h, t⟩ := s2.wd.own p _ ho
        exact ⟨p, xs, iv, h, t⟩
    obtain ⟨p, xs, rfl, e, t⟩ := get hx (i1.mono s2.ex)
    obtain ⟨q, ys, rfl, e', t'⟩ := get hy i2
    exact ⟨p, q, xs, ys, rfl, rfl, e, e', by rw [← t.length, ← t'.length]; exact sz hl, fun l hl => k _ _ _ _ _ (hp l (s2.wd.oNone hl)) ((s1.trans s2).trans (Stp.newO s2.wd hl ⟨_, upd_same, t.append t'⟩)) rfl⟩
/-- what is owned may be forgotten -/
theorem evp_drop (h : EvP K te δ O fun d O' => ∃ O2, OSub O2 O' ∧ P d O2) : EvP K te δ O P := fun G H σ w s Q k =>
  h G H σ w s Q fun d O' v G' H' ⟨O2, hs, hp⟩ st iv => k d O2 v G' H' hp (st.drop hs) iv
theorem ev_slLs {tl th : TO} {lo hi : Option Int} (h : Ev K te δ O x O1) (h1 : EvO K tl δ O1 lo O2) (h2 : EvO K th δ O2 hi O3) (hx : LstOf O3 x ds) : Ev K (tSl (rSlL K) te tl th) δ O (.lst (cutD ds lo hi)) O3 := fun G H σ w s Q k =>
  h G H σ w s _ fun v G1 H1 s1 i1 => h1 G1 H1 σ s1.wd (s.mono s1.ex) _ fun G2 H2 s2 => h2 G2 H2 σ s2.wd (s.mono (s1.ex.trans s2.ex)) _ fun G3 H3 s3 => by
    have get : ∃ p xs, v = .ref p ∧ H3 p = some (.lst xs) ∧ IsL K G3 ds xs := by
      have i1 := i1.mono (s2.ex.trans s3.ex)
      rcases hx with rfl | ⟨p, rfl, ho⟩
      · obtain ⟨p, xs, rfl, e, t⟩ := i1
        exact ⟨p, xs, rfl, s3.wd.sub _ _ e, t⟩
      · have iv : v = .ref p := i1
        obtain ⟨_, xs, h, t⟩ := s3.wd.own p _ ho
        exact ⟨p, xs, iv, h, t⟩
    obtain ⟨p, xs, rfl, e, t⟩ := get
    refine ⟨p, xs, rfl, .inl (.inl e), fun l hl => ?_⟩
    have st := Stp.new (o := .lst (cutV xs lo hi)) s3.wd hl
    exact k _ _ _ (((s1.trans s2).trans s3).trans st) ⟨l, _, rfl, upd_same, (cut_is t).mono st.ex⟩
/-- an owned list, or a plain one, walked -/
theorem ei_listLs (h : Ev K te δ O x O1) (hx : x = .lst ds) : EvI K (iList K te) δ O ds O1 := by subst hx; exact ei_list h
/-- behind a statement what is owned may be forgotten -/
theorem sd_nxD {PE : DE} {ts : TS} (h : Sd K ts { PE with nx := fun δ' O' => ∃ O2, OSub O2 O' ∧ PE.nx δ' O2 } δ O) : Sd K ts PE δ O := fun G H σ D w s r =>
  h G H σ D w s ⟨fun δ' O' G' H' σ' ⟨O2, hs, hp⟩ st sl => r.nx δ' O2 G' H' σ' hp (st.drop hs) sl, r.rt, r.bk, r.ct⟩
theorem OSub.set2 {m m' : MO} (hp : O p = none) : OSub (setO O q m') (setO (setO O p m) q m') := fun a n e => by
  by_cases z : a = q
  · subst z; rw [setO_same] at e ⊢; exact e
  · rw [setO_ne z] at e ⊢
    rw [setO_ne (fun z2 => by subst z2; rw [hp] at e; cases e)]; exact e
end
end DL

set_option Elab.async false
set_option linter.all false
set_option maxRecDepth 100000
set_option maxHeartbeats 2000000
/-! exceptions over data: what is raised, who takes it -/
namespace DL
open PySem PySem.Spec L2
/-- an exception: its class, and the fields of its own dict (none: it has none) -/
structure XD where
  cls : Addr
  fs : Option (List Str × List D)
def IsX (K : PySem.W.Frag) (G : Hp) (x : XD) (cls : Value) (d : Option Addr) : Prop := cls = .ref x.cls ∧ match x.fs with
  | none => d = none
  | some (nm, ds) => ∃ a xs, d = some a ∧ G a = some (.xd (nm.zip xs)) ∧ xs.length = nm.length ∧ IsL K G ds xs
/-- what a def that may raise promises -/
abbrev DRX := List D → Ow → (D → Ow → Prop) → (XD → Ow → Prop) → Prop
def SpDX (K : PySem.W.Frag) (R : DRX) : Sp := fun vs H Q E => ∃ G O ds Post XP, Wd K G O H ∧ IsL K G ds vs ∧ R ds O Post XP ∧ (∀ d O' v G' H', Post d O' → Stp K G O H G' O' H' → Is K G' d v → Q v H') ∧ ∀ x O' cls d G' H', XP x O' → Stp K G O H G' O' H' → IsX K G' x cls d → E cls d H'
/-- the wish of exceptions, told of data: by the slots where it is raised -/
def RealX (K : PySem.W.Frag) (W : WX) (XP : Sl → XD → Ow → Prop) (G : Hp) (O : Ow) (H : Hp) : Prop :=
  ∀ δ σ x O' cls d G' H', XP δ x O' → Stp K G O H G' O' H' → SlIs K G' δ σ → IsX K G' x cls d → W cls d σ H'
section
variable {K : PySem.W.Frag} {W : WX} {XP : Sl → XD → Ow → Prop} {G G1 H H1 : Hp} {O O1 : Ow}
theorem RealX.step (r : RealX K W XP G O H) (s : Stp K G O H G1 O1 H1) : RealX K W XP G1 O1 H1 := fun δ σ x O' cls d G' H' p st sl ix => r δ σ x O' cls d G' H' p (s.trans st) sl ix
end
def EvX (K : PySem.W.Frag) (W : WX) (te : TE) (XP : Sl → XD → Ow → Prop) (δ : Sl) (O : Ow) (P : D → Ow → Prop) : Prop :=
  ∀ G H σ, Wd K G O H → SlIs K G δ σ → RealX K W XP G O H → ∀ Q : VK, (∀ d O' v G' H', P d O' → Stp K G O H G' O' H' → Is K G' d v → Q v H') → te σ H Q
def EvTX (K : PySem.W.Frag) (W : WX) (tt : TT) (XP : Sl → XD → Ow → Prop) (δ : Sl) (O : Ow) (B : Bool → Ow → Prop) : Prop :=
  ∀ G H σ, Wd K G O H → SlIs K G δ σ → RealX K W XP G O H → ∀ Q : Bool → Hp → Prop, (∀ b O' G' H', B b O' → Stp K G O H G' O' H' → Q b H') → tt σ H Q
def SdX (K : PySem.W.Frag) (W : WX) (ts : TS) (P : DE) (XP : Sl → XD → Ow → Prop) (δ : Sl) (O : Ow) : Prop :=
  ∀ G H σ (D : Ends), Wd K G O H → SlIs K G δ σ → Real K P D G O H → RealX K W XP G O H → ts D σ H
section
variable {K : PySem.W.Frag} {W : WX} {XP : Sl → XD → Ow → Prop} {δ : Sl} {O O1 O2 O3 : Ow} {d x y z : D} {ta tb tc te tv : TE} {t : TA} {tt tt2 : TT} {tu tw ts : TS} {i j M : Int} {p q l C : Addr} {nm : List Str} {ds es : List D} {b : Bool} {RX : DRX} {R : DR} {E : XK} {P : D → Ow → Prop} {B : Bool → Ow → Prop} {g : TG} {PE : DE}
theorem EvP.tox (h : EvP K te δ O P) : EvX K W te XP δ O P := fun G H σ w s _ Q k => h G H σ w s Q k
theorem EvTP.tox (h : EvTP K tt δ O B) : EvTX K W tt XP δ O B := fun G H σ w s _ Q k => h G H σ w s Q k
theorem EvT.tox (h : EvT K tt δ O b O1) (hb : B b O1) : EvTX K W tt XP δ O B := (h.toP hb).tox
theorem Sd.tox (h : Sd K ts PE δ O) : SdX K W ts PE XP δ O := fun G H σ D w s r _ => h G H σ D w s r
theorem evx_op {r : R2} (ha : EvX K W ta XP δ O fun x O1 => EvX K W tb XP δ O1 fun y O2 => ∃ z, R2D K r x y O2 z ∧ P z O2) : EvX K W (tOp r ta tb) XP δ O P := fun G H σ w s rx Q k =>
  ha G H σ w s rx _ fun x O1 v G1 H1 hb s1 i1 => hb G1 H1 σ s1.wd (s.mono s1.ex) (rx.step s1) _ fun y O2 u G2 H2 hz s2 i2 => by
    obtain ⟨z, hr, hp⟩ := hz
    exact hr G2 H2 v u s2.wd (i1.mono s2.ex) i2 _ fun w' G3 H3 s3 i3 => k z O2 w' G3 H3 hp ((s1.trans s2).trans s3) i3
theorem evtx_test (h : EvX K W te XP δ O fun d O' => ∃ b, d = .bl b ∧ B b O') : EvTX K W (tTest te) XP δ O B := fun G H σ w s rx Q k => h G H σ w s rx _ fun d O' v G1 H1 hp s1 i1 => by
  obtain ⟨b, rfl, hb⟩ := hp
  exact ⟨b, i1, k b O' G1 H1 hb s1⟩
theorem evtx_not (h : EvTX K W tt XP δ O fun b O' => B (!b) O') : EvTX K W (tNot tt) XP δ O B := fun G H σ w s rx Q k => h G H σ w s rx _ fun b O' G1 H1 hp s1 => k _ O' G1 H1 hp s1
/-! ### calls that may raise -/
theorem spx_run {G H : Hp} {vs : List V} {Q : VK} {Post : D → Ow → Prop} {XPost : XD → Ow → Prop} (w : Wd K G O H) (i : IsL K G ds vs) (hr : RX ds O Post XPost) (k : ∀ d O' v G' H', Post d O' → Stp K G O H G' O' H' → Is K G' d v → Q v H') (kx : ∀ x O' cls d G' H', XPost x O' → Stp K G O H G' O' H' → IsX K G' x cls d → E cls d H') : SpDX K RX vs H Q E := ⟨G, O, ds, Post, XPost, w, i, hr, k, kx⟩
theorem evx_run (hE : ∀ cls d σ H, W cls d σ H → E cls d H) (h : EvA K t δ O ds O1) (hr : RX ds O1 P (XP δ)) : EvX K W (tRun (SpDX K RX) E t) XP δ O P := fun G H σ w s rx Q k =>
  h G H σ w s _ fun vs G1 H1 s1 i1 => spx_run s1.wd i1 hr (fun d O' v G' H' hp st iv => k d O' v G' H' hp (s1.trans st) iv) fun x O' cls d G' H' hp st ix => hE _ _ σ _ (rx δ σ x O' cls d G' H' hp (s1.trans st) (s.mono (s1.ex.trans st.ex)) ix)
theorem evx_meth {m : Str} (hE : ∀ cls d σ H, W cls d σ H → E cls d H) (h : Ev K ta δ O (.ins C nm ds) O1) (hm : m ∉ nm) (ht : EvA K t δ O1 es O2) (hr : RX (.ins C nm ds :: es) O2 P (XP δ)) : EvX K W (tMethR C m (SpDX K RX) E ta t) XP δ O P := fun G H σ w s rx Q k =>
  h G H σ w s _ fun v G1 H1 s1 i1 => by
    have i0 := i1
    obtain ⟨p, dx, xs, rfl, e, l, tl⟩ := i1
    refine ⟨p, dx, _, rfl, s1.wd.sub _ _ e, lookup_none (G := G) hm, ht G1 H1 σ s1.wd (s.mono s1.ex) _ fun vs G2 H2 s2 i3 => ?_⟩
    exact spx_run (ds := .ins C nm ds :: es) s2.wd ⟨_, _, rfl, i0.mono s2.ex, i3⟩ hr (fun d O' v G' H' hp st iv => k d O' v G' H' hp ((s1.trans s2).trans st) iv) fun x O' cls d G' H' hp st ix => hE _ _ σ _ (rx δ σ x O' cls d G' H' hp ((s1.trans s2).trans st) (s.mono ((s1.ex.trans s2.ex).trans st.ex)) ix)
theorem evx_methO {m : Str} (hE : ∀ cls d σ H, W cls d σ H → E cls d H) (h : Ev K ta δ O (.ref p) O1) (ho : O1 p = some (.ins C nm ds)) (hm : m ∉ nm) (ht : EvA K t δ O1 es O2) (hr : RX (.ref p :: es) O2 P (XP δ)) : EvX K W (tMethR C m (SpDX K RX) E ta t) XP δ O P := fun G H σ w s rx Q k =>
  h G H σ w s _ fun v G1 H1 s1 i1 => by
    have i1 : v = .ref p := i1
    subst i1
    obtain ⟨_, dx, xs, e, _, _⟩ := s1.wd.own p _ ho
    refine ⟨p, dx, _, rfl, e, lookup_none (G := G) hm, ht G1 H1 σ s1.wd (s.mono s1.ex) _ fun vs G2 H2 s2 i3 => ?_⟩
    exact spx_run (ds := .ref p :: es) s2.wd ⟨_, _, rfl, rfl, i3⟩ hr (fun d O' v G' H' hp st iv => k d O' v G' H' hp ((s1.trans s2).trans st) iv) fun x O' cls d G' H' hp st ix => hE _ _ σ _ (rx δ σ x O' cls d G' H' hp ((s1.trans s2).trans st) (s.mono ((s1.ex.trans s2.ex).trans st.ex)) ix)
/-! ### the same where the handler looks at the slots -/
def tRunX (sp : Sp) (W : WX) (t : TA) : TE := fun σ H Q => t σ H fun vs H1 => sp vs H1 Q fun cls d H' => W cls d σ H'
def tMethX (C : Addr) (m : Str) (sp : Sp) (W : WX) (ta : TE) (t : TA) : TE := fun σ H Q => ta σ H fun x H1 => ∃ a dx fs, x = .ref a ∧ H1 a = some (.ins C dx fs) ∧ fs.lookup m = none ∧ t σ H1 fun vs H2 => sp (x :: vs) H2 Q fun cls d H' => W cls d σ H'
theorem evx_runX (h : EvA K t δ O ds O1) (hr : RX ds O1 P (XP δ)) : EvX K W (tRunX (SpDX K RX) W t) XP δ O P := fun G H σ w s rx Q k =>
  h G H σ w s _ fun vs G1 H1 s1 i1 => spx_run s1.wd i1 hr (fun d O' v G' H' hp st iv => k d O' v G' H' hp (s1.trans st) iv) fun x O' cls d G' H' hp st ix => rx δ σ x O' cls d G' H' hp (s1.trans st) (s.mono (s1.ex.trans st.ex)) ix
theorem evx_methXO {m : Str} (h : Ev K ta δ O (.ref p) O1) (ho : O1 p = some (.ins C nm ds)) (hm : m ∉ nm) (ht : EvA K t δ O1 es O2) (hr : RX (.ref p :: es) O2 P (XP δ)) : EvX K W (tMethX C m (SpDX K RX) W ta t) XP δ O P := fun G H σ w s rx Q k =>
  h G H σ w s _ fun v G1 H1 s1 i1 => by
    have i1 : v = .ref p := i1
    subst i1
    obtain ⟨_, dx, xs, e, _, _⟩ := s1.wd.own p _ ho
    refine ⟨p, dx, _, rfl, e, lookup_none (G := G) hm, ht G1 H1 σ s1.wd (s.mono s1.ex) _ fun vs G2 H2 s2 i3 => ?_⟩
    exact spx_run (ds := .ref p :: es) s2.wd ⟨_, _, rfl, rfl, i3⟩ hr (fun d O' v G' H' hp st iv => k d O' v G' H' hp ((s1.trans s2).trans st) iv) fun x O' cls d G' H' hp st ix => rx δ σ x O' cls d G' H' hp ((s1.trans s2).trans st) (s.mono ((s1.ex.trans s2.ex).trans st.ex)) ix
/-! ### statements -/
theorem sdx_seq (h : SdX K W tu { PE with nx := fun δ' O' => SdX K W tw PE XP δ' O' } XP δ O) : SdX K W (tSeq tu tw) PE XP δ O := fun G H σ D w s r rx =>
  h G H σ _ w s ⟨fun δ' O' G' H' σ' hp st sl => hp G' H' σ' D st.wd sl (r.step st) (rx.step st), r.rt, r.bk, r.ct⟩ rx
theorem sdx_asgP {ii : Nat} (h : EvX K W te XP δ O fun d O' => PE.nx (δ.set ii (some d)) O') : SdX K W (tAsg te (gName ii)) PE XP δ O := fun G H σ D w s r rx =>
  h G H σ w s rx _ fun d O' v G' H' hp st iv => r.nx _ O' G' H' _ hp st ((s.mono st.ex).set iv)
theorem sdx_asgG (h : EvX K W te XP δ O fun d O' => Gd K g d δ O' PE.nx) : SdX K W (tAsg te g) PE XP δ O := fun G H σ D w s r rx =>
  h G H σ w s rx _ fun d O' v G' H' hg st iv => hg G' H' σ v st.wd (s.mono st.ex) iv _ fun δ2 O2 G2 H2 σ2 hp s2 sl => r.nx δ2 O2 G2 H2 σ2 hp (st.trans s2) sl
theorem sdx_retP (h : EvX K W te XP δ O PE.rt) : SdX K W (tRet te) PE XP δ O := fun G H σ D w s r rx => h G H σ w s rx _ fun d O' v G' H' hp st iv => r.rt d O' G' H' v hp st iv
theorem sdx_dropP (h : EvX K W te XP δ O fun _ O' => PE.nx δ O') : SdX K W (tDrop te) PE XP δ O := fun G H σ D w s r rx => h G H σ w s rx _ fun d O' v G' H' hp st iv => r.nx δ O' G' H' σ hp st (s.mono st.ex)
theorem sdx_if (h : EvTX K W tt XP δ O fun b O' => (b = true → SdX K W tu PE XP δ O') ∧ (b = false → SdX K W tw PE XP δ O')) : SdX K W (tIfS tt tu tw) PE XP δ O := fun G H σ D w s r rx =>
  h G H σ w s rx _ fun b O' G' H' hp st => by
    cases b with
    | true => exact iteT (hp.1 rfl G' H' σ D st.wd (s.mono st.ex) (r.step st) (rx.step st))
    | false => exact iteF (hp.2 rfl G' H' σ D st.wd (s.mono st.ex) (r.step st) (rx.step st))
/-- raise C("..") of a class without fields -/
theorem sdx_raise {C : Addr} (h : XP δ ⟨C, none⟩ O) : SdX K W (fun _ σ H => (fun _ H Q => Q (.ref C) none H : L2.St → Hp → XK → Prop) σ H fun cls d H' => W cls d σ H') PE XP δ O := fun G H σ D w s r rx => rx δ σ ⟨C, none⟩ O _ _ G H h (Stp.refl w) s ⟨rfl, rfl⟩
theorem sdx_for {wi : TI} {items : List D} (hi : EvI K wi δ O items O1) (I : Nat → Sl → Ow → Prop) (h0 : I 0 δ O1)
    (hs : ∀ i d δ' O', items[i]? = some d → I i δ' O' → Gd K g d δ' O' fun δ2 O2 => SdX K W tu { PE with nx := I (i + 1), ct := I (i + 1), bk := PE.nx } XP δ2 O2)
    (hd : ∀ δ' O', I items.length δ' O' → PE.nx δ' O') : SdX K W (tFor wi g tu) PE XP δ O := fun G H σ D w s r rx =>
  hi G H σ w s _ fun J G1 H1 s1 ok => by
    refine ⟨fun i m σ' H' => i + m = items.length ∧ ∃ δ' O' G', I i δ' O' ∧ Stp K G O H G' O' H' ∧ Sub G1 G' ∧ SlIs K G' δ' σ', ⟨items.length, by omega, δ, O1, G1, h0, s1, Sub.refl _, s.mono s1.ex⟩, fun i m σ' H' hW => ?_⟩
    obtain ⟨em, δ', O', G', hI, st, sb, sl⟩ := hW
    obtain ⟨go, stop⟩ := ok G' O' H' sb st.wd i
    by_cases hl : i < items.length
    · obtain ⟨g1, g2⟩ := go items[i] (List.getElem?_eq_getElem hl)
      refine .inr ⟨g1, fun σ2 H2 => ∃ δ2 O2 G2, I (i + 1) δ2 O2 ∧ Stp K G O H G2 O2 H2 ∧ Sub G1 G2 ∧ SlIs K G2 δ2 σ2, fun σ2 H2 ⟨δ2, O2, G2, a, b, c, e⟩ => ⟨m - 1, by omega, by omega, δ2, O2, G2, a, b, c, e⟩, fun x H2 hy => ?_⟩
      obtain ⟨G2, st2, ix⟩ := g2 x H2 hy
      refine hs i _ δ' O' (List.getElem?_eq_getElem hl) hI G2 H2 σ' x st2.wd (sl.mono st2.ex) ix _ fun δ3 O3 G3 H3 σ3 hb st3 sl3 => ?_
      have stx := (st.trans st2).trans st3
      exact hb G3 H3 σ3 _ st3.wd sl3 ⟨fun δ4 O4 G4 H4 σ4 p st4 sl4 => ⟨δ4, O4, G4, p, stx.trans st4, (sb.trans st2.ex).trans (st3.ex.trans st4.ex), sl4⟩, fun d O4 G4 H4 v p st4 iv => r.rt d O4 G4 H4 v p (stx.trans st4) iv,
        fun δ4 O4 G4 H4 σ4 p st4 sl4 => r.nx δ4 O4 G4 H4 σ4 p (stx.trans st4) sl4, fun δ4 O4 G4 H4 σ4 p st4 sl4 => ⟨δ4, O4, G4, p, stx.trans st4, (sb.trans st2.ex).trans (st3.ex.trans st4.ex), sl4⟩⟩ (rx.step stx)
    · have e : i = items.length := by omega
      refine .inl ⟨stop (List.getElem?_eq_none (by omega)), ?_⟩
      subst e
      exact r.nx δ' O' G' H' σ' (hd δ' O' hI) st sl
/-! ### the rules of the machine, where the handler looks at the slots -/
section
variable {X : Cx} {CX : CXT} {kk : Nat} {f : Addr} {sp : Sp}
theorem run_fnX {pins : List (Addr × Obj)} {σ : L2.St} {H : Hp} {s : Shared} {Q : VK} {E : XK} {us : List Value} {vs : List V} (F : FnR X.prog X.w X.K X.mg X.base CX kk f sp) (hr : Room kk X.A) (hx : PassesAt CX X σ E) (I : Inv X pins σ H s) (r : Vals vs us) (h : sp vs H Q E) :
    codeAny (model X.prog X.w) X.A (.call (.ref f) ⟨us, []⟩) (fun r s' => match r with | .ok (.ret v) => EP X pins σ Q v s' | .ok _ => False | .error e => X.xe e s') s := by
  refine codeAny_mono (F X.A X.stack s H us vs Q E hr I.env0 r h) fun rr s' hq => ?_
  match rr, hq with
  | .error e, hq => exact hx pins H s e s' I hq
  | .ok (.ret u), hq => exact I.after hq
theorem pe_runX {x : Str} {e : Expr} {es : List Expr} {t : TA} {p pos : Pos} {W : WX} (F : FnR X.prog X.w X.K X.mg X.base (L2.CX X.prog X.w) kk f sp) (hr : Room kk X.A) (hk : PySem.W.keepIn X.K (.ref f) = true) (hm : X.mg x = some (.ref f)) (tk : Takes X W) (ha : PA X (e :: es) t) (hg : Gl X x := by rfl) (hdb : (x == ("__debug__" : Str)) = false := by decide)
    (he : starEach (e :: es) X.env = (false, eval e X.env) :: starEach es X.env := by rfl) (hpl : (backTo pos (starEach es X.env)).any (·.1) = false := by rfl) :
    L2.PE X (.Call (.Name x p) (e :: es) [] pos) (tRunX sp W t) := ⟨fun pins s σ H Q I h =>
  wpAny_Call_Name_kw (ld_glob I hg hm (PySem.W.callWith_K (h₀ := X.base) I.ok.mod.kin hk (thn (ha.run pos pins s σ H _ I h) fun us s1 ⟨vs, H1, I1, r, q⟩ => ⟨I1.kIn, wpAny_call (run_fnX F hr (passAt tk σ) I1 r q)⟩) he hpl) hdb)⟩
theorem pe_methX {C : Addr} {m : Str} {o e : Expr} {es : List Expr} {ta : TE} {t : TA} {apos pos : Pos} {pl : Sem Bool} {W : WX} (ho : L2.PE X o ta) (c : Cls X.K C) (hm : Meth X.K C m f)
    (F : FnR X.prog X.w X.K X.mg X.base (L2.CX X.prog X.w) kk f sp) (hr : Room kk X.A) (tk : Takes X W) (ha : PA X (e :: es) t)
    (hst : starEach (e :: es) X.env = (false, eval e X.env) :: starEach es X.env := by rfl) (hpl : (backTo pos (starEach es X.env)).any (·.1) = false := by rfl)
    (ht : eval (.Call (.Attribute o m apos) (e :: es) [] pos) X.env = (eval o X.env >>= fun ov => standAt apos.atName >>= fun _ => holding [ov] (getMethod ov m pl) >>= fun ff =>
      callWith pos ff.1 ff.2 (backTo pos (starEach (e :: es) X.env)) (backToKw pos (keywordEach [] X.env))) := by rfl) :
    L2.PE X (.Call (.Attribute o m apos) (e :: es) [] pos) (tMethX C m sp W ta t) := ⟨fun pins s σ H Q I h => by
  refine PySem.W.methodCall_KW (pl := pl) (thn (ho.run pins s σ H _ I h) fun u s1 hx => ?_) ht
  obtain ⟨x, H1, I1, rx, a, dx, fs, rfl, ea, l, q⟩ := hx
  cases (show u = Value.ref a from rx)
  exact getmeth_ok I1 ea c hm l (PySem.W.callWith_K (first := [.ref a]) (h₀ := X.base) I.ok.mod.kin hm.kp (thn (ha.run pos pins s1 σ H1 _ I1 q) fun us s2 ⟨vs, H2, I2, r, q2⟩ => ⟨I2.kIn, wpAny_call (run_fnX (us := .ref a :: us) (vs := .ref a :: vs) F hr (passAt tk σ) I2 (.cons rfl r) q2)⟩) hst hpl)⟩
end
/-! ### defs that may raise -/
theorem body_ofX {K : PySem.W.Frag} {RX : DRX} {ts : TS} {N : List Str} {vs : List V} {H : Hp} {Q : VK} {E : XK} (hsp : SpDX K RX vs H Q E) (h : ∀ ds O Post XPost, RX ds O Post XPost → SdX K (fun cls d _ H => E cls d H) ts ⟨fun _ O' => Post .non O', Post, fun _ _ => False, fun _ _ => False⟩ (fun _ => XPost) (startD N ds) O) : ts { nx := fun _ H' => Q .non H', rt := Q } (start N vs) H := by
  obtain ⟨G, O, ds, Post, XPost, w, i, hr, k, kx⟩ := hsp
  exact h ds O Post XPost hr G H _ _ w (start_is i) ⟨fun δ' O' G' H' σ' hp st _ => k _ O' _ G' H' hp st rfl, fun d O' G' H' v hp st iv => k d O' v G' H' hp st iv, fun _ _ _ _ _ hp => hp.elim, fun _ _ _ _ _ hp => hp.elim⟩ fun _ _ x O' cls d G' H' hp st _ ix => kx x O' cls d G' H' hp st ix
theorem fnDX {P : Program} {w : World} {K : PySem.W.Frag} {mg : Str → Option Value} {base : Heap} {x qual : Str} {st : Stmt} {f : Addr} {fd : FuncData} {N ps : List Str} {k : Nat} {RX : DRX} (F : Fun K x qual st f fd) (S : FnScope N ps (defScope st)) (hb : Binds K fd ps [])
    (len : ∀ ds O Post XPost, RX ds O Post XPost → ds.length = ps.length)
    (hbody : ∀ (cdv : Value) (A : Around) (outer : List Env) (s : Shared) (H : Hp) (E : XK), Room k (A.deeper (PyProof.Rows.envOfC qual (defScope st) s.heap.objs.size f cdv)) →
      ∃ t, PSs (cxOf (L2.CX P w) P w K mg base N qual (defScope st) f cdv A outer s H E) (defBody st) t ∧ ∀ ds O Post XPost, RX ds O Post XPost → SdX K (fun cls d _ H => E cls d H) t ⟨fun _ O' => Post .non O', Post, fun _ _ => False, fun _ _ => False⟩ (fun _ => XPost) (startD N ds) O) :
    FnR P w K mg base (L2.CX P w) (k + 1) f (SpDX K RX) := by
  have F1 : FnOk P w K mg base (L2.CX P w) (k + 1) f fd ps (SpDX K RX) := by
    refine F.okX S (fun vs H Q E h => ?_) (fun cdv A outer s H vs Q E hr h => ?_)
    · obtain ⟨G, O, ds, Post, XPost, _, i, hr, _⟩ := h
      rw [← i.length]; exact len ds O Post XPost hr
    · obtain ⟨t, h1, h2⟩ := hbody cdv A outer s H E hr
      exact ⟨t, h1, body_ofX h h2⟩
  refine (F1.raw hb .nil).imp fun vs H Q E h => ?_
  rw [List.append_nil]; exact h
/-! ### try -/
def tTry (K : PySem.W.Frag) (c : Value) (ts : Addr → Value → Option Addr → TS) (Wout : WX) (tb : WX → TS) : TS := fun D σ H => tb (wOnly K c ts Wout D) D σ H
theorem ps_tryO (K : PySem.W.Frag) {X : Cx} {x : Str} {c : Value} {body suite : List Stmt} {b₀ : Stmt} {np pos pos' : Pos} {tb : WX → TS} {ts : Addr → Value → Option Addr → TS} {Wout : WX} (hs : X.stack = X.env :: X.outer) (hf : X.env.frame = some X.env.locals) (hc : Names X x c) (tk : Takes X Wout)
    (hb : ∀ (W : WX) (pn : List (Addr × Obj)) (xe : Value → Shared → Prop), Takes (X.tr pn xe) W → PassesOwn (model X.prog X.w) X.A X.env xe → PSs (X.tr pn xe) body (tb W))
    (hsu : ∀ (a : Addr) (oe : Obj) (cls : Value) (d : Option Addr) (pn : List (Addr × Obj)), Zc cls d oe → (∃ vs, oe.data = .fields vs) → PSs (X.suite a ((a, oe) :: pn)) (b₀ :: suite) (ts a cls d)) (hK : X.K = K := by rfl) :
    PS X (.Try body [.ExceptHandler (some (.Name x np)) none (b₀ :: suite) pos'] [] [] pos) (tTry K c ts Wout tb) := by subst hK; exact ps_try_only hs hf hc tk hb hsu
theorem sd_tryOnly {tb : WX → TS} {ts : Addr → Value → Option Addr → TS} {c : Value} {Wout : WX} (hb : ∀ W, SdX K W (tb W) PE XP δ O)
    (hx : ∀ δ' x O', XP δ' x O' → PySem.W.exmOne K (.ref x.cls) c = some true ∧ ∀ a d, Sd K (ts a (.ref x.cls) d) PE δ' O') : Sd K (tTry K c ts Wout tb) PE δ O := fun G H σ D w s r =>
  hb _ G H σ D w s r fun δ' σ' x O' cls d G' H' hp st sl ix => by
    obtain ⟨rfl, _⟩ := ix
    obtain ⟨e, hS⟩ := hx δ' x O' hp
    exact ⟨true, e, fun _ a _ => hS a d G' H' σ' D st.wd sl (r.step st), fun z => nomatch z⟩
end
end DL

set_option Elab.async false
set_option linter.all false
set_option maxRecDepth 100000
/-! classes of exceptions; lists copied -/
namespace DL
open PySem PySem.Spec L2
/-- what a class of exceptions brings -/
structure XC (K : PySem.W.Frag) (C : Addr) : Prop where
  made : PySem.W.excIn K C [.type "ValueError", .type "Exception", .type "BaseException", .type "object"] "ValueError.__new__" = true
  kp : PySem.W.keepIn K (.ref C) = true
  sub : PySem.W.subIn K (.ref C) (.type "BaseException") = some true
  ty : PySem.W.typeIn K (.ref C) = some (.type "type")
/-- an exception of the class S meets «except C» -/
theorem exm_sub {K : PySem.W.Frag} {S C : Addr} {b : Bool} (h1 : PySem.W.subIn K (.ref C) (.type "BaseException") = some true) (h2 : PySem.W.isClsIn K C = true) (h3 : PySem.W.typeIn K (.ref C) = some (.type "type")) (h4 : PySem.W.subIn K (.ref S) (.ref C) = some b) : PySem.W.exmOne K (.ref S) (.ref C) = some b := by
  have c1 : (PySem.W.subIn K (.ref C) (.type "BaseException") == some true) = true := by rw [h1]; rfl
  have c2 : ((PySem.W.clsIn K C).isSome && PySem.W.typeIn K (.ref C) == some (.type "type")) = true := by
    rw [show (PySem.W.clsIn K C).isSome = true from h2, h3]; rfl
  unfold PySem.W.exmOne
  rw [if_pos c1]
  show (if ((PySem.W.clsIn K C).isSome && PySem.W.typeIn K (.ref C) == some (.type "type")) = true then PySem.W.subIn K (.ref S) (.ref C) else none) = some b
  rw [if_pos c2]
  exact h4
section
variable {K : PySem.W.Frag} {δ : Sl} {O O1 O2 O3 : Ow} {d x y z : D} {ta tb tc te tv : TE} {t : TA} {tt tt2 : TT} {i j M : Int} {p q l C : Addr} {ds es : List D} {b : Bool} {R : DR} {E : XK} {P : D → Ow → Prop} {B : Bool → Ow → Prop} {g : TG}
theorem c_listLs (hx : LstOf O x ds) : RCD K (fun xs H Q => ∃ p ys, xs = [.ref p] ∧ (SqL K H p ys ∨ SqT K H p ys) ∧ ∀ l, H l = none → Q (.ref l) (upd H l (.lst ys))) [x] O (.lst ds) := by
  rcases hx with rfl | ⟨p, rfl, ho⟩
  · exact c_listL
  · intro G H vs w a Q k
    obtain ⟨v, rfl, iv⟩ := isL1 a
    have iv : v = .ref p := iv
    subst iv
    obtain ⟨_, xs, e, tl⟩ := w.own p _ ho
    exact ⟨p, xs, rfl, .inl (.inl (.inl e)), fun l hl => k _ _ _ (Stp.new w hl) ⟨l, _, rfl, upd_same, tl.mono (Stp.new (o := .lst xs) w hl).ex⟩⟩
/-- o.f = e, e by what it may give, the field new -/
theorem sd_fldNP {PE : DE} {f : Str} (c : Cls K C) (n : NoAttr K C f) (h : EvP K tv δ O fun d O1 => ∃ O2 nm ds, Ev K ta δ O1 (.ref p) O2 ∧ O2 p = some (.ins C nm ds) ∧ f ∉ nm ∧ nm.length < 1000 ∧ PE.nx δ (setO O2 p (.ins C (nm ++ [f]) (ds ++ [d])))) :
    Sd K (sFld K ta tv f) PE δ O := fun G H σ D w s r =>
  h G H σ w s _ fun d O1 v G1 H1 hh s1 i1 => by
    obtain ⟨O2, nm, ds, h1, ho, hf, hz, k⟩ := hh
    refine h1 G1 H1 σ s1.wd (s.mono s1.ex) _ fun u G2 H2 s2 i2 => ?_
    have i2 : u = .ref p := i2
    subst i2
    obtain ⟨_, dx, xs, e, hl, t⟩ := s2.wd.own p _ ho
    refine ⟨p, C, dx, _, rfl, e, c, n, by rw [List.length_zip, hl, Nat.min_self]; exact hz, ?_⟩
    rw [putF_new hf hl]
    have st := Stp.write (o := .ins C dx ((nm ++ [f]).zip (xs ++ [v]))) (m' := .ins C (nm ++ [f]) (ds ++ [d])) s2.wd ho ⟨dx, _, upd_same, by simp [hl], t.append ⟨v, [], rfl, i1.mono s2.ex, rfl⟩⟩
    exact r.nx _ _ _ _ _ k ((s1.trans s2).trans st) (s.mono ((s1.ex.trans s2.ex).trans st.ex))
end
end DL

set_option Elab.async false
set_option linter.all false
set_option maxRecDepth 100000
set_option maxHeartbeats 2000000
/-! lambdas over data: made, kept in lists, handed to a def that calls them -/
namespace DL
open PySem PySem.Spec PyProof.Rows L2
/-! ### a base that knows all that lies untouched -/
def BUp (b b' : Heap) : Prop := ∀ a o, b.get? a = some o → b'.get? a = some o
theorem env0_up {P : Program} {w : World} {K : PySem.W.Frag} {mg : Str → Option Value} {base : Heap} {A : Around} {outer : List Env} {s : Shared} {H : Hp} (e : Env0 P w K mg base A outer s H) :
    ∃ base', Env0 P w K mg base' A outer s H ∧ BUp base base' ∧ ∀ b o, s.heap.get? b = some o → H b = none → b ∉ frs outer → base'.get? b = some o := by
  have get : ∀ b o, s.heap.get? b = some o → H b = none → b ∉ frs outer → (PySem.W.hideAll s.heap (trk s.heap H ++ frs outer)).get? b = some o := fun b o h1 h2 h3 =>
    PySem.W.hideAll_get _ h1 fun hm => by
      rcases List.mem_append.mp hm with z | z
      · have q : (H b).isSome = true := (List.mem_filter.mp z).2
        rw [h2] at q; cases q
      · exact h3 z
  have up : BUp base (PySem.W.hideAll s.heap (trk s.heap H ++ frs outer)) := fun b o h => get b o (e.bs b o h).1 (e.bs b o h).2 fun z => by
    have q := (e.funs.mem z).1
    rw [h] at q; cases q
  refine ⟨_, ⟨e.frames, ⟨e.mod.kin.keeps up, e.mod.glob.keeps up, ?_, e.mod.nolimit.keeps up⟩, fun b o h => ?_, Nat.le_of_eq (PySem.W.hideAll_size _ _), ?_, e.frf, e.hok, e.bare⟩, up, get⟩
  · obtain ⟨mb, h1, h2⟩ := e.mod.blt
    exact ⟨mb, h1.keeps up, h2⟩
  · have h0 := PySem.W.of_hideAll _ h
    refine ⟨h0, ?_⟩
    cases q : H b with
    | none => rfl
    | some u =>
      have hm : b ∈ trk s.heap H ++ frs outer := List.mem_append_left _ (List.mem_filter.mpr ⟨List.mem_range.mpr (Heap.lt_size h0), by simp [q]⟩)
      rw [PySem.W.hideAll_none _ hm] at h
      cases h
  · exact PySem.W.funFrames_hide e.funs fun env he a ha => List.mem_append_right _ (List.mem_filterMap.mpr ⟨env, he, ha⟩)
/-! ### what the cells of a def hold, told of a heap -/
structure Cap (X : Cx) (σ : L2.St) (h : Heap) : Prop where
  inj : ∀ x y c, X.env.cells.lookup x = some c → X.env.cells.lookup y = some c → x = y
  has : ∀ x, (X.env.scope.names.lookup x = some .cell ∨ X.env.scope.names.lookup x = some .free) → ∃ c, X.env.cells.lookup x = some c
  cell : ∀ x c, X.env.cells.lookup x = some c → ∃ v, h.IsCell c v
  val : ∀ (i : Nat) (x : Str) (v : V) (c : Addr), X.N[i]? = some x → σ[i]? = some (some v) → (X.env.scope.names.lookup x = some .cell ∨ X.env.scope.names.lookup x = some .free) → X.env.cells.lookup x = some c → ∃ u, RelV v u ∧ h.IsCell c (some u)
  len : σ.length = X.N.length
/-- at a later heap, where the cells still lie as they lay -/
theorem Cap.of {X : Cx} {pins : List (Addr × Obj)} {σ : L2.St} {H : Hp} {s : Shared} {h : Heap} (I : Inv X pins σ H s) (k : ∀ x c v, X.env.cells.lookup x = some c → s.heap.IsCell c v → h.IsCell c v) : Cap X σ h where
  inj := I.ok.inj
  has := I.ok.has
  cell := fun x c e => let ⟨v, z⟩ := I.cell x c e; ⟨v, k x c v e z⟩
  val := fun i x v c e1 e2 e3 e4 => by
    obtain ⟨m, _, hl⟩ := I.loc
    obtain ⟨u, r, q⟩ := hl i x v e1 e2 (.inr e3)
    refine ⟨u, r, k x c _ e4 ?_⟩
    rcases q with ⟨k', _⟩ | ⟨_, c3, e', z⟩
    · have k' : X.env.scope.names.lookup x = some .local := k'
      rcases e3 with q | q <;> rw [q] at k' <;> cases k'
    · rw [e4] at e'
      cases e'
      exact z
  len := I.len
theorem cells_apart {X : Cx} {pins : List (Addr × Obj)} {σ : L2.St} {H : Hp} {s : Shared} (I : Inv X pins σ H s) (hfn : ∀ x, X.fn x = true) {x : Str} {c : Addr} (e : X.env.cells.lookup x = some c) : c ∉ frs X.stack := fun z => by
  rcases List.mem_cons.mp (I.stkSub c z) with q | q
  · exact I.cne x c e q
  · obtain ⟨_, o, ho, _⟩ := I.ok.funs.mem q
    exact absurd (Nat.lt_of_lt_of_le (Heap.lt_size ho) (I.ok.cab x c (hfn x) e)) (Nat.lt_irrefl _)
/-! ### the record of a lambda -/
structure LamR where
  params : Arguments
  body : Expr
  scope : Scope
  qual : Str
  cells : List (Str × Addr)
def LamO (f : Addr) (L : LamR) (dV : Value) (c : Addr) : HO := .ext fun h => ∃ doc pm ctv, h.get? f = some (PySem.W.kdv_obj "<lambda>" L.qual L.params (.expr L.body) L.scope L.cells dV doc pm c ctv)
def TupO (a : Addr) (x : Value) : HO := .ext fun h => h.get? a = some { cls := .type "tuple", data := .seq #[x] }
def DvOk (G : Hp) (dV : Value) : Option Str → Prop
  | none => dV = .none
  | some _ => ∃ T x, dV = .ref T ∧ G T = some (TupO T x)
/-- how its parameter is bound when nothing is handed over -/
def LmB (params : Arguments) (body : Expr) (scope : Scope) : Option Str → Prop
  | none => ∀ (q : Str) (cl : List (Str × Addr)) (doc pm cv ct : Value), bindArgs (PySem.W.kdv_fn "<lambda>" q params (.expr body) scope cl .none doc pm cv ct) ⟨[], []⟩ = pure []
  | some y => ∀ (q : Str) (cl : List (Str × Addr)) (doc pm cv ct : Value) (T : Addr), ∃ k, bindArgs (PySem.W.kdv_fn "<lambda>" q params (.expr body) scope cl (.ref T) doc pm cv ct) ⟨[], []⟩ = (seqItems? (.ref T) >>= k) ∧ ∀ x : Value, k (some #[x]) = pure [(y, x)]
/-- its names: captured ones, globals, its own parameter (which the maker does not know) -/
structure LmS (N : List Str) (sc scope : Scope) (y : Option Str) : Prop where
  kind : scope.kind = .function
  co : scope.isCoroutine = false
  gen : scope.isGenerator = false
  own : ∀ z ∈ scope.names, z.2 ≠ .cell ∧ (z.2 = .local → z.1 ∉ N)
  free : ∀ z ∈ scope.names, z.2 = .free → sc.names.lookup z.1 = some .cell ∨ sc.names.lookup z.1 = some .free
  par : ∀ z, y = some z → scope.names.lookup z = some .local
def lmSB (N : List Str) (sc scope : Scope) (y : Option Str) : Bool :=
  decide (scope.kind = .function) && !scope.isCoroutine && !scope.isGenerator && (scope.names.all fun z => !decide (z.2 = .cell) && (!decide (z.2 = .local) || !decide (z.1 ∈ N)) && (!decide (z.2 = .free) || decide (sc.names.lookup z.1 = some .cell) || decide (sc.names.lookup z.1 = some .free)))
    && (match y with | none => true | some z => decide (scope.names.lookup z = some .local))
theorem lmS_by {N : List Str} {sc scope : Scope} {y : Option Str} (h : lmSB N sc scope y = true) : LmS N sc scope y := by
  unfold lmSB at h
  simp only [Bool.and_eq_true, Bool.or_eq_true, Bool.not_eq_true', decide_eq_true_eq, decide_eq_false_iff_not, List.all_eq_true] at h
  obtain ⟨⟨⟨⟨h1, h2⟩, h3⟩, h4⟩, h5⟩ := h
  refine ⟨h1, h2, h3, fun z hz => ⟨(h4 z hz).1.1, fun e => ((h4 z hz).1.2).resolve_left fun q => q e⟩, fun z hz e => ?_, fun z e => ?_⟩
  · rcases (h4 z hz).2 with (q | q) | q
    · exact absurd e q
    · exact .inl q
    · exact .inr q
  · subst e
    simpa using h5
/-- the context of its body, over another base -/
abbrev lamX (X : Cx) (base' : Heap) (A : Around) (outer : List Env) (s : Shared) (H : Hp) (E : XK) (scope : Scope) (f c : Addr) : Cx := LamX.lamCx { X with base := base' } A outer s H E scope f c
theorem lam_begin {X : Cx} {base' : Heap} {σ : L2.St} {A : Around} {outer : List Env} {E : XK} {scope : Scope} {f c' : Addr} {h₁ : Heap} {tk : Nat} {s1 : Shared} {HZ : Hp} {y : Option Str} {binds : List (Str × Value)} (C : Cap X σ base') (L : LmS X.N X.env.scope scope y)
    (e0 : Env0 X.prog X.w X.K X.mg base' A outer s1 HZ) (hd : A.handled = none) (hns : h₁.Ns s1.heap.objs.size fun y => binds.reverse.lookup y) (kp : ∀ b o, s1.heap.get? b = some o → h₁.get? b = some o) :
    Inv (lamX X base' A outer s1 HZ E scope f c') [] σ HZ { s1 with heap := h₁, toks := tk } := by
  have hfree : ∀ z ∈ scope.names, z.2 = .free → ∃ c, X.env.cells.lookup z.1 = some c := fun z hz e => C.has _ (L.free z hz e)
  have back : ∀ {z c}, (cloFrom X.env.cells scope.names []).lookup z = some c → X.env.cells.lookup z = some c := fun {z c} e => by
    rcases cloFrom_mem (PySem.mem_of_lookup e) with hm | ⟨h1, h2⟩
    · cases hm
    · obtain ⟨c1, hc⟩ := hfree _ h1 rfl
      have hc : X.env.cells.lookup z = some c1 := hc
      rw [hc] at h2
      have h2 : c = c1 := h2
      rw [h2]; exact hc
  have fwd : ∀ {z}, scope.names.lookup z = some .free → ∃ c, (cloFrom X.env.cells scope.names []).lookup z = some c := fun {z} hl => mem_lookup (cloFrom_has (cells := X.env.cells) (acc := []) (PySem.mem_of_lookup hl))
  have cellK : ∀ {c : Addr} {v : Option Value}, base'.IsCell c v → h₁.IsCell c v ∧ HZ c = none := fun {c v} ⟨o, ho, hd⟩ => ⟨⟨o, kp _ _ (e0.bs _ _ ho).1, hd⟩, (e0.bs _ _ ho).2⟩
  have noA : ∀ b : Addr, b ∉ (lamX X base' A outer s1 HZ E scope f c').ex := fun b z => absurd (show b ∈ ([] : List Addr) from z) (by simp)
  have ok : (lamX X base' A outer s1 HZ E scope f c').Ok := {
    mod := e0.mod, kind := L.kind, glob := rfl, blt := rfl, above := Nat.le_refl _
    inj := fun y z c e1 e2 => C.inj y z c (back e1) (back e2)
    has := fun z hz => by
      have hz : scope.names.lookup z = some .cell ∨ scope.names.lookup z = some .free := hz
      rcases hz with q | q
      · exact absurd rfl (L.own _ (PySem.mem_of_lookup q)).1
      · exact fwd q
    cab := fun z c q _ => by have q : false = true := q; cases q
    hd := fun _ => hd
    frames := Around.frames_deeper e0.frames
    stk := .inr ⟨rfl, rfl⟩
    exf := fun b z => absurd z (noA b)
    bs := e0.bs, bsz := e0.bsz
    noex := fun b _ _ => noA b
    exfs := fun b z => absurd z (noA b)
    funs := e0.funs, frf := e0.frf }
  refine ⟨ok, rfl, e0.bare, Un.kept kp, ⟨_, hns, fun i z v e1 e2 e3 => ?_⟩, fun z c e => ?_, e0.hok.fresh (Nat.le_refl _), fun z c e => ?_, fun q hq => absurd (show q ∈ ([] : List (Addr × Obj)) ++ [] from hq) (by simp), e0.hok.kept kp, C.len⟩
  · have e3 : Vis scope z := e3
    have e1 : X.N[i]? = some z := e1
    rcases e3 with q | q | q
    · exact absurd (List.mem_of_getElem? e1) ((L.own _ (PySem.mem_of_lookup q)).2 rfl)
    · exact absurd rfl (L.own _ (PySem.mem_of_lookup q)).1
    · obtain ⟨c2, h2⟩ := fwd q
      obtain ⟨u, r, hc⟩ := C.val i z v c2 e1 e2 (L.free _ (PySem.mem_of_lookup q) rfl) (back h2)
      exact ⟨u, r, .inr ⟨.inr q, c2, h2, (cellK hc).1⟩⟩
  · obtain ⟨v, z⟩ := C.cell z c (back e)
    exact ⟨v, (cellK z).1⟩
  · obtain ⟨v, z⟩ := C.cell z c (back e)
    exact (cellK z).2
/-! ### a value that may be called without arguments -/
/-- the promise of such a call, where the heap tells at least G -/
def SpAct (K : PySem.W.Frag) (G : Hp) (R : Ow → (D → Ow → Prop) → (XD → Ow → Prop) → Prop) : Sp := fun vs H Q E => vs = [] ∧ ∃ G' O Post XP, Sub G G' ∧ Wd K G' O H ∧ R O Post XP ∧ (∀ d O' v G2 H', Post d O' → Stp K G' O H G2 O' H' → Is K G2 d v → Q v H') ∧ ∀ x O' cls d G2 H', XP x O' → Stp K G' O H G2 O' H' → IsX K G2 x cls d → E cls d H'
/-- a function that promises R -/
def actD (P : Program) (w : World) (K : PySem.W.Frag) (mg : Str → Option Value) (base : Heap) (k : Nat) (R : Ow → (D → Ow → Prop) → (XD → Ow → Prop) → Prop) : D :=
  .sem fun G v => ∃ f L dV c, v = .ref f ∧ G f = some (LamO f L dV c) ∧ FnR P w K mg base (L2.CX P w) k f (SpAct K G R)
/-- what is known of a lambda when it was made by the def in X: te tells its body -/
def LamA (X : Cx) (k : Nat) (L : LamR) (y : Option Str) (te : XK → TE) : Prop :=
  LmS X.N X.env.scope L.scope y ∧ LmB L.params L.body L.scope y ∧ L.qual = X.env.qual ++ "<lambda>" ∧ L.cells = cloFrom X.env.cells L.scope.names [] ∧
  ∀ (base' : Heap) (A : Around) (outer : List Env) (s : Shared) (H : Hp) (E : XK) (f c : Addr), BUp X.base base' → Room k (A.deeper (LamX.lamEnv X L.scope s.heap.objs.size f c)) → L2.PE (lamX X base' A outer s H E L.scope f c) L.body (te E)
/-- the lambda as a datum -/
def lamD (X : Cx) (k : Nat) (te : XK → TE) : D := .sem fun G v => ∃ f L dV c y, v = .ref f ∧ G f = some (LamO f L dV c) ∧ G c = some (LamX.CodeO c L.qual) ∧ DvOk G dV y ∧ LamA X k L y te
/-- and with the slots of its maker -/
def bndD (X : Cx) (σ : L2.St) (δ : Sl) (k : Nat) (te : XK → TE) : D := .sem fun G v => (∃ f L dV c y, v = .ref f ∧ G f = some (LamO f L dV c) ∧ G c = some (LamX.CodeO c L.qual) ∧ DvOk G dV y ∧ LamA X k L y te) ∧ SlIs X.K G δ σ
theorem bnd_of {X : Cx} {σ : L2.St} {δ : Sl} {k : Nat} {te : XK → TE} {G : Hp} {v : V} (s : SlIs X.K G δ σ) (h : Is X.K G (lamD X k te) v) : Is X.K G (bndD X σ δ k te) v := by
  obtain ⟨G1, sb, f, L, dV, c, y, e, h1, h2, h3, h4⟩ := h
  refine ⟨G, Sub.refl _, ⟨f, L, dV, c, y, e, sb _ _ h1, sb _ _ h2, ?_, h4⟩, s⟩
  cases y with
  | none => exact h3
  | some y => obtain ⟨T, x, a, b⟩ := h3; exact ⟨T, x, a, sb _ _ b⟩
/-- what its body promises at the maker's slots -/
def RAct (K : PySem.W.Frag) (te : XK → TE) (δ : Sl) : Ow → (D → Ow → Prop) → (XD → Ow → Prop) → Prop := fun O Post XP => ∀ E : XK, EvX K (fun cls d _ H => E cls d H) (te E) (fun _ => XP) δ O Post
theorem act_of {X : Cx} {σ : L2.St} {δ : Sl} {k : Nat} {te : XK → TE} {base' : Heap} {G : Hp} {v : V} (hu : BUp X.base base') (C : Cap X σ base') (h : Is X.K G (bndD X σ δ k te) v) : Is X.K G (actD X.prog X.w X.K X.mg base' (k + 1) (RAct X.K te δ)) v := by
  obtain ⟨G1, sb, ⟨f, L, dV, c, y, e, h1, h2, h3, S, B, hq, hcl, hbody⟩, sl⟩ := h
  refine ⟨G1, sb, f, L, dV, c, e, h1, fun A outer s H us vs Q E hr e0 r hs => ?_⟩
  obtain ⟨rfl, G2, O, Post, XP, s2, w, hR, kP, kX⟩ := hs
  cases r
  obtain ⟨⟨doc, pm, ctv, of1⟩, _, _⟩ := e0.hok f _ (w.sub _ _ (s2 _ _ h1))
  obtain ⟨⟨oc, vs, t, hoc, hdc, hvc⟩, _, _⟩ := e0.hok c _ (w.sub _ _ (s2 _ _ h2))
  have go : ∀ binds : List (Str × Value), (∀ z ∈ binds, L.scope.names.lookup z.1 = some .local) → BindsTo s (PySem.W.kdv_fn "<lambda>" L.qual L.params (.expr L.body) L.scope L.cells dV doc pm (.ref c) ctv) ⟨[], []⟩ binds →
      codeAny (model X.prog X.w) A (.call (.ref f) ⟨[], []⟩) (CR (L2.CX X.prog X.w) outer X.prog X.w H s Q E) s := fun binds hl hb => by
    refine PySem.W.kla_callFunE hr.depth of1 rfl S.co S.gen rfl ⟨c, oc, vs, t, rfl, hoc, hdc, hvc⟩ (hb _ _ _ _ ?_)
    refine wpAny_newFunctionEnv (fun z hz => (S.own z hz).1) hl (fun h₁ hns hsb => ⟨(e0.mod.nolimit.keeps fun b o e => (e0.bs b o e).1).fresh _ hsb, ?_⟩) S.kind
    have kp : ∀ b o, s.heap.get? b = some o → h₁.get? b = some o := fun b o e => hsb.extBut b o (Nat.ne_of_lt (Heap.lt_size e)) (Heap.get?_push_of_some _ e)
    have J : Inv (lamX X base' A outer s H E L.scope f c) [] σ H { s with heap := h₁, toks := s.toks + binds.length } := lam_begin C S e0 hr.hd hns kp
    rw [hq, hcl]
    show codeAny _ _ (.expr L.body (LamX.lamEnv X L.scope s.heap.objs.size f c)) _ _
    have ht : te E σ H Q := hR E G2 H σ w (sl.mono s2) (fun _ _ x O' cls d G' H' hp st _ ix => kX x O' cls d G' H' hp st ix) Q kP
    refine PySem.W.kla_codeExpr (wpAny_mono ((hbody base' A outer s H E f c hu (hr.deeper _)).run [] _ _ H Q J ht) (fun v s' hq' => ?_) fun e s' hq' => hq')
    obtain ⟨w', H', J', rv, q⟩ := hq'
    exact ⟨w', H', J'.os, J'.bare, J'.base, J'.hok, rv, q⟩
  cases y with
  | none =>
    have h3 : dV = .none := h3
    subst h3
    exact go [] (fun z hz => absurd hz (by simp)) (.of_eq (B _ _ _ _ _ _))
  | some y =>
    obtain ⟨T, x, rfl, hT⟩ := h3
    obtain ⟨eT, _, _⟩ := e0.hok T _ (w.sub _ _ (s2 _ _ hT))
    obtain ⟨kk, b1, b2⟩ := B L.qual L.cells doc pm (.ref c) ctv T
    exact go [(y, x)] (fun z hz => by rw [List.mem_singleton] at hz; rw [hz]; exact S.par y rfl) (BindsTo.of_defaults rfl eT rfl b1 (b2 x))
end DL

set_option Elab.async false
set_option linter.all false
set_option maxRecDepth 100000
set_option maxHeartbeats 2000000
/-! lambdas: the rules -/
namespace DL
open PySem PySem.Spec PyProof.Rows L2
/-- a table of code objects, owned: those it tells bear the name q -/
def tabM (q : Str) : MO := .sem fun G o => ∃ ps : Array Value, o = .tbl ps ∧ TriplesOk ps.toList ∧ ∀ (pos : Pos) (cv : Value), codeAmong pos ps.toList = some cv → ∃ c, cv = .ref c ∧ G c = some (LamX.CodeO c q)
/-- what the heap is when the lambda at f was made -/
structure Mk (H H1 : Hp) (P : Addr) (q : Str) (ps ps' : Array Value) (f c : Addr) (L : LamR) (dV : Value) (y : Option Str) : Prop where
  tab : H1 P = some (.tbl ps')
  tri : TriplesOk ps'.toList
  cod : ∀ (pos : Pos) (cv : Value), codeAmong pos ps'.toList = some cv → codeAmong pos ps.toList = some cv ∨ (cv = .ref c ∧ H c = none)
  keep : ∀ b o, b ≠ P → H b = some o → H1 b = some o
  newF : H f = none
  lam : H1 f = some (LamO f L dV c)
  code : H1 c = some (LamX.CodeO c q)
  old : H c = none ∨ ∃ pos, codeAmong pos ps.toList = some (.ref c)
  dv : match y with | none => dV = .none | some _ => ∃ T x, dV = .ref T ∧ H T = none ∧ H1 T = some (TupO T x)
def tLam (X : Cx) (P : Addr) (k : Nat) (te : XK → TE) : TE := fun _ H Q => ∃ ps : Array Value, H P = some (.tbl ps) ∧ TriplesOk ps.toList ∧ (∀ (pos : Pos) (cv : Value), codeAmong pos ps.toList = some cv → ∃ c, cv = .ref c ∧ H c = some (LamX.CodeO c (X.env.qual ++ "<lambda>"))) ∧
  ∀ f c L dV y ps' H1, Mk H H1 P (X.env.qual ++ "<lambda>") ps ps' f c L dV y → L.qual = X.env.qual ++ "<lambda>" → LamA X k L y te → Q (.ref f) H1
theorem ev_lam {X : Cx} {P : Addr} {k : Nat} {te : XK → TE} {δ : Sl} {O : Ow} (hO : O P = some (tabM (X.env.qual ++ "<lambda>"))) : Ev X.K (tLam X P k te) δ O (lamD X k te) O := fun G H σ w s Q kk => by
  obtain ⟨gP, o, G1, hP, sb, ps, rfl, ht, hc⟩ := w.own P _ hO
  refine ⟨ps, hP, ht, fun pos cv h => ?_, fun f c L dV y ps' H1 m hq hA => ?_⟩
  · obtain ⟨c, e, g⟩ := hc pos cv h
    exact ⟨c, e, w.sub _ _ (sb _ _ g)⟩
  classical
  let G' : Hp := fun a => if H a = none then H1 a else G a
  have gN : ∀ {a}, H a = none → G' a = H1 a := fun {a} h => if_pos h
  have gO : ∀ {a o}, H a = some o → G' a = G a := fun {a o} h => if_neg (by rw [h]; simp)
  have up : Sub G G' := fun a o h => by rw [gO (w.sub _ _ h)]; exact h
  have nP : ∀ a o, G a = some o → a ≠ P := fun a o h z => by rw [z, gP] at h; cases h
  have cG : G' c = some (LamX.CodeO c (X.env.qual ++ "<lambda>")) := by
    rcases m.old with h | ⟨pos, h⟩
    · rw [gN h]; exact m.code
    · obtain ⟨c', e, g⟩ := hc pos _ h
      cases e
      exact up _ _ (sb _ _ g)
  have st : Stp X.K G O H G' O H1 := {
    wd := ⟨fun a o h => by
      cases q : H a with
      | none => rw [gN q] at h; exact h
      | some u =>
        rw [gO q] at h
        exact m.keep a o (nP a o h) (w.sub _ _ h), fun p mo e => by
      obtain ⟨g1, i1⟩ := w.own p mo e
      obtain ⟨u, hu⟩ := i1.there
      refine ⟨by rw [gO hu]; exact g1, ?_⟩
      by_cases z : p = P
      · subst z
        rw [hO] at e
        cases e
        refine ⟨_, G', m.tab, Sub.refl _, ps', rfl, m.tri, fun pos cv h => ?_⟩
        rcases m.cod pos cv h with h | ⟨rfl, h⟩
        · obtain ⟨c', e', g⟩ := hc pos cv h
          exact ⟨c', e', up _ _ (sb _ _ g)⟩
        · exact ⟨c, rfl, cG⟩
      · exact i1.mono up fun o h => m.keep p o z h⟩
    ex := up
    keep := fun a o h n => m.keep a o (fun z => by rw [z, hO] at n; cases n) h
    fresh := fun a o h n g => ⟨by rw [gO h]; exact g, n⟩ }
  refine kk _ G' H1 st ⟨G', Sub.refl _, f, L, dV, c, y, rfl, by rw [gN m.newF]; exact m.lam, by rw [hq]; exact cG, ?_, hA⟩
  have hd := m.dv
  cases y with
  | none => exact hd
  | some y =>
    obtain ⟨T, x, e, h1, h2⟩ := hd
    exact ⟨T, x, e, by rw [gN h1]; exact h2⟩
section
variable {X : Cx} {pins : List (Addr × Obj)} {σ : L2.St} {H : Hp} {s : Shared}
theorem lamO_ok {P : Program} {w : World} {H : Hp} {h : Heap} {f c : Addr} {L : LamR} {dV doc pm ctv : Value} (e : h.get? f = some (PySem.W.kdv_obj "<lambda>" L.qual L.params (.expr L.body) L.scope L.cells dV doc pm c ctv)) : ObjOk P w H h f (LamO f L dV c) :=
  ⟨⟨doc, pm, ctv, e⟩, ⟨_, e⟩, fun h1 h2 ⟨doc, pm, ctv, z⟩ st => ⟨doc, pm, ctv, st _ z⟩⟩
/-- the tail of the making -/
theorem lam_tail {c P : Addr} {params : Arguments} {body : Expr} {scope : Scope} {pos : Pos} {line : Nat} {dV : Value} {E : Value → Shared → Prop} {Q : Value → Shared → Prop} {ps : Array Value} (I : Inv X pins σ H s) (TB : LamX.TabB X.base X.mg c P) (hcode : X.env.code = .ref c)
    (hP : H P = some (.tbl ps)) (ht : TriplesOk ps.toList) (ha : ∀ (pos : Pos) (cv : Value), codeAmong pos ps.toList = some cv → ∃ c, cv = .ref c ∧ H c = some (LamX.CodeO c (X.env.qual ++ "<lambda>")))
    (hfree : ∀ y ∈ scope.names, y.2 = .free → ∃ c, X.env.cells.lookup y.1 = some c)
    (h : ∀ f c' ps' H1 s', Inv X pins σ H1 s' → H1 P = some (.tbl ps') → TriplesOk ps'.toList → (∀ (pos : Pos) (cv : Value), codeAmong pos ps'.toList = some cv → codeAmong pos ps.toList = some cv ∨ (cv = .ref c' ∧ H c' = none)) → (∀ b o, b ≠ P → H b = some o → H1 b = some o) → H f = none →
      H1 f = some (LamO f ⟨params, body, scope, X.env.qual ++ "<lambda>", cloFrom X.env.cells scope.names []⟩ dV c') → H1 c' = some (LamX.CodeO c' (X.env.qual ++ "<lambda>")) → (H c' = none ∨ ∃ pos, codeAmong pos ps.toList = some (.ref c')) → Q (.ref f) s') :
    wpAny (model X.prog X.w) X.A (makeTail "<lambda>" (X.env.qual ++ "<lambda>") params (.expr body) scope X.env dV .none none pos line) Q E s := by
  have bP : s.heap.BuiltinsAt X.mg P := TB.bm.keeps I.bk
  have hP' : s.heap.get? P = some { cls := .none, data := .fields ps } := I.hok P _ hP
  cases hc : codeAmong pos ps.toList with
  | none =>
    refine PySem.W.kdv_makeTail (mg := X.mg) (c := c) (P := P) (ps := ps) (closure_ok hfree) I.ok.glob (I.mod.glob.keeps I.bk) hcode (TB.code.keeps I.bk) hP' ht hc TB.gP bP fun c' ctv doc h' tk hx hge hlt hrec htb => ?_
    obtain ⟨c2, oc, vs, t, e2, hoc, hd, hv⟩ := hrec
    cases e2
    have nC : H c' = none := I.hok.fresh hge
    have nPc : P ≠ c' := ne_of_none hP nC
    have I1 := LamX.inv_table (t' := tk) (more := #[rawInt pos.line, rawInt pos.col, .ref c']) (h' := h') (q := X.env.qual ++ "<lambda>") I hP (fun b o hb e => hx b o hb e) htb hge ⟨oc, vs, t, hoc, hd, hv⟩
    have nF : H h'.objs.size = none := I.hok.fresh (Nat.le_trans hge (Nat.le_of_lt hlt))
    have nFP : h'.objs.size ≠ P := fun z => by rw [z, hP] at nF; cases nF
    have nFc : h'.objs.size ≠ c' := Nat.ne_of_gt hlt
    have I2 := I1.laid (t' := tk) (a := h'.objs.size) (o := LamO h'.objs.size ⟨params, body, scope, X.env.qual ++ "<lambda>", cloFrom X.env.cells scope.names []⟩ dV c') (h' := h'.push (PySem.W.kdv_obj "<lambda>" (X.env.qual ++ "<lambda>") params (.expr body) scope (cloFrom X.env.cells scope.names []) dV doc ((X.mg "__name__").getD .none) c' ctv))
      (fun b u e => Heap.get?_push_of_some _ e) (Nat.le_refl _) (lamO_ok (Heap.get?_push_size _ rfl))
    have eL : (ps ++ #[rawInt pos.line, rawInt pos.col, .ref c']).toList = ps.toList ++ [rawInt pos.line, rawInt pos.col, .ref c'] := by simp
    refine h h'.objs.size c' (ps ++ #[rawInt pos.line, rawInt pos.col, .ref c']) _ _ I2 ?_ (by rw [eL]; exact PySem.TriplesOk_snoc _ _ _ _ ht) (fun p' cv hcv => ?_) (fun b o hb e => ?_) nF upd_same ?_ (.inl nC)
    · rw [upd_ne (Ne.symm nFP), upd_ne nPc, upd_same]
    · rw [eL] at hcv
      rcases LamX.among_app _ ht hcv with z | z
      · exact .inl z
      · exact .inr ⟨z, nC⟩
    · rw [upd_ne (ne_of_none e nF), upd_ne (ne_of_none e nC), upd_ne hb]; exact e
    · rw [upd_ne (Ne.symm nFc), upd_same]
  | some cv =>
    obtain ⟨c', e, hco⟩ := ha pos cv hc
    subst e
    refine PySem.W.kdv_makeTailHit (mg := X.mg) (c := c) (P := P) (ps := ps) (closure_ok hfree) I.ok.glob (I.mod.glob.keeps I.bk) hcode (TB.code.keeps I.bk) hP' ht hc bP fun ctv doc h' tk hx hsz => ?_
    have nF : H h'.objs.size = none := I.hok.fresh hsz
    have I2 := I.laid (t' := tk) (a := h'.objs.size) (o := LamO h'.objs.size ⟨params, body, scope, X.env.qual ++ "<lambda>", cloFrom X.env.cells scope.names []⟩ dV c') (h' := h'.push (PySem.W.kdv_obj "<lambda>" (X.env.qual ++ "<lambda>") params (.expr body) scope (cloFrom X.env.cells scope.names []) dV doc ((X.mg "__name__").getD .none) c' ctv))
      (fun b u e => Heap.get?_push_of_some _ (hx b u e)) hsz (lamO_ok (Heap.get?_push_size _ rfl))
    refine h h'.objs.size c' ps _ _ I2 ?_ ht (fun p' cv hcv => .inl hcv) (fun b o hb e => ?_) nF upd_same ?_ (.inr ⟨pos, hc⟩)
    · rw [upd_ne (ne_of_none hP nF)]; exact hP
    · rw [upd_ne (ne_of_none e nF)]; exact e
    · rw [upd_ne (ne_of_none hco nF)]; exact hco
end
section
variable {X : Cx} {c P : Addr} {params : Arguments} {body : Expr} {scope : Scope} {pos : Pos} {k : Nat} {te : XK → TE}
theorem pe_lam0 (TB : LamX.TabB X.base X.mg c P) (hcode : X.env.code = .ref c) (S : LmS X.N X.env.scope scope none) (B : LmB params body scope none)
    (hbody : ∀ (base' : Heap) (A : Around) (outer : List Env) (s : Shared) (H : Hp) (E : XK) (f c : Addr), BUp X.base base' → Room k (A.deeper (LamX.lamEnv X scope s.heap.objs.size f c)) → L2.PE (lamX X base' A outer s H E scope f c) body (te E))
    (hdef : defaultsOf params X.env = ([], []) := by rfl) : L2.PE X (.Lambda params body scope pos) (tLam X P k te) := ⟨fun pins s σ H Q I h => by
  obtain ⟨ps, hP, ht, ha, q⟩ := h
  refine PySem.W.kla_eval hdef ?_
  rw [makeFunction_eq]
  simp only [List.zip_nil_right, List.filterMap_nil, List.isEmpty_nil, if_true, pure_bind]
  refine lam_tail I TB hcode hP ht ha (fun y hy e => I.ok.has _ (S.free y hy e)) fun f c' ps' H1 s' I1 h1 h2 h3 h4 h5 h6 h7 h8 => ?_
  exact ⟨.ref f, H1, I1, rfl, q f c' _ .none none ps' H1 ⟨h1, h2, h3, h4, h5, h6, h7, h8, rfl⟩ rfl ⟨S, B, rfl, rfl, hbody⟩⟩⟩
theorem pe_lam1 {y : Str} {e0 : Expr} {i : Int} (TB : LamX.TabB X.base X.mg c P) (hcode : X.env.code = .ref c) (S : LmS X.N X.env.scope scope (some y)) (B : LmB params body scope (some y)) (he : L2.PE X e0 (tC (.int i)))
    (hbody : ∀ (base' : Heap) (A : Around) (outer : List Env) (s : Shared) (H : Hp) (E : XK) (f c : Addr), BUp X.base base' → Room k (A.deeper (LamX.lamEnv X scope s.heap.objs.size f c)) → L2.PE (lamX X base' A outer s H E scope f c) body (te E))
    (hd : params.defaults = [e0] := by rfl) (hk : params.kw_defaults = [] := by rfl) : L2.PE X (.Lambda params body scope pos) (tLam X P k te) := ⟨fun pins s σ H Q I h => by
  obtain ⟨ps, hP, ht, ha, q⟩ := h
  refine PySem.W.kdv_lam (by rw [hd]; rfl) hk ?_
  rw [hd]
  refine PySem.W.kdv_all1 (thn (he.run pins s σ H (fun v H1 => v = .int i ∧ H1 = H) I ⟨rfl, rfl⟩) fun u s1 hx => PySem.W.kdv_all0 ?_)
  obtain ⟨v, H1, I1, rv, _, eH⟩ := hx
  rw [eH] at I1
  rw [makeFunction_eq]
  simp only [List.zip_nil_right, List.filterMap_nil, List.isEmpty_nil, List.isEmpty_cons, Bool.false_eq_true, if_false, if_true, pure_bind]
  refine wpAny_bind (wpAny_newTextTuple ?_)
  have nT : H s1.heap.objs.size = none := I1.hok.fresh (Nat.le_refl _)
  have I2 := I1.laid (t' := s1.toks) (a := s1.heap.objs.size) (o := TupO s1.heap.objs.size u) (h' := s1.heap.push { cls := .type "tuple", data := .seq ([u] : List Value).toArray }) (fun b u e => Heap.get?_push_of_some _ e) (Nat.le_refl _)
    ⟨Heap.get?_push_size _ rfl, ⟨_, Heap.get?_push_size _ rfl⟩, fun h1 h2 z st => st _ z⟩
  have up : ∀ {b o}, H b = some o → upd H s1.heap.objs.size (TupO s1.heap.objs.size u) b = some o := fun {b o} e => by rw [upd_ne (ne_of_none e nT)]; exact e
  have nP : P ≠ s1.heap.objs.size := ne_of_none hP nT
  refine lam_tail I2 TB hcode (up hP) ht (fun pos cv h => let ⟨c, a, b⟩ := ha pos cv h; ⟨c, a, up b⟩) (fun y hy e => I.ok.has _ (S.free y hy e)) fun f c' ps' H3 s' I3 h1 h2 h3 h4 h5 h6 h7 h8 => ?_
  have dn : ∀ {b}, upd H s1.heap.objs.size (TupO s1.heap.objs.size u) b = none → H b = none := fun {b} e => by
    by_cases z : b = s1.heap.objs.size
    · rw [z]; exact nT
    · rw [upd_ne z] at e; exact e
  exact ⟨.ref f, H3, I3, rfl, q f c' _ (.ref s1.heap.objs.size) (some y) ps' H3 ⟨h1, h2, fun p cv z => (h3 p cv z).imp id fun z => ⟨z.1, dn z.2⟩, fun b o hb e => h4 b o hb (up e), dn h5, h6, h7, h8.imp dn id, _, u, rfl, nT, h4 _ _ (Ne.symm nP) upd_same⟩ rfl ⟨S, B, rfl, rfl, hbody⟩⟩⟩
end
end DL

set_option Elab.async false
set_option linter.all false
set_option maxRecDepth 100000
set_option maxHeartbeats 2000000
/-! lambdas: handed over, called -/
namespace DL
open PySem PySem.Spec PyProof.Rows L2
/-- a call at which the def learns of all that lies untouched: σ, the slots of the def X that made the lambdas -/
def tRunV (X : Cx) (σ : L2.St) (k : Nat) (f : Addr) (t : TA) : TE := fun σ' H Q => t σ' H fun vs H1 => ∀ base', BUp X.base base' → Cap X σ base' → ∃ sp, FnR X.prog X.w X.K X.mg base' (L2.CX X.prog X.w) k f sp ∧ sp vs H1 Q fun _ _ _ => False
def tRunU (X : Cx) (k : Nat) (f : Addr) (t : TA) : TE := fun σ H Q => tRunV X σ k f t σ H Q
theorem cx_none {P : Program} {w : World} {outer : List Env} {H : Hp} {s : Shared} {e : Value} {s' : Shared} (h : L2.CX P w outer H s (fun _ _ _ => False) e s') : False := by
  obtain ⟨_, _, _, _, _, _, _, _, _, _, _, _, z⟩ := h
  exact z
section
variable {X : Cx} {k : Nat} {f : Addr} {x : Str} {e : Expr} {es : List Expr} {t : TA} {p pos : Pos}
theorem pe_runU (hfn : ∀ x, X.fn x = true) (hr : Room k X.A) (hk : PySem.W.keepIn X.K (.ref f) = true) (hm : X.mg x = some (.ref f)) (ha : PA X (e :: es) t) (hg : Gl X x := by rfl) (hdb : (x == ("__debug__" : Str)) = false := by decide)
    (he : starEach (e :: es) X.env = (false, eval e X.env) :: starEach es X.env := by rfl) (hpl : (backTo pos (starEach es X.env)).any (·.1) = false := by rfl) :
    L2.PE X (.Call (.Name x p) (e :: es) [] pos) (tRunU X k f t) := ⟨fun pins s σ H Q I h =>
  wpAny_Call_Name_kw (ld_glob I hg hm (PySem.W.callWith_K (h₀ := X.base) I.ok.mod.kin hk (thn (ha.run pos pins s σ H _ I h) fun us s1 ⟨vs, H1, I1, r, q⟩ => ⟨I1.kIn, wpAny_call (by
    obtain ⟨base', e0, up, get⟩ := env0_up I1.env0
    have C : Cap X σ base' := Cap.of I1 fun y c v ec ⟨o, ho, hd⟩ => ⟨o, get c o ho (I1.freeC y c ec) (cells_apart I1 hfn ec), hd⟩
    obtain ⟨sp, F, hs⟩ := q base' up C
    refine codeAny_mono (F X.A X.stack s1 H1 us vs Q _ hr e0 r hs) fun rr s' hq => ?_
    match rr, hq with
    | .error e, hq => exact (cx_none hq).elim
    | .ok (.ret u), hq => exact I1.after hq)⟩) he hpl) hdb)⟩
/-- the same within a comprehension's block, which began where X stood -/
theorem pe_runB {s0 : Shared} {H0 : Hp} {pins0 : List (Addr × Obj)} {σ0 : L2.St} {scope : Scope} {cenv : Env} {fp : List Addr} (hfn : ∀ x, X.fn x = true) (I0 : Inv X pins0 σ0 H0 s0) (hfp : ∀ b ∈ fp, ∀ x c, X.env.cells.lookup x = some c → c ≠ b) (hr : Room k X.A) (hk : PySem.W.keepIn X.K (.ref f) = true) (hm : X.mg x = some (.ref f))
    (ha : PA (X.blk s0 H0 scope cenv fp) (e :: es) t) (hg : Gl (X.blk s0 H0 scope cenv fp) x) (hdb : (x == ("__debug__" : Str)) = false := by decide)
    (he : starEach (e :: es) cenv = (false, eval e cenv) :: starEach es cenv := by rfl) (hpl : (backTo pos (starEach es cenv)).any (·.1) = false := by rfl) :
    L2.PE (X.blk s0 H0 scope cenv fp) (.Call (.Name x p) (e :: es) [] pos) (tRunV X σ0 k f t) := ⟨fun pins s σ H Q I h =>
  wpAny_Call_Name_kw (ld_glob I hg hm (PySem.W.callWith_K (h₀ := X.base) I.ok.mod.kin hk (thn (ha.run pos pins s σ H _ I h) fun us s1 ⟨vs, H1, I1, r, q⟩ => ⟨I1.kIn, wpAny_call (by
    obtain ⟨base', e0, up, get⟩ := env0_up I1.env0
    have C : Cap X σ0 base' := Cap.of I0 fun y c v ec ⟨o, ho, hd⟩ => by
      have nx : c ∉ (X.blk s0 H0 scope cenv fp).ex := fun z => hfp c z y c ec rfl
      obtain ⟨sl, h1⟩ := I1.base.any ho (I0.freeC y c ec) nx
      exact ⟨_, get c _ h1 (I1.base.free c o ho (I0.freeC y c ec) nx) (cells_apart I0 hfn ec), hd⟩
    obtain ⟨sp, F, hs⟩ := q base' up C
    refine codeAny_mono (F X.A X.stack s1 H1 us vs Q _ hr e0 r hs) fun rr s' hq => ?_
    match rr, hq with
    | .error e, hq => exact (cx_none hq).elim
    | .ok (.ret u), hq => exact I1.after hq)⟩) he hpl) hdb)⟩
end
/-! ### over data -/
section
variable {X : Cx} {δ : Sl} {O O1 O2 : Ow} {ds : List D} {t : TA} {k : Nat} {f : Addr} {P : D → Ow → Prop}
theorem evp_runV {σ0 : L2.St} (h : EvA X.K t δ O ds O1) (hr : ∀ base', BUp X.base base' → Cap X σ0 base' → ∃ R ds', (∀ G vs, IsL X.K G ds vs → IsL X.K G ds' vs) ∧ FnR X.prog X.w X.K X.mg base' (L2.CX X.prog X.w) k f (SpD X.K R) ∧ R ds' O1 P) : EvP X.K (tRunV X σ0 k f t) δ O P := fun G H σ w s Q kk =>
  h G H σ w s _ fun vs G1 H1 s1 i1 base' hu hC => by
    obtain ⟨R, ds', hi, F, hR⟩ := hr base' hu hC
    exact ⟨_, F, G1, O1, ds', P, s1.wd, hi G1 vs i1, hR, fun d O' v G' H' hp st iv => kk d O' v G' H' hp (s1.trans st) iv⟩
theorem evp_runU (h : EvA X.K t δ O ds O1) (hr : ∀ σ base', BUp X.base base' → Cap X σ base' → ∃ R ds', (∀ G vs, SlIs X.K G δ σ → IsL X.K G ds vs → IsL X.K G ds' vs) ∧ FnR X.prog X.w X.K X.mg base' (L2.CX X.prog X.w) k f (SpD X.K R) ∧ R ds' O1 P) : EvP X.K (tRunU X k f t) δ O P := fun G H σ w s Q kk =>
  h G H σ w s _ fun vs G1 H1 s1 i1 base' hu hC => by
    obtain ⟨R, ds', hi, F, hR⟩ := hr σ base' hu hC
    exact ⟨_, F, G1, O1, ds', P, s1.wd, hi G1 vs (s.mono s1.ex) i1, hR, fun d O' v G' H' hp st iv => kk d O' v G' H' hp (s1.trans st) iv⟩
/-- the lambda as the callee sees it -/
theorem lam_act {σ : L2.St} {te : XK → TE} {base' : Heap} {G : Hp} {v : V} (hu : BUp X.base base') (C : Cap X σ base') (s : SlIs X.K G δ σ) (h : Is X.K G (lamD X k te) v) : Is X.K G (actD X.prog X.w X.K X.mg base' (k + 1) (RAct X.K te δ)) v := act_of hu C (bnd_of s h)
end
/-! ### the call of what was handed over -/
def tAct (P : Program) (w : World) (K : PySem.W.Frag) (mg : Str → Option Value) (base : Heap) (i k : Nat) (W : WX) : TE := fun σ H Q => ∃ f L dV c sp, σ[i]? = some (some (.ref f)) ∧ H f = some (LamO f L dV c) ∧ FnR P w K mg base (L2.CX P w) k f sp ∧ sp [] H Q fun cls d H' => W cls d σ H'
theorem pe_act {X : Cx} {i k : Nat} {a : Str} {p pos : Pos} {W : WX} (P : Program) (w : World) (K : PySem.W.Frag) (mg : Str → Option Value) (base : Heap) (hr : Room k X.A) (tk : Takes X W) (hN : X.N[i]? = some a := by rfl) (hv : Vis X.env.scope a := by exact .inl rfl) (hd : (a == ("__debug__" : Str)) = false := by decide) (hcd : (a == ("__classdict__" : Str)) = false := by decide)
    (e1 : X.prog = P := by rfl) (e2 : X.w = w := by rfl) (e3 : X.K = K := by rfl) (e4 : X.mg = mg := by rfl) (e5 : X.base = base := by rfl) :
    L2.PE X (.Call (.Name a p) [] [] pos) (tAct P w K mg base i k W) := ⟨fun pins s σ H Q I h => by
  subst e1 e2 e3 e4 e5
  obtain ⟨f, L, dV, c, sp, hs, hf, F, q⟩ := h
  refine wpAny_Call_Name_kw (thn ((pe_var (pos := p) (i := i) hN hv hd hcd).run pins s σ H (fun v H1 => v = .ref f ∧ H1 = H) I ⟨.ref f, hs, rfl, rfl⟩) fun u s1 ⟨v, H1, I1, r1, q1⟩ => ?_)
  obtain ⟨ev, eH⟩ := q1
  subst ev
  rw [eH] at I1
  obtain rfl : u = Value.ref f := r1
  obtain ⟨⟨doc, pm, ctv, of1⟩, _, _⟩ := I1.hok f _ hf
  exact PySem.W.callWith_F0 ⟨_, _, _, _, of1⟩ (wpAny_call (run_fnX (us := []) (vs := []) F hr (passAt tk σ) I1 .nil q))⟩
theorem evx_act {P : Program} {w : World} {K : PySem.W.Frag} {mg : Str → Option Value} {base : Heap} {i k : Nat} {W : WX} {XP : Sl → XD → Ow → Prop} {δ : Sl} {O : Ow} {Po : D → Ow → Prop} {R : Ow → (D → Ow → Prop) → (XD → Ow → Prop) → Prop} (h : δ[i]? = some (some (actD P w K mg base k R))) (hR : R O Po (XP δ)) :
    EvX K W (tAct P w K mg base i k W) XP δ O Po := fun G H σ wd s rx Q kk => by
  obtain ⟨v, hv, G1, sb, f, L, dV, c, rfl, hf, F⟩ := s.at_ i _ h
  exact ⟨f, L, dV, c, _, hv, wd.sub _ _ (sb _ _ hf), F, rfl, G, O, Po, XP δ, sb, wd, hR, kk, fun x O' cls d G2 H' hp st ix => rx δ σ x O' cls d G2 H' hp st (s.mono st.ex) ix⟩
end DL

set_option Elab.async false
set_option linter.all false
set_option maxRecDepth 100000
set_option maxHeartbeats 2000000
/-! a list comprehension whose element may lean on where its def stood when the block began -/
namespace DL
open PySem PySem.Spec PyProof.Rows L2
section
variable {X : Cx}
/-- [elt for tg in iter]: the element is told how the def stood at the block's beginning -/
theorem pe_lcU {elt tg iter : Expr} {scope : Scope} {own : List (Str × Nat)} {pos : Pos} {wi : TI} {g : TG} {te : L2.St → TE} (calm : X.calm = true) (nd : X.N.Nodup) (it_ok : PI X tg iter wi) (bk : BlkOk X.N X.env.scope scope own)
    (tgt : ∀ (s : Shared) (H : Hp) (C : Addr) (cl : List (Str × Addr)) (fp : List Addr), PG (X.blk s H scope (compEnvC scope cl C X.env) fp) tg g)
    (elm : ∀ (pins : List (Addr × Obj)) (σ : L2.St) (s : Shared) (H : Hp) (C : Addr) (cl : List (Str × Addr)) (fp : List Addr), Inv X pins σ H s → (∀ b ∈ fp, ∀ x c, X.env.cells.lookup x = some c → c ≠ b) → L2.PE (X.blk s H scope (compEnvC scope cl C X.env) fp) elt (te σ))
    (fold : ∀ x, foldedSetIterable iter X.env x = pure x := by intro _; rfl) :
    L2.PE X (.ListComp elt [⟨tg, iter, [], 0⟩] scope pos) (fun σ H Q => tLc wi g tYes (te σ) (own.map (·.2)) σ H Q) := ⟨fun pins s σ H Q I hyp => by
  have fr : ∀ y ∈ scope.names, y.2 = .free → ∃ c, X.env.cells.lookup y.1 = some c := fun y hy e => I.ok.has _ (bk.free y hy e)
  show wpAny _ X.A (comprehension (.ListComp elt [⟨tg, iter, [], 0⟩] scope pos) scope X.env _ (newList []) false (eval iter X.env) none) _ _ s
  refine wpAny_comprehension_free (use := none) rfl fold (closure_ok fr) bk.kind (fun y hy e => by rw [bk.uniq y hy, e]) ?_
  refine thn (it_ok.run pins s σ H _ I hyp) fun _ _ got => thn got fun _ s2 ⟨it, fp, tn, J, H2, isIt, I2, T, tn2, fp2, rest⟩ => ?_
  subst isIt
  refine wpAny_newObj_type (newEnv_comp ?_) (by show 0 ≤ sizeLine; decide)
  have fresh2 : H2 s2.heap.objs.size = none := I2.hok.fresh (Nat.le_refl _)
  obtain ⟨W, ⟨m0, w0⟩, turn⟩ := rest _ fresh2
  -- the accumulator, then the block
  have IA : Inv X pins σ (upd H2 s2.heap.objs.size (.lst [])) { s2 with heap := s2.heap.push { cls := .type "list", data := .seq ([] : List Value).toArray } } :=
    I2.laid (t' := s2.toks) (fun _ _ q => Heap.get?_push_of_some _ q) (Nat.le_refl _) ⟨Nat.zero_le _, [], 0, .nil, Heap.get?_push_size _ rfl⟩
  have below : ∀ b ∈ fp, b < s2.heap.objs.size := fun b hb => let ⟨_, q, _⟩ := T.obj _ _ tn2 b hb; Heap.lt_size q
  have fpA : ∀ b ∈ fp, FpOk X pins (upd H2 s2.heap.objs.size (.lst [])) b ∧ b < (s2.heap.push { cls := .type "list", data := .seq ([] : List Value).toArray }).objs.size := fun b hb =>
    ⟨⟨(upd_ne (Nat.ne_of_lt (below b hb))).trans (fp2 b hb).1, (fp2 b hb).2⟩, by rw [Heap.size_push]; exact Nat.lt_succ_of_lt (below b hb)⟩
  have tnA : tn 0 (s2.heap.push { cls := .type "list", data := .seq ([] : List Value).toArray }) := T.keep _ _ _ tn2 fun _ _ _ q => Heap.get?_push_of_some _ q
  generalize hH : upd H2 s2.heap.objs.size (.lst []) = HA at IA fpA w0
  generalize hD : s2.heap.objs.size = D at *
  generalize hA : ({ s2 with heap := s2.heap.push { cls := .type "list", data := .seq ([] : List Value).toArray } } : Shared) = sA at IA
  have heA : s2.heap.push { cls := .type "list", data := .seq ([] : List Value).toArray } = sA.heap := by rw [← hA]
  rw [heA] at fpA tnA
  have IB := block_start IA bk nd fpA
  have PGb := tgt sA HA sA.heap.objs.size (cellsFrom (sA.heap.objs.size + 1) scope.names (cloFrom X.env.cells scope.names [])) fp
  have PEb := elm pins σ sA HA sA.heap.objs.size (cellsFrom (sA.heap.objs.size + 1) scope.names (cloFrom X.env.cells scope.names [])) fp IA fun b hb => (fpA b hb).1.2.2.2.2.1
  show codeAny _ _ (.compStart (.ListComp elt [⟨tg, iter, [], 0⟩] scope pos) 0 (.ref it) (.ref D) (compEnvC scope (cellsFrom (sA.heap.objs.size + 1) scope.names (cloFrom X.env.cells scope.names [])) sA.heap.objs.size X.env)) (compPost (model X.prog X.w) X.A X.xe none _ (.ref D) sA.heap.objs.size)
    { sA with heap := pushCells (sA.heap.push { cls := .type "dict", data := .dict #[] }) scope.names }
  have tnB : tn 0 (pushCells (sA.heap.push { cls := .type "dict", data := .dict #[] }) scope.names) := T.keep _ _ _ tnA fun _ _ _ q => pushCells_keeps _ _ _ _ (Heap.get?_push_of_some _ q)
  generalize hE : compEnvC scope (cellsFrom (sA.heap.objs.size + 1) scope.names (cloFrom X.env.cells scope.names [])) sA.heap.objs.size X.env = ce at IB PGb PEb ⊢
  have ceL : ce.locals = sA.heap.objs.size := by rw [← hE]; rfl
  generalize hB : ({ sA with heap := pushCells (sA.heap.push { cls := .type "dict", data := .dict #[] }) scope.names } : Shared) = sB at IB ⊢
  have tnB : tn 0 sB.heap := by rw [← hB]; exact tnB
  let Y : Cx := X.blk sA HA scope ce fp
  have apart : ∀ {τ : L2.St} {H' : Hp} {s' : Shared}, Inv Y [] τ H' s' → (∀ b ∈ fp, H' b = none) → ∀ b ∈ fp, FpOk Y [] H' b := fun {τ H' s'} IY none_ b hb =>
    ⟨none_ b hb, (IY.ok.exf b hb).1, IY.ok.exfs b hb, .inl hb, (IY.ok.exf b hb).2, fun q hq => absurd (show q ∈ ([] : List (Addr × Obj)) ++ [] from hq) (by simp)⟩
  have loop : codeAny (model X.prog X.w) X.A (.compLoop (.ListComp elt [⟨tg, iter, [], 0⟩] scope pos) 0 (.ref it) (.ref D) ce) (compPost (model X.prog X.w) X.A X.xe none (EP X pins σ Q) (.ref D) sA.heap.objs.size) sB := by
    refine compLoop_any (fun n s' => ∃ i H', Inv Y [] (wipe σ (own.map (·.2))) H' s' ∧ tn i s'.heap ∧ (∀ b ∈ fp, H' b = none) ∧ W i n H') (fun n s5 ⟨i, H5, I5, tn5, no5, w5⟩ => ?_) m0 ⟨0, HA, IB, tnB, fun b hb => (fpA b hb).1.1, w0⟩
    rcases turn i n H5 w5 with ⟨stop, fin⟩ | ⟨go, Nx, hNx, step⟩
    · refine thnF (T.done Y rfl rfl rfl calm i [] s5 _ H5 (fun _ _ => False) I5 (apart I5 no5) tn5 stop) fun r s6 ⟨isr, I6⟩ => ?_
      subst isr
      have IX : Inv X pins σ H5 s6 := IA.call' (ch := fp) I6.os I6.base I6.hok I6.bare fun b hb => ⟨(fpA b hb).1.2.2.2.1, (fpA b hb).1.2.1, (fpA b hb).1.2.2.2.2.1, (fpA b hb).1.2.2.2.2.2⟩
      obtain ⟨m, ns, _⟩ := I6.loc
      have ns : s6.heap.Ns ce.locals m := ns
      have lz : H5 ce.locals = none := I6.free
      rw [ceL] at ns lz
      obtain ⟨_, g1, _, g3, g4, g5⟩ := IA.fpOk (H' := H5) (Nat.le_refl _) lz
      exact ⟨m, ns, fun h'' sb => ⟨.ref D, H5, IX.turned (t' := s6.toks) (fun b o hb e => (sb.2 b hb).trans e) lz g1 g3 g4 g5, rfl, fin⟩⟩
    · refine thnF (T.item Y rfl rfl rfl calm i [] s5 _ H5 (fun _ _ => False) I5 (apart I5 no5) tn5 go) fun r s6 ⟨u, isr, h6⟩ => ?_
      subst isr
      refine thnF h6 fun _ s7 ⟨xv, H7, I7, rx, y7, tn7, no7⟩ => ?_
      refine thnF (PGb.run _ s7 _ H7 xv u _ (I7.pinned (apart I7 no7) (T.obj _ _ tn7)) rx (step xv H7 y7)) fun _ s8 ⟨σ8, H8, I8, wp8, q8⟩ => ?_
      refine wpAny_tests_nil ?_
      have q8 : te σ σ8 H8 _ := (by simpa only [tYes, if_true] using q8)
      simp only [if_true]
      refine thnF (PEb.run _ s8 σ8 H8 _ I8 q8) fun z s9 ⟨yv, H9, I9, ry, acc, hD9, hz9, nx⟩ => ?_
      refine app_ok (X := Y) I9 hD9 hz9 ry fun s10 I10 => ?_
      obtain ⟨m', less, w'⟩ := hNx _ nx
      have held : ∀ b ∈ fp, ∀ o, s7.heap.get? b = some o → s10.heap.get? b = some o ∧ upd H9 D (.lst (acc ++ [yv])) b = none := fun b hb o q =>
        have z := I10.pin (b, o) (List.mem_append_right _ (List.mem_append_right _ (mem_pinsAt hb q)))
        ⟨z.1, z.2.1⟩
      refine ⟨m', less, i + 1, _, (I10.unpinned (pins := [])).weak (by rw [← wp8, wipe_length]) (fun j v q => ?_), T.keep _ _ _ tn7 fun b hb o q => (held b hb o q).1, fun b hb => ?_, w'⟩
      · rw [← wp8] at q
        exact (wipe_some q).1
      · obtain ⟨o, q, _⟩ := T.obj _ _ tn7 b hb
        exact (held b hb o q).2
  exact codeAny_compStart_list loop (T.self X.A 0 _ _ _ tnB loop)⟩
end
/-- over data: conv, how the items look with the def's slots -/
theorem ev_lcU {K : PySem.W.Frag} {wi : TI} {g : TG} {te : L2.St → TE} {vs : List Nat} {δ : Sl} {O O1 O2 : Ow} {items out : List D} (conv : L2.St → D → D) (hi : EvI K wi δ O items O1) (hconv : ∀ G σ d v, SlIs K G δ σ → d ∈ items → Is K G d v → Is K G (conv σ d) v)
    (hc : ∀ σ, Cp K g tYes (te σ) vs (wipeD δ vs) (items.map (conv σ)) O1 out O2) (hz : items.length ≤ 50000) : Ev K (fun σ H Q => tLc wi g tYes (te σ) vs σ H Q) δ O (.lst out) O2 := fun G H σ w s Q k => by
  have hi' : EvI K (fun σ' H R => σ' = σ → wi σ' H R) δ O (items.map (conv σ)) O1 := fun Ga Ha σ' wa sa R kk e => by
    refine hi Ga Ha σ' wa sa R fun J G' H' st ok => kk J G' H' st fun G2 O2 H2 sb w2 i => ?_
    obtain ⟨h1, h2⟩ := ok G2 O2 H2 sb w2 i
    refine ⟨fun d hd => ?_, fun hn => h2 (by simpa using hn)⟩
    rw [List.getElem?_map] at hd
    cases q : items[i]? with
    | none => rw [q] at hd; cases hd
    | some d0 =>
      rw [q] at hd
      cases hd
      obtain ⟨g1, g2⟩ := h1 d0 q
      refine ⟨g1, fun x H3 hy => ?_⟩
      obtain ⟨G3, s3, ix⟩ := g2 x H3 hy
      exact ⟨G3, s3, hconv G3 σ d0 x (e ▸ sa.mono (st.ex.trans (sb.trans s3.ex))) (List.mem_of_getElem? q) ix⟩
  exact ev_lc hi' (hc σ) (by rw [List.length_map]; exact hz) G H σ w s Q k rfl
end DL

set_option Elab.async false
set_option linter.all false
set_option maxRecDepth 100000
set_option maxHeartbeats 2000000
/-! defs that make lambdas; the end with their tables; promises that may raise, read as such that do not -/
namespace DL
open PySem PySem.Spec PyProof.Rows L2
section
variable {P : Program} {w : World} {K : PySem.W.Frag} {mg : Str → Option Value} {base : Heap} {x qual : Str} {st : Stmt} {f c : Addr} {fd : FuncData} {N ps : List Str} {k : Nat} {R : DR}
/-- a def whose code object is known -/
theorem fnOL (F : Fun K x qual st f fd) (S : FnScope N ps (defScope st)) (hc : fd.code = .ref c) (len : ∀ ds O Post, R ds O Post → ds.length = ps.length)
    (hbody : ∀ (cdv : Value) (A : Around) (outer : List Env) (s : Shared) (H : Hp) (E : XK), cdv = .ref c → Room k (A.deeper (PyProof.Rows.envOfC qual (defScope st) s.heap.objs.size f cdv)) →
      ∃ t, PSs (cxOf (L2.CX P w) P w K mg base N qual (defScope st) f cdv A outer s H E) (defBody st) t ∧ ∀ ds O Post, R ds O Post → Sd K t ⟨fun _ O' => Post .non O', Post, fun _ _ => False, fun _ _ => False⟩ (startD N ds) O) :
    FnOk P w K mg base (L2.CX P w) (k + 1) f fd ps (SpD K R) := by
  obtain ⟨oc, od, kV, doc, pm, an, cdv, ct, osl, rfl, lk, hcd⟩ := F.ex
  refine fn_of lk hcd S (fun vs H Q E h => ?_) fun A outer s H vs Q E hr h => ?_
  · obtain ⟨G, O, ds, Post, _, i, hr, _⟩ := h
    rw [← i.length]; exact len ds O Post hr
  · obtain ⟨t, h1, h2⟩ := hbody cdv A outer s H E hc hr
    exact ⟨t, h1, body_of h h2⟩
theorem fnDL (F : Fun K x qual st f fd) (S : FnScope N ps (defScope st)) (hb : Binds K fd ps []) (hc : fd.code = .ref c) (len : ∀ ds O Post, R ds O Post → ds.length = ps.length)
    (hbody : ∀ (cdv : Value) (A : Around) (outer : List Env) (s : Shared) (H : Hp) (E : XK), cdv = .ref c → Room k (A.deeper (PyProof.Rows.envOfC qual (defScope st) s.heap.objs.size f cdv)) →
      ∃ t, PSs (cxOf (L2.CX P w) P w K mg base N qual (defScope st) f cdv A outer s H E) (defBody st) t ∧ ∀ ds O Post, R ds O Post → Sd K t ⟨fun _ O' => Post .non O', Post, fun _ _ => False, fun _ _ => False⟩ (startD N ds) O) :
    FnR P w K mg base (L2.CX P w) (k + 1) f (SpD K R) := by
  refine ((fnOL F S hc len hbody).raw hb .nil).imp fun vs H Q E h => ?_
  rw [List.append_nil]; exact h
/-- what raises nothing here -/
theorem FnR.calm {RX : DRX} (F : FnR P w K mg base (L2.CX P w) k f (SpDX K RX)) (h : ∀ ds O Post, R ds O Post → RX ds O Post fun _ _ => False) : FnR P w K mg base (L2.CX P w) k f (SpD K R) :=
  F.imp fun vs H Q E ⟨G, O, ds, Post, w, i, hr, kk⟩ => ⟨G, O, ds, Post, fun _ _ => False, w, i, h ds O Post hr, kk, fun _ _ _ _ _ _ z => z.elim⟩
end
/-! ### the law's beginning, its tables owned -/
theorem mem_lk : ∀ {T : List (Addr × Str)} {p : Addr} {q : Str}, T.lookup p = some q → (p, q) ∈ T
  | [], _, _, h => by cases h
  | (a, b) :: T, p, q, h => by
    rw [List.lookup_cons] at h
    cases e : p == a with
    | true => rw [e] at h; cases h; rw [eq_of_beq e]; exact List.mem_cons_self ..
    | false => rw [e] at h; exact List.mem_cons_of_mem _ (mem_lk h)
def tabsO (T : List (Addr × Str)) : Ow := fun p => (T.lookup p).map tabM
theorem sp_tabs {K : PySem.W.Frag} {H : Hp} {a : Addr} {ns : List Int} {E : XK} {R : DR} (T : List (Addr × Str)) (hT : ∀ p ∈ T, H p.1 = some (.tbl #[])) (hS : SqL K H a (ns.map V.int)) (hR : R [.scr ns] (tabsO T) fun d _ => d = .bl true) :
    SpD K R [.ref a] H (fun v _ => v = .bl true) E := by
  have mem : ∀ {p : Addr} {q : Str}, T.lookup p = some q → H p = some (.tbl #[]) := fun {p q} h => hT (p, q) (mem_lk h)
  let G : Hp := fun p => if (T.lookup p).isSome then none else H p
  have gN : ∀ {p}, T.lookup p = none → G p = H p := fun {p} h => by show (if _ then _ else _) = _; rw [h]; rfl
  have gT : ∀ {p q}, T.lookup p = some q → G p = none := fun {p q} h => by show (if _ then _ else _) = _; rw [h]; rfl
  refine ⟨G, tabsO T, [.scr ns], fun d _ => d = .bl true, ⟨fun p o h => ?_, fun p m h => ?_⟩, ⟨_, _, rfl, ⟨a, rfl, ?_⟩, rfl⟩, hR, fun d O' v G' H' hd _ iv => by subst hd; exact iv⟩
  · cases q : T.lookup p with
    | none => rw [gN q] at h; exact h
    | some u => rw [gT q] at h; cases h
  · unfold tabsO at h
    cases q : T.lookup p with
    | none => rw [q] at h; cases h
    | some u =>
      rw [q] at h
      cases h
      exact ⟨gT q, _, G, mem q, Sub.refl _, #[], rfl, True.intro, fun pos cv z => by
        have z : codeAmong pos [] = some cv := z
        simp [codeAmong] at z⟩
  · have na : ∀ {o : HO}, H a = some o → (∀ ps, o ≠ .tbl ps) → G a = some o := fun {o} h n => by
      cases q : T.lookup a with
      | none => rw [gN q]; exact h
      | some u => rw [mem q] at h; exact absurd (Option.some.inj h).symm (n _)
    rcases hS with (h | ⟨o, h⟩) | h
    · exact .inl (.inl (na h fun _ z => by cases z))
    · exact .inl (.inr ⟨o, na h fun _ z => by cases z⟩)
    · exact .inr h
/-- the end: the tables of the module's own defs are known to be empty -/
theorem walk_ofTabs {l : PySem.W.OpenLaw} {n k : Nat} {q : Program} {loose : List Str} {XP : (Str → Option Value) → Heap → Prop} {YP : World → Heap → Prop} {d : DefRec} {K : Params → PySem.W.Frag} {CX : World → CXT} {x : Str}
    (most : l.most = some n) (small : n ≤ sizeLine) (nodef : d.params.defaults = []) (room : Room k callerA) (isK : ∀ (w : World) (h : Heap), YP w h → (K w.params).In h)
    (F : ∀ (w : World) (mg : Str → Option Value) (fa : Addr) (h : Heap), (K w.params).In h → h.Ns mainGlobals mg → mg d.name = some (.ref fa) → (∀ (y : Str) (c P : Addr), ((recsOf q).find? fun e => e.name == y).isSome = true → PySem.W.tabIn (K w.params) y = some (c, P) → PySem.W.CodeHd h c P ∧ h.get? P = some { cls := .none, data := .fields #[] }) →
      LamX.LawAtS l w (K w.params) (CX w) k n x mg fa h)
    (noX : ∀ (w : World) (H : Hp) (s : Shared) (e : Value) (s' : Shared), CX w [] H s (fun _ _ _ => False) e s' → False) :
    PySem.W.WalkO q loose XP YP l.row.toRowW d [] (fun f vs => PySem.call f vs) :=
  Att.attach_callB most nodef fun w s₀ s₁ mg mb fa o pm cd doc a vs ns G Y ho hd hcd hmg hobj hints hlen hbits hg =>
    have inK := isK w _ Y
    have ⟨fd, cs, sp, hT, nT, C, hb, hsp, hF⟩ := F w mg fa _ inK G.T.g hmg fun y c P hy ht => by
      obtain ⟨dy, e⟩ := Option.isSome_iff_exists.mp hy
      exact PySem.W.tab_of G.T inK e ht
    LamX.law_callTs inK G.T.g G.T.b G.T.builtins G.T.nolimit hg hT nT C G.T.bmain hobj hints
      (Nat.le_trans hlen small) room hF hb (fun H hH hS => hsp H a ns hlen hbits hH hS) fun H e s' => noX w H s₁ e s'
theorem lk_none {a : Addr} : ∀ {K : PySem.W.Frag}, (K.map (·.1)).contains a = false → K.lookup a = none
  | [], _ => rfl
  | (b, o) :: K, h => by
    rw [List.map_cons, List.contains_cons, Bool.or_eq_false_iff] at h
    rw [List.lookup_cons, h.1]
    exact lk_none h.2
theorem tab_mk {K : PySem.W.Frag} {x : Str} {f c P : Addr} {oc e : Value} {od dd : Option Addr} {fd : FuncData} {vs : Array Value} {sl sl2 : Array (Option Value)} (ns : PySem.W.nsIn K mainGlobals x = some (some (.ref f))) (l : K.lookup f = some ⟨oc, od, .func fd, sl⟩) (hc : fd.code = .ref c)
    (lc : K.lookup c = some ⟨e, dd, .fields vs, sl2⟩) (v : vs[11]? = some (.ref P)) : PySem.W.tabIn K x = some (c, P) := by
  unfold PySem.W.tabIn
  simp only [ns, l, hc, lc, v]
/-! ### range with a step of -1 -/
def rngD (hi : Int) (n : Nat) : List D := (List.range n).map fun k => .int (hi + (k : Nat) * (-1))
theorem ei_rngDown {K : PySem.W.Frag} {δ : Sl} {O O1 : Ow} {ta : TA} {i j : Int} (h : EvA K ta δ O [.int i, .int j, .int (-1)] O1) (hi : -1000000 ≤ i ∧ i ≤ 1000000) (hj : -1000000 ≤ j ∧ j ≤ 1000000) : EvI K (iRng3 ta) δ O (rngD i (i - j).toNat) O1 := fun G H σ w s R k =>
  h G H σ w s _ fun vs G1 H1 s1 i1 => by
    obtain ⟨v, _, rfl, a, u, _, rfl, b, z, _, rfl, c, e⟩ := i1
    cases a; cases b; cases c; cases e
    refine ⟨i, j, -1, (i - j).toNat, rfl, RgC.neg (by omega) (by omega) (by omega) (by omega), k _ G1 H1 s1 fun G' O' H' sb w' m => ⟨fun d hd => ?_, fun hn => ?_⟩⟩
    · unfold rngD at hd
      rw [List.getElem?_map] at hd
      by_cases hm : m < (i - j).toNat
      · rw [List.getElem?_range hm] at hd
        cases hd
        refine ⟨hm, fun x H'' hy => ?_⟩
        obtain ⟨rfl, rfl⟩ := hy
        exact ⟨G', Stp.refl w', rfl⟩
      · rw [List.getElem?_eq_none (by simpa using hm)] at hd; cases hd
    · unfold rngD at hn
      rw [List.getElem?_eq_none_iff, List.length_map, List.length_range] at hn
      exact hn
end DL

set_option Elab.async false
set_option linter.all false
set_option maxRecDepth 100000
set_option maxHeartbeats 2000000
/-! operators of own classes that may raise; try with several clauses; == of own classes -/
namespace DL
open PySem PySem.Spec L2
open PyProof.Rows hiding St
section
variable {K : PySem.W.Frag} {W : WX} {XP : Sl → XD → Ow → Prop} {δ : Sl} {O O1 O2 O3 : Ow} {d x y z : D} {ta tb te : TE} {C : Addr} {nm nm' : List Str} {ds es : List D} {RX : DRX} {E : XK} {P : D → Ow → Prop} {PE : DE} {i : Int}
theorem evx_ownS (hE : ∀ cls d σ H, W cls d σ H → E cls d H) (ha : Ev K ta δ O (.ins C nm ds) O1) (hb : Ev K tb δ O1 (.ins C nm' es) O2) (hr : RX [.ins C nm ds, .ins C nm' es] O2 P (XP δ)) : EvX K W (tOp (rOwnS C (SpDX K RX) E) ta tb) XP δ O P := fun G H σ w s rx Q k =>
  ha G H σ w s _ fun v G1 H1 s1 i1 => hb G1 H1 σ s1.wd (s.mono s1.ex) _ fun u G2 H2 s2 i2 => by
    have j1 := i1.mono s2.ex
    obtain ⟨p, dx, xs, rfl, e, _, _⟩ := id j1
    obtain ⟨q, dy, ys, rfl, e', _, _⟩ := id i2
    exact ⟨p, dx, _, q, dy, _, rfl, rfl, s2.wd.sub _ _ e, s2.wd.sub _ _ e', spx_run (ds := [.ins C nm ds, .ins C nm' es]) s2.wd ⟨_, _, rfl, j1, _, _, rfl, i2, rfl⟩ hr (fun d O' v G' H' hp st iv => k d O' v G' H' hp ((s1.trans s2).trans st) iv) fun x O' cls d G' H' hp st ix => hE _ _ σ _ (rx δ σ x O' cls d G' H' hp ((s1.trans s2).trans st) (s.mono ((s1.ex.trans s2.ex).trans st.ex)) ix)⟩
theorem evx_ownX (hE : ∀ cls d σ H, W cls d σ H → E cls d H) (ha : Ev K ta δ O (.ins C nm ds) O1) (hb : Ev K tb δ O1 y O2) (hr : RX [.ins C nm ds, y] O2 P (XP δ)) : EvX K W (tOp (rOwnX C (SpDX K RX) E) ta tb) XP δ O P := fun G H σ w s rx Q k =>
  ha G H σ w s _ fun v G1 H1 s1 i1 => hb G1 H1 σ s1.wd (s.mono s1.ex) _ fun u G2 H2 s2 i2 => by
    have j1 := i1.mono s2.ex
    obtain ⟨p, dx, xs, rfl, e, _, _⟩ := id j1
    exact ⟨p, dx, _, rfl, s2.wd.sub _ _ e, spx_run (ds := [.ins C nm ds, y]) s2.wd ⟨_, _, rfl, j1, _, _, rfl, i2, rfl⟩ hr (fun d O' v G' H' hp st iv => k d O' v G' H' hp ((s1.trans s2).trans st) iv) fun x O' cls d G' H' hp st ix => hE _ _ σ _ (rx δ σ x O' cls d G' H' hp ((s1.trans s2).trans st) (s.mono ((s1.ex.trans s2.ex).trans st.ex)) ix)⟩
theorem evx_ownI (hE : ∀ cls d σ H, W cls d σ H → E cls d H) (ha : Ev K ta δ O (.ins C nm ds) O1) (hb : Ev K tb δ O1 (.int i) O2) (hr : RX [.ins C nm ds, .int i] O2 P (XP δ)) : EvX K W (tOp (rOwnI C (SpDX K RX) E) ta tb) XP δ O P := fun G H σ w s rx Q k =>
  ha G H σ w s _ fun v G1 H1 s1 i1 => hb G1 H1 σ s1.wd (s.mono s1.ex) _ fun u G2 H2 s2 i2 => by
    have j1 := i1.mono s2.ex
    obtain ⟨p, dx, xs, rfl, e, _, _⟩ := id j1
    exact ⟨p, dx, _, i, rfl, i2, s2.wd.sub _ _ e, spx_run (ds := [.ins C nm ds, .int i]) s2.wd ⟨_, _, rfl, j1, _, _, rfl, i2, rfl⟩ hr (fun d O' v G' H' hp st iv => k d O' v G' H' hp ((s1.trans s2).trans st) iv) fun x O' cls d G' H' hp st ix => hE _ _ σ _ (rx δ σ x O' cls d G' H' hp ((s1.trans s2).trans st) (s.mono ((s1.ex.trans s2.ex).trans st.ex)) ix)⟩
end
theorem kit_sub {K : PySem.W.Frag} {T : String} {C : Addr} {b : Bool} (hi : PySem.W.isClsIn K C = true) (ht : PySem.W.typeIn K (.ref C) = some (.type "type")) (hs : PySem.W.subIn K (.type T) (.ref C) = some b) : PySem.W.kitOne K (.type T) (.ref C) = some b := by
  unfold PySem.W.kitOne PySem.W.kitCls
  rw [if_neg (by simp)]
  have h : ((PySem.W.clsIn K C).isSome && PySem.W.typeIn K (.ref C) == some (.type "type")) = true := by
    rw [ht, Bool.and_eq_true]
    exact ⟨by unfold PySem.W.isClsIn at hi; exact hi, by simp⟩
  simp only [h, if_true]
  exact hs
/-! ### several clauses -/
abbrev Cls1 := Value × (Addr → Value → Option Addr → TS)
def tTryM (K : PySem.W.Frag) (l : List Cls1) (Wout : WX) (tb : WX → TS) : TS := fun D σ H => tb (wMany K Wout D l) D σ H
theorem ps_tryM (K : PySem.W.Frag) {X : Cx} {body : List Stmt} {h₀ : ExceptHandler} {hds : List ExceptHandler} {l : List Cls1} {pos : Pos} {tb : WX → TS} {Wout : WX} (hs : X.stack = X.env :: X.outer) (hf : X.env.frame = some X.env.locals) (tk : Takes X Wout)
    (hb : ∀ (W : WX) (pn : List (Addr × Obj)) (xe : Value → Shared → Prop), Takes (X.tr pn xe) W → PassesOwn (model X.prog X.w) X.A X.env xe → PSs (X.tr pn xe) body (tb W))
    (hh : HdsOk X (h₀ :: hds) l) (hK : X.K = K := by rfl) : PS X (.Try body (h₀ :: hds) [] [] pos) (tTryM K l Wout tb) := by subst hK; exact ps_try_many hs hf tk hb hh
/-- which clause takes an exception of the class c: the n-th -/
inductive Taken (K : PySem.W.Frag) (c : Addr) : List Cls1 → (Addr → Value → Option Addr → TS) → Prop
  | here {v : Value} {ts : Addr → Value → Option Addr → TS} {r : List Cls1} (h : PySem.W.exmOne K (.ref c) v = some true) : Taken K c ((v, ts) :: r) ts
  | next {v : Value} {ts ts' : Addr → Value → Option Addr → TS} {r : List Cls1} (h : PySem.W.exmOne K (.ref c) v = some false) (t : Taken K c r ts') : Taken K c ((v, ts) :: r) ts'
theorem Taken.many {K : PySem.W.Frag} {c : Addr} {l : List Cls1} {ts : Addr → Value → Option Addr → TS} {Wout : WX} {D : Ends} {d : Option Addr} {σ : L2.St} {H : Hp} (t : Taken K c l ts) (h : ∀ a, ts a (.ref c) d D σ H) : wMany K Wout D l (.ref c) d σ H := by
  induction t with
  | here e => exact ⟨true, e, fun _ a _ => h a, (fun z => nomatch z)⟩
  | next e _ ih => exact ⟨false, e, (fun z => nomatch z), fun _ => ih h⟩
theorem sd_tryMany {K : PySem.W.Frag} {tb : WX → TS} {l : List Cls1} {Wout : WX} {XP : Sl → XD → Ow → Prop} {δ : Sl} {O : Ow} {PE : DE} (hb : ∀ W, SdX K W (tb W) PE XP δ O)
    (hx : ∀ δ' x O', XP δ' x O' → ∃ ts, Taken K x.cls l ts ∧ ∀ a d, Sd K (ts a (.ref x.cls) d) PE δ' O') : Sd K (tTryM K l Wout tb) PE δ O := fun G H σ D w s r =>
  hb _ G H σ D w s r fun δ' σ' x O' cls d G' H' hp st sl ix => by
    obtain ⟨rfl, _⟩ := ix
    obtain ⟨ts, t, hS⟩ := hx δ' x O' hp
    exact t.many fun a => hS a d G' H' σ' D st.wd sl (r.step st)
/-! ### == by the class's own __eq__ -/
section
variable {X : Cx} {CX : CXT} {C f : Addr} {sp : Sp} {k : Nat} {E : XK}
/-- an object of the class, or a tuple -/
def rOwnEqT (K : PySem.W.Frag) (C : Addr) (sp : Sp) (E : XK) : R2 := fun x y H Q => ∃ a dx fs b, x = .ref a ∧ y = .ref b ∧ H a = some (.ins C dx fs) ∧ ((∃ dy gs, H b = some (.ins C dy gs)) ∨ ∃ ys, H b = some (.tup ys)) ∧ sp [x, y] H (fun z H' => ∃ r, z = .bl r ∧ Q (.bl r) H') E
theorem op_ownEq (K : PySem.W.Frag) (hs : PySem.W.findIn X.K (.ref C) "__eq__" = some (some (.ref f))) (hf : PySem.W.isFn X.K (.ref f) = true) (ht : PySem.W.subIn X.K (.type "tuple") (.ref C) = some false)
    (F : FnR X.prog X.w X.K X.mg X.base CX k f sp) (hr : Room (k + 1) X.A) (hx : ∀ (H : Hp) (s : Shared) (e : Value) (s' : Shared), CX X.stack H s E e s' → False) (hK : X.K = K := by rfl) : OpR X (compareOp .Eq) (rOwnEqT K C sp E) := by
  intro pins s σ H x y v u Q I rx ry h
  obtain ⟨a, dx, fs, b, rfl, rfl, ha, hb, q⟩ := h
  cases (show v = Value.ref a from rx)
  cases (show u = Value.ref b from ry)
  obtain ⟨od, J⟩ := inst_at I ha
  obtain ⟨m, hF⟩ := I.fr
  have hu : X.A.units + 64 < cLine := hr.units
  have hty : ∃ tb, PySem.W.Looks (model X.prog X.w) s.heap (typeOf (.ref b)) tb ∧ PySem.W.notFirst X.K C tb = true := by
    rcases hb with ⟨dy, gs, hb⟩ | ⟨ys, hb⟩
    · obtain ⟨od', J'⟩ := inst_at I hb
      exact ⟨_, J'.type, by simp [PySem.W.notFirst]⟩
    · obtain ⟨_, its, r, o, ho, hc, _⟩ := I.hok b _ hb
      exact ⟨.type "tuple", fun A Q E s k q => wpAny_typeOf_ref (k _ _ ho) (by rw [hc]; exact q), by simp [PySem.W.notFirst, ht]⟩
  obtain ⟨tb, lk, nf⟩ := hty
  refine PySem.W.cmp_K (op := .Eq) (tb := tb) (by omega) hF I.ok.mod.kin J lk nf hs hf ?_
  refine wpAny_call (codeAny_mono (F X.A X.stack s H [.ref a, .ref b] [.ref a, .ref b] _ E (hr.mono (by omega)) I.env0 (.cons rfl (.cons rfl .nil)) q) fun r s' hq => ?_)
  cases r with
  | error e => exact (hx _ _ _ _ hq).elim
  | ok fl =>
    cases fl with
    | ret w =>
      obtain ⟨z, H', I', rz, r, ez, qz⟩ := I.after hq
      subst ez
      cases rz
      exact ⟨.bl r, H', I', rfl, qz⟩
    | next => exact False.elim hq
    | brk => exact False.elim hq
    | cont => exact False.elim hq
end
section
variable {K : PySem.W.Frag} {δ : Sl} {O O1 O2 O3 : Ow} {ta tb : TE} {C : Addr} {ds es : List D} {nm nm' : List Str} {R : DR} {E : XK} {b : Bool}
theorem ev_ownEq (ha : Ev K ta δ O (.ins C nm ds) O1) (hb : Ev K tb δ O1 (.ins C nm' es) O2) (hr : R [.ins C nm ds, .ins C nm' es] O2 fun d' O' => d' = .bl b ∧ O' = O3) : Ev K (tOp (rOwnEqT K C (SpD K R) E) ta tb) δ O (.bl b) O3 := fun G H σ w s Q k =>
  ha G H σ w s _ fun v G1 H1 s1 i1 => hb G1 H1 σ s1.wd (s.mono s1.ex) _ fun u G2 H2 s2 i2 => by
    have j1 := i1.mono s2.ex
    obtain ⟨p, dx, xs, rfl, e, _, _⟩ := id j1
    obtain ⟨p', dx', xs', rfl, e', _, _⟩ := id i2
    refine ⟨p, dx, _, p', rfl, rfl, s2.wd.sub _ _ e, .inl ⟨_, _, s2.wd.sub _ _ e'⟩, sp_run (ds := [.ins C nm ds, .ins C nm' es]) s2.wd ⟨_, _, rfl, j1, _, _, rfl, i2, rfl⟩ hr fun d O' v G' H' hp st iv => ?_⟩
    obtain ⟨rfl, rfl⟩ := hp
    have iv : v = .bl b := iv
    subst iv
    exact ⟨b, rfl, k _ G' H' ((s1.trans s2).trans st) rfl⟩
theorem ev_ownEqT (ha : Ev K ta δ O (.ins C nm ds) O1) (hb : Ev K tb δ O1 (.tup es) O2) (hr : R [.ins C nm ds, .tup es] O2 fun d' O' => d' = .bl b ∧ O' = O3) : Ev K (tOp (rOwnEqT K C (SpD K R) E) ta tb) δ O (.bl b) O3 := fun G H σ w s Q k =>
  ha G H σ w s _ fun v G1 H1 s1 i1 => hb G1 H1 σ s1.wd (s.mono s1.ex) _ fun u G2 H2 s2 i2 => by
    have j1 := i1.mono s2.ex
    obtain ⟨p, dx, xs, rfl, e, _, _⟩ := id j1
    obtain ⟨p', ys, rfl, e', _⟩ := id i2
    refine ⟨p, dx, _, p', rfl, rfl, s2.wd.sub _ _ e, .inr ⟨_, s2.wd.sub _ _ e'⟩, sp_run (ds := [.ins C nm ds, .tup es]) s2.wd ⟨_, _, rfl, j1, _, _, rfl, i2, rfl⟩ hr fun d O' v G' H' hp st iv => ?_⟩
    obtain ⟨rfl, rfl⟩ := hp
    have iv : v = .bl b := iv
    subst iv
    exact ⟨b, rfl, k _ G' H' ((s1.trans s2).trans st) rfl⟩
end
/-! ### a def called with each lambda of a list -/
theorem ev_lcU2 {α : Type} {K : PySem.W.Frag} {wi : TI} {g : TG} {te : L2.St → TE} {vs : List Nat} {δ : Sl} {O O1 O2 : Ow} {out : List D} (l : List α) (e1 : α → D) (e2 : L2.St → α → D) (hi : EvI K wi δ O (l.map e1) O1) (hconv : ∀ G σ a v, SlIs K G δ σ → a ∈ l → Is K G (e1 a) v → Is K G (e2 σ a) v)
    (hc : ∀ σ, Cp K g tYes (te σ) vs (wipeD δ vs) (l.map (e2 σ)) O1 out O2) (hz : l.length ≤ 50000) : Ev K (fun σ H Q => tLc wi g tYes (te σ) vs σ H Q) δ O (.lst out) O2 := fun G H σ w s Q k => by
  have hi' : EvI K (fun σ' H R => σ' = σ → wi σ' H R) δ O (l.map (e2 σ)) O1 := fun Ga Ha σ' wa sa R kk e => by
    refine hi Ga Ha σ' wa sa R fun J G' H' st ok => kk J G' H' st fun G2 O2 H2 sb w2 i => ?_
    obtain ⟨h1, h2⟩ := ok G2 O2 H2 sb w2 i
    refine ⟨fun d hd => ?_, fun hn => h2 (by simpa using hn)⟩
    rw [List.getElem?_map] at hd
    cases q : l[i]? with
    | none => rw [q] at hd; cases hd
    | some a =>
      rw [q] at hd
      cases hd
      obtain ⟨g1, g2⟩ := h1 (e1 a) (by rw [List.getElem?_map, q]; rfl)
      refine ⟨g1, fun x H3 hy => ?_⟩
      obtain ⟨G3, s3, ix⟩ := g2 x H3 hy
      exact ⟨G3, s3, hconv G3 σ a x (e ▸ sa.mono (st.ex.trans (sb.trans s3.ex))) (List.mem_of_getElem? q) ix⟩
  exact ev_lc hi' (hc σ) (by rw [List.length_map]; exact hz) G H σ w s Q k rfl
theorem ev_lamOuts {X : Cx} {δ : Sl} {O : Ow} {k kf i j : Nat} {f : Addr} (l : List (XK → TE)) (out : D) (hi : δ[i]? = some (some (.lst (l.map (lamD X k))))) (hj : j < δ.length) (hl : l.length ≤ 50000)
    (hF : ∀ te ∈ l, ∀ base', BUp X.base base' → ∃ R, FnR X.prog X.w X.K X.mg base' (L2.CX X.prog X.w) kf f (SpD X.K R) ∧ R [actD X.prog X.w X.K X.mg base' (k + 1) (RAct X.K te δ)] O fun d' O' => d' = out ∧ O' = O) :
    Ev X.K (fun σ H Q => tLc (iList X.K (tVar i)) (gName j) tYes (tRunV X σ kf f (tCons (tVar j) tNil)) [j] σ H Q) δ O (.lst (l.map fun _ => out)) O := by
  refine ev_lcU2 (te := fun σ => tRunV X σ kf f (tCons (tVar j) tNil)) l (lamD X k) (fun σ te => bndD X σ δ k te) (ei_list (ev_var hi)) (fun G σ te v s _ h => bnd_of s h) (fun σ => ?_) hl
  refine cp_map l (fun te => bndD X σ δ k te) (fun _ => out) (fun te => (wipeD δ [j]).set j (some (bndD X σ δ k te))) fun te ht => ⟨gc_name (List.mem_singleton.mpr rfl), et_yes, EvP.ev (evp_runV (ds := [bndD X σ δ k te]) (ea_cons (ev_var ?_) ea_nil) fun base' hu hC => ?_)⟩
  · rw [List.getElem?_set_self (by simp [wipeD]; exact hj)]
  · obtain ⟨R, F, hR⟩ := hF te ht base' hu
    refine ⟨R, _, fun G vs iv => ?_, F, hR⟩
    obtain ⟨v, rfl, h⟩ := isL1 iv
    exact ⟨v, [], rfl, act_of hu hC h, rfl⟩
end DL

set_option Elab.async false
set_option linter.all false
set_option maxRecDepth 100000
set_option maxHeartbeats 2000000
/-! dicts with ints (or texts) as keys, owned -/
namespace DL
open PySem PySem.Spec L2
open PyProof.Rows hiding St
theorem _root_.L2.Room.un1 {k : Nat} {A : Around} (r : Room k A) : A.units + 1 < cLine := by have := r.un; omega
def dicM (K : PySem.W.Frag) (l : List (Key × D)) : MO := .sem fun G o => ∃ kvs : List (Key × V), o = .dK kvs ∧ kvs.map (·.1) = l.map (·.1) ∧ IsL K G (l.map (·.2)) (kvs.map (·.2))
def dgetD (l : List (Key × D)) (k : Key) : Option D := (l.find? fun kv => decide (kv.1 = k)).map (·.2)
theorem dget_is {K : PySem.W.Frag} {G : Hp} {k : Key} : ∀ {l : List (Key × D)} {kvs : List (Key × V)}, kvs.map (·.1) = l.map (·.1) → IsL K G (l.map (·.2)) (kvs.map (·.2)) → (∀ d, dgetD l k = some d → ∃ v, valV kvs k = some v ∧ Is K G d v) ∧ (dgetD l k = none → valV kvs k = none)
  | [], [], _, _ => ⟨(fun d h => by cases h), fun _ => rfl⟩
  | [], _ :: _, h, _ => by cases h
  | _ :: _, [], h, _ => by cases h
  | (a, d0) :: l, (b, v0) :: kvs, h, t => by
    have h1 : b = a := (List.cons.inj h).1
    have h2 : kvs.map (·.1) = l.map (·.1) := (List.cons.inj h).2
    obtain ⟨v, r, e, i0, t⟩ := t
    obtain ⟨rfl, rfl⟩ := List.cons.inj e
    obtain ⟨g1, g2⟩ := dget_is (k := k) h2 t
    subst h1
    unfold dgetD valV
    rw [List.find?_cons, List.find?_cons]
    cases q : decide (b = k) with
    | true => exact ⟨(fun d hd => by cases hd; exact ⟨_, rfl, i0⟩), fun z => by cases z⟩
    | false => exact ⟨g1, g2⟩
section
variable {K : PySem.W.Frag} {δ : Sl} {O O1 O2 O3 : Ow} {d : D} {td ty tv : TE} {p : Addr} {i : Int} {l : List (Key × D)} {PE : DE}
theorem evp_dnew {P : D → Ow → Prop} (hp : ∀ p, O p = none → P (.ref p) (setO O p (dicM K []))) : EvP K tDNewK δ O P := fun G H σ w s Q k p hn => k _ _ _ _ _ (hp p (w.oNone hn)) (Stp.newO w hn ⟨_, G, upd_same, Sub.refl _, [], rfl, rfl, rfl⟩) rfl
theorem ev_dget (h1 : Ev K td δ O (.ref p) O1) (h2 : Ev K ty δ O1 (.int i) O2) (ho : O2 p = some (dicM K l)) (hg : dgetD l (.inl i) = some d) : Ev K (tDGet td ty) δ O d O2 := fun G H σ w s Q k =>
  h1 G H σ w s _ fun x G1 H1 s1 i1 => h2 G1 H1 σ s1.wd (s.mono s1.ex) _ fun y G2 H2 s2 i2 => by
    obtain ⟨_, o, G3, e, sb, kvs, rfl, hk, hv⟩ := s2.wd.own p _ ho
    obtain ⟨v, e1, iv⟩ := (dget_is (k := .inl i) hk hv).1 d hg
    have i1 : x = .ref p := i1
    have i2 : y = .int i := i2
    subst i1 i2
    exact ⟨p, v, rfl, by rw [← e1]; exact DGet.k (k := .inl i) e, k v G2 H2 (s1.trans s2) (iv.mono sb)⟩
/-- a new key -/
theorem sd_dput (h0 : Ev K tv δ O d O1) (h1 : Ev K td δ O1 (.ref p) O2) (h2 : Ev K ty δ O2 (.int i) O3) (ho : O3 p = some (dicM K l)) (hn : dgetD l (.inl i) = none) (hl : l.length < 100000) (k : PE.nx δ (setO O3 p (dicM K (l ++ [(.inl i, d)])))) : Sd K (sDPut td ty tv) PE δ O := fun G H σ D w s r =>
  h0 G H σ w s _ fun v G0 H0 s0 i0 => h1 G0 H0 σ s0.wd (s.mono s0.ex) _ fun x G1 H1 s1 i1 => h2 G1 H1 σ s1.wd (s.mono (s0.ex.trans s1.ex)) _ fun y G2 H2 s2 i2 => by
    obtain ⟨g0, o, G3, e, sb, kvs, rfl, hk, hv⟩ := s2.wd.own p _ ho
    have e1 := (dget_is (k := .inl i) hk hv).2 hn
    have i1 : x = .ref p := i1
    have i2 : y = .int i := i2
    subst i1 i2
    have hlen : kvs.length = l.length := by have := congrArg List.length hk; simpa using this
    refine ⟨p, _, rfl, DPut.k (k := .inl i) e (by rw [hlen]; exact Evl.sz_lt hl), ?_⟩
    rw [putK_new _ e1]
    have st := Stp.write (m' := dicM K (l ++ [(.inl i, d)])) (o := .dK (kvs ++ [(.inl i, v)])) s2.wd ho ⟨_, G2, upd_same, Sub.refl _, kvs ++ [(.inl i, v)], rfl, by simp [hk], by
      rw [List.map_append, List.map_append]
      exact (hv.mono sb).append ⟨v, [], rfl, i0.mono (s1.ex.trans s2.ex), rfl⟩⟩
    exact r.nx δ _ G2 _ σ k (((s0.trans s1).trans s2).trans st) (s.mono ((s0.ex.trans s1.ex).trans s2.ex))
end
/-! ### a making that may raise; what was raised may forget what it owned -/
theorem evx_mk {K : PySem.W.Frag} {W : WX} {XP : Sl → XD → Ow → Prop} {δ : Sl} {O O1 : Ow} {t : TA} {C : Addr} {ds : List D} {RX : DRX} {E : XK} {P : D → Ow → Prop} (hE : ∀ cls d σ H, W cls d σ H → E cls d H) (h : EvA K t δ O ds O1)
    (hr : ∀ x, O1 x = none → RX (.ref x :: ds) (setO O1 x (.ins C [] [])) (fun d' O' => d' = .non ∧ P (.ref x) O') fun xd O' => ∃ O2, OSub O2 O' ∧ XP δ xd O2) : EvX K W (StX.tMakeR C (SpDX K RX) E t) XP δ O P := fun G H σ w s rx Q k =>
  h G H σ w s _ fun vs G1 H1 s1 i1 x dx hx hdx ne => by
    have hxd : (upd H1 dx (.own x)) x = none := by rw [upd_ne (Ne.symm ne)]; exact hx
    have st1 := Stp.newF (o := .own x) s1.wd hdx
    have st2 := Stp.newO (o := .ins C dx []) (m := .ins C [] []) st1.wd hxd ⟨dx, [], upd_same, rfl, rfl⟩
    refine spx_run (ds := .ref x :: ds) st2.wd ⟨_, _, rfl, rfl, i1.mono (st1.trans st2).ex⟩ (hr x (s1.wd.oNone hx)) (fun d O' v G' H' hp st iv => ?_) fun xd O' cls d G' H' hp st ix => ?_
    · obtain ⟨rfl, hp⟩ := hp
      exact ⟨iv, k (.ref x) O' _ G' H' hp (s1.trans ((st1.trans st2).trans st)) rfl⟩
    · obtain ⟨O2, sb, hx2⟩ := hp
      have sx := s1.trans ((st1.trans st2).trans st)
      exact hE _ _ σ _ (rx δ σ xd O2 cls d G' H' hx2 (sx.drop sb) (s.mono sx.ex) ix)
/-- each lambda with what comes of it -/
theorem ev_lamOutsP {X : Cx} {δ : Sl} {O : Ow} {k kf i j : Nat} {f : Addr} (l : List ((XK → TE) × D)) (hi : δ[i]? = some (some (.lst (l.map fun p => lamD X k p.1)))) (hj : j < δ.length) (hl : l.length ≤ 50000)
    (hF : ∀ p ∈ l, ∀ base', BUp X.base base' → ∃ R, FnR X.prog X.w X.K X.mg base' (L2.CX X.prog X.w) kf f (SpD X.K R) ∧ R [actD X.prog X.w X.K X.mg base' (k + 1) (RAct X.K p.1 δ)] O fun d' O' => d' = p.2 ∧ O' = O) :
    Ev X.K (fun σ H Q => tLc (iList X.K (tVar i)) (gName j) tYes (tRunV X σ kf f (tCons (tVar j) tNil)) [j] σ H Q) δ O (.lst (l.map (·.2))) O := by
  refine ev_lcU2 (te := fun σ => tRunV X σ kf f (tCons (tVar j) tNil)) l (fun p => lamD X k p.1) (fun σ p => bndD X σ δ k p.1) (ei_list (ev_var hi)) (fun G σ p v s _ h => bnd_of s h) (fun σ => ?_) hl
  refine cp_map l (fun p => bndD X σ δ k p.1) (·.2) (fun p => (wipeD δ [j]).set j (some (bndD X σ δ k p.1))) fun p hp => ⟨gc_name (List.mem_singleton.mpr rfl), et_yes, EvP.ev (evp_runV (ds := [bndD X σ δ k p.1]) (ea_cons (ev_var ?_) ea_nil) fun base' hu hC => ?_)⟩
  · rw [List.getElem?_set_self (by simp [wipeD]; exact hj)]
  · obtain ⟨R, F, hR⟩ := hF p hp base' hu
    refine ⟨R, _, fun G vs iv => ?_, F, hR⟩
    obtain ⟨v, rfl, h⟩ := isL1 iv
    exact ⟨v, [], rfl, act_of hu hC h, rfl⟩
end DL

set_option Elab.async false
set_option linter.all false
set_option maxRecDepth 100000
set_option maxHeartbeats 2000000
/-! lists that a call returns, owned by the caller; lambdas by a context that is known to be of K -/
namespace DL
open PySem PySem.Spec L2
open PyProof.Rows hiding St
section
variable {K : PySem.W.Frag} {δ : Sl} {O O1 O2 O3 : Ow} {d x y z : D} {ta tb tc te tv : TE} {t : TA} {i j : Int} {p q l C : Addr} {ds es : List D} {b : Bool} {R : DR} {E : XK} {P : D → Ow → Prop} {PE : DE}
/-- an owned list that an expression gives is plain data from now on -/
theorem evp_pub (h : EvP K te δ O fun d O' => ∃ p ds, d = .ref p ∧ O' p = some (.lst ds) ∧ P (.lst ds) (delO O' p)) : EvP K te δ O P := fun G H σ w s Q k =>
  h G H σ w s _ fun d O' v G' H' hh st i => by
    obtain ⟨p, ds, rfl, ho, hp⟩ := hh
    have i : v = .ref p := i
    subst i
    obtain ⟨_, xs, e, t⟩ := st.wd.own p _ ho
    have st2 := Stp.pub st.wd ho e
    exact k _ _ _ _ _ hp (st.trans st2) ⟨p, xs, rfl, upd_same, t.mono st2.ex⟩
/-- list(x), new and owned -/
theorem evp_listLs (h : Ev K te δ O x O1) (hx : LstOf O1 x ds) (hp : ∀ p, O1 p = none → P (.ref p) (setO O1 p (.lst ds))) : EvP K (tCB (fun xs H Q => ∃ p ys, xs = [.ref p] ∧ (SqL K H p ys ∨ SqT K H p ys) ∧ ∀ l, H l = none → Q (.ref l) (upd H l (.lst ys))) (tCons te tNil)) δ O P := fun G H σ w s Q k =>
  h G H σ w s _ fun v G1 H1 s1 i1 => by
    rcases hx with rfl | ⟨p, rfl, ho⟩
    · obtain ⟨p, xs, rfl, e, tl⟩ := i1
      exact ⟨p, xs, rfl, .inl (.inl (.inl (s1.wd.sub _ _ e))), fun l hl => k _ _ _ _ _ (hp l (s1.wd.oNone hl)) (s1.trans (Stp.newO s1.wd hl ⟨xs, upd_same, tl⟩)) rfl⟩
    · have i1 : v = .ref p := i1
      subst i1
      obtain ⟨_, xs, e, tl⟩ := s1.wd.own p _ ho
      exact ⟨p, xs, rfl, .inl (.inl (.inl e)), fun l hl => k _ _ _ _ _ (hp l (s1.wd.oNone hl)) (s1.trans (Stp.newO s1.wd hl ⟨xs, upd_same, tl⟩)) rfl⟩
/-- e1.append(e), e1 by what it may give -/
theorem sd_appE (h1 : EvP K ta δ O fun r O1 => ∃ l ds O2 d, r = .ref l ∧ O1 l = some (.lst ds) ∧ Ev K te δ O1 d O2 ∧ O2 l = some (.lst ds) ∧ ds.length < 100000 ∧ PE.nx δ (setO O2 l (.lst (ds ++ [d])))) :
    Sd K (tDrop (tBM K "list" rAppend ta (tCons te tNil))) PE δ O := fun G H σ D w s r =>
  h1 G H σ w s _ fun v0 O1 v G1 H1 hh s1 i1 => by
    obtain ⟨l, ds, O2, d, rfl, h0, h2, h3, hz, k⟩ := hh
    have i1 : v = .ref l := i1
    subst i1
    obtain ⟨_, xs0, e0, _⟩ := s1.wd.own l _ h0
    refine ⟨.inl ⟨rfl, xs0, .inl (.inl e0)⟩, h2 G1 H1 σ s1.wd (s.mono s1.ex) _ fun u G2 H2 s2 i2 => ?_⟩
    obtain ⟨_, xs, e, t⟩ := s2.wd.own l _ h3
    refine ⟨l, xs, u, rfl, rfl, e, by rw [← t.length]; exact Evl.sz_lt hz, ?_⟩
    have st := Stp.write (o := .lst (xs ++ [u])) (m' := .lst (ds ++ [d])) s2.wd h3 ⟨_, upd_same, t.append ⟨u, [], rfl, i2, rfl⟩⟩
    exact r.nx _ _ _ _ _ k ((s1.trans s2).trans st) (s.mono ((s1.ex.trans s2.ex).trans st.ex))
theorem ev_lamK {X : Cx} {k : Nat} {q : Str} {P1 : Addr} {te : XK → TE} (hK : X.K = K) (hq : X.env.qual ++ "<lambda>" = q) (hO : O P1 = some (tabM q)) : Ev K (tLam X P1 k te) δ O (lamD X k te) O := by
  subst hK
  subst hq
  exact ev_lam hO
end
/-! ### lambdas one by one with what comes of them -/
inductive Fa2 {α β : Type} (R : α → β → Prop) : List α → List β → Prop
  | nil : Fa2 R [] []
  | cons {a : α} {b : β} {as : List α} {bs : List β} (h : R a b) (t : Fa2 R as bs) : Fa2 R (a :: as) (b :: bs)
theorem Fa2.mem {α β : Type} {R : α → β → Prop} {as : List α} {bs : List β} (h : Fa2 R as bs) : ∀ p ∈ as.zip bs, R p.1 p.2 := by
  induction h with
  | nil => intro p hp; simp at hp
  | cons h t ih =>
    intro p hp
    rw [List.zip_cons_cons] at hp
    rcases List.mem_cons.mp hp with rfl | hp
    · exact h
    · exact ih p hp
theorem Fa2.fst {α β γ : Type} {R : α → β → Prop} {as : List α} {bs : List β} (h : Fa2 R as bs) (f : α → γ) : (as.zip bs).map (fun p => f p.1) = as.map f := by
  induction h with
  | nil => rfl
  | cons h t ih => rw [List.zip_cons_cons, List.map_cons, List.map_cons, ih]
theorem Fa2.snd {α β : Type} {R : α → β → Prop} {as : List α} {bs : List β} (h : Fa2 R as bs) : (as.zip bs).map (·.2) = bs := by
  induction h with
  | nil => rfl
  | cons h t ih => rw [List.zip_cons_cons, List.map_cons, ih]
theorem Fa2.len {α β : Type} {R : α → β → Prop} {as : List α} {bs : List β} (h : Fa2 R as bs) : as.length = bs.length := by
  induction h with
  | nil => rfl
  | cons h t ih => rw [List.length_cons, List.length_cons, ih]
theorem ev_lamOuts2 {X : Cx} {δ : Sl} {O : Ow} {k kf i j : Nat} {f : Addr} {tes : List (XK → TE)} {outs : List D} (hi : δ[i]? = some (some (.lst (tes.map (lamD X k))))) (hj : j < δ.length) (hl : tes.length ≤ 50000)
    (hF : Fa2 (fun te d => ∀ base', BUp X.base base' → ∃ R, FnR X.prog X.w X.K X.mg base' (L2.CX X.prog X.w) kf f (SpD X.K R) ∧ R [actD X.prog X.w X.K X.mg base' (k + 1) (RAct X.K te δ)] O fun d' O' => d' = d ∧ O' = O) tes outs) :
    Ev X.K (fun σ H Q => tLc (iList X.K (tVar i)) (gName j) tYes (tRunV X σ kf f (tCons (tVar j) tNil)) [j] σ H Q) δ O (.lst outs) O := by
  have h := ev_lamOutsP (δ := δ) (O := O) (k := k) (kf := kf) (i := i) (j := j) (f := f) (tes.zip outs) (by rw [hF.fst]; exact hi) hj (by rw [List.length_zip]; omega) (fun p hp => hF.mem p hp)
  rw [hF.snd] at h
  exact h
theorem Fa2.imp {α β : Type} {R S : α → β → Prop} {as : List α} {bs : List β} (h : Fa2 R as bs) (k : ∀ a b, R a b → S a b) : Fa2 S as bs := by
  induction h with
  | nil => exact .nil
  | cons h t ih => exact .cons (k _ _ h) ih
end DL

set_option Elab.async false
set_option linter.all false
set_option maxRecDepth 100000
set_option maxHeartbeats 4000000
namespace Law
open PySem PySem.Spec L2 DL
open PyProof.Rows hiding St
local macro_rules | `(tactic| walk_at "sl") => `(tactic| try dsimp only [startD, List.map, List.length_cons, List.length_nil, List.replicate, List.cons_append, List.nil_append, List.set_cons_zero, List.set_cons_succ, Nat.reduceSub, Nat.reduceAdd, wipeD])
local macro_rules | `(tactic| walk_at "go") => `(tactic| ((try dsimp only [cxOf, Cx.nox, Cx.wish, Cx.blk]); walk_at "sl"; walk_at "sl"))
local macro_rules | `(tactic| walk_at "own") => `(tactic| first | assumption | exact setO_same | (rw [setO_ne (by first | assumption | exact Ne.symm (by assumption))]; assumption) | (rw [setO_ne (by first | assumption | exact Ne.symm (by assumption))]; exact setO_same))
local macro_rules | `(tactic| walk_at "side") => `(tactic| first
  | assumption | rfl | exact flat_ints _ | exact atI0 | exact atI1 | exact atI2 | exact atI3 | decide | omega | (simp; done)
  | (refine cmodp ?_; omega) | (refine cdivw ?_ ?_ <;> omega) | (refine cmul_l ?_ ?_ <;> omega) | (refine cmul_r ?_ ?_ <;> omega) | (refine cpow ?_ ?_ ?_ <;> decide))
local macro_rules | `(tactic| walk_at "rr") => `(tactic| first
  | with_reducible exact r_int | with_reducible exact r_bl | with_reducible exact r_eqI | with_reducible exact r_neI | with_reducible exact r_eqB | with_reducible exact r_neB | with_reducible exact r_eqS | with_reducible exact r_neS
  | ((with_reducible apply r_intC); walk_at "side")
  | ((with_reducible apply r_ixL); walk_at "side") | ((with_reducible apply r_ixT); walk_at "side") | ((with_reducible apply r_ixS); walk_at "side") | ((with_reducible apply r_ixO); (focus walk_at "own"); (focus walk_at "side"))
  | ((with_reducible apply r_inT0) <;> walk_at "side") | ((with_reducible apply r_inL0) <;> walk_at "side") | ((with_reducible apply r_inT1) <;> walk_at "side") | ((with_reducible apply r_inL1) <;> walk_at "side")
  | ((with_reducible apply r_inO0); (focus walk_at "own"); (focus walk_at "side"); (focus walk_at "side")) | ((with_reducible apply r_inO1); (focus walk_at "own"); (focus walk_at "side"); (focus walk_at "side"))
  | ((with_reducible apply r_rep) <;> walk_at "side") | ((with_reducible apply r_cat) <;> walk_at "side")
  | ((with_reducible apply r_catA) <;> walk_at "side") | ((with_reducible apply r_catO); (focus walk_at "own"); (focus walk_at "side"))
  | ((with_reducible apply r_addS); (focus walk_at "side")) | with_reducible exact r_isN _ rfl | with_reducible exact r_notN _ rfl
  | ((with_reducible apply r_eqP); (focus walk_at "pl"); (focus walk_at "pl"); (focus decide); (focus decide)) | ((with_reducible apply r_neP); (focus walk_at "pl"); (focus walk_at "pl"); (focus decide); (focus decide)))
local macro_rules | `(tactic| walk_at "pl") => `(tactic| first | exact Pl.ints _ | exact Pl.intsL _ | exact Pl.nilT | exact Pl.nilL | exact Pl.int (n := 0) | assumption)
local macro_rules | `(tactic| walk_at "cc") => `(tactic| first
  | with_reducible exact c_lenL | with_reducible exact c_lenT | with_reducible exact c_lenS | ((with_reducible apply c_lenO); walk_at "own")
  | with_reducible exact c_listL | with_reducible exact c_listT | with_reducible exact c_tupL | with_reducible exact c_sum | with_reducible exact c_intB | with_reducible exact c_int1
  | with_reducible exact c_max2 | ((with_reducible apply c_strI); (focus walk_at "side")) | ((with_reducible apply c_lenStr); (focus walk_at "side"))
  | ((with_reducible apply c_isi); (focus rfl); (focus (first | decide +kernel | rfl))) | ((with_reducible apply c_isi2); (focus rfl); (focus (first | decide +kernel | rfl)); (focus (first | decide +kernel | rfl))))
local macro_rules | `(tactic| walk_at "ea") => `(tactic| first
  | with_reducible exact ea_nil
  | ((with_reducible apply ea_cons); (focus walk_at "ev"); (focus walk_at "ea"))
  | ((with_reducible apply ea_starT); (focus walk_at "ev"); (focus walk_at "ea")) | ((with_reducible apply ea_starL); (focus walk_at "ev"); (focus walk_at "ea")))
local macro_rules | `(tactic| walk_at "ev") => `(tactic| first
  | exact ev_var rfl | with_reducible exact ev_int | with_reducible exact ev_bl | with_reducible exact ev_str | with_reducible exact ev_non | with_reducible exact ev_ty | with_reducible exact ev_ref
  | ((with_reducible apply ev_op); (focus walk_at "ev"); (focus walk_at "ev"); (focus walk_at "rr"))
  | ((with_reducible apply ev_cb); (focus walk_at "ea"); (focus walk_at "cc"))
  | ((with_reducible apply ev_neg); (focus walk_at "ev"))
  | ((with_reducible apply ev_tup); (focus walk_at "ea"); (focus walk_at "side"))
  | ((with_reducible apply ev_lst); (focus walk_at "ea"); (focus walk_at "side"))
  | ((with_reducible apply ev_notV); (focus walk_at "ev"))
  | ((with_reducible apply ev_chain); (focus walk_at "ev"); (focus walk_at "ev"); (focus walk_at "rr"); (focus (intro _; walk_at "ev")); (focus (intro _; walk_at "rr")))
  | walk_at "evx")
local macro_rules | `(tactic| walk_at "et") => `(tactic| first
  | ((with_reducible apply et_test); walk_at "ev") | ((with_reducible apply et_B); walk_at "ev") | with_reducible exact et_yes
  | ((with_reducible apply et_not); walk_at "et")
  | ((with_reducible apply et_and); (focus walk_at "et"); (focus (intro _; walk_at "et")))
  | ((with_reducible apply et_or); (focus walk_at "et"); (focus (intro _; walk_at "et"))))
local macro_rules | `(tactic| walk_at "s1") => `(tactic| first
  | ((with_reducible apply sd_asg); (focus walk_at "ev"); walk_at "sl")
  | ((with_reducible apply sd_par); (focus walk_at "ea"); walk_at "sl")
  | ((with_reducible apply sd_setL); (focus walk_at "ev"); (focus walk_at "ev"); (focus walk_at "ev"); (focus walk_at "own"); (focus (first | exact ixN_of (k := 0) rfl (by simp) | exact ixN_of (k := 1) rfl (by simp) | exact ixN_of (k := 2) rfl (by simp) | exact ixN_of (k := 3) rfl (by simp) | assumption)); walk_at "sl")
  | ((with_reducible apply sd_app); (focus walk_at "ev"); (focus walk_at "own"); (focus walk_at "ev"); (focus walk_at "own"); (focus walk_at "side"); walk_at "sl")
  | ((with_reducible apply sd_ret); (focus walk_at "ev"))
  | with_reducible apply sd_next)
local macro_rules | `(tactic| walk_at "st") => `(tactic| first | ((with_reducible apply sd_seq); walk_at "s1") | walk_at "s1")
local macro_rules | `(tactic| walk_at "R") => `(tactic| first
  | exact ⟨_, rfl, rfl, rfl⟩ | exact ⟨_, _, rfl, rfl, rfl⟩ | exact ⟨_, _, _, rfl, rfl, rfl⟩ | exact ⟨_, _, _, _, rfl, rfl, rfl⟩
  | exact ⟨_, rfl, by assumption, rfl, rfl⟩ | exact ⟨_, _, rfl, by assumption, rfl, rfl⟩ | exact ⟨_, _, _, rfl, by assumption, rfl, rfl⟩ | exact ⟨_, _, _, _, rfl, by assumption, rfl, rfl⟩
  | exact ⟨_, _, rfl, by assumption, by assumption, rfl, rfl⟩ | exact ⟨_, _, _, rfl, by assumption, by assumption, rfl, rfl⟩ | exact ⟨_, _, _, _, rfl, by assumption, by assumption, rfl, rfl⟩)
local macro_rules | `(tactic| walk_at "evx") => `(tactic| first
  | ((with_reducible apply ev_run); (focus walk_at "ea"); walk_at "R")
  | ((with_reducible apply ev_propR); (focus walk_at "ev"); walk_at "R")
  | ((with_reducible apply ev_fld); (focus walk_at "ev"); (focus walk_at "cls"); (focus walk_at "cls"); (focus rfl))
  | ((with_reducible apply ev_ownIn0); (focus walk_at "ev"); (focus walk_at "ev"); walk_at "R")
  | ((with_reducible apply ev_slL); (focus walk_at "ev"); (focus walk_at "eo"); (focus walk_at "eo"))
  | ((with_reducible apply ev_slT); (focus walk_at "ev"); (focus walk_at "eo"); (focus walk_at "eo"))
  | ((with_reducible apply ev_cvalI); (focus walk_at "ev"); (focus walk_at "cls"); (focus walk_at "cls")))
local macro_rules | `(tactic| walk_at "eo") => `(tactic| first | with_reducible exact eo_none | ((with_reducible apply eo_some); walk_at "ev"))
def top (i : Nat) : Stmt := PySem.Challenge.pw_oddcents_k09_observers_by_search.main.body.getD i (.Pass ⟨0, 0, 0, 0⟩)
abbrev s_Bill_seats : Stmt := (inClass (top 17) 3)
abbrev s_is_integer : Stmt := (top 16)
abbrev s_Evening_Dinit : Stmt := (inClass (top 20) 1)
abbrev s_Evening_Dlen : Stmt := (inClass (top 20) 5)
abbrev s_Evening_seat_count : Stmt := (inClass (top 20) 3)
abbrev s_MarkObserver_Dinit : Stmt := (inClass (top 28) 0)
abbrev s_MarkObserver_possible_marks : Stmt := (inClass (top 28) 3)
abbrev s_MarkObserver_records : Stmt := (inClass (top 28) 4)
abbrev s_Evening_bills : Stmt := (inClass (top 20) 4)
abbrev s_Shares_Dinit : Stmt := (inClass (top 11) 0)
abbrev s_Bill_Dcontains : Stmt := (inClass (top 17) 5)
abbrev s_Bill_amount : Stmt := (inClass (top 17) 2)
abbrev s_Bill_odd_cents : Stmt := (inClass (top 17) 4)
abbrev s_payers : Stmt := (top 18)
abbrev s_pay : Stmt := (top 19)
abbrev s_played : Stmt := (top 22)
abbrev s_Course_Dinit : Stmt := (inClass (top 23) 0)
abbrev s_Shares_Dadd : Stmt := (inClass (top 11) 7)
abbrev s_no_shares : Stmt := (top 12)
abbrev s_Course_ring_shares : Stmt := (inClass (top 23) 1)
abbrev s_Shares_Dmul : Stmt := (inClass (top 11) 9)
abbrev s_Course_after : Stmt := (inClass (top 23) 2)
abbrev s_Evening_Dgetitem : Stmt := (inClass (top 20) 7)
abbrev s_MarkObserver_paid : Stmt := (inClass (top 28) 1)
abbrev s_validate_seat : Stmt := (top 26)
abbrev s_MarkObserver_see : Stmt := (inClass (top 28) 2)
abbrev s_law_paid : Stmt := (top 37)
abbrev s_validate_mark : Stmt := (top 21)
abbrev s_repeated : Stmt := (top 24)
abbrev s_law_cents : Stmt := (top 39)
abbrev s_law_drawn : Stmt := (top 31)
abbrev s_Evening_Dadd : Stmt := (inClass (top 20) 9)
abbrev s_Bill_Dinit : Stmt := (inClass (top 17) 1)
abbrev s_law_bill : Stmt := (top 35)
abbrev s_law_evening : Stmt := (top 36)
abbrev s_law_outcome : Stmt := (top 33)
abbrev s_law_rows : Stmt := (top 34)
abbrev s_law_same : Stmt := (top 32)
abbrev s_law_start : Stmt := (top 30)
abbrev s_law : Stmt := (top 40)
abbrev N_Bill_seats : List Str := ["self"]
theorem sc_Bill_seats : FnScope ["self"] ["self"] (defScope s_Bill_seats) := ⟨rfl, rfl, rfl, by decide +kernel, rfl, by decide +kernel, by decide +kernel⟩
abbrev N_is_integer : List Str := ["value"]
theorem sc_is_integer : FnScope ["value"] ["value"] (defScope s_is_integer) := ⟨rfl, rfl, rfl, by decide +kernel, rfl, by decide +kernel, by decide +kernel⟩
abbrev N_Evening_Dinit : List Str := ["self", "seat_count", "bills", "index", "bill"]
theorem sc_Evening_Dinit : FnScope ["self", "seat_count", "bills", "index", "bill"] ((["self", "seat_count"] : List Str) ++ (["bills"] : List Str)) (defScope s_Evening_Dinit) := ⟨rfl, rfl, rfl, by decide +kernel, rfl, by decide +kernel, by decide +kernel⟩
abbrev N_Evening_Dlen : List Str := ["self"]
theorem sc_Evening_Dlen : FnScope ["self"] ["self"] (defScope s_Evening_Dlen) := ⟨rfl, rfl, rfl, by decide +kernel, rfl, by decide +kernel, by decide +kernel⟩
abbrev N_Evening_seat_count : List Str := ["self"]
theorem sc_Evening_seat_count : FnScope ["self"] ["self"] (defScope s_Evening_seat_count) := ⟨rfl, rfl, rfl, by decide +kernel, rfl, by decide +kernel, by decide +kernel⟩
abbrev N_MarkObserver_Dinit : List Str := ["self", "evening"]
theorem sc_MarkObserver_Dinit : FnScope ["self", "evening"] ["self", "evening"] (defScope s_MarkObserver_Dinit) := ⟨rfl, rfl, rfl, by decide +kernel, rfl, by decide +kernel, by decide +kernel⟩
abbrev N_MarkObserver_possible_marks : List Str := ["self"]
theorem sc_MarkObserver_possible_marks : FnScope ["self"] ["self"] (defScope s_MarkObserver_possible_marks) := ⟨rfl, rfl, rfl, by decide +kernel, rfl, by decide +kernel, by decide +kernel⟩
abbrev N_MarkObserver_records : List Str := ["self"]
theorem sc_MarkObserver_records : FnScope ["self"] ["self"] (defScope s_MarkObserver_records) := ⟨rfl, rfl, rfl, by decide +kernel, rfl, by decide +kernel, by decide +kernel⟩
abbrev N_Evening_bills : List Str := ["self"]
theorem sc_Evening_bills : FnScope ["self"] ["self"] (defScope s_Evening_bills) := ⟨rfl, rfl, rfl, by decide +kernel, rfl, by decide +kernel, by decide +kernel⟩
abbrev N_Shares_Dinit : List Str := ["self", "cents"]
theorem sc_Shares_Dinit : FnScope ["self", "cents"] ((["self"] : List Str) ++ (["cents"] : List Str)) (defScope s_Shares_Dinit) := ⟨rfl, rfl, rfl, by decide +kernel, rfl, by decide +kernel, by decide +kernel⟩
abbrev N_Bill_Dcontains : List Str := ["self", "seat"]
theorem sc_Bill_Dcontains : FnScope ["self", "seat"] ["self", "seat"] (defScope s_Bill_Dcontains) := ⟨rfl, rfl, rfl, by decide +kernel, rfl, by decide +kernel, by decide +kernel⟩
abbrev N_Bill_amount : List Str := ["self"]
theorem sc_Bill_amount : FnScope ["self"] ["self"] (defScope s_Bill_amount) := ⟨rfl, rfl, rfl, by decide +kernel, rfl, by decide +kernel, by decide +kernel⟩
abbrev N_Bill_odd_cents : List Str := ["self"]
theorem sc_Bill_odd_cents : FnScope ["self"] ["self"] (defScope s_Bill_odd_cents) := ⟨rfl, rfl, rfl, by decide +kernel, rfl, by decide +kernel, by decide +kernel⟩
abbrev N_payers : List Str := ["bill", "mark", "behind", "ahead", "seat"]
theorem sc_payers : FnScope ["bill", "mark", "behind", "ahead", "seat"] ["bill", "mark"] (defScope s_payers) := ⟨rfl, rfl, rfl, by decide +kernel, rfl, by decide +kernel, by decide +kernel⟩
abbrev N_pay : List Str := ["bill", "count", "mark", "odd", "even", "cents", "seat"]
theorem sc_pay : FnScope ["bill", "count", "mark", "odd", "even", "cents", "seat"] ["bill", "count", "mark"] (defScope s_pay) := ⟨rfl, rfl, rfl, by decide +kernel, rfl, by decide +kernel, by decide +kernel⟩
abbrev N_played : List Str := ["evening", "mark", "totals", "bill", "cents", "one", "another"]
theorem sc_played : FnScope ["evening", "mark", "totals", "bill", "cents", "one", "another"] ["evening", "mark"] (defScope s_played) := ⟨rfl, rfl, rfl, by decide +kernel, rfl, by decide +kernel, by decide +kernel⟩
abbrev N_Course_Dinit : List Str := ["self", "evening", "mark", "shares"]
theorem sc_Course_Dinit : FnScope ["self", "evening", "mark", "shares"] ["self", "evening", "mark"] (defScope s_Course_Dinit) := ⟨rfl, rfl, rfl, by decide +kernel, rfl, by decide +kernel, by decide +kernel⟩
abbrev N_Shares_Dadd : List Str := ["self", "other", "both", "one", "another"]
theorem sc_Shares_Dadd : FnScope ["self", "other", "both", "one", "another"] ["self", "other"] (defScope s_Shares_Dadd) := ⟨rfl, rfl, rfl, by decide +kernel, rfl, by decide +kernel, by decide +kernel⟩
abbrev N_no_shares : List Str := ["count", "nothing"]
theorem sc_no_shares : FnScope ["count", "nothing"] ["count"] (defScope s_no_shares) := ⟨rfl, rfl, rfl, by decide +kernel, rfl, by decide +kernel, by decide +kernel⟩
abbrev N_Course_ring_shares : List Str := ["self", "found", "shares"]
theorem sc_Course_ring_shares : FnScope ["self", "found", "shares"] ["self"] (defScope s_Course_ring_shares) := ⟨rfl, rfl, rfl, by decide +kernel, rfl, by decide +kernel, by decide +kernel⟩
abbrev N_Shares_Dmul : List Str := ["self", "times", "many", "cents"]
theorem sc_Shares_Dmul : FnScope ["self", "times", "many", "cents"] ["self", "times"] (defScope s_Shares_Dmul) := ⟨rfl, rfl, rfl, by decide +kernel, rfl, by decide +kernel, by decide +kernel⟩
abbrev N_Course_after : List Str := ["self", "times", "size", "turns", "found", "rest", "shares"]
theorem sc_Course_after : FnScope ["self", "times", "size", "turns", "found", "rest", "shares"] ["self", "times"] (defScope s_Course_after) := ⟨rfl, rfl, rfl, by decide +kernel, rfl, by decide +kernel, by decide +kernel⟩
abbrev N_Evening_Dgetitem : List Str := ["self", "index"]
theorem sc_Evening_Dgetitem : FnScope ["self", "index"] ["self", "index"] (defScope s_Evening_Dgetitem) := ⟨rfl, rfl, rfl, by decide +kernel, rfl, by decide +kernel, by decide +kernel⟩
abbrev N_MarkObserver_paid : List Str := ["self", "mark", "number", "seat", "times", "index", "place", "bill"]
theorem sc_MarkObserver_paid : FnScope ["self", "mark", "number", "seat", "times", "index", "place", "bill"] ["self", "mark", "number", "seat"] (defScope s_MarkObserver_paid) := ⟨rfl, rfl, rfl, by decide +kernel, rfl, by decide +kernel, by decide +kernel⟩
abbrev N_validate_seat : List Str := ["evening", "seat"]
theorem sc_validate_seat : FnScope ["evening", "seat"] ["evening", "seat"] (defScope s_validate_seat) := ⟨rfl, rfl, rfl, by decide +kernel, rfl, by decide +kernel, by decide +kernel⟩
abbrev N_MarkObserver_see : List Str := ["self", "number", "seat", "cents", "left", "mark"]
theorem sc_MarkObserver_see : FnScope ["self", "number", "seat", "cents", "left", "mark"] ["self", "number", "seat", "cents"] (defScope s_MarkObserver_see) := ⟨rfl, rfl, rfl, by decide +kernel, rfl, by decide +kernel, by decide +kernel⟩
abbrev N_law_paid : List Str := ["_law_count", "_law_rows_here", "_law_mark", "_law_table", "_law_amount", "_law_there", "_law_cents_here", "_law_left", "_law_seat", "_law_place"]
theorem sc_law_paid : FnScope ["_law_count", "_law_rows_here", "_law_mark", "_law_table", "_law_amount", "_law_there", "_law_cents_here", "_law_left", "_law_seat", "_law_place"] ["_law_count", "_law_rows_here", "_law_mark"] (defScope s_law_paid) := ⟨rfl, rfl, rfl, by decide +kernel, rfl, by decide +kernel, by decide +kernel⟩
abbrev N_validate_mark : List Str := ["evening", "mark"]
theorem sc_validate_mark : FnScope ["evening", "mark"] ["evening", "mark"] (defScope s_validate_mark) := ⟨rfl, rfl, rfl, by decide +kernel, rfl, by decide +kernel, by decide +kernel⟩
abbrev N_repeated : List Str := ["evening", "mark", "times"]
theorem sc_repeated : FnScope ["evening", "mark", "times"] ["evening", "mark", "times"] (defScope s_repeated) := ⟨rfl, rfl, rfl, by decide +kernel, rfl, by decide +kernel, by decide +kernel⟩
abbrev N_law_cents : List Str := ["_law_evening_here", "_law_count", "_law_rows_here", "_law_mark", "_law_number", "_law_place", "_law_index"]
theorem sc_law_cents : FnScope ["_law_evening_here", "_law_count", "_law_rows_here", "_law_mark", "_law_number", "_law_place", "_law_index"] ["_law_evening_here", "_law_count", "_law_rows_here", "_law_mark", "_law_number"] (defScope s_law_cents) := ⟨rfl, rfl, rfl, by decide +kernel, rfl, by decide +kernel, by decide +kernel⟩
abbrev N_law_drawn : List Str := ["_law_state", "_law_count", "_law_result", "_law_cell"]
theorem sc_law_drawn : FnScope ["_law_state", "_law_count", "_law_result", "_law_cell"] ["_law_state", "_law_count"] (defScope s_law_drawn) := ⟨rfl, rfl, rfl, by decide +kernel, rfl, by decide +kernel, by decide +kernel⟩
abbrev N_Evening_Dadd : List Str := ["self", "other", "bills"]
theorem sc_Evening_Dadd : FnScope ["self", "other", "bills"] ["self", "other"] (defScope s_Evening_Dadd) := ⟨rfl, rfl, rfl, by decide +kernel, rfl, by decide +kernel, by decide +kernel⟩
abbrev N_Bill_Dinit : List Str := ["self", "amount", "seats", "index", "seat"]
theorem sc_Bill_Dinit : FnScope ["self", "amount", "seats", "index", "seat"] ((["self", "amount"] : List Str) ++ (["seats"] : List Str)) (defScope s_Bill_Dinit) := ⟨rfl, rfl, rfl, by decide +kernel, rfl, by decide +kernel, by decide +kernel⟩
abbrev N_law_bill : List Str := ["_law_row", "_law_amount", "_law_there", "_law_result"]
theorem sc_law_bill : FnScope ["_law_row", "_law_amount", "_law_there", "_law_result"] ["_law_row"] (defScope s_law_bill) := ⟨rfl, rfl, rfl, by decide +kernel, rfl, by decide +kernel, by decide +kernel⟩
abbrev N_law_evening : List Str := ["_law_count", "_law_rows_here", "_law_result", "_law_row"]
theorem sc_law_evening : FnScope ["_law_count", "_law_rows_here", "_law_result", "_law_row"] ["_law_count", "_law_rows_here"] (defScope s_law_evening) := ⟨rfl, rfl, rfl, by decide +kernel, rfl, by decide +kernel, by decide +kernel⟩
abbrev N_law_outcome : List Str := ["_law_work"]
theorem sc_law_outcome : FnScope ["_law_work"] ["_law_work"] (defScope s_law_outcome) := ⟨rfl, rfl, rfl, by decide +kernel, rfl, by decide +kernel, by decide +kernel⟩
abbrev N_law_rows : List Str := ["_law_state", "_law_count", "_law_most", "_law_rows_here", "_law_k", "_law_there", "_law_seat"]
theorem sc_law_rows : FnScope ["_law_state", "_law_count", "_law_most", "_law_rows_here", "_law_k", "_law_there", "_law_seat"] ["_law_state", "_law_count", "_law_most"] (defScope s_law_rows) := ⟨rfl, rfl, rfl, by decide +kernel, rfl, by decide +kernel, by decide +kernel⟩
abbrev N_law_same : List Str := ["_law_result", "_law_expected", "_law_k"]
theorem sc_law_same : FnScope ["_law_result", "_law_expected", "_law_k"] ["_law_result", "_law_expected"] (defScope s_law_same) := ⟨rfl, rfl, rfl, by decide +kernel, rfl, by decide +kernel, by decide +kernel⟩
abbrev N_law_start : List Str := ["_law_script", "_law_mixed", "_law_cell"]
theorem sc_law_start : FnScope ["_law_script", "_law_mixed", "_law_cell"] ["_law_script"] (defScope s_law_start) := ⟨rfl, rfl, rfl, by decide +kernel, rfl, by decide +kernel, by decide +kernel⟩
abbrev N_law : List Str := ["_law_script", "_law_state", "_law_turn", "_law_count", "_law_rows_here", "_law_evening_here", "_law_records", "_law_observer", "_law_marks", "_law_hidden", "_law_more", "_law_number", "_law_seat", "_law_told", "_law_mark", "_law_cents_here", "_law_left", "_law_found", "_law_works", "_law_expected", "_law_work"]
theorem sc_law : FnScope ["_law_script", "_law_state", "_law_turn", "_law_count", "_law_rows_here", "_law_evening_here", "_law_records", "_law_observer", "_law_marks", "_law_hidden", "_law_more", "_law_number", "_law_seat", "_law_told", "_law_mark", "_law_cents_here", "_law_left", "_law_found", "_law_works", "_law_expected", "_law_work"] ["_law_script"] (defScope s_law) := ⟨rfl, rfl, rfl, by decide +kernel, rfl, by decide +kernel, by decide +kernel⟩
structure Ad where
  c_Shares : Addr
  c_Bill : Addr
  c_Evening : Addr
  c_Course : Addr
  c_MarkObserver : Addr
  c_Contradiction : Addr
  c_InvalidNumber : Addr
  c_UnknownSeat : Addr
  mc_Bill : Value
  mc_Evening : Value
  f_Bill_seats : Addr
  f_is_integer : Addr
  f_Evening_Dinit : Addr
  f_Evening_Dlen : Addr
  f_Evening_seat_count : Addr
  f_MarkObserver_Dinit : Addr
  f_MarkObserver_possible_marks : Addr
  f_MarkObserver_records : Addr
  f_Evening_bills : Addr
  f_Shares_Dinit : Addr
  f_Bill_Dcontains : Addr
  f_Bill_amount : Addr
  f_Bill_odd_cents : Addr
  f_payers : Addr
  f_pay : Addr
  f_played : Addr
  f_Course_Dinit : Addr
  f_Shares_Dadd : Addr
  f_no_shares : Addr
  f_Course_ring_shares : Addr
  f_Shares_Dmul : Addr
  f_Course_after : Addr
  f_Evening_Dgetitem : Addr
  f_MarkObserver_paid : Addr
  f_validate_seat : Addr
  f_MarkObserver_see : Addr
  f_law_paid : Addr
  f_validate_mark : Addr
  f_repeated : Addr
  f_law_cents : Addr
  f_law_drawn : Addr
  f_Evening_Dadd : Addr
  f_Bill_Dinit : Addr
  f_law_bill : Addr
  f_law_evening : Addr
  f_law_outcome : Addr
  f_law_rows : Addr
  f_law_same : Addr
  f_law_start : Addr
  f_law : Addr
  cc_law : Addr
  tb_law : Addr
  p_Bill_seats : Addr
  p_Evening_seat_count : Addr
  p_MarkObserver_possible_marks : Addr
  p_MarkObserver_records : Addr
  p_Evening_bills : Addr
  p_Bill_amount : Addr
  p_Bill_odd_cents : Addr
  t_MAX_CENTS : Tok
  t_MAX_TIMES : Tok
  u_Bill_MAX_SEATS : Tok
  u_Evening_MAX_BILLS : Tok
structure Tx (K : PySem.W.Frag) (mg : Str → Option Value) (A : Ad) : Prop where
  F_Bill_seats : ∃ fd, Fun K "seats" "Bill.seats" s_Bill_seats A.f_Bill_seats fd ∧ Binds K fd ["self"] []
  F_is_integer : ∃ fd, Fun K "is_integer" "is_integer" s_is_integer A.f_is_integer fd ∧ Binds K fd ["value"] []
  k_is_integer : PySem.W.keepIn K (.ref A.f_is_integer) = true
  g_is_integer : mg "is_integer" = some (.ref A.f_is_integer)
  F_Evening_Dinit : ∃ fd, Fun K "__init__" "Evening.__init__" s_Evening_Dinit A.f_Evening_Dinit fd ∧ (∀ us rest : List Value, us.length = (["self", "seat_count"] : List Str).length → bindArgs fd ⟨us ++ rest, []⟩ = (newTuple rest >>= fun t => pure ((["self", "seat_count"] : List Str).zip us ++ [(("bills" : Str), t)])))
  F_Evening_Dlen : ∃ fd, Fun K "__len__" "Evening.__len__" s_Evening_Dlen A.f_Evening_Dlen fd ∧ Binds K fd ["self"] []
  F_Evening_seat_count : ∃ fd, Fun K "seat_count" "Evening.seat_count" s_Evening_seat_count A.f_Evening_seat_count fd ∧ Binds K fd ["self"] []
  F_MarkObserver_Dinit : ∃ fd, Fun K "__init__" "MarkObserver.__init__" s_MarkObserver_Dinit A.f_MarkObserver_Dinit fd ∧ Binds K fd ["self", "evening"] []
  F_MarkObserver_possible_marks : ∃ fd, Fun K "possible_marks" "MarkObserver.possible_marks" s_MarkObserver_possible_marks A.f_MarkObserver_possible_marks fd ∧ Binds K fd ["self"] []
  F_MarkObserver_records : ∃ fd, Fun K "records" "MarkObserver.records" s_MarkObserver_records A.f_MarkObserver_records fd ∧ Binds K fd ["self"] []
  F_Evening_bills : ∃ fd, Fun K "bills" "Evening.bills" s_Evening_bills A.f_Evening_bills fd ∧ Binds K fd ["self"] []
  F_Shares_Dinit : ∃ fd, Fun K "__init__" "Shares.__init__" s_Shares_Dinit A.f_Shares_Dinit fd ∧ (∀ us rest : List Value, us.length = (["self"] : List Str).length → bindArgs fd ⟨us ++ rest, []⟩ = (newTuple rest >>= fun t => pure ((["self"] : List Str).zip us ++ [(("cents" : Str), t)])))
  F_Bill_Dcontains : ∃ fd, Fun K "__contains__" "Bill.__contains__" s_Bill_Dcontains A.f_Bill_Dcontains fd ∧ Binds K fd ["self", "seat"] []
  F_Bill_amount : ∃ fd, Fun K "amount" "Bill.amount" s_Bill_amount A.f_Bill_amount fd ∧ Binds K fd ["self"] []
  F_Bill_odd_cents : ∃ fd, Fun K "odd_cents" "Bill.odd_cents" s_Bill_odd_cents A.f_Bill_odd_cents fd ∧ Binds K fd ["self"] []
  F_payers : ∃ fd, Fun K "payers" "payers" s_payers A.f_payers fd ∧ Binds K fd ["bill", "mark"] []
  k_payers : PySem.W.keepIn K (.ref A.f_payers) = true
  g_payers : mg "payers" = some (.ref A.f_payers)
  F_pay : ∃ fd, Fun K "pay" "pay" s_pay A.f_pay fd ∧ Binds K fd ["bill", "count", "mark"] []
  k_pay : PySem.W.keepIn K (.ref A.f_pay) = true
  g_pay : mg "pay" = some (.ref A.f_pay)
  F_played : ∃ fd, Fun K "played" "played" s_played A.f_played fd ∧ Binds K fd ["evening", "mark"] []
  k_played : PySem.W.keepIn K (.ref A.f_played) = true
  g_played : mg "played" = some (.ref A.f_played)
  F_Course_Dinit : ∃ fd, Fun K "__init__" "Course.__init__" s_Course_Dinit A.f_Course_Dinit fd ∧ Binds K fd ["self", "evening", "mark"] []
  F_Shares_Dadd : ∃ fd, Fun K "__add__" "Shares.__add__" s_Shares_Dadd A.f_Shares_Dadd fd ∧ Binds K fd ["self", "other"] []
  F_no_shares : ∃ fd, Fun K "no_shares" "no_shares" s_no_shares A.f_no_shares fd ∧ Binds K fd ["count"] []
  k_no_shares : PySem.W.keepIn K (.ref A.f_no_shares) = true
  g_no_shares : mg "no_shares" = some (.ref A.f_no_shares)
  F_Course_ring_shares : ∃ fd, Fun K "ring_shares" "Course.ring_shares" s_Course_ring_shares A.f_Course_ring_shares fd ∧ Binds K fd ["self"] []
  F_Shares_Dmul : ∃ fd, Fun K "__mul__" "Shares.__mul__" s_Shares_Dmul A.f_Shares_Dmul fd ∧ Binds K fd ["self", "times"] []
  F_Course_after : ∃ fd, Fun K "after" "Course.after" s_Course_after A.f_Course_after fd ∧ Binds K fd ["self", "times"] []
  F_Evening_Dgetitem : ∃ fd, Fun K "__getitem__" "Evening.__getitem__" s_Evening_Dgetitem A.f_Evening_Dgetitem fd ∧ Binds K fd ["self", "index"] []
  F_MarkObserver_paid : ∃ fd, Fun K "paid" "MarkObserver.paid" s_MarkObserver_paid A.f_MarkObserver_paid fd ∧ Binds K fd ["self", "mark", "number", "seat"] []
  F_validate_seat : ∃ fd, Fun K "validate_seat" "validate_seat" s_validate_seat A.f_validate_seat fd ∧ Binds K fd ["evening", "seat"] []
  k_validate_seat : PySem.W.keepIn K (.ref A.f_validate_seat) = true
  g_validate_seat : mg "validate_seat" = some (.ref A.f_validate_seat)
  F_MarkObserver_see : ∃ fd, Fun K "see" "MarkObserver.see" s_MarkObserver_see A.f_MarkObserver_see fd ∧ Binds K fd ["self", "number", "seat", "cents"] []
  F_law_paid : ∃ fd, Fun K "_law_paid" "_law_paid" s_law_paid A.f_law_paid fd ∧ Binds K fd ["_law_count", "_law_rows_here", "_law_mark"] []
  k_law_paid : PySem.W.keepIn K (.ref A.f_law_paid) = true
  g__law_paid : mg "_law_paid" = some (.ref A.f_law_paid)
  F_validate_mark : ∃ fd, Fun K "validate_mark" "validate_mark" s_validate_mark A.f_validate_mark fd ∧ Binds K fd ["evening", "mark"] []
  k_validate_mark : PySem.W.keepIn K (.ref A.f_validate_mark) = true
  g_validate_mark : mg "validate_mark" = some (.ref A.f_validate_mark)
  F_repeated : ∃ fd, Fun K "repeated" "repeated" s_repeated A.f_repeated fd ∧ Binds K fd ["evening", "mark", "times"] []
  k_repeated : PySem.W.keepIn K (.ref A.f_repeated) = true
  g_repeated : mg "repeated" = some (.ref A.f_repeated)
  F_law_cents : ∃ fd, Fun K "_law_cents" "_law_cents" s_law_cents A.f_law_cents fd ∧ Binds K fd ["_law_evening_here", "_law_count", "_law_rows_here", "_law_mark", "_law_number"] []
  k_law_cents : PySem.W.keepIn K (.ref A.f_law_cents) = true
  g__law_cents : mg "_law_cents" = some (.ref A.f_law_cents)
  F_law_drawn : ∃ fd, Fun K "_law_drawn" "_law_drawn" s_law_drawn A.f_law_drawn fd ∧ Binds K fd ["_law_state", "_law_count"] []
  k_law_drawn : PySem.W.keepIn K (.ref A.f_law_drawn) = true
  g__law_drawn : mg "_law_drawn" = some (.ref A.f_law_drawn)
  F_Evening_Dadd : ∃ fd, Fun K "__add__" "Evening.__add__" s_Evening_Dadd A.f_Evening_Dadd fd ∧ Binds K fd ["self", "other"] []
  F_Bill_Dinit : ∃ fd, Fun K "__init__" "Bill.__init__" s_Bill_Dinit A.f_Bill_Dinit fd ∧ (∀ us rest : List Value, us.length = (["self", "amount"] : List Str).length → bindArgs fd ⟨us ++ rest, []⟩ = (newTuple rest >>= fun t => pure ((["self", "amount"] : List Str).zip us ++ [(("seats" : Str), t)])))
  F_law_bill : ∃ fd, Fun K "_law_bill" "_law_bill" s_law_bill A.f_law_bill fd ∧ Binds K fd ["_law_row"] []
  k_law_bill : PySem.W.keepIn K (.ref A.f_law_bill) = true
  g__law_bill : mg "_law_bill" = some (.ref A.f_law_bill)
  F_law_evening : ∃ fd, Fun K "_law_evening" "_law_evening" s_law_evening A.f_law_evening fd ∧ Binds K fd ["_law_count", "_law_rows_here"] []
  k_law_evening : PySem.W.keepIn K (.ref A.f_law_evening) = true
  g__law_evening : mg "_law_evening" = some (.ref A.f_law_evening)
  F_law_outcome : ∃ fd, Fun K "_law_outcome" "_law_outcome" s_law_outcome A.f_law_outcome fd ∧ Binds K fd ["_law_work"] []
  k_law_outcome : PySem.W.keepIn K (.ref A.f_law_outcome) = true
  g__law_outcome : mg "_law_outcome" = some (.ref A.f_law_outcome)
  F_law_rows : ∃ fd, Fun K "_law_rows" "_law_rows" s_law_rows A.f_law_rows fd ∧ Binds K fd ["_law_state", "_law_count", "_law_most"] []
  k_law_rows : PySem.W.keepIn K (.ref A.f_law_rows) = true
  g__law_rows : mg "_law_rows" = some (.ref A.f_law_rows)
  F_law_same : ∃ fd, Fun K "_law_same" "_law_same" s_law_same A.f_law_same fd ∧ Binds K fd ["_law_result", "_law_expected"] []
  k_law_same : PySem.W.keepIn K (.ref A.f_law_same) = true
  g__law_same : mg "_law_same" = some (.ref A.f_law_same)
  F_law_start : ∃ fd, Fun K "_law_start" "_law_start" s_law_start A.f_law_start fd ∧ Binds K fd ["_law_script"] []
  k_law_start : PySem.W.keepIn K (.ref A.f_law_start) = true
  g__law_start : mg "_law_start" = some (.ref A.f_law_start)
  F_law : ∃ fd, Fun K "law" "law" s_law A.f_law fd ∧ Binds K fd ["_law_script"] [] ∧ fd.code = .ref A.cc_law
  g_Bill : mg "Bill" = some (.ref A.c_Bill)
  g_Course : mg "Course" = some (.ref A.c_Course)
  g_Evening : mg "Evening" = some (.ref A.c_Evening)
  g_MAX_CENTS : mg "MAX_CENTS" = some (.int 1000000000000 A.t_MAX_CENTS)
  g_MAX_TIMES : mg "MAX_TIMES" = some (.int 1000000000000000000 A.t_MAX_TIMES)
  g_MarkObserver : mg "MarkObserver" = some (.ref A.c_MarkObserver)
  g_Shares : mg "Shares" = some (.ref A.c_Shares)
  g_Contradiction : mg "Contradiction" = some (.ref A.c_Contradiction)
  xc_Contradiction : XC K A.c_Contradiction
  g_InvalidNumber : mg "InvalidNumber" = some (.ref A.c_InvalidNumber)
  xc_InvalidNumber : XC K A.c_InvalidNumber
  g_UnknownSeat : mg "UnknownSeat" = some (.ref A.c_UnknownSeat)
  xc_UnknownSeat : XC K A.c_UnknownSeat
  xe_Contradiction_Contradiction : PySem.W.exmOne K (.ref A.c_Contradiction) (.ref A.c_Contradiction) = some true
  xe_Contradiction_InvalidNumber : PySem.W.exmOne K (.ref A.c_Contradiction) (.ref A.c_InvalidNumber) = some false
  xe_Contradiction_UnknownSeat : PySem.W.exmOne K (.ref A.c_Contradiction) (.ref A.c_UnknownSeat) = some false
  xe_InvalidNumber_Contradiction : PySem.W.exmOne K (.ref A.c_InvalidNumber) (.ref A.c_Contradiction) = some false
  xe_InvalidNumber_InvalidNumber : PySem.W.exmOne K (.ref A.c_InvalidNumber) (.ref A.c_InvalidNumber) = some true
  xe_InvalidNumber_UnknownSeat : PySem.W.exmOne K (.ref A.c_InvalidNumber) (.ref A.c_UnknownSeat) = some false
  xe_UnknownSeat_Contradiction : PySem.W.exmOne K (.ref A.c_UnknownSeat) (.ref A.c_Contradiction) = some false
  xe_UnknownSeat_InvalidNumber : PySem.W.exmOne K (.ref A.c_UnknownSeat) (.ref A.c_InvalidNumber) = some false
  xe_UnknownSeat_UnknownSeat : PySem.W.exmOne K (.ref A.c_UnknownSeat) (.ref A.c_UnknownSeat) = some true
  b_bool : mg "bool" = none
  b_enumerate : mg "enumerate" = none
  b_int : mg "int" = none
  b_isinstance : mg "isinstance" = none
  b_len : mg "len" = none
  b_list : mg "list" = none
  b_max : mg "max" = none
  b_range : mg "range" = none
  b_tuple : mg "tuple" = none
  b_zip : mg "zip" = none
  cl_Shares : Cls K A.c_Shares
  mk_Shares : Mk K A.c_Shares A.f_Shares_Dinit
  na_Shares_amounts : NoAttr K A.c_Shares "amounts"
  sf_Shares : PySem.W.selfFirst K A.c_Shares = true
  cl_Bill : Cls K A.c_Bill
  mk_Bill : Mk K A.c_Bill A.f_Bill_Dinit
  na_Bill_total : NoAttr K A.c_Bill "total"
  na_Bill_there : NoAttr K A.c_Bill "there"
  cr_Bill : ClX.CRead K A.c_Bill A.mc_Bill
  cv_Bill_MAX_SEATS : ClX.CVal K A.c_Bill A.mc_Bill "MAX_SEATS" (.int 8) (.int 8 A.u_Bill_MAX_SEATS)
  sf_Bill : PySem.W.selfFirst K A.c_Bill = true
  cl_Evening : Cls K A.c_Evening
  mk_Evening : Mk K A.c_Evening A.f_Evening_Dinit
  na_Evening_size : NoAttr K A.c_Evening "size"
  na_Evening_parts : NoAttr K A.c_Evening "parts"
  cr_Evening : ClX.CRead K A.c_Evening A.mc_Evening
  cv_Evening_MAX_BILLS : ClX.CVal K A.c_Evening A.mc_Evening "MAX_BILLS" (.int 30) (.int 30 A.u_Evening_MAX_BILLS)
  sf_Evening : PySem.W.selfFirst K A.c_Evening = true
  cl_Course : Cls K A.c_Course
  mk_Course : Mk K A.c_Course A.f_Course_Dinit
  na_Course_marks : NoAttr K A.c_Course "marks"
  na_Course_rows : NoAttr K A.c_Course "rows"
  na_Course_ring : NoAttr K A.c_Course "ring"
  na_Course_evening : NoAttr K A.c_Course "evening"
  sf_Course : PySem.W.selfFirst K A.c_Course = true
  cl_MarkObserver : Cls K A.c_MarkObserver
  mk_MarkObserver : Mk K A.c_MarkObserver A.f_MarkObserver_Dinit
  na_MarkObserver_evening : NoAttr K A.c_MarkObserver "evening"
  na_MarkObserver_left : NoAttr K A.c_MarkObserver "left"
  na_MarkObserver_accepted : NoAttr K A.c_MarkObserver "accepted"
  sf_MarkObserver : PySem.W.selfFirst K A.c_MarkObserver = true
  dr_Shares_Dmul : PySem.W.findIn K (.ref A.c_Shares) "__rmul__" = some none
  i1_mul : PySem.W.findIn K (.type "int") "__mul__" = some (some (.builtin "int.__mul__"))
  i2_mul : PySem.W.findIn K (.type "int") "__rmul__" = some (some (.builtin "int.__rmul__"))
  si_Shares : PySem.W.subIn K (.type "int") (.ref A.c_Shares) = some false
  p_Bill_seats : PropOf K A.c_Bill "seats" A.p_Bill_seats A.f_Bill_seats
  d_Evening_Dlen : PySem.W.findIn K (.ref A.c_Evening) "__len__" = some (some (.ref A.f_Evening_Dlen))
  df_Evening_Dlen : PySem.W.isFn K (.ref A.f_Evening_Dlen) = true
  dk_Evening_Dlen : PySem.W.fnIn K A.f_Evening_Dlen = true
  p_Evening_seat_count : PropOf K A.c_Evening "seat_count" A.p_Evening_seat_count A.f_Evening_seat_count
  p_MarkObserver_possible_marks : PropOf K A.c_MarkObserver "possible_marks" A.p_MarkObserver_possible_marks A.f_MarkObserver_possible_marks
  p_MarkObserver_records : PropOf K A.c_MarkObserver "records" A.p_MarkObserver_records A.f_MarkObserver_records
  p_Evening_bills : PropOf K A.c_Evening "bills" A.p_Evening_bills A.f_Evening_bills
  d_Bill_Dcontains : PySem.W.findIn K (.ref A.c_Bill) "__contains__" = some (some (.ref A.f_Bill_Dcontains))
  df_Bill_Dcontains : PySem.W.isFn K (.ref A.f_Bill_Dcontains) = true
  dk_Bill_Dcontains : PySem.W.fnIn K A.f_Bill_Dcontains = true
  p_Bill_amount : PropOf K A.c_Bill "amount" A.p_Bill_amount A.f_Bill_amount
  p_Bill_odd_cents : PropOf K A.c_Bill "odd_cents" A.p_Bill_odd_cents A.f_Bill_odd_cents
  d_Shares_Dadd : PySem.W.findIn K (.ref A.c_Shares) "__add__" = some (some (.ref A.f_Shares_Dadd))
  df_Shares_Dadd : PySem.W.isFn K (.ref A.f_Shares_Dadd) = true
  dk_Shares_Dadd : PySem.W.fnIn K A.f_Shares_Dadd = true
  m_Course_ring_shares : Meth K A.c_Course "ring_shares" A.f_Course_ring_shares
  d_Shares_Dmul : PySem.W.findIn K (.ref A.c_Shares) "__mul__" = some (some (.ref A.f_Shares_Dmul))
  df_Shares_Dmul : PySem.W.isFn K (.ref A.f_Shares_Dmul) = true
  dk_Shares_Dmul : PySem.W.fnIn K A.f_Shares_Dmul = true
  m_Course_after : Meth K A.c_Course "after" A.f_Course_after
  d_Evening_Dgetitem : PySem.W.findIn K (.ref A.c_Evening) "__getitem__" = some (some (.ref A.f_Evening_Dgetitem))
  df_Evening_Dgetitem : PySem.W.isFn K (.ref A.f_Evening_Dgetitem) = true
  dk_Evening_Dgetitem : PySem.W.fnIn K A.f_Evening_Dgetitem = true
  m_MarkObserver_paid : Meth K A.c_MarkObserver "paid" A.f_MarkObserver_paid
  m_MarkObserver_see : Meth K A.c_MarkObserver "see" A.f_MarkObserver_see
  d_Evening_Dadd : PySem.W.findIn K (.ref A.c_Evening) "__add__" = some (some (.ref A.f_Evening_Dadd))
  df_Evening_Dadd : PySem.W.isFn K (.ref A.f_Evening_Dadd) = true
  dk_Evening_Dadd : PySem.W.fnIn K A.f_Evening_Dadd = true
structure Tb (base : Heap) (mg : Str → Option Value) (A : Ad) : Prop where
  tb_law : LamX.TabB base mg A.cc_law A.tb_law
/-! ### the data -/
structure B where
  amt : Int
  st : List Int
def BOk (b : B) : Prop := 0 ≤ b.amt ∧ b.amt ≤ 1000000000000 ∧ b.st ≠ [] ∧ b.st.Pairwise (· < ·) ∧ ∀ s ∈ b.st, 0 ≤ s ∧ s < 8
def encB (A : Ad) (b : B) : D := .ins A.c_Bill ["total", "there"] [.int b.amt, .tup (b.st.map .int)]
def encE (A : Ad) (n : Int) (bs : List B) : D := .ins A.c_Evening ["size", "parts"] [.int n, .tup (bs.map (encB A))]
def encS (A : Ad) (cs : List Int) : D := .ins A.c_Shares ["amounts"] [.tup (cs.map .int)]
def R_isint : DR := fun ds O Post => ∃ i, ds = [.int i] ∧ Post (.bl true) O
def R_binit (A : Ad) : DR := fun ds O Post => ∃ x b, ds = [.ref x, .int b.amt, .tup (b.st.map .int)] ∧ O x = some (.ins A.c_Bill [] []) ∧ BOk b ∧ Post .non (setO O x (.ins A.c_Bill ["total", "there"] [.int b.amt, .tup (b.st.map .int)]))
def R_amount (A : Ad) : DR := fun ds O Post => ∃ b, ds = [encB A b] ∧ Post (.int b.amt) O
def R_seats (A : Ad) : DR := fun ds O Post => ∃ b, ds = [encB A b] ∧ Post (.tup (b.st.map .int)) O
def R_odd (A : Ad) : DR := fun ds O Post => ∃ b, ds = [encB A b] ∧ BOk b ∧ Post (.int (b.amt % (b.st.length : Int))) O
def R_bin (A : Ad) : DR := fun ds O Post => ∃ b s, ds = [encB A b, .int s] ∧ Post (.bl (decide (s ∈ b.st))) O
local macro_rules | `(tactic| walk_at "cls") => `(tactic| first
  | with_reducible exact (by assumption : Tx _ _ _).cl_Shares
  | with_reducible exact (by assumption : Tx _ _ _).na_Shares_amounts
  | with_reducible exact (by assumption : Tx _ _ _).cl_Bill
  | with_reducible exact (by assumption : Tx _ _ _).na_Bill_total
  | with_reducible exact (by assumption : Tx _ _ _).na_Bill_there
  | with_reducible exact (by assumption : Tx _ _ _).cr_Bill
  | with_reducible exact (by assumption : Tx _ _ _).cv_Bill_MAX_SEATS
  | with_reducible exact (by assumption : Tx _ _ _).cl_Evening
  | with_reducible exact (by assumption : Tx _ _ _).na_Evening_size
  | with_reducible exact (by assumption : Tx _ _ _).na_Evening_parts
  | with_reducible exact (by assumption : Tx _ _ _).cr_Evening
  | with_reducible exact (by assumption : Tx _ _ _).cv_Evening_MAX_BILLS
  | with_reducible exact (by assumption : Tx _ _ _).cl_Course
  | with_reducible exact (by assumption : Tx _ _ _).na_Course_marks
  | with_reducible exact (by assumption : Tx _ _ _).na_Course_rows
  | with_reducible exact (by assumption : Tx _ _ _).na_Course_ring
  | with_reducible exact (by assumption : Tx _ _ _).na_Course_evening
  | with_reducible exact (by assumption : Tx _ _ _).cl_MarkObserver
  | with_reducible exact (by assumption : Tx _ _ _).na_MarkObserver_evening
  | with_reducible exact (by assumption : Tx _ _ _).na_MarkObserver_left
  | with_reducible exact (by assumption : Tx _ _ _).na_MarkObserver_accepted)
section
variable {P : Program} {w : World} {K : PySem.W.Frag} {mg : Str → Option Value} {base : Heap} {A : Ad}
theorem ok_is_integer (T : Tx K mg A) : FnR P w K mg base (L2.CX P w) 1 A.f_is_integer (SpD K (R_isint)) := by
  obtain ⟨fd, F, hb⟩ := T.F_is_integer
  refine fnD F sc_is_integer hb (fun ds O Post h => by first | (obtain ⟨rfl, _⟩ := h; rfl) | (obtain ⟨_, rfl, _⟩ := h; rfl) | (obtain ⟨_, _, rfl, _⟩ := h; rfl) | (obtain ⟨_, _, _, rfl, _⟩ := h; rfl) | (obtain ⟨_, _, _, _, rfl, _⟩ := h; rfl) | (obtain ⟨_, _, _, _, _, rfl, _⟩ := h; rfl) | (obtain ⟨_, _, _, _, _, _, rfl, _⟩ := h; rfl) | (obtain ⟨_, _, _, _, _, _, _, rfl, _⟩ := h; rfl) | (obtain ⟨_, _, _, _, _, _, _, _, rfl, _⟩ := h; rfl) | (obtain ⟨_, _, _, _, _, _, _, _, _, rfl, _⟩ := h; rfl) | (obtain ⟨_, _, _, _, _, _, _, _, _, _, rfl, _⟩ := h; rfl) | (obtain ⟨_, _, _, _, _, _, _, _, _, _, _, rfl, _⟩ := h; rfl) | (obtain ⟨_, _, _, _, _, _, _, _, _, _, _, _, rfl, _⟩ := h; rfl) | (obtain ⟨_, _, _, _, _, _, _, _, _, _, _, _, _, rfl, _⟩ := h; rfl)) fun cdv A' outer s H E hr => ⟨_, PSs.nox (pss_one (ps_ret (pe_and (pe_callB (call_isiK1 K) (by rfl) T.b_isinstance (by decide +kernel) (pa_cons (pv 0) (pa_cons (pe_bltn (v := .ty "int") (by rfl) T.b_int (by decide +kernel) rfl) pa_nil))) (pe_one (pe_not (pe_callB (call_isiK1 K) (by rfl) T.b_isinstance (by decide +kernel) (pa_cons (pv 0) (pa_cons (pe_bltn (v := .ty "bool") (by rfl) T.b_bool (by decide +kernel) rfl) pa_nil)))))))), fun ds O Post hR => ?_⟩
  obtain ⟨i, rfl, hp⟩ := hR
  walk_at "go"
  refine sd_ret (d := .bl true) (O1 := O) ?_ hp
  exact ev_andVT (O1 := O) (by walk_at "ev") (ev_notV (b := false) (by walk_at "ev"))
theorem ok_Bill_amount (T : Tx K mg A) : FnR P w K mg base (L2.CX P w) 1 A.f_Bill_amount (SpD K (R_amount A)) := by
  obtain ⟨fd, F, hb⟩ := T.F_Bill_amount
  refine fnD F sc_Bill_amount hb (fun ds O Post h => by first | (obtain ⟨rfl, _⟩ := h; rfl) | (obtain ⟨_, rfl, _⟩ := h; rfl) | (obtain ⟨_, _, rfl, _⟩ := h; rfl) | (obtain ⟨_, _, _, rfl, _⟩ := h; rfl) | (obtain ⟨_, _, _, _, rfl, _⟩ := h; rfl) | (obtain ⟨_, _, _, _, _, rfl, _⟩ := h; rfl) | (obtain ⟨_, _, _, _, _, _, rfl, _⟩ := h; rfl) | (obtain ⟨_, _, _, _, _, _, _, rfl, _⟩ := h; rfl) | (obtain ⟨_, _, _, _, _, _, _, _, rfl, _⟩ := h; rfl) | (obtain ⟨_, _, _, _, _, _, _, _, _, rfl, _⟩ := h; rfl) | (obtain ⟨_, _, _, _, _, _, _, _, _, _, rfl, _⟩ := h; rfl) | (obtain ⟨_, _, _, _, _, _, _, _, _, _, _, rfl, _⟩ := h; rfl) | (obtain ⟨_, _, _, _, _, _, _, _, _, _, _, _, rfl, _⟩ := h; rfl) | (obtain ⟨_, _, _, _, _, _, _, _, _, _, _, _, _, rfl, _⟩ := h; rfl)) fun cdv A' outer s H E hr => ⟨_, PSs.nox (pss_one (ps_ret (pe_fldK K (pv 0)))), fun ds O Post hR => ?_⟩
  obtain ⟨b, rfl, hp⟩ := hR
  unfold encB
  walk_at "go"
  walk_at "st"
  exact hp
theorem ok_Bill_seats (T : Tx K mg A) : FnR P w K mg base (L2.CX P w) 1 A.f_Bill_seats (SpD K (R_seats A)) := by
  obtain ⟨fd, F, hb⟩ := T.F_Bill_seats
  refine fnD F sc_Bill_seats hb (fun ds O Post h => by first | (obtain ⟨rfl, _⟩ := h; rfl) | (obtain ⟨_, rfl, _⟩ := h; rfl) | (obtain ⟨_, _, rfl, _⟩ := h; rfl) | (obtain ⟨_, _, _, rfl, _⟩ := h; rfl) | (obtain ⟨_, _, _, _, rfl, _⟩ := h; rfl) | (obtain ⟨_, _, _, _, _, rfl, _⟩ := h; rfl) | (obtain ⟨_, _, _, _, _, _, rfl, _⟩ := h; rfl) | (obtain ⟨_, _, _, _, _, _, _, rfl, _⟩ := h; rfl) | (obtain ⟨_, _, _, _, _, _, _, _, rfl, _⟩ := h; rfl) | (obtain ⟨_, _, _, _, _, _, _, _, _, rfl, _⟩ := h; rfl) | (obtain ⟨_, _, _, _, _, _, _, _, _, _, rfl, _⟩ := h; rfl) | (obtain ⟨_, _, _, _, _, _, _, _, _, _, _, rfl, _⟩ := h; rfl) | (obtain ⟨_, _, _, _, _, _, _, _, _, _, _, _, rfl, _⟩ := h; rfl) | (obtain ⟨_, _, _, _, _, _, _, _, _, _, _, _, _, rfl, _⟩ := h; rfl)) fun cdv A' outer s H E hr => ⟨_, PSs.nox (pss_one (ps_ret (pe_fldK K (pv 0)))), fun ds O Post hR => ?_⟩
  obtain ⟨b, rfl, hp⟩ := hR
  unfold encB
  walk_at "go"
  walk_at "st"
  exact hp
theorem ok_Bill_Dcontains (T : Tx K mg A) : FnR P w K mg base (L2.CX P w) 1 A.f_Bill_Dcontains (SpD K (R_bin A)) := by
  obtain ⟨fd, F, hb⟩ := T.F_Bill_Dcontains
  refine fnD F sc_Bill_Dcontains hb (fun ds O Post h => by first | (obtain ⟨rfl, _⟩ := h; rfl) | (obtain ⟨_, rfl, _⟩ := h; rfl) | (obtain ⟨_, _, rfl, _⟩ := h; rfl) | (obtain ⟨_, _, _, rfl, _⟩ := h; rfl) | (obtain ⟨_, _, _, _, rfl, _⟩ := h; rfl) | (obtain ⟨_, _, _, _, _, rfl, _⟩ := h; rfl) | (obtain ⟨_, _, _, _, _, _, rfl, _⟩ := h; rfl) | (obtain ⟨_, _, _, _, _, _, _, rfl, _⟩ := h; rfl) | (obtain ⟨_, _, _, _, _, _, _, _, rfl, _⟩ := h; rfl) | (obtain ⟨_, _, _, _, _, _, _, _, _, rfl, _⟩ := h; rfl) | (obtain ⟨_, _, _, _, _, _, _, _, _, _, rfl, _⟩ := h; rfl) | (obtain ⟨_, _, _, _, _, _, _, _, _, _, _, rfl, _⟩ := h; rfl) | (obtain ⟨_, _, _, _, _, _, _, _, _, _, _, _, rfl, _⟩ := h; rfl) | (obtain ⟨_, _, _, _, _, _, _, _, _, _, _, _, _, rfl, _⟩ := h; rfl)) fun cdv A' outer s H E hr => ⟨_, PSs.nox (pss_one (ps_ret (pe_cmpR (op_inK K) (pv 1) (pe_fldK K (pv 0)) (by rfl)))), fun ds O Post hR => ?_⟩
  obtain ⟨b, z, rfl, hp⟩ := hR
  unfold encB
  walk_at "go"
  have hf : (b.st.map D.int).all flatD = true := by simp [flatD]
  refine sd_ret (d := .bl (decide (z ∈ b.st))) (O1 := O) ?_ hp
  refine Ev.is (d := .bl (inD (.int z) (b.st.map D.int))) (by walk_at "ev") ?_
  rw [inD_int]
theorem asc_len : ∀ {l : List Int} {lo hi : Int}, l.Pairwise (· < ·) → (∀ s ∈ l, lo ≤ s ∧ s < hi) → l.length ≤ (hi - lo).toNat
  | [], _, _, _, _ => Nat.zero_le _
  | a :: r, lo, hi, h, h2 => by
    have h3 := (List.pairwise_cons.mp h)
    have ha := h2 a (List.mem_cons_self ..)
    have := asc_len (lo := a + 1) (hi := hi) h3.2 fun s hs => ⟨by have := h3.1 s hs; omega, (h2 s (List.mem_cons_of_mem _ hs)).2⟩
    rw [List.length_cons]
    omega
theorem BOk.len {b : B} (h : BOk b) : 0 < b.st.length ∧ b.st.length ≤ 8 := by
  obtain ⟨_, _, h2, h3, h4⟩ := h
  have := asc_len h3 h4
  exact ⟨List.length_pos_iff.mpr h2, by simpa using this⟩
theorem ok_Bill_odd_cents (T : Tx K mg A) : FnR P w K mg base (L2.CX P w) 1 A.f_Bill_odd_cents (SpD K (R_odd A)) := by
  obtain ⟨fd, F, hb⟩ := T.F_Bill_odd_cents
  refine fnD F sc_Bill_odd_cents hb (fun ds O Post h => by first | (obtain ⟨rfl, _⟩ := h; rfl) | (obtain ⟨_, rfl, _⟩ := h; rfl) | (obtain ⟨_, _, rfl, _⟩ := h; rfl) | (obtain ⟨_, _, _, rfl, _⟩ := h; rfl) | (obtain ⟨_, _, _, _, rfl, _⟩ := h; rfl) | (obtain ⟨_, _, _, _, _, rfl, _⟩ := h; rfl) | (obtain ⟨_, _, _, _, _, _, rfl, _⟩ := h; rfl) | (obtain ⟨_, _, _, _, _, _, _, rfl, _⟩ := h; rfl) | (obtain ⟨_, _, _, _, _, _, _, _, rfl, _⟩ := h; rfl) | (obtain ⟨_, _, _, _, _, _, _, _, _, rfl, _⟩ := h; rfl) | (obtain ⟨_, _, _, _, _, _, _, _, _, _, rfl, _⟩ := h; rfl) | (obtain ⟨_, _, _, _, _, _, _, _, _, _, _, rfl, _⟩ := h; rfl) | (obtain ⟨_, _, _, _, _, _, _, _, _, _, _, _, rfl, _⟩ := h; rfl) | (obtain ⟨_, _, _, _, _, _, _, _, _, _, _, _, _, rfl, _⟩ := h; rfl)) fun cdv A' outer s H E hr => ⟨_, PSs.nox (pss_one (ps_ret (pe_op op_sub (pe_fldK K (pv 0)) (pe_op op_mul (pe_op op_fdivW (pe_fldK K (pv 0)) (pe_callB (call_lenK K) (by rfl) T.b_len (by decide +kernel) (pa_cons (pe_fldK K (pv 0)) pa_nil))) (pe_callB (call_lenK K) (by rfl) T.b_len (by decide +kernel) (pa_cons (pe_fldK K (pv 0)) pa_nil)))))), fun ds O Post hR => ?_⟩
  obtain ⟨b, rfl, hb, hp⟩ := hR
  have hl := hb.len
  obtain ⟨h0, h1, h2, _⟩ := hb
  unfold encB
  walk_at "go"
  have e : (b.st.map D.int).length = b.st.length := List.length_map ..
  have hl1 : 0 < ((b.st.map D.int).length : Int) := by omega
  have hl2 : ((b.st.map D.int).length : Int) ≤ 8 := by omega
  refine sd_ret (d := .int (b.amt % (b.st.length : Int))) (O1 := O) ?_ hp
  refine Ev.is (d := .int (b.amt - b.amt / ((b.st.map D.int).length : Int) * ((b.st.map D.int).length : Int))) (by walk_at "ev") ?_
  rw [e, Int.emod_def, Int.mul_comm]
theorem ok_Bill_Dinit (T : Tx K mg A) : FnR P w K mg base (L2.CX P w) 2 A.f_Bill_Dinit (SpD K (Rstar 2 (R_binit A))) := by
  obtain ⟨fd, F, hb⟩ := T.F_Bill_Dinit
  refine fnDS F sc_Bill_Dinit hb fun cdv A' outer s H E hr => ⟨_, PSs.nox (pss_cons (ps_if (PW.pt (pw_or (pt_not (pt_val (pe_run (ok_is_integer T) (hr.mono (by decide)) T.k_is_integer T.g_is_integer passL (pa_cons (pv 1) pa_nil)))) (pw_or1 (pt_not (pt_chain op_le op_le pe_int (pv 1) (pe_glob (v := .int 1000000000000) rfl T.g_MAX_CENTS ⟨_, rfl⟩)))))) (pss_one ps_never) pss_nil)
      (pss_cons (ps_if (pt_cmpR (op_eqDK K hr.units) (pv 2) (pe_tup pa_nil) (nomark _)) (pss_one ps_never) pss_nil)
      (pss_cons (ps_for PassesOwn.never rfl (pi_enumTK K T.b_enumerate (pa_cons (pv 2) pa_nil)) (pg_tupK K (n := 2) rfl (pgs_cons (pg_name (i := 3) sc_Bill_Dinit.nd rfl (Or.inl rfl)) (pgs_cons (pg_name (i := 4) sc_Bill_Dinit.nd rfl (Or.inl rfl)) pgs_nil))) (pss_one (ps_if (PW.pt (pw_or (pt_not (pt_val (pe_run (ok_is_integer T) (hr.mono (by decide)) T.k_is_integer T.g_is_integer passL (pa_cons (pv 4) pa_nil)))) (pw_or (pt_not (pt_chain op_le op_lt pe_int (pv 4) (pe_cvalK K (pe_glob (v := .ref A.c_Bill) rfl T.g_Bill rfl)))) (pw_or1 (PW.pt (pw_and (pt_cmpR op_gt (pv 3) pe_int (nomark _)) (pw_and1 (pt_cmpR op_le (pv 4) (pe_ix (ix_tupK K) (pv 2) (pe_op op_sub (pv 3) pe_int) (fun _ _ => rfl)) (nomark _))))))))) (pss_one ps_never) pss_nil)))
      (pss_cons (ps_fld (pv 0) (pv 1) rfl)
      (pss_one (ps_fld (pv 0) (pv 2) rfl)))))), fun ds O Post hR => ?_⟩
  obtain ⟨x, b, rfl, ho, hb, hp⟩ := hR
  obtain ⟨h0, h1, h2, h3, h4⟩ := hb
  walk_at "go"
  refine sd_seq ?_
  apply sd_never
  focus walk_at "et"
  focus (simp; omega)
  refine sd_next ?_
  refine sd_seq ?_
  apply sd_never
  focus walk_at "et"
  · rw [eqD_nilT]
    cases hs : b.st with
    | nil => exact absurd hs h2
    | cons a r => rfl
  refine sd_next ?_
  refine sd_seq (sd_for (ei_enumT (by walk_at "ea")) (fun i δ' O' => O' = O ∧ ∃ c1 c2, δ' = [some (.ref x), some (.int b.amt), some (.tup (b.st.map .int)), c1, c2]) ⟨rfl, none, none, rfl⟩ (fun i d δ' O' hd hI => ?_) (fun δ' O' hI => ?_))
  · obtain ⟨rfl, c1, c2, rfl⟩ := hI
    rw [enumD_get, List.getElem?_map] at hd
    cases q : b.st[i]? with
    | none => rw [q] at hd; cases hd
    | some z =>
      rw [q] at hd; cases hd
      refine gd_tup rfl (gds_cons (gd_name (gds_cons (gd_name (gds_nil ?_)))))
      walk_at "sl"
      have hz := h4 z (List.mem_of_getElem? q)
      refine sd_ifF (O1 := O') (et_orF (et_not (b := true) (by walk_at "et")) (et_orF (EvT.is (b := !(decide (0 ≤ z) && decide (z < 8))) (by walk_at "et") (by simp; omega)) ?_)) ?_
      · by_cases hi : i = 0
        · exact et_andF (EvT.is (b := decide ((0 : Int) < (i : Int))) (by walk_at "et") (by simp; omega))
        · obtain ⟨y, hy⟩ : ∃ y, b.st[i - 1]? = some y := ⟨_, List.getElem?_eq_getElem (by have := (List.getElem?_eq_some_iff.mp q).1; omega)⟩
          have hlt : y < z := by
            obtain ⟨l1, e1⟩ := List.getElem?_eq_some_iff.mp hy
            obtain ⟨l2, e2⟩ := List.getElem?_eq_some_iff.mp q
            rw [← e1, ← e2]
            exact List.pairwise_iff_getElem.mp h3 _ _ l1 l2 (by omega)
          have ha : atI (b.st.map D.int) ((i : Int) - 1) = some (.int y) := atI_of (k := i - 1) (by omega) (by rw [List.getElem?_map, hy]; rfl)
          exact et_andT (EvT.is (b := decide ((0 : Int) < (i : Int))) (by walk_at "et") (by simp; omega)) (EvT.is (b := decide (z ≤ y)) (by walk_at "et") (by simp; omega))
      · exact sd_next ⟨rfl, _, _, rfl⟩
  · obtain ⟨rfl, c1, c2, rfl⟩ := hI
    refine sd_seq ?_
    apply sd_fldN
    focus walk_at "ev"
    focus walk_at "ev"
    focus walk_at "own"
    focus walk_at "cls"
    focus walk_at "cls"
    focus decide +kernel
    focus decide
    apply sd_fldN
    focus walk_at "ev"
    focus walk_at "ev"
    focus walk_at "own"
    focus walk_at "cls"
    focus walk_at "cls"
    focus decide +kernel
    focus decide
    rw [setO_setO]
    exact hp
end
end Law

set_option Elab.async false
set_option linter.all false
set_option maxRecDepth 100000
set_option maxHeartbeats 4000000
namespace Law
open PySem PySem.Spec L2 DL
open PyProof.Rows hiding St
local macro_rules | `(tactic| walk_at "sl") => `(tactic| try dsimp only [startD, List.map, List.length_cons, List.length_nil, List.replicate, List.cons_append, List.nil_append, List.set_cons_zero, List.set_cons_succ, Nat.reduceSub, Nat.reduceAdd, wipeD])
local macro_rules | `(tactic| walk_at "go") => `(tactic| ((try dsimp only [cxOf, Cx.nox, Cx.wish, Cx.blk]); walk_at "sl"; walk_at "sl"))
local macro_rules | `(tactic| walk_at "own") => `(tactic| first | assumption | exact setO_same | (rw [setO_ne (by first | assumption | exact Ne.symm (by assumption))]; assumption) | (rw [setO_ne (by first | assumption | exact Ne.symm (by assumption))]; exact setO_same))
local macro_rules | `(tactic| walk_at "side") => `(tactic| first
  | assumption | rfl | exact flat_ints _ | exact atI0 | exact atI1 | exact atI2 | exact atI3 | decide | omega | (simp; done)
  | (refine cmodp ?_; omega) | (refine cdivw ?_ ?_ <;> omega) | (refine cmul_l ?_ ?_ <;> omega) | (refine cmul_r ?_ ?_ <;> omega) | (refine cpow ?_ ?_ ?_ <;> decide))
local macro_rules | `(tactic| walk_at "rr") => `(tactic| first
  | with_reducible exact r_int | with_reducible exact r_bl | with_reducible exact r_eqI | with_reducible exact r_neI | with_reducible exact r_eqB | with_reducible exact r_neB | with_reducible exact r_eqS | with_reducible exact r_neS
  | ((with_reducible apply r_intC); walk_at "side")
  | ((with_reducible apply r_ixL); walk_at "side") | ((with_reducible apply r_ixT); walk_at "side") | ((with_reducible apply r_ixS); walk_at "side") | ((with_reducible apply r_ixO); (focus walk_at "own"); (focus walk_at "side"))
  | ((with_reducible apply r_inT0) <;> walk_at "side") | ((with_reducible apply r_inL0) <;> walk_at "side") | ((with_reducible apply r_inT1) <;> walk_at "side") | ((with_reducible apply r_inL1) <;> walk_at "side")
  | ((with_reducible apply r_inO0); (focus walk_at "own"); (focus walk_at "side"); (focus walk_at "side")) | ((with_reducible apply r_inO1); (focus walk_at "own"); (focus walk_at "side"); (focus walk_at "side"))
  | ((with_reducible apply r_rep) <;> walk_at "side") | ((with_reducible apply r_cat) <;> walk_at "side")
  | ((with_reducible apply r_catA) <;> walk_at "side") | ((with_reducible apply r_catO); (focus walk_at "own"); (focus walk_at "side"))
  | ((with_reducible apply r_addS); (focus walk_at "side")) | with_reducible exact r_isN _ rfl | with_reducible exact r_notN _ rfl
  | ((with_reducible apply r_eqP); (focus walk_at "pl"); (focus walk_at "pl"); (focus decide); (focus decide)) | ((with_reducible apply r_neP); (focus walk_at "pl"); (focus walk_at "pl"); (focus decide); (focus decide)))
local macro_rules | `(tactic| walk_at "pl") => `(tactic| first | exact Pl.ints _ | exact Pl.intsL _ | exact Pl.nilT | exact Pl.nilL | exact Pl.int (n := 0) | assumption)
local macro_rules | `(tactic| walk_at "cc") => `(tactic| first
  | with_reducible exact c_lenL | with_reducible exact c_lenT | with_reducible exact c_lenS | ((with_reducible apply c_lenO); walk_at "own")
  | with_reducible exact c_listL | with_reducible exact c_listT | with_reducible exact c_tupL | with_reducible exact c_sum | with_reducible exact c_intB | with_reducible exact c_int1
  | with_reducible exact c_max2 | ((with_reducible apply c_strI); (focus walk_at "side")) | ((with_reducible apply c_lenStr); (focus walk_at "side"))
  | ((with_reducible apply c_isi); (focus rfl); (focus (first | decide +kernel | rfl))) | ((with_reducible apply c_isi2); (focus rfl); (focus (first | decide +kernel | rfl)); (focus (first | decide +kernel | rfl))))
local macro_rules | `(tactic| walk_at "ea") => `(tactic| first
  | with_reducible exact ea_nil
  | ((with_reducible apply ea_cons); (focus walk_at "ev"); (focus walk_at "ea"))
  | ((with_reducible apply ea_starT); (focus walk_at "ev"); (focus walk_at "ea")) | ((with_reducible apply ea_starL); (focus walk_at "ev"); (focus walk_at "ea")))
local macro_rules | `(tactic| walk_at "ev") => `(tactic| first
  | exact ev_var rfl | with_reducible exact ev_int | with_reducible exact ev_bl | with_reducible exact ev_str | with_reducible exact ev_non | with_reducible exact ev_ty | with_reducible exact ev_ref
  | ((with_reducible apply ev_op); (focus walk_at "ev"); (focus walk_at "ev"); (focus walk_at "rr"))
  | ((with_reducible apply ev_cb); (focus walk_at "ea"); (focus walk_at "cc"))
  | ((with_reducible apply ev_neg); (focus walk_at "ev"))
  | ((with_reducible apply ev_tup); (focus walk_at "ea"); (focus walk_at "side"))
  | ((with_reducible apply ev_lst); (focus walk_at "ea"); (focus walk_at "side"))
  | ((with_reducible apply ev_notV); (focus walk_at "ev"))
  | ((with_reducible apply ev_chain); (focus walk_at "ev"); (focus walk_at "ev"); (focus walk_at "rr"); (focus (intro _; walk_at "ev")); (focus (intro _; walk_at "rr")))
  | walk_at "evx")
local macro_rules | `(tactic| walk_at "et") => `(tactic| first
  | ((with_reducible apply et_test); walk_at "ev") | ((with_reducible apply et_B); walk_at "ev") | with_reducible exact et_yes
  | ((with_reducible apply et_not); walk_at "et")
  | ((with_reducible apply et_and); (focus walk_at "et"); (focus (intro _; walk_at "et")))
  | ((with_reducible apply et_or); (focus walk_at "et"); (focus (intro _; walk_at "et"))))
local macro_rules | `(tactic| walk_at "s1") => `(tactic| first
  | ((with_reducible apply sd_asg); (focus walk_at "ev"); walk_at "sl")
  | ((with_reducible apply sd_par); (focus walk_at "ea"); walk_at "sl")
  | ((with_reducible apply sd_setL); (focus walk_at "ev"); (focus walk_at "ev"); (focus walk_at "ev"); (focus walk_at "own"); (focus (first | exact ixN_of (k := 0) rfl (by simp) | exact ixN_of (k := 1) rfl (by simp) | exact ixN_of (k := 2) rfl (by simp) | exact ixN_of (k := 3) rfl (by simp) | assumption)); walk_at "sl")
  | ((with_reducible apply sd_app); (focus walk_at "ev"); (focus walk_at "own"); (focus walk_at "ev"); (focus walk_at "own"); (focus walk_at "side"); walk_at "sl")
  | ((with_reducible apply sd_ret); (focus walk_at "ev"))
  | with_reducible apply sd_next)
local macro_rules | `(tactic| walk_at "st") => `(tactic| first | ((with_reducible apply sd_seq); walk_at "s1") | walk_at "s1")
local macro_rules | `(tactic| walk_at "R") => `(tactic| first
  | exact ⟨_, rfl, rfl, rfl⟩ | exact ⟨_, _, rfl, rfl, rfl⟩ | exact ⟨_, _, _, rfl, rfl, rfl⟩ | exact ⟨_, _, _, _, rfl, rfl, rfl⟩
  | exact ⟨_, rfl, by assumption, rfl, rfl⟩ | exact ⟨_, _, rfl, by assumption, rfl, rfl⟩ | exact ⟨_, _, _, rfl, by assumption, rfl, rfl⟩ | exact ⟨_, _, _, _, rfl, by assumption, rfl, rfl⟩
  | exact ⟨_, _, rfl, by assumption, by assumption, rfl, rfl⟩ | exact ⟨_, _, _, rfl, by assumption, by assumption, rfl, rfl⟩ | exact ⟨_, _, _, _, rfl, by assumption, by assumption, rfl, rfl⟩)
local macro_rules | `(tactic| walk_at "evx") => `(tactic| first
  | ((with_reducible apply ev_run); (focus walk_at "ea"); walk_at "R")
  | ((with_reducible apply ev_propR); (focus walk_at "ev"); walk_at "R")
  | ((with_reducible apply ev_fld); (focus walk_at "ev"); (focus walk_at "cls"); (focus walk_at "cls"); (focus rfl))
  | ((with_reducible apply ev_ownIn0); (focus walk_at "ev"); (focus walk_at "ev"); walk_at "R")
  | ((with_reducible apply ev_slL); (focus walk_at "ev"); (focus walk_at "eo"); (focus walk_at "eo"))
  | ((with_reducible apply ev_slT); (focus walk_at "ev"); (focus walk_at "eo"); (focus walk_at "eo"))
  | ((with_reducible apply ev_cvalI); (focus walk_at "ev"); (focus walk_at "cls"); (focus walk_at "cls")))
local macro_rules | `(tactic| walk_at "eo") => `(tactic| first | with_reducible exact eo_none | ((with_reducible apply eo_some); walk_at "ev"))
local macro_rules | `(tactic| walk_at "cls") => `(tactic| first
  | with_reducible exact (by assumption : Tx _ _ _).cl_Shares
  | with_reducible exact (by assumption : Tx _ _ _).na_Shares_amounts
  | with_reducible exact (by assumption : Tx _ _ _).cl_Bill
  | with_reducible exact (by assumption : Tx _ _ _).na_Bill_total
  | with_reducible exact (by assumption : Tx _ _ _).na_Bill_there
  | with_reducible exact (by assumption : Tx _ _ _).cr_Bill
  | with_reducible exact (by assumption : Tx _ _ _).cv_Bill_MAX_SEATS
  | with_reducible exact (by assumption : Tx _ _ _).cl_Evening
  | with_reducible exact (by assumption : Tx _ _ _).na_Evening_size
  | with_reducible exact (by assumption : Tx _ _ _).na_Evening_parts
  | with_reducible exact (by assumption : Tx _ _ _).cr_Evening
  | with_reducible exact (by assumption : Tx _ _ _).cv_Evening_MAX_BILLS
  | with_reducible exact (by assumption : Tx _ _ _).cl_Course
  | with_reducible exact (by assumption : Tx _ _ _).na_Course_marks
  | with_reducible exact (by assumption : Tx _ _ _).na_Course_rows
  | with_reducible exact (by assumption : Tx _ _ _).na_Course_ring
  | with_reducible exact (by assumption : Tx _ _ _).na_Course_evening
  | with_reducible exact (by assumption : Tx _ _ _).cl_MarkObserver
  | with_reducible exact (by assumption : Tx _ _ _).na_MarkObserver_evening
  | with_reducible exact (by assumption : Tx _ _ _).na_MarkObserver_left
  | with_reducible exact (by assumption : Tx _ _ _).na_MarkObserver_accepted)
section
variable {P : Program} {w : World} {K : PySem.W.Frag} {mg : Str → Option Value} {base : Heap} {A : Ad}
/-- who pays the odd cents -/
def pl (b : B) (m : Int) : List Int := (b.st.filter (fun s => decide (m < s)) ++ b.st.filter (fun s => decide (s ≤ m))).take (b.amt % (b.st.length : Int)).toNat
def payC (b : B) (n m : Int) : List Int := (List.range n.toNat).map fun (k : Nat) => if (k : Int) ∈ b.st then b.amt / (b.st.length : Int) + (if (k : Int) ∈ pl b m then 1 else 0) else 0
def payM (b : B) (m : Int) : Int := (pl b m).getLast?.getD m
def R_payers (A : Ad) : DR := fun ds O Post => ∃ b m, ds = [encB A b, .int m] ∧ BOk b ∧ Post (.lst ((pl b m).map .int)) O
def R_pay (A : Ad) : DR := fun ds O Post => ∃ b n m, ds = [encB A b, .int n, .int m] ∧ BOk b ∧ (0 ≤ n ∧ n ≤ 100) ∧ Post (.tup [.lst ((payC b n m).map .int), .int (payM b m)]) O
theorem cutD_take {ds : List D} {k : Int} (h : 0 ≤ k) : DL.cutD ds none (some k) = ds.take k.toNat := by
  obtain ⟨j, rfl⟩ : ∃ j : Nat, k = (j : Int) := ⟨k.toNat, by omega⟩
  unfold DL.cutD
  rw [HT.sIx_none, HT.sIx_nat, List.drop_zero, Nat.sub_zero, Int.toNat_natCast]
  by_cases q : j ≤ ds.length
  · rw [Nat.min_eq_left q]
  · rw [Nat.min_eq_right (by omega), List.take_of_length_le (Nat.le_refl _), List.take_of_length_le (by omega)]
theorem ok_payers (T : Tx K mg A) : FnR P w K mg base (L2.CX P w) 3 A.f_payers (SpD K (R_payers A)) := by
  obtain ⟨fd, F, hb⟩ := T.F_payers
  refine fnD F sc_payers hb (fun ds O Post h => by first | (obtain ⟨rfl, _⟩ := h; rfl) | (obtain ⟨_, rfl, _⟩ := h; rfl) | (obtain ⟨_, _, rfl, _⟩ := h; rfl) | (obtain ⟨_, _, _, rfl, _⟩ := h; rfl) | (obtain ⟨_, _, _, _, rfl, _⟩ := h; rfl) | (obtain ⟨_, _, _, _, _, rfl, _⟩ := h; rfl) | (obtain ⟨_, _, _, _, _, _, rfl, _⟩ := h; rfl) | (obtain ⟨_, _, _, _, _, _, _, rfl, _⟩ := h; rfl) | (obtain ⟨_, _, _, _, _, _, _, _, rfl, _⟩ := h; rfl) | (obtain ⟨_, _, _, _, _, _, _, _, _, rfl, _⟩ := h; rfl) | (obtain ⟨_, _, _, _, _, _, _, _, _, _, rfl, _⟩ := h; rfl) | (obtain ⟨_, _, _, _, _, _, _, _, _, _, _, rfl, _⟩ := h; rfl) | (obtain ⟨_, _, _, _, _, _, _, _, _, _, _, _, rfl, _⟩ := h; rfl) | (obtain ⟨_, _, _, _, _, _, _, _, _, _, _, _, _, rfl, _⟩ := h; rfl)) fun cdv A' outer s H E hr => ⟨_, PSs.nox (pss_cons (ps_setLc (i := 2) (own := [("seat", 4)]) rfl sc_payers.nd rfl rfl (sw_true rfl rfl rfl (by decide +kernel)) (pi_tupK K (pe_propR (pv 0) T.cl_Bill T.p_Bill_seats (ok_Bill_seats T) (hr.mono (by decide)) (fun _ _ _ _ z => cx0 z))) (blkOk_by (N := N_payers) (sc := defScope s_payers) (by decide +kernel)) (fun _ _ _ _ _ => (pg_name (i := 4) sc_payers.nd rfl (by first | exact Or.inl rfl | exact Or.inr rfl))) (fun _ _ _ _ _ => (pts_one (pt_cmpR op_gt (pv 4) (pv 1) (nomark _)))) (fun _ _ _ _ _ => (pv 4)))
      (pss_cons (ps_setLc (i := 3) (own := [("seat", 4)]) rfl sc_payers.nd rfl rfl (sw_true rfl rfl rfl (by decide +kernel)) (pi_tupK K (pe_propR (pv 0) T.cl_Bill T.p_Bill_seats (ok_Bill_seats T) (hr.mono (by decide)) (fun _ _ _ _ z => cx0 z))) (blkOk_by (N := N_payers) (sc := defScope s_payers) (by decide +kernel)) (fun _ _ _ _ _ => (pg_name (i := 4) sc_payers.nd rfl (by first | exact Or.inl rfl | exact Or.inr rfl))) (fun _ _ _ _ _ => (pts_one (pt_cmpR op_le (pv 4) (pv 1) (nomark _)))) (fun _ _ _ _ _ => (pv 4)))
      (pss_one (ps_ret (pe_slice (sl_listK K) (pe_op op_cat (pv 2) (pv 3)) po_none (po_some (pe_propR (pv 0) T.cl_Bill T.p_Bill_odd_cents (ok_Bill_odd_cents T) (hr.mono (by decide)) (fun _ _ _ _ z => cx0 z)))))))), fun ds O Post hR => ?_⟩
  obtain ⟨b, m, rfl, hb, hp⟩ := hR
  have hl := hb.len
  walk_at "go"
  have hz : (b.st.map D.int).length ≤ 50000 := by rw [List.length_map]; omega
  refine sd_seq (sd_asg (d := .lst ((b.st.filter (fun s => decide (m < s))).map D.int)) (O1 := O) ?_ ?_)
  · refine ev_lc (O1 := O) (ei_tup (ds := b.st.map D.int) (by walk_at "ev")) (cp_filter b.st D.int D.int (fun a => [some (encB A b), some (.int m), none, none, some (.int a)]) _ fun a ha => ⟨gc_name (by decide), by walk_at "et", fun _ => by walk_at "ev"⟩) hz
  walk_at "sl"
  refine sd_seq (sd_asg (d := .lst ((b.st.filter (fun s => decide (s ≤ m))).map D.int)) (O1 := O) ?_ ?_)
  · refine ev_lc (O1 := O) (ei_tup (ds := b.st.map D.int) (by walk_at "ev")) (cp_filter b.st D.int D.int (fun a => [some (encB A b), some (.int m), some (.lst ((b.st.filter (fun s => decide (m < s))).map D.int)), none, some (.int a)]) _ fun a ha => ⟨gc_name (by decide), by walk_at "et", fun _ => by walk_at "ev"⟩) hz
  walk_at "sl"
  refine sd_ret (d := .lst ((pl b m).map .int)) (O1 := O) ?_ hp
  have h1 : ((b.st.filter (fun s => decide (m < s))).map D.int).length ≤ 8 := by rw [List.length_map]; exact Nat.le_trans (List.length_filter_le ..) hl.2
  have h2 : ((b.st.filter (fun s => decide (s ≤ m))).map D.int).length ≤ 8 := by rw [List.length_map]; exact Nat.le_trans (List.length_filter_le ..) hl.2
  refine Ev.is (d := .lst (DL.cutD ((b.st.filter (fun s => decide (m < s))).map D.int ++ (b.st.filter (fun s => decide (s ≤ m))).map D.int) none (some (b.amt % (b.st.length : Int))))) (by walk_at "ev") ?_
  rw [cutD_take (Int.emod_nonneg _ (by omega)), ← List.map_append, ← List.map_take]
  rfl
theorem ok_pay (T : Tx K mg A) : FnR P w K mg base (L2.CX P w) 4 A.f_pay (SpD K (R_pay A)) := by
  obtain ⟨fd, F, hb⟩ := T.F_pay
  refine fnD F sc_pay hb (fun ds O Post h => by first | (obtain ⟨rfl, _⟩ := h; rfl) | (obtain ⟨_, rfl, _⟩ := h; rfl) | (obtain ⟨_, _, rfl, _⟩ := h; rfl) | (obtain ⟨_, _, _, rfl, _⟩ := h; rfl) | (obtain ⟨_, _, _, _, rfl, _⟩ := h; rfl) | (obtain ⟨_, _, _, _, _, rfl, _⟩ := h; rfl) | (obtain ⟨_, _, _, _, _, _, rfl, _⟩ := h; rfl) | (obtain ⟨_, _, _, _, _, _, _, rfl, _⟩ := h; rfl) | (obtain ⟨_, _, _, _, _, _, _, _, rfl, _⟩ := h; rfl) | (obtain ⟨_, _, _, _, _, _, _, _, _, rfl, _⟩ := h; rfl) | (obtain ⟨_, _, _, _, _, _, _, _, _, _, rfl, _⟩ := h; rfl) | (obtain ⟨_, _, _, _, _, _, _, _, _, _, _, rfl, _⟩ := h; rfl) | (obtain ⟨_, _, _, _, _, _, _, _, _, _, _, _, rfl, _⟩ := h; rfl) | (obtain ⟨_, _, _, _, _, _, _, _, _, _, _, _, _, rfl, _⟩ := h; rfl)) fun cdv A' outer s H E hr => ⟨_, PSs.nox (pss_cons (ps_set (i := 3) sc_pay.nd rfl (Or.inr rfl) (pe_run (ok_payers T) (hr.mono (by decide)) T.k_payers T.g_payers passL (pa_cons (pv 0) (pa_cons (pv 2) pa_nil))))
      (pss_cons (ps_set (i := 4) sc_pay.nd rfl (Or.inr rfl) (pe_op op_fdivW (pe_propR (pv 0) T.cl_Bill T.p_Bill_amount (ok_Bill_amount T) (hr.mono (by decide)) (fun _ _ _ _ z => cx0 z)) (pe_callB (call_lenK K) (by rfl) T.b_len (by decide +kernel) (pa_cons (pe_propR (pv 0) T.cl_Bill T.p_Bill_seats (ok_Bill_seats T) (hr.mono (by decide)) (fun _ _ _ _ z => cx0 z)) pa_nil))))
      (pss_cons (ps_setLc (i := 5) (own := [("seat", 6)]) rfl sc_pay.nd rfl rfl (sw_true rfl rfl rfl (by decide +kernel)) (pi_range1 (by rfl) T.b_range (pa_cons (pv 1) pa_nil)) (blkOk_by (N := N_pay) (sc := defScope s_pay) (by decide +kernel)) (fun _ _ _ _ _ => (pg_name (i := 6) sc_pay.nd rfl (by first | exact Or.inl rfl | exact Or.inr rfl))) (fun _ _ _ _ _ => pts_nil) (fun _ _ _ _ _ => (pe_ifExp (pt_cmpR (op_inOwn T.d_Bill_Dcontains T.df_Bill_Dcontains (ok_Bill_Dcontains T) (hr.mono (by decide)) passL) (pv 6) (pv 0) (by rfl)) (pe_op op_add (pv 4) (pe_callTy call_int1 (by rfl) T.b_int (by decide +kernel) (pa_cons (pe_cmpR (op_inK K) (pv 6) (pv 3) (by rfl)) pa_nil))) pe_int)))
      (pss_one (ps_ret (pe_tup (pa_cons (pv 5) (pa_cons (pe_ifExp (pt_cmpR (op_neDK K hr.units) (pv 3) (pe_lst pa_nil) (nomark _)) (pe_ix (ix_listK K) (pv 3) (pe_un un_neg pe_int) (fun _ _ => rfl)) (pv 2)) pa_nil)))))))), fun ds O Post hR => ?_⟩
  obtain ⟨b, n, m, rfl, hb, hn, hp⟩ := hR
  have hl := hb.len
  walk_at "go"
  walk_at "st"
  have e : (b.st.map D.int).length = b.st.length := List.length_map ..
  have hl1 : 0 < ((b.st.map D.int).length : Int) := by omega
  have hl2 : ((b.st.map D.int).length : Int) ≤ 8 := by omega
  walk_at "st"
  rw [e]
  refine sd_seq (sd_asg (d := .lst ((payC b n m).map .int)) (O1 := O) ?_ ?_)
  · unfold payC
    rw [List.map_map]
    refine ev_lc (O1 := O) (ei_rngN (j := n) (by walk_at "ea") (by omega)) (cp_map (List.range n.toNat) (fun (k : Nat) => D.int (k : Int)) _ (fun a => [some (encB A b), some (.int n), some (.int m), some (.lst ((pl b m).map .int)), some (.int (b.amt / (b.st.length : Int))), none, some (.int (a : Int))]) fun a ha => ⟨gc_name (by decide), et_yes, ?_⟩) (by simp; omega)
    dsimp only [Function.comp]
    have hf : ((pl b m).map D.int).all flatD = true := by simp [flatD]
    refine ev_if (O1 := O) (b := decide ((a : Int) ∈ b.st)) (by walk_at "et") (fun z => ?_) (fun z => ?_)
    · have z : (a : Int) ∈ b.st := of_decide_eq_true z
      rw [if_pos z]
      refine Ev.is (d := .int (b.amt / (b.st.length : Int) + (if inD (.int (a : Int)) ((pl b m).map D.int) then 1 else 0))) (by walk_at "ev") ?_
      rw [inD_int]
      simp only [decide_eq_true_eq]
    · have z : ¬ (a : Int) ∈ b.st := of_decide_eq_false z
      rw [if_neg z]
      walk_at "ev"
  walk_at "sl"
  refine sd_ret (O1 := O) (ev_tup (O1 := O) (ea_cons (O1 := O) (by walk_at "ev") (ea_cons (d := .int (payM b m)) (O1 := O) (ev_if (O1 := O) (by walk_at "et") ?_ ?_) ea_nil)) (by simp)) hp
  · intro z
    rw [eqD_nilL] at z
    unfold payM
    cases q : (pl b m).getLast? with
    | none => rw [List.getLast?_eq_none_iff.mp q] at z; cases z
    | some v =>
      have ha : atI ((pl b m).map D.int) (-1) = some (.int v) := atI_neg1 (by rw [List.getLast?_map, q]; rfl)
      show Ev _ _ _ _ (.int v) _
      walk_at "ev"
  · intro z
    rw [eqD_nilL] at z
    have e0 : pl b m = [] := by
      cases q : pl b m with
      | nil => rfl
      | cons a r => rw [q] at z; cases z
    unfold payM
    rw [e0]
    show Ev _ _ _ _ (.int m) _
    walk_at "ev"
end
end Law

set_option Elab.async false
set_option linter.all false
set_option maxRecDepth 100000
set_option maxHeartbeats 4000000
namespace Law
open PySem PySem.Spec L2 DL
open PyProof.Rows hiding St
local macro_rules | `(tactic| walk_at "sl") => `(tactic| try dsimp only [startD, List.map, List.length_cons, List.length_nil, List.replicate, List.cons_append, List.nil_append, List.set_cons_zero, List.set_cons_succ, Nat.reduceSub, Nat.reduceAdd, wipeD])
local macro_rules | `(tactic| walk_at "go") => `(tactic| ((try dsimp only [cxOf, Cx.nox, Cx.wish, Cx.blk]); walk_at "sl"; walk_at "sl"))
local macro_rules | `(tactic| walk_at "own") => `(tactic| first | assumption | exact setO_same | (rw [setO_ne (by first | assumption | exact Ne.symm (by assumption))]; assumption) | (rw [setO_ne (by first | assumption | exact Ne.symm (by assumption))]; exact setO_same))
local macro_rules | `(tactic| walk_at "side") => `(tactic| first
  | assumption | rfl | exact flat_ints _ | exact atI0 | exact atI1 | exact atI2 | exact atI3 | decide | omega | (simp; done)
  | (refine cmodp ?_; omega) | (refine cdivw ?_ ?_ <;> omega) | (refine cmul_l ?_ ?_ <;> omega) | (refine cmul_r ?_ ?_ <;> omega) | (refine cpow ?_ ?_ ?_ <;> decide))
local macro_rules | `(tactic| walk_at "rr") => `(tactic| first
  | with_reducible exact r_int | with_reducible exact r_bl | with_reducible exact r_eqI | with_reducible exact r_neI | with_reducible exact r_eqB | with_reducible exact r_neB | with_reducible exact r_eqS | with_reducible exact r_neS
  | ((with_reducible apply r_intC); walk_at "side")
  | ((with_reducible apply r_ixL); walk_at "side") | ((with_reducible apply r_ixT); walk_at "side") | ((with_reducible apply r_ixS); walk_at "side") | ((with_reducible apply r_ixO); (focus walk_at "own"); (focus walk_at "side"))
  | ((with_reducible apply r_inT0) <;> walk_at "side") | ((with_reducible apply r_inL0) <;> walk_at "side") | ((with_reducible apply r_inT1) <;> walk_at "side") | ((with_reducible apply r_inL1) <;> walk_at "side")
  | ((with_reducible apply r_inO0); (focus walk_at "own"); (focus walk_at "side"); (focus walk_at "side")) | ((with_reducible apply r_inO1); (focus walk_at "own"); (focus walk_at "side"); (focus walk_at "side"))
  | ((with_reducible apply r_rep) <;> walk_at "side") | ((with_reducible apply r_cat) <;> walk_at "side")
  | ((with_reducible apply r_catA) <;> walk_at "side") | ((with_reducible apply r_catO); (focus walk_at "own"); (focus walk_at "side"))
  | ((with_reducible apply r_addS); (focus walk_at "side")) | with_reducible exact r_isN _ rfl | with_reducible exact r_notN _ rfl
  | ((with_reducible apply r_eqP); (focus walk_at "pl"); (focus walk_at "pl"); (focus decide); (focus decide)) | ((with_reducible apply r_neP); (focus walk_at "pl"); (focus walk_at "pl"); (focus decide); (focus decide)))
local macro_rules | `(tactic| walk_at "pl") => `(tactic| first | exact Pl.ints _ | exact Pl.intsL _ | exact Pl.nilT | exact Pl.nilL | exact Pl.int (n := 0) | assumption)
local macro_rules | `(tactic| walk_at "cc") => `(tactic| first
  | with_reducible exact c_lenL | with_reducible exact c_lenT | with_reducible exact c_lenS | ((with_reducible apply c_lenO); walk_at "own")
  | with_reducible exact c_listL | with_reducible exact c_listT | with_reducible exact c_tupL | with_reducible exact c_sum | with_reducible exact c_intB | with_reducible exact c_int1
  | with_reducible exact c_max2 | ((with_reducible apply c_strI); (focus walk_at "side")) | ((with_reducible apply c_lenStr); (focus walk_at "side"))
  | ((with_reducible apply c_isi); (focus rfl); (focus (first | decide +kernel | rfl))) | ((with_reducible apply c_isi2); (focus rfl); (focus (first | decide +kernel | rfl)); (focus (first | decide +kernel | rfl))))
local macro_rules | `(tactic| walk_at "ea") => `(tactic| first
  | with_reducible exact ea_nil
  | ((with_reducible apply ea_cons); (focus walk_at "ev"); (focus walk_at "ea"))
  | ((with_reducible apply ea_starT); (focus walk_at "ev"); (focus walk_at "ea")) | ((with_reducible apply ea_starL); (focus walk_at "ev"); (focus walk_at "ea")))
local macro_rules | `(tactic| walk_at "ev") => `(tactic| first
  | exact ev_var rfl | with_reducible exact ev_int | with_reducible exact ev_bl | with_reducible exact ev_str | with_reducible exact ev_non | with_reducible exact ev_ty | with_reducible exact ev_ref
  | ((with_reducible apply ev_op); (focus walk_at "ev"); (focus walk_at "ev"); (focus walk_at "rr"))
  | ((with_reducible apply ev_cb); (focus walk_at "ea"); (focus walk_at "cc"))
  | ((with_reducible apply ev_neg); (focus walk_at "ev"))
  | ((with_reducible apply ev_tup); (focus walk_at "ea"); (focus walk_at "side"))
  | ((with_reducible apply ev_lst); (focus walk_at "ea"); (focus walk_at "side"))
  | ((with_reducible apply ev_notV); (focus walk_at "ev"))
  | ((with_reducible apply ev_chain); (focus walk_at "ev"); (focus walk_at "ev"); (focus walk_at "rr"); (focus (intro _; walk_at "ev")); (focus (intro _; walk_at "rr")))
  | walk_at "evx")
local macro_rules | `(tactic| walk_at "et") => `(tactic| first
  | ((with_reducible apply et_test); walk_at "ev") | ((with_reducible apply et_B); walk_at "ev") | with_reducible exact et_yes
  | ((with_reducible apply et_not); walk_at "et")
  | ((with_reducible apply et_and); (focus walk_at "et"); (focus (intro _; walk_at "et")))
  | ((with_reducible apply et_or); (focus walk_at "et"); (focus (intro _; walk_at "et"))))
local macro_rules | `(tactic| walk_at "s1") => `(tactic| first
  | ((with_reducible apply sd_asg); (focus walk_at "ev"); walk_at "sl")
  | ((with_reducible apply sd_par); (focus walk_at "ea"); walk_at "sl")
  | ((with_reducible apply sd_setL); (focus walk_at "ev"); (focus walk_at "ev"); (focus walk_at "ev"); (focus walk_at "own"); (focus (first | exact ixN_of (k := 0) rfl (by simp) | exact ixN_of (k := 1) rfl (by simp) | exact ixN_of (k := 2) rfl (by simp) | exact ixN_of (k := 3) rfl (by simp) | assumption)); walk_at "sl")
  | ((with_reducible apply sd_app); (focus walk_at "ev"); (focus walk_at "own"); (focus walk_at "ev"); (focus walk_at "own"); (focus walk_at "side"); walk_at "sl")
  | ((with_reducible apply sd_ret); (focus walk_at "ev"))
  | with_reducible apply sd_next)
local macro_rules | `(tactic| walk_at "st") => `(tactic| first | ((with_reducible apply sd_seq); walk_at "s1") | walk_at "s1")
local macro_rules | `(tactic| walk_at "R") => `(tactic| first
  | exact ⟨_, rfl, rfl, rfl⟩ | exact ⟨_, _, rfl, rfl, rfl⟩ | exact ⟨_, _, _, rfl, rfl, rfl⟩ | exact ⟨_, _, _, _, rfl, rfl, rfl⟩
  | exact ⟨_, rfl, by assumption, rfl, rfl⟩ | exact ⟨_, _, rfl, by assumption, rfl, rfl⟩ | exact ⟨_, _, _, rfl, by assumption, rfl, rfl⟩ | exact ⟨_, _, _, _, rfl, by assumption, rfl, rfl⟩
  | exact ⟨_, _, rfl, by assumption, by assumption, rfl, rfl⟩ | exact ⟨_, _, _, rfl, by assumption, by assumption, rfl, rfl⟩ | exact ⟨_, _, _, _, rfl, by assumption, by assumption, rfl, rfl⟩)
local macro_rules | `(tactic| walk_at "evx") => `(tactic| first
  | ((with_reducible apply ev_run); (focus walk_at "ea"); walk_at "R")
  | ((with_reducible apply ev_propR); (focus walk_at "ev"); walk_at "R")
  | ((with_reducible apply ev_fld); (focus walk_at "ev"); (focus walk_at "cls"); (focus walk_at "cls"); (focus rfl))
  | ((with_reducible apply ev_ownIn0); (focus walk_at "ev"); (focus walk_at "ev"); walk_at "R")
  | ((with_reducible apply ev_slL); (focus walk_at "ev"); (focus walk_at "eo"); (focus walk_at "eo"))
  | ((with_reducible apply ev_slT); (focus walk_at "ev"); (focus walk_at "eo"); (focus walk_at "eo"))
  | ((with_reducible apply ev_cvalI); (focus walk_at "ev"); (focus walk_at "cls"); (focus walk_at "cls")))
local macro_rules | `(tactic| walk_at "eo") => `(tactic| first | with_reducible exact eo_none | ((with_reducible apply eo_some); walk_at "ev"))
local macro_rules | `(tactic| walk_at "cls") => `(tactic| first
  | with_reducible exact (by assumption : Tx _ _ _).cl_Shares
  | with_reducible exact (by assumption : Tx _ _ _).na_Shares_amounts
  | with_reducible exact (by assumption : Tx _ _ _).cl_Bill
  | with_reducible exact (by assumption : Tx _ _ _).na_Bill_total
  | with_reducible exact (by assumption : Tx _ _ _).na_Bill_there
  | with_reducible exact (by assumption : Tx _ _ _).cr_Bill
  | with_reducible exact (by assumption : Tx _ _ _).cv_Bill_MAX_SEATS
  | with_reducible exact (by assumption : Tx _ _ _).cl_Evening
  | with_reducible exact (by assumption : Tx _ _ _).na_Evening_size
  | with_reducible exact (by assumption : Tx _ _ _).na_Evening_parts
  | with_reducible exact (by assumption : Tx _ _ _).cr_Evening
  | with_reducible exact (by assumption : Tx _ _ _).cv_Evening_MAX_BILLS
  | with_reducible exact (by assumption : Tx _ _ _).cl_Course
  | with_reducible exact (by assumption : Tx _ _ _).na_Course_marks
  | with_reducible exact (by assumption : Tx _ _ _).na_Course_rows
  | with_reducible exact (by assumption : Tx _ _ _).na_Course_ring
  | with_reducible exact (by assumption : Tx _ _ _).na_Course_evening
  | with_reducible exact (by assumption : Tx _ _ _).cl_MarkObserver
  | with_reducible exact (by assumption : Tx _ _ _).na_MarkObserver_evening
  | with_reducible exact (by assumption : Tx _ _ _).na_MarkObserver_left
  | with_reducible exact (by assumption : Tx _ _ _).na_MarkObserver_accepted)
section
variable {P : Program} {w : World} {K : PySem.W.Frag} {mg : Str → Option Value} {base : Heap} {A : Ad}
def R_sinit (A : Ad) : DR := fun ds O Post => ∃ x cs, ds = [.ref x, .tup (List.map D.int cs)] ∧ O x = some (.ins A.c_Shares [] []) ∧ Post .non (setO O x (.ins A.c_Shares ["amounts"] [.tup (cs.map .int)]))
def R_cents (A : Ad) : DR := fun ds O Post => ∃ cs, ds = [encS A cs] ∧ Post (.tup (cs.map .int)) O
def R_whole (A : Ad) : DR := fun ds O Post => ∃ cs, ds = [encS A cs] ∧ Post (.int cs.sum) O
def EOk (n : Int) (bs : List B) : Prop := 2 ≤ n ∧ n ≤ 8 ∧ bs.length ≤ 30 ∧ ∀ b ∈ bs, BOk b ∧ ∀ s ∈ b.st, s < n
def R_einit (A : Ad) : DR := fun ds O Post => ∃ x n bs, ds = [.ref x, .int n, .tup (List.map (encB A) bs)] ∧ O x = some (.ins A.c_Evening [] []) ∧ EOk n bs ∧ Post .non (setO O x (.ins A.c_Evening ["size", "parts"] [.int n, .tup (bs.map (encB A))]))
def R_count (A : Ad) : DR := fun ds O Post => ∃ n bs, ds = [encE A n bs] ∧ Post (.int n) O
def R_bills (A : Ad) : DR := fun ds O Post => ∃ n bs, ds = [encE A n bs] ∧ Post (.tup (bs.map (encB A))) O
def R_eadd (A : Ad) : DR := fun ds O Post => ∃ n bs cs, ds = [encE A n bs, encE A n cs] ∧ EOk n (bs ++ cs) ∧ Post (encE A n (bs ++ cs)) O
def R_eget (A : Ad) : DR := fun ds O Post => ∃ n bs k b, ds = [encE A n bs, .int k] ∧ (0 ≤ k ∧ bs[k.toNat]? = some b) ∧ Post (encB A b) O
def plays (n : Int) : List B → Int → List Int → List Int × Int
  | [], m, acc => (acc, m)
  | b :: r, m, acc => plays n r (payM b m) (List.zipWith (· + ·) acc (payC b n m))
def play (n : Int) (bs : List B) (m : Int) : List Int × Int := plays n bs m (List.replicate n.toNat 0)
def R_valid (A : Ad) : DR := fun ds O Post => ∃ n bs m, ds = [encE A n bs, .int m] ∧ (0 ≤ m ∧ m < n) ∧ Post .non O
def R_played (A : Ad) : DR := fun ds O Post => ∃ n bs m, ds = [encE A n bs, .int m] ∧ EOk n bs ∧ Post (.tup [encS A (play n bs m).1, .int (play n bs m).2]) O
def R_ecall (A : Ad) : DR := fun ds O Post => ∃ n bs m, ds = [encE A n bs, .int m] ∧ EOk n bs ∧ (0 ≤ m ∧ m < n) ∧ Post (.tup [encS A (play n bs m).1, .int (play n bs m).2]) O
def R_tog (A : Ad) : DR := fun ds O Post => ∃ n as, ds = [.ref A.c_Evening, .int n, .tup (List.map D.int as)] ∧ (2 ≤ n ∧ n ≤ 8) ∧ (as.length ≤ 30 ∧ ∀ a ∈ as, 0 ≤ a ∧ a ≤ 1000000000000) ∧ Post (encE A n (as.map fun a => ⟨a, (List.range n.toNat).map Int.ofNat⟩)) O
theorem ok_Shares_Dinit (T : Tx K mg A) : FnR P w K mg base (L2.CX P w) 1 A.f_Shares_Dinit (SpD K (Rstar 1 (R_sinit A))) := by
  obtain ⟨fd, F, hb⟩ := T.F_Shares_Dinit
  refine fnDS F sc_Shares_Dinit hb fun cdv A' outer s H E hr => ⟨_, PSs.nox (pss_one (ps_fld (pv 0) (pv 1) rfl)), fun ds O Post hR => ?_⟩
  obtain ⟨x, cs, rfl, ho, hp⟩ := hR
  walk_at "go"
  apply sd_fldN
  focus walk_at "ev"
  focus walk_at "ev"
  focus walk_at "own"
  focus walk_at "cls"
  focus walk_at "cls"
  focus decide +kernel
  focus decide
  exact hp
theorem ok_Evening_seat_count (T : Tx K mg A) : FnR P w K mg base (L2.CX P w) 1 A.f_Evening_seat_count (SpD K (R_count A)) := by
  obtain ⟨fd, F, hb⟩ := T.F_Evening_seat_count
  refine fnD F sc_Evening_seat_count hb (fun ds O Post h => by first | (obtain ⟨rfl, _⟩ := h; rfl) | (obtain ⟨_, rfl, _⟩ := h; rfl) | (obtain ⟨_, _, rfl, _⟩ := h; rfl) | (obtain ⟨_, _, _, rfl, _⟩ := h; rfl) | (obtain ⟨_, _, _, _, rfl, _⟩ := h; rfl) | (obtain ⟨_, _, _, _, _, rfl, _⟩ := h; rfl) | (obtain ⟨_, _, _, _, _, _, rfl, _⟩ := h; rfl) | (obtain ⟨_, _, _, _, _, _, _, rfl, _⟩ := h; rfl) | (obtain ⟨_, _, _, _, _, _, _, _, rfl, _⟩ := h; rfl) | (obtain ⟨_, _, _, _, _, _, _, _, _, rfl, _⟩ := h; rfl) | (obtain ⟨_, _, _, _, _, _, _, _, _, _, rfl, _⟩ := h; rfl) | (obtain ⟨_, _, _, _, _, _, _, _, _, _, _, rfl, _⟩ := h; rfl) | (obtain ⟨_, _, _, _, _, _, _, _, _, _, _, _, rfl, _⟩ := h; rfl) | (obtain ⟨_, _, _, _, _, _, _, _, _, _, _, _, _, rfl, _⟩ := h; rfl)) fun cdv A' outer s H E hr => ⟨_, PSs.nox (pss_one (ps_ret (pe_fldK K (pv 0)))), fun ds O Post hR => ?_⟩
  obtain ⟨n, bs, rfl, hp⟩ := hR
  unfold encE
  walk_at "go"
  walk_at "st"
  exact hp
theorem ok_Evening_bills (T : Tx K mg A) : FnR P w K mg base (L2.CX P w) 1 A.f_Evening_bills (SpD K (R_bills A)) := by
  obtain ⟨fd, F, hb⟩ := T.F_Evening_bills
  refine fnD F sc_Evening_bills hb (fun ds O Post h => by first | (obtain ⟨rfl, _⟩ := h; rfl) | (obtain ⟨_, rfl, _⟩ := h; rfl) | (obtain ⟨_, _, rfl, _⟩ := h; rfl) | (obtain ⟨_, _, _, rfl, _⟩ := h; rfl) | (obtain ⟨_, _, _, _, rfl, _⟩ := h; rfl) | (obtain ⟨_, _, _, _, _, rfl, _⟩ := h; rfl) | (obtain ⟨_, _, _, _, _, _, rfl, _⟩ := h; rfl) | (obtain ⟨_, _, _, _, _, _, _, rfl, _⟩ := h; rfl) | (obtain ⟨_, _, _, _, _, _, _, _, rfl, _⟩ := h; rfl) | (obtain ⟨_, _, _, _, _, _, _, _, _, rfl, _⟩ := h; rfl) | (obtain ⟨_, _, _, _, _, _, _, _, _, _, rfl, _⟩ := h; rfl) | (obtain ⟨_, _, _, _, _, _, _, _, _, _, _, rfl, _⟩ := h; rfl) | (obtain ⟨_, _, _, _, _, _, _, _, _, _, _, _, rfl, _⟩ := h; rfl) | (obtain ⟨_, _, _, _, _, _, _, _, _, _, _, _, _, rfl, _⟩ := h; rfl)) fun cdv A' outer s H E hr => ⟨_, PSs.nox (pss_one (ps_ret (pe_fldK K (pv 0)))), fun ds O Post hR => ?_⟩
  obtain ⟨n, bs, rfl, hp⟩ := hR
  unfold encE
  walk_at "go"
  walk_at "st"
  exact hp
theorem ok_Evening_Dinit (T : Tx K mg A) : FnR P w K mg base (L2.CX P w) 3 A.f_Evening_Dinit (SpD K (Rstar 2 (R_einit A))) := by
  obtain ⟨fd, F, hb⟩ := T.F_Evening_Dinit
  refine fnDS F sc_Evening_Dinit hb fun cdv A' outer s H E hr => ⟨_, PSs.nox (pss_cons (ps_if (PW.pt (pw_or (pt_not (pt_val (pe_run (ok_is_integer T) (hr.mono (by decide)) T.k_is_integer T.g_is_integer passL (pa_cons (pv 1) pa_nil)))) (pw_or1 (pt_not (pt_chain op_le op_le pe_int (pv 1) (pe_cvalK K (pe_glob (v := .ref A.c_Bill) rfl T.g_Bill rfl))))))) (pss_one ps_never) pss_nil)
      (pss_cons (ps_for PassesOwn.never rfl (pi_enumTK K T.b_enumerate (pa_cons (pv 2) pa_nil)) (pg_tupK K (n := 2) rfl (pgs_cons (pg_name (i := 3) sc_Evening_Dinit.nd rfl (Or.inl rfl)) (pgs_cons (pg_name (i := 4) sc_Evening_Dinit.nd rfl (Or.inl rfl)) pgs_nil))) (pss_one (ps_if (PW.pt (pw_or (pt_cmpR op_eq (pv 3) (pe_cvalK K (pe_glob (v := .ref A.c_Evening) rfl T.g_Evening rfl)) (nomark _)) (pw_or1 (pt_cmpR op_ge (pe_ix (ix_tupK K) (pe_propR (pv 4) T.cl_Bill T.p_Bill_seats (ok_Bill_seats T) (hr.mono (by decide)) (fun _ _ _ _ z => cx0 z)) (pe_un un_neg pe_int) (fun _ _ => rfl)) (pv 1) (nomark _))))) (pss_one ps_never) pss_nil)))
      (pss_cons (ps_fld (pv 0) (pv 1) rfl)
      (pss_one (ps_fld (pv 0) (pv 2) rfl))))), fun ds O Post hR => ?_⟩
  obtain ⟨x, n, bs, rfl, ho, he, hp⟩ := hR
  obtain ⟨h0, h1, h2, h3⟩ := he
  walk_at "go"
  refine sd_seq ?_
  apply sd_never
  focus walk_at "et"
  focus (simp; omega)
  refine sd_next ?_
  refine sd_seq (sd_for (ei_enumT (by walk_at "ea")) (fun i δ' O' => O' = O ∧ ∃ c1 c2, δ' = [some (.ref x), some (.int n), some (.tup (bs.map (encB A))), c1, c2]) ⟨rfl, none, none, rfl⟩ (fun i d δ' O' hd hI => ?_) (fun δ' O' hI => ?_))
  · obtain ⟨rfl, c1, c2, rfl⟩ := hI
    rw [enumD_get, List.getElem?_map] at hd
    cases q : bs[i]? with
    | none => rw [q] at hd; cases hd
    | some b =>
      rw [q] at hd; cases hd
      refine gd_tup rfl (gds_cons (gd_name (gds_cons (gd_name (gds_nil ?_)))))
      walk_at "sl"
      obtain ⟨hb, hs⟩ := h3 b (List.mem_of_getElem? q)
      have hil : i < bs.length := (List.getElem?_eq_some_iff.mp q).1
      obtain ⟨y, hy⟩ : ∃ y, b.st.getLast? = some y := by
        cases e : b.st.getLast? with
        | none => exact absurd (List.getLast?_eq_none_iff.mp e) hb.2.2.1
        | some y => exact ⟨y, rfl⟩
      have hyn := hs y (List.mem_of_getLast? hy)
      have ha : atI (b.st.map D.int) (-1) = some (.int y) := atI_neg1 (by rw [List.getLast?_map, hy]; rfl)
      refine sd_ifF (O1 := O') (et_orF (O1 := O') (EvT.is (b := ((i : Int) == 30)) (by walk_at "et") (by simp; omega)) (EvT.is (b := decide (n ≤ y)) (by walk_at "et") (by simp; omega))) ?_
      exact sd_next ⟨rfl, _, _, rfl⟩
  · obtain ⟨rfl, c1, c2, rfl⟩ := hI
    refine sd_seq ?_
    apply sd_fldN
    focus walk_at "ev"
    focus walk_at "ev"
    focus walk_at "own"
    focus walk_at "cls"
    focus walk_at "cls"
    focus decide +kernel
    focus decide
    apply sd_fldN
    focus walk_at "ev"
    focus walk_at "ev"
    focus walk_at "own"
    focus walk_at "cls"
    focus walk_at "cls"
    focus decide +kernel
    focus decide
    rw [setO_setO]
    exact hp
end
end Law

set_option Elab.async false
set_option linter.all false
set_option maxRecDepth 100000
set_option maxHeartbeats 4000000
namespace Law
open PySem PySem.Spec L2 DL
open PyProof.Rows hiding St
local macro_rules | `(tactic| walk_at "sl") => `(tactic| try dsimp only [startD, List.map, List.length_cons, List.length_nil, List.replicate, List.cons_append, List.nil_append, List.set_cons_zero, List.set_cons_succ, Nat.reduceSub, Nat.reduceAdd, wipeD])
local macro_rules | `(tactic| walk_at "go") => `(tactic| ((try dsimp only [cxOf, Cx.nox, Cx.wish, Cx.blk]); walk_at "sl"; walk_at "sl"))
local macro_rules | `(tactic| walk_at "own") => `(tactic| first | assumption | exact setO_same | (rw [setO_ne (by first | assumption | exact Ne.symm (by assumption))]; assumption) | (rw [setO_ne (by first | assumption | exact Ne.symm (by assumption))]; exact setO_same))
local macro_rules | `(tactic| walk_at "side") => `(tactic| first
  | assumption | rfl | exact flat_ints _ | exact atI0 | exact atI1 | exact atI2 | exact atI3 | decide | omega | (simp; done)
  | (refine cmodp ?_; omega) | (refine cdivw ?_ ?_ <;> omega) | (refine cmul_l ?_ ?_ <;> omega) | (refine cmul_r ?_ ?_ <;> omega) | (refine cpow ?_ ?_ ?_ <;> decide))
local macro_rules | `(tactic| walk_at "rr") => `(tactic| first
  | with_reducible exact r_int | with_reducible exact r_bl | with_reducible exact r_eqI | with_reducible exact r_neI | with_reducible exact r_eqB | with_reducible exact r_neB | with_reducible exact r_eqS | with_reducible exact r_neS
  | ((with_reducible apply r_intC); walk_at "side")
  | ((with_reducible apply r_ixL); walk_at "side") | ((with_reducible apply r_ixT); walk_at "side") | ((with_reducible apply r_ixS); walk_at "side") | ((with_reducible apply r_ixO); (focus walk_at "own"); (focus walk_at "side"))
  | ((with_reducible apply r_inT0) <;> walk_at "side") | ((with_reducible apply r_inL0) <;> walk_at "side") | ((with_reducible apply r_inT1) <;> walk_at "side") | ((with_reducible apply r_inL1) <;> walk_at "side")
  | ((with_reducible apply r_inO0); (focus walk_at "own"); (focus walk_at "side"); (focus walk_at "side")) | ((with_reducible apply r_inO1); (focus walk_at "own"); (focus walk_at "side"); (focus walk_at "side"))
  | ((with_reducible apply r_rep) <;> walk_at "side") | ((with_reducible apply r_cat) <;> walk_at "side")
  | ((with_reducible apply r_catA) <;> walk_at "side") | ((with_reducible apply r_catO); (focus walk_at "own"); (focus walk_at "side"))
  | ((with_reducible apply r_addS); (focus walk_at "side")) | with_reducible exact r_isN _ rfl | with_reducible exact r_notN _ rfl
  | ((with_reducible apply r_eqP); (focus walk_at "pl"); (focus walk_at "pl"); (focus decide); (focus decide)) | ((with_reducible apply r_neP); (focus walk_at "pl"); (focus walk_at "pl"); (focus decide); (focus decide)))
local macro_rules | `(tactic| walk_at "pl") => `(tactic| first | exact Pl.ints _ | exact Pl.intsL _ | exact Pl.nilT | exact Pl.nilL | exact Pl.int (n := 0) | assumption)
local macro_rules | `(tactic| walk_at "cc") => `(tactic| first
  | with_reducible exact c_lenL | with_reducible exact c_lenT | with_reducible exact c_lenS | ((with_reducible apply c_lenO); walk_at "own")
  | with_reducible exact c_listL | with_reducible exact c_listT | with_reducible exact c_tupL | with_reducible exact c_sum | with_reducible exact c_intB | with_reducible exact c_int1
  | with_reducible exact c_max2 | ((with_reducible apply c_strI); (focus walk_at "side")) | ((with_reducible apply c_lenStr); (focus walk_at "side"))
  | ((with_reducible apply c_isi); (focus rfl); (focus (first | decide +kernel | rfl))) | ((with_reducible apply c_isi2); (focus rfl); (focus (first | decide +kernel | rfl)); (focus (first | decide +kernel | rfl))))
local macro_rules | `(tactic| walk_at "ea") => `(tactic| first
  | with_reducible exact ea_nil
  | ((with_reducible apply ea_cons); (focus walk_at "ev"); (focus walk_at "ea"))
  | ((with_reducible apply ea_starT); (focus walk_at "ev"); (focus walk_at "ea")) | ((with_reducible apply ea_starL); (focus walk_at "ev"); (focus walk_at "ea")))
local macro_rules | `(tactic| walk_at "ev") => `(tactic| first
  | exact ev_var rfl | with_reducible exact ev_int | with_reducible exact ev_bl | with_reducible exact ev_str | with_reducible exact ev_non | with_reducible exact ev_ty | with_reducible exact ev_ref
  | ((with_reducible apply ev_op); (focus walk_at "ev"); (focus walk_at "ev"); (focus walk_at "rr"))
  | ((with_reducible apply ev_cb); (focus walk_at "ea"); (focus walk_at "cc"))
  | ((with_reducible apply ev_neg); (focus walk_at "ev"))
  | ((with_reducible apply ev_tup); (focus walk_at "ea"); (focus walk_at "side"))
  | ((with_reducible apply ev_lst); (focus walk_at "ea"); (focus walk_at "side"))
  | ((with_reducible apply ev_notV); (focus walk_at "ev"))
  | ((with_reducible apply ev_chain); (focus walk_at "ev"); (focus walk_at "ev"); (focus walk_at "rr"); (focus (intro _; walk_at "ev")); (focus (intro _; walk_at "rr")))
  | walk_at "evx")
local macro_rules | `(tactic| walk_at "et") => `(tactic| first
  | ((with_reducible apply et_test); walk_at "ev") | ((with_reducible apply et_B); walk_at "ev") | with_reducible exact et_yes
  | ((with_reducible apply et_not); walk_at "et")
  | ((with_reducible apply et_and); (focus walk_at "et"); (focus (intro _; walk_at "et")))
  | ((with_reducible apply et_or); (focus walk_at "et"); (focus (intro _; walk_at "et"))))
local macro_rules | `(tactic| walk_at "s1") => `(tactic| first
  | ((with_reducible apply sd_asg); (focus walk_at "ev"); walk_at "sl")
  | ((with_reducible apply sd_par); (focus walk_at "ea"); walk_at "sl")
  | ((with_reducible apply sd_setL); (focus walk_at "ev"); (focus walk_at "ev"); (focus walk_at "ev"); (focus walk_at "own"); (focus (first | exact ixN_of (k := 0) rfl (by simp) | exact ixN_of (k := 1) rfl (by simp) | exact ixN_of (k := 2) rfl (by simp) | exact ixN_of (k := 3) rfl (by simp) | assumption)); walk_at "sl")
  | ((with_reducible apply sd_app); (focus walk_at "ev"); (focus walk_at "own"); (focus walk_at "ev"); (focus walk_at "own"); (focus walk_at "side"); walk_at "sl")
  | ((with_reducible apply sd_ret); (focus walk_at "ev"))
  | with_reducible apply sd_next)
local macro_rules | `(tactic| walk_at "st") => `(tactic| first | ((with_reducible apply sd_seq); walk_at "s1") | walk_at "s1")
local macro_rules | `(tactic| walk_at "R") => `(tactic| first
  | exact ⟨_, rfl, rfl, rfl⟩ | exact ⟨_, _, rfl, rfl, rfl⟩ | exact ⟨_, _, _, rfl, rfl, rfl⟩ | exact ⟨_, _, _, _, rfl, rfl, rfl⟩
  | exact ⟨_, rfl, by assumption, rfl, rfl⟩ | exact ⟨_, _, rfl, by assumption, rfl, rfl⟩ | exact ⟨_, _, _, rfl, by assumption, rfl, rfl⟩ | exact ⟨_, _, _, _, rfl, by assumption, rfl, rfl⟩
  | exact ⟨_, _, rfl, by assumption, by assumption, rfl, rfl⟩ | exact ⟨_, _, _, rfl, by assumption, by assumption, rfl, rfl⟩ | exact ⟨_, _, _, _, rfl, by assumption, by assumption, rfl, rfl⟩)
local macro_rules | `(tactic| walk_at "evx") => `(tactic| first
  | ((with_reducible apply ev_run); (focus walk_at "ea"); walk_at "R")
  | ((with_reducible apply ev_propR); (focus walk_at "ev"); walk_at "R")
  | ((with_reducible apply ev_fld); (focus walk_at "ev"); (focus walk_at "cls"); (focus walk_at "cls"); (focus rfl))
  | ((with_reducible apply ev_ownIn0); (focus walk_at "ev"); (focus walk_at "ev"); walk_at "R")
  | ((with_reducible apply ev_slL); (focus walk_at "ev"); (focus walk_at "eo"); (focus walk_at "eo"))
  | ((with_reducible apply ev_slT); (focus walk_at "ev"); (focus walk_at "eo"); (focus walk_at "eo"))
  | ((with_reducible apply ev_cvalI); (focus walk_at "ev"); (focus walk_at "cls"); (focus walk_at "cls")))
local macro_rules | `(tactic| walk_at "eo") => `(tactic| first | with_reducible exact eo_none | ((with_reducible apply eo_some); walk_at "ev"))
local macro_rules | `(tactic| walk_at "cls") => `(tactic| first
  | with_reducible exact (by assumption : Tx _ _ _).cl_Shares
  | with_reducible exact (by assumption : Tx _ _ _).na_Shares_amounts
  | with_reducible exact (by assumption : Tx _ _ _).cl_Bill
  | with_reducible exact (by assumption : Tx _ _ _).na_Bill_total
  | with_reducible exact (by assumption : Tx _ _ _).na_Bill_there
  | with_reducible exact (by assumption : Tx _ _ _).cr_Bill
  | with_reducible exact (by assumption : Tx _ _ _).cv_Bill_MAX_SEATS
  | with_reducible exact (by assumption : Tx _ _ _).cl_Evening
  | with_reducible exact (by assumption : Tx _ _ _).na_Evening_size
  | with_reducible exact (by assumption : Tx _ _ _).na_Evening_parts
  | with_reducible exact (by assumption : Tx _ _ _).cr_Evening
  | with_reducible exact (by assumption : Tx _ _ _).cv_Evening_MAX_BILLS
  | with_reducible exact (by assumption : Tx _ _ _).cl_Course
  | with_reducible exact (by assumption : Tx _ _ _).na_Course_marks
  | with_reducible exact (by assumption : Tx _ _ _).na_Course_rows
  | with_reducible exact (by assumption : Tx _ _ _).na_Course_ring
  | with_reducible exact (by assumption : Tx _ _ _).na_Course_evening
  | with_reducible exact (by assumption : Tx _ _ _).cl_MarkObserver
  | with_reducible exact (by assumption : Tx _ _ _).na_MarkObserver_evening
  | with_reducible exact (by assumption : Tx _ _ _).na_MarkObserver_left
  | with_reducible exact (by assumption : Tx _ _ _).na_MarkObserver_accepted)
section
variable {P : Program} {w : World} {K : PySem.W.Frag} {mg : Str → Option Value} {base : Heap} {A : Ad}
theorem mk_E {O : Ow} {n : Int} {bs : List B} (h : EOk n bs) : ∀ x, O x = none → Rstar 2 (R_einit A) (.ref x :: .int n :: bs.map (encB A)) (setO O x (.ins A.c_Evening [] [])) fun d' O' => d' = .non ∧ O' = setO O x (.ins A.c_Evening ["size", "parts"] [.int n, .tup (bs.map (encB A))]) := fun x hx =>
  ⟨[.ref x, .int n], bs.map (encB A), rfl, rfl, by rw [List.length_map]; have := h.2.2.1; omega, x, n, bs, rfl, setO_same, h, rfl, setO_setO⟩
theorem mk_B {O : Ow} {b : B} (h : BOk b) : ∀ x, O x = none → Rstar 2 (R_binit A) (.ref x :: .int b.amt :: b.st.map D.int) (setO O x (.ins A.c_Bill [] [])) fun d' O' => d' = .non ∧ O' = setO O x (.ins A.c_Bill ["total", "there"] [.int b.amt, .tup (b.st.map .int)]) := fun x hx =>
  ⟨[.ref x, .int b.amt], b.st.map D.int, rfl, rfl, by rw [List.length_map]; have := h.len.2; omega, x, b, rfl, setO_same, h, rfl, setO_setO⟩
theorem mk_S {O : Ow} {cs : List Int} (h : cs.length ≤ 100000) : ∀ x, O x = none → Rstar 1 (R_sinit A) (.ref x :: cs.map D.int) (setO O x (.ins A.c_Shares [] [])) fun d' O' => d' = .non ∧ O' = setO O x (.ins A.c_Shares ["amounts"] [.tup (cs.map .int)]) := fun x hx =>
  ⟨[.ref x], cs.map D.int, rfl, rfl, by rw [List.length_map]; exact h, x, cs, rfl, setO_same, rfl, setO_setO⟩
theorem ok_Evening_Dadd (T : Tx K mg A) : FnR P w K mg base (L2.CX P w) 5 A.f_Evening_Dadd (SpD K (R_eadd A)) := by
  obtain ⟨fd, F, hb⟩ := T.F_Evening_Dadd
  refine fnD F sc_Evening_Dadd hb (fun ds O Post h => by first | (obtain ⟨rfl, _⟩ := h; rfl) | (obtain ⟨_, rfl, _⟩ := h; rfl) | (obtain ⟨_, _, rfl, _⟩ := h; rfl) | (obtain ⟨_, _, _, rfl, _⟩ := h; rfl) | (obtain ⟨_, _, _, _, rfl, _⟩ := h; rfl) | (obtain ⟨_, _, _, _, _, rfl, _⟩ := h; rfl) | (obtain ⟨_, _, _, _, _, _, rfl, _⟩ := h; rfl) | (obtain ⟨_, _, _, _, _, _, _, rfl, _⟩ := h; rfl) | (obtain ⟨_, _, _, _, _, _, _, _, rfl, _⟩ := h; rfl) | (obtain ⟨_, _, _, _, _, _, _, _, _, rfl, _⟩ := h; rfl) | (obtain ⟨_, _, _, _, _, _, _, _, _, _, rfl, _⟩ := h; rfl) | (obtain ⟨_, _, _, _, _, _, _, _, _, _, _, rfl, _⟩ := h; rfl) | (obtain ⟨_, _, _, _, _, _, _, _, _, _, _, _, rfl, _⟩ := h; rfl) | (obtain ⟨_, _, _, _, _, _, _, _, _, _, _, _, _, rfl, _⟩ := h; rfl)) fun cdv A' outer s H E hr => ⟨_, PSs.nox (pss_cons (ps_if (pt_cmpR op_ne (pe_fldK K (pv 0)) (pe_fldK K (pv 1)) (nomark _)) (pss_one ps_never) pss_nil)
      (pss_cons (ps_set (i := 2) sc_Evening_Dadd.nd rfl (Or.inl rfl) (pe_op (op_catAK K) (pe_fldK K (pv 0)) (pe_fldK K (pv 1))))
      (pss_one (ps_ret (pe_mkS2 T.mk_Evening (ok_Evening_Dinit T) (hr.mono (by decide)) T.g_Evening passL (pa_cons (pe_fldK K (pv 0)) (pa_starK K (pv 2) pa_nil))))))), fun ds O Post hR => ?_⟩
  obtain ⟨n, bs, cs, rfl, he, hp⟩ := hR
  unfold encE
  walk_at "go"
  have hl : (bs.map (encB A)).length + (cs.map (encB A)).length ≤ 100000 := by have := he.2.2.1; simp at this ⊢; omega
  refine sd_seq ?_
  apply sd_never
  focus walk_at "et"
  focus simp
  refine sd_next ?_
  walk_at "st"
  refine sd_ret (O1 := O) (d := encE A n (bs ++ cs)) ?_ hp
  refine ev_mk (ds := .int n :: (bs ++ cs).map (encB A)) (O1 := O) ?_ (mk_E he)
  have e : (bs ++ cs).map (encB A) = (bs.map (encB A) ++ cs.map (encB A)) ++ [] := by rw [List.append_nil, List.map_append]
  rw [e]
  walk_at "ea"
theorem ok_Evening_Dgetitem (T : Tx K mg A) : FnR P w K mg base (L2.CX P w) 1 A.f_Evening_Dgetitem (SpD K (R_eget A)) := by
  obtain ⟨fd, F, hb⟩ := T.F_Evening_Dgetitem
  refine fnD F sc_Evening_Dgetitem hb (fun ds O Post h => by first | (obtain ⟨rfl, _⟩ := h; rfl) | (obtain ⟨_, rfl, _⟩ := h; rfl) | (obtain ⟨_, _, rfl, _⟩ := h; rfl) | (obtain ⟨_, _, _, rfl, _⟩ := h; rfl) | (obtain ⟨_, _, _, _, rfl, _⟩ := h; rfl) | (obtain ⟨_, _, _, _, _, rfl, _⟩ := h; rfl) | (obtain ⟨_, _, _, _, _, _, rfl, _⟩ := h; rfl) | (obtain ⟨_, _, _, _, _, _, _, rfl, _⟩ := h; rfl) | (obtain ⟨_, _, _, _, _, _, _, _, rfl, _⟩ := h; rfl) | (obtain ⟨_, _, _, _, _, _, _, _, _, rfl, _⟩ := h; rfl) | (obtain ⟨_, _, _, _, _, _, _, _, _, _, rfl, _⟩ := h; rfl) | (obtain ⟨_, _, _, _, _, _, _, _, _, _, _, rfl, _⟩ := h; rfl) | (obtain ⟨_, _, _, _, _, _, _, _, _, _, _, _, rfl, _⟩ := h; rfl) | (obtain ⟨_, _, _, _, _, _, _, _, _, _, _, _, _, rfl, _⟩ := h; rfl)) fun cdv A' outer s H E hr => ⟨_, PSs.nox (pss_cons (ps_if (pt_not (pt_chain op_le op_lt pe_int (pv 1) (pe_callB (call_lenK K) (by rfl) T.b_len (by decide +kernel) (pa_cons (pe_fldK K (pv 0)) pa_nil)))) (pss_one ps_never) pss_nil)
      (pss_one (ps_ret (pe_ix (ix_tupK K) (pe_fldK K (pv 0)) (pv 1) (fun _ _ => rfl))))), fun ds O Post hR => ?_⟩
  obtain ⟨n, bs, k, b, rfl, ⟨hk, hb⟩, hp⟩ := hR
  unfold encE
  walk_at "go"
  have hkl : k < (bs.length : Int) := by have := (List.getElem?_eq_some_iff.mp hb).1; omega
  have e : (bs.map (encB A)).length = bs.length := List.length_map ..
  have ha : atI (bs.map (encB A)) k = some (encB A b) := atI_of (k := k.toNat) (by omega) (by rw [List.getElem?_map, hb]; rfl)
  refine sd_seq ?_
  apply sd_never
  focus walk_at "et"
  focus (simp; omega)
  refine sd_next ?_
  walk_at "st"
  exact hp
theorem ok_validate_mark (T : Tx K mg A) : FnR P w K mg base (L2.CX P w) 3 A.f_validate_mark (SpD K (R_valid A)) := by
  obtain ⟨fd, F, hb⟩ := T.F_validate_mark
  refine fnD F sc_validate_mark hb (fun ds O Post h => by first | (obtain ⟨rfl, _⟩ := h; rfl) | (obtain ⟨_, rfl, _⟩ := h; rfl) | (obtain ⟨_, _, rfl, _⟩ := h; rfl) | (obtain ⟨_, _, _, rfl, _⟩ := h; rfl) | (obtain ⟨_, _, _, _, rfl, _⟩ := h; rfl) | (obtain ⟨_, _, _, _, _, rfl, _⟩ := h; rfl) | (obtain ⟨_, _, _, _, _, _, rfl, _⟩ := h; rfl) | (obtain ⟨_, _, _, _, _, _, _, rfl, _⟩ := h; rfl) | (obtain ⟨_, _, _, _, _, _, _, _, rfl, _⟩ := h; rfl) | (obtain ⟨_, _, _, _, _, _, _, _, _, rfl, _⟩ := h; rfl) | (obtain ⟨_, _, _, _, _, _, _, _, _, _, rfl, _⟩ := h; rfl) | (obtain ⟨_, _, _, _, _, _, _, _, _, _, _, rfl, _⟩ := h; rfl) | (obtain ⟨_, _, _, _, _, _, _, _, _, _, _, _, rfl, _⟩ := h; rfl) | (obtain ⟨_, _, _, _, _, _, _, _, _, _, _, _, _, rfl, _⟩ := h; rfl)) fun cdv A' outer s H E hr => ⟨_, PSs.nox (pss_one (ps_if (pt_not (pt_chain op_le op_lt pe_int (pv 1) (pe_propR (pv 0) T.cl_Evening T.p_Evening_seat_count (ok_Evening_seat_count T) (hr.mono (by decide)) (fun _ _ _ _ z => cx0 z)))) (pss_one ps_never) pss_nil)), fun ds O Post hR => ?_⟩
  obtain ⟨n, bs, m, rfl, hm, hp⟩ := hR
  walk_at "go"
  apply sd_never
  focus walk_at "et"
  focus (simp; omega)
  exact sd_next hp
theorem plays_snoc {n : Int} {b : B} : ∀ {bs : List B} {m : Int} {acc : List Int}, plays n (bs ++ [b]) m acc = (List.zipWith (· + ·) (plays n bs m acc).1 (payC b n (plays n bs m acc).2), payM b (plays n bs m acc).2)
  | [], _, _ => rfl
  | c :: r, _, _ => plays_snoc (bs := r)
theorem payC_len (b : B) (n m : Int) : (payC b n m).length = n.toNat := by unfold payC; simp
theorem plays_len {n : Int} : ∀ {bs : List B} {m : Int} {acc : List Int}, acc.length = n.toNat → (plays n bs m acc).1.length = n.toNat
  | [], _, _, h => h
  | b :: r, m, acc, h => plays_len (bs := r) (by rw [List.length_zipWith, h, payC_len, Nat.min_self])
theorem zipD_ints (xs ys : List Int) : zipD (xs.map D.int) (ys.map D.int) = (xs.zip ys).map fun q => D.tup [.int q.1, .int q.2] := by
  unfold zipD
  induction xs generalizing ys with
  | nil => rfl
  | cons x r ih => cases ys with
    | nil => rfl
    | cons y s => simp [ih s]
theorem zipW_ints (xs ys : List Int) : (List.zipWith (· + ·) xs ys).map D.int = (xs.zip ys).map fun q => D.int (q.1 + q.2) := by
  induction xs generalizing ys with
  | nil => rfl
  | cons x r ih => cases ys with
    | nil => rfl
    | cons y s => simp [ih s]
theorem ok_played (T : Tx K mg A) : FnR P w K mg base (L2.CX P w) 5 A.f_played (SpD K (R_played A)) := by
  obtain ⟨fd, F, hb⟩ := T.F_played
  refine fnD F sc_played hb (fun ds O Post h => by first | (obtain ⟨rfl, _⟩ := h; rfl) | (obtain ⟨_, rfl, _⟩ := h; rfl) | (obtain ⟨_, _, rfl, _⟩ := h; rfl) | (obtain ⟨_, _, _, rfl, _⟩ := h; rfl) | (obtain ⟨_, _, _, _, rfl, _⟩ := h; rfl) | (obtain ⟨_, _, _, _, _, rfl, _⟩ := h; rfl) | (obtain ⟨_, _, _, _, _, _, rfl, _⟩ := h; rfl) | (obtain ⟨_, _, _, _, _, _, _, rfl, _⟩ := h; rfl) | (obtain ⟨_, _, _, _, _, _, _, _, rfl, _⟩ := h; rfl) | (obtain ⟨_, _, _, _, _, _, _, _, _, rfl, _⟩ := h; rfl) | (obtain ⟨_, _, _, _, _, _, _, _, _, _, rfl, _⟩ := h; rfl) | (obtain ⟨_, _, _, _, _, _, _, _, _, _, _, rfl, _⟩ := h; rfl) | (obtain ⟨_, _, _, _, _, _, _, _, _, _, _, _, rfl, _⟩ := h; rfl) | (obtain ⟨_, _, _, _, _, _, _, _, _, _, _, _, _, rfl, _⟩ := h; rfl)) fun cdv A' outer s H E hr => ⟨_, PSs.nox (pss_cons (ps_set (i := 2) sc_played.nd rfl (Or.inl rfl) (pe_op op_rep (pe_lst (pa_cons pe_int pa_nil)) (pe_propR (pv 0) T.cl_Evening T.p_Evening_seat_count (ok_Evening_seat_count T) (hr.mono (by decide)) (fun _ _ _ _ z => cx0 z))))
      (pss_cons (ps_for PassesOwn.never rfl (pi_tupK K (pe_propR (pv 0) T.cl_Evening T.p_Evening_bills (ok_Evening_bills T) (hr.mono (by decide)) (fun _ _ _ _ z => cx0 z))) (pg_name (i := 3) sc_played.nd rfl (Or.inl rfl)) (pss_cons (ps_asg (pe_run (ok_pay T) (hr.mono (by decide)) T.k_pay T.g_pay passL (pa_cons (pv 3) (pa_cons (pe_propR (pv 0) T.cl_Evening T.p_Evening_seat_count (ok_Evening_seat_count T) (hr.mono (by decide)) (fun _ _ _ _ z => cx0 z)) (pa_cons (pv 1) pa_nil)))) (pg_tupK K (n := 2) rfl (pgs_cons (pg_name (i := 4) sc_played.nd rfl (Or.inl rfl)) (pgs_cons (pg_name (i := 1) sc_played.nd rfl (Or.inl rfl)) pgs_nil))))
      (pss_one (ps_setLc (i := 2) (own := [("one", 5), ("another", 6)]) rfl sc_played.nd rfl rfl (sw_true rfl rfl rfl (by decide +kernel)) (pi_zipK K T.b_zip (pa_cons (pv 2) (pa_cons (pv 4) pa_nil))) (blkOk_by (N := N_played) (sc := defScope s_played) (by decide +kernel)) (fun _ _ _ _ _ => (pg_tupK K (n := 2) rfl (pgs_cons (pg_name (i := 5) sc_played.nd rfl (by first | exact Or.inl rfl | exact Or.inr rfl)) (pgs_cons (pg_name (i := 6) sc_played.nd rfl (by first | exact Or.inl rfl | exact Or.inr rfl)) pgs_nil)))) (fun _ _ _ _ _ => pts_nil) (fun _ _ _ _ _ => (pe_op op_add (pv 5) (pv 6)))))))
      (pss_one (ps_ret (pe_tup (pa_cons (pe_mkS1K K T.mk_Shares (ok_Shares_Dinit T) (hr.mono (by decide)) T.g_Shares passL (pv 2)) (pa_cons (pv 1) pa_nil))))))), fun ds O Post hR => ?_⟩
  obtain ⟨n, bs, m, rfl, he, hp⟩ := hR
  have he' := he
  obtain ⟨h0, h1, h2, h3⟩ := he'
  walk_at "go"
  refine sd_seq (sd_asg (d := .lst ((List.replicate n.toNat (0 : Int)).map D.int)) (O1 := O) (Ev.is (d := .lst (List.replicate n.toNat [D.int 0]).flatten) ?_ ?_) ?_)
  · have hz : [D.int 0].length * n.toNat ≤ 100000 := by simp; omega
    have hq : -(2 ^ 63) ≤ n ∧ n < 2 ^ 63 := by omega
    walk_at "ev"
  · rw [List.map_replicate]
    congr 1
    generalize n.toNat = k
    induction k with
    | zero => rfl
    | succ k ih => rw [List.replicate_succ, List.flatten_cons, ih]; rfl
  walk_at "sl"
  refine sd_seq (sd_for (ei_tup (by walk_at "ev")) (fun i δ' O' => O' = O ∧ ∃ c1 c2 c3 c4, δ' = [some (encE A n bs), some (.int (plays n (bs.take i) m (List.replicate n.toNat 0)).2), some (.lst ((plays n (bs.take i) m (List.replicate n.toNat 0)).1.map D.int)), c1, c2, c3, c4]) ⟨rfl, none, none, none, none, rfl⟩ (fun i d δ' O' hd hI => ?_) (fun δ' O' hI => ?_))
  · obtain ⟨rfl, c1, c2, c3, c4, rfl⟩ := hI
    rw [List.getElem?_map] at hd
    cases q : bs[i]? with
    | none => rw [q] at hd; cases hd
    | some b =>
      rw [q] at hd; cases hd
      refine gd_name ?_
      walk_at "sl"
      have hb := (h3 b (List.mem_of_getElem? q)).1
      have hn : 0 ≤ n ∧ n ≤ 100 := by omega
      have et : bs.take (i + 1) = bs.take i ++ [b] := by rw [List.take_add_one, q]; rfl
      rw [et, plays_snoc]
      generalize hpq : plays n (bs.take i) m (List.replicate n.toNat 0) = pq
      obtain ⟨cs, mk⟩ := pq
      dsimp only
      refine sd_seq (sd_asgG (Ev.toP (O1 := O') (by walk_at "ev") (gd_tup rfl (gds_cons (gd_name (gds_cons (gd_name (gds_nil ?_))))))))
      walk_at "sl"
      refine sd_asg (d := .lst ((List.zipWith (· + ·) cs (payC b n mk)).map D.int)) (O1 := O') ?_ ⟨rfl, _, _, _, _, rfl⟩
      rw [zipW_ints]
      refine ev_lc (O1 := O') (items := (cs.zip (payC b n mk)).map fun q => D.tup [.int q.1, .int q.2]) ?_ (cp_map (cs.zip (payC b n mk)) _ _ (fun q => [some (encE A n bs), some (.int (payM b mk)), some (.lst (cs.map D.int)), some (encB A b), some (.lst ((payC b n mk).map D.int)), some (.int q.1), some (.int q.2)]) fun a ha => ⟨gc_tup2 (by decide) (by decide), et_yes, by walk_at "ev"⟩) ?_
      · rw [← zipD_ints]
        exact ei_zipL (by walk_at "ea")
      · rw [List.length_map, List.length_zip, payC_len]
        omega
  · obtain ⟨rfl, c1, c2, c3, c4, rfl⟩ := hI
    rw [List.length_map, List.take_of_length_le (Nat.le_refl _)]
    have hl : (play n bs m).1.length = n.toNat := plays_len (by simp)
    refine sd_ret (O1 := O') ?_ hp
    unfold play at hl ⊢
    generalize plays n bs m (List.replicate n.toNat 0) = pq at hl ⊢
    obtain ⟨cs, mk⟩ := pq
    dsimp only at hl ⊢
    refine ev_tup (O1 := O') (ea_cons (O1 := O') ?_ (by walk_at "ea")) (by simp)
    refine ev_mk (ds := cs.map D.int) (O1 := O') ?_ (mk_S (by omega))
    exact EvA.is (ds := cs.map D.int ++ []) (by walk_at "ea") (List.append_nil _)
end
end Law

set_option Elab.async false
set_option linter.all false
set_option maxRecDepth 100000
set_option maxHeartbeats 4000000
namespace Law
open PySem PySem.Spec L2 DL
open PyProof.Rows hiding St
local macro_rules | `(tactic| walk_at "sl") => `(tactic| try dsimp only [startD, List.map, List.length_cons, List.length_nil, List.replicate, List.cons_append, List.nil_append, List.set_cons_zero, List.set_cons_succ, Nat.reduceSub, Nat.reduceAdd, wipeD])
local macro_rules | `(tactic| walk_at "go") => `(tactic| ((try dsimp only [cxOf, Cx.nox, Cx.wish, Cx.blk]); walk_at "sl"; walk_at "sl"))
local macro_rules | `(tactic| walk_at "own") => `(tactic| first | assumption | exact setO_same | (rw [setO_ne (by first | assumption | exact Ne.symm (by assumption))]; assumption) | (rw [setO_ne (by first | assumption | exact Ne.symm (by assumption))]; exact setO_same))
local macro_rules | `(tactic| walk_at "side") => `(tactic| first
  | assumption | rfl | exact flat_ints _ | exact atI0 | exact atI1 | exact atI2 | exact atI3 | decide | omega | (simp; done)
  | (refine cmodp ?_; omega) | (refine cdivw ?_ ?_ <;> omega) | (refine cmul_l ?_ ?_ <;> omega) | (refine cmul_r ?_ ?_ <;> omega) | (refine cpow ?_ ?_ ?_ <;> decide))
local macro_rules | `(tactic| walk_at "rr") => `(tactic| first
  | with_reducible exact r_int | with_reducible exact r_bl | with_reducible exact r_eqI | with_reducible exact r_neI | with_reducible exact r_eqB | with_reducible exact r_neB | with_reducible exact r_eqS | with_reducible exact r_neS
  | ((with_reducible apply r_intC); walk_at "side")
  | ((with_reducible apply r_ixL); walk_at "side") | ((with_reducible apply r_ixT); walk_at "side") | ((with_reducible apply r_ixS); walk_at "side") | ((with_reducible apply r_ixO); (focus walk_at "own"); (focus walk_at "side"))
  | ((with_reducible apply r_inT0) <;> walk_at "side") | ((with_reducible apply r_inL0) <;> walk_at "side") | ((with_reducible apply r_inT1) <;> walk_at "side") | ((with_reducible apply r_inL1) <;> walk_at "side")
  | ((with_reducible apply r_inO0); (focus walk_at "own"); (focus walk_at "side"); (focus walk_at "side")) | ((with_reducible apply r_inO1); (focus walk_at "own"); (focus walk_at "side"); (focus walk_at "side"))
  | ((with_reducible apply r_rep) <;> walk_at "side") | ((with_reducible apply r_cat) <;> walk_at "side")
  | ((with_reducible apply r_catA) <;> walk_at "side") | ((with_reducible apply r_catO); (focus walk_at "own"); (focus walk_at "side"))
  | ((with_reducible apply r_addS); (focus walk_at "side")) | with_reducible exact r_isN _ rfl | with_reducible exact r_notN _ rfl
  | ((with_reducible apply r_eqP); (focus walk_at "pl"); (focus walk_at "pl"); (focus decide); (focus decide)) | ((with_reducible apply r_neP); (focus walk_at "pl"); (focus walk_at "pl"); (focus decide); (focus decide)))
local macro_rules | `(tactic| walk_at "pl") => `(tactic| first | exact Pl.ints _ | exact Pl.intsL _ | exact Pl.nilT | exact Pl.nilL | exact Pl.int (n := 0) | assumption)
local macro_rules | `(tactic| walk_at "cc") => `(tactic| first
  | with_reducible exact c_lenL | with_reducible exact c_lenT | with_reducible exact c_lenS | ((with_reducible apply c_lenO); walk_at "own")
  | with_reducible exact c_listL | with_reducible exact c_listT | with_reducible exact c_tupL | with_reducible exact c_sum | with_reducible exact c_intB | with_reducible exact c_int1
  | with_reducible exact c_max2 | ((with_reducible apply c_strI); (focus walk_at "side")) | ((with_reducible apply c_lenStr); (focus walk_at "side"))
  | ((with_reducible apply c_isi); (focus rfl); (focus (first | decide +kernel | rfl))) | ((with_reducible apply c_isi2); (focus rfl); (focus (first | decide +kernel | rfl)); (focus (first | decide +kernel | rfl))))
local macro_rules | `(tactic| walk_at "ea") => `(tactic| first
  | with_reducible exact ea_nil
  | ((with_reducible apply ea_cons); (focus walk_at "ev"); (focus walk_at "ea"))
  | ((with_reducible apply ea_starT); (focus walk_at "ev"); (focus walk_at "ea")) | ((with_reducible apply ea_starL); (focus walk_at "ev"); (focus walk_at "ea")))
local macro_rules | `(tactic| walk_at "ev") => `(tactic| first
  | exact ev_var rfl | with_reducible exact ev_int | with_reducible exact ev_bl | with_reducible exact ev_str | with_reducible exact ev_non | with_reducible exact ev_ty | with_reducible exact ev_ref
  | ((with_reducible apply ev_op); (focus walk_at "ev"); (focus walk_at "ev"); (focus walk_at "rr"))
  | ((with_reducible apply ev_cb); (focus walk_at "ea"); (focus walk_at "cc"))
  | ((with_reducible apply ev_neg); (focus walk_at "ev"))
  | ((with_reducible apply ev_tup); (focus walk_at "ea"); (focus walk_at "side"))
  | ((with_reducible apply ev_lst); (focus walk_at "ea"); (focus walk_at "side"))
  | ((with_reducible apply ev_notV); (focus walk_at "ev"))
  | ((with_reducible apply ev_chain); (focus walk_at "ev"); (focus walk_at "ev"); (focus walk_at "rr"); (focus (intro _; walk_at "ev")); (focus (intro _; walk_at "rr")))
  | walk_at "evx")
local macro_rules | `(tactic| walk_at "et") => `(tactic| first
  | ((with_reducible apply et_test); walk_at "ev") | ((with_reducible apply et_B); walk_at "ev") | with_reducible exact et_yes
  | ((with_reducible apply et_not); walk_at "et")
  | ((with_reducible apply et_and); (focus walk_at "et"); (focus (intro _; walk_at "et")))
  | ((with_reducible apply et_or); (focus walk_at "et"); (focus (intro _; walk_at "et"))))
local macro_rules | `(tactic| walk_at "s1") => `(tactic| first
  | ((with_reducible apply sd_asg); (focus walk_at "ev"); walk_at "sl")
  | ((with_reducible apply sd_par); (focus walk_at "ea"); walk_at "sl")
  | ((with_reducible apply sd_setL); (focus walk_at "ev"); (focus walk_at "ev"); (focus walk_at "ev"); (focus walk_at "own"); (focus (first | exact ixN_of (k := 0) rfl (by simp) | exact ixN_of (k := 1) rfl (by simp) | exact ixN_of (k := 2) rfl (by simp) | exact ixN_of (k := 3) rfl (by simp) | assumption)); walk_at "sl")
  | ((with_reducible apply sd_app); (focus walk_at "ev"); (focus walk_at "own"); (focus walk_at "ev"); (focus walk_at "own"); (focus walk_at "side"); walk_at "sl")
  | ((with_reducible apply sd_ret); (focus walk_at "ev"))
  | with_reducible apply sd_next)
local macro_rules | `(tactic| walk_at "st") => `(tactic| first | ((with_reducible apply sd_seq); walk_at "s1") | walk_at "s1")
local macro_rules | `(tactic| walk_at "R") => `(tactic| first
  | exact ⟨_, rfl, rfl, rfl⟩ | exact ⟨_, _, rfl, rfl, rfl⟩ | exact ⟨_, _, _, rfl, rfl, rfl⟩ | exact ⟨_, _, _, _, rfl, rfl, rfl⟩
  | exact ⟨_, rfl, by assumption, rfl, rfl⟩ | exact ⟨_, _, rfl, by assumption, rfl, rfl⟩ | exact ⟨_, _, _, rfl, by assumption, rfl, rfl⟩ | exact ⟨_, _, _, _, rfl, by assumption, rfl, rfl⟩
  | exact ⟨_, _, rfl, by assumption, by assumption, rfl, rfl⟩ | exact ⟨_, _, _, rfl, by assumption, by assumption, rfl, rfl⟩ | exact ⟨_, _, _, _, rfl, by assumption, by assumption, rfl, rfl⟩)
local macro_rules | `(tactic| walk_at "evx") => `(tactic| first
  | ((with_reducible apply ev_run); (focus walk_at "ea"); walk_at "R")
  | ((with_reducible apply ev_propR); (focus walk_at "ev"); walk_at "R")
  | ((with_reducible apply ev_fld); (focus walk_at "ev"); (focus walk_at "cls"); (focus walk_at "cls"); (focus rfl))
  | ((with_reducible apply ev_ownIn0); (focus walk_at "ev"); (focus walk_at "ev"); walk_at "R")
  | ((with_reducible apply ev_slL); (focus walk_at "ev"); (focus walk_at "eo"); (focus walk_at "eo"))
  | ((with_reducible apply ev_slT); (focus walk_at "ev"); (focus walk_at "eo"); (focus walk_at "eo"))
  | ((with_reducible apply ev_cvalI); (focus walk_at "ev"); (focus walk_at "cls"); (focus walk_at "cls")))
local macro_rules | `(tactic| walk_at "eo") => `(tactic| first | with_reducible exact eo_none | ((with_reducible apply eo_some); walk_at "ev"))
local macro_rules | `(tactic| walk_at "cls") => `(tactic| first
  | with_reducible exact (by assumption : Tx _ _ _).cl_Shares
  | with_reducible exact (by assumption : Tx _ _ _).na_Shares_amounts
  | with_reducible exact (by assumption : Tx _ _ _).cl_Bill
  | with_reducible exact (by assumption : Tx _ _ _).na_Bill_total
  | with_reducible exact (by assumption : Tx _ _ _).na_Bill_there
  | with_reducible exact (by assumption : Tx _ _ _).cr_Bill
  | with_reducible exact (by assumption : Tx _ _ _).cv_Bill_MAX_SEATS
  | with_reducible exact (by assumption : Tx _ _ _).cl_Evening
  | with_reducible exact (by assumption : Tx _ _ _).na_Evening_size
  | with_reducible exact (by assumption : Tx _ _ _).na_Evening_parts
  | with_reducible exact (by assumption : Tx _ _ _).cr_Evening
  | with_reducible exact (by assumption : Tx _ _ _).cv_Evening_MAX_BILLS
  | with_reducible exact (by assumption : Tx _ _ _).cl_Course
  | with_reducible exact (by assumption : Tx _ _ _).na_Course_marks
  | with_reducible exact (by assumption : Tx _ _ _).na_Course_rows
  | with_reducible exact (by assumption : Tx _ _ _).na_Course_ring
  | with_reducible exact (by assumption : Tx _ _ _).na_Course_evening
  | with_reducible exact (by assumption : Tx _ _ _).cl_MarkObserver
  | with_reducible exact (by assumption : Tx _ _ _).na_MarkObserver_evening
  | with_reducible exact (by assumption : Tx _ _ _).na_MarkObserver_left
  | with_reducible exact (by assumption : Tx _ _ _).na_MarkObserver_accepted)
section
variable {P : Program} {w : World} {K : PySem.W.Frag} {mg : Str → Option Value} {base : Heap} {A : Ad}
structure DS where
  ns : List Int
  pos : Int
  seed : Int
  rest : Int
def DS.enc (s : DS) : MO := .lst [.scr s.ns, .int s.pos, .int s.seed, .int s.rest]
def DS.ok (s : DS) : Prop := 0 ≤ s.pos ∧ 0 ≤ s.seed ∧ s.seed < 2147483647 ∧ 0 ≤ s.rest
def DS.next (s : DS) (n : Int) : Int × DS :=
  if 0 < s.rest then (s.rest % n, { s with rest := s.rest / n })
  else if s.pos + 1 ≤ (s.ns.length : Int) then
    (s.ns.getD s.pos.toNat 0 % n, { s with pos := s.pos + 1, rest := if 10 ^ 18 ≤ s.ns.getD s.pos.toNat 0 then s.ns.getD s.pos.toNat 0 / n else 0 })
  else (((s.seed * 48271 + 11) % 2147483647) / 7 % n, { s with pos := s.pos + 1, seed := (s.seed * 48271 + 11) % 2147483647 })
def R_start : DR := fun ds O Post => ∃ ns, ds = [.scr ns] ∧ ∀ p (s : DS), O p = none → s.ok → Post (.ref p) (setO O p s.enc)
def R_drawn : DR := fun ds O Post => ∃ (st : Addr) (n : Int) (s : DS), ds = [.ref st, .int n] ∧ 0 < n ∧ n ≤ 10 ^ 30 ∧ O st = some s.enc ∧ s.ok ∧ Post (.int (s.next n).1) (setO O st (s.next n).2.enc)
theorem DS.next_r {s : DS} {n : Int} (h : 0 < n) : 0 ≤ (s.next n).1 ∧ (s.next n).1 < n := by
  unfold DS.next
  split
  · exact ⟨Int.emod_nonneg _ (by omega), Int.emod_lt_of_pos _ h⟩
  · split
    · exact ⟨Int.emod_nonneg _ (by omega), Int.emod_lt_of_pos _ h⟩
    · exact ⟨Int.emod_nonneg _ (by omega), Int.emod_lt_of_pos _ h⟩
theorem DS.next_ok {s : DS} {n : Int} (h : 0 < n) (k : s.ok) : (s.next n).2.ok := by
  obtain ⟨h0, h1, h2, h3⟩ := k
  unfold DS.next
  split
  · exact ⟨h0, h1, h2, Int.ediv_nonneg h3 (by omega)⟩
  · split
    · refine ⟨by show 0 ≤ s.pos + 1; omega, h1, h2, ?_⟩
      show 0 ≤ (if _ then _ else _ : Int)
      split
      · exact Int.ediv_nonneg (by omega) (by omega)
      · omega
    · exact ⟨by show 0 ≤ s.pos + 1; omega, Int.emod_nonneg _ (by decide), Int.emod_lt_of_pos _ (by decide), h3⟩
theorem ok_law_start (T : Tx K mg A) : FnR P w K mg base (L2.CX P w) 1 A.f_law_start (SpD K (R_start)) := by
  obtain ⟨fd, F, hb⟩ := T.F_law_start
  refine fnD F sc_law_start hb (fun ds O Post h => by first | (obtain ⟨rfl, _⟩ := h; rfl) | (obtain ⟨_, rfl, _⟩ := h; rfl) | (obtain ⟨_, _, rfl, _⟩ := h; rfl) | (obtain ⟨_, _, _, rfl, _⟩ := h; rfl) | (obtain ⟨_, _, _, _, rfl, _⟩ := h; rfl) | (obtain ⟨_, _, _, _, _, rfl, _⟩ := h; rfl) | (obtain ⟨_, _, _, _, _, _, rfl, _⟩ := h; rfl) | (obtain ⟨_, _, _, _, _, _, _, rfl, _⟩ := h; rfl) | (obtain ⟨_, _, _, _, _, _, _, _, rfl, _⟩ := h; rfl) | (obtain ⟨_, _, _, _, _, _, _, _, _, rfl, _⟩ := h; rfl) | (obtain ⟨_, _, _, _, _, _, _, _, _, _, rfl, _⟩ := h; rfl) | (obtain ⟨_, _, _, _, _, _, _, _, _, _, _, rfl, _⟩ := h; rfl) | (obtain ⟨_, _, _, _, _, _, _, _, _, _, _, _, rfl, _⟩ := h; rfl) | (obtain ⟨_, _, _, _, _, _, _, _, _, _, _, _, _, rfl, _⟩ := h; rfl)) fun cdv A' outer s H E hr => ⟨_, PSs.nox (pss_cons (ps_set (i := 1) sc_law_start.nd rfl (Or.inl rfl) pe_int)
      (pss_cons (ps_for PassesOwn.never rfl (pi_listK K (pv 0)) (pg_name (i := 2) sc_law_start.nd rfl (Or.inl rfl)) (pss_one (ps_set (i := 1) sc_law_start.nd rfl (Or.inl rfl) (pe_op op_mod (pe_op op_add (pe_op op_add (pe_op op_mul (pv 1) pe_int) (pv 2)) pe_int) pe_int))))
      (pss_one (ps_ret (pe_lst (pa_cons (pv 0) (pa_cons pe_int (pa_cons (pv 1) (pa_cons pe_int pa_nil))))))))), fun ds O Post hR => ?_⟩
  obtain ⟨ns, rfl, hp⟩ := hR
  walk_at "go"
  walk_at "st"
  refine sd_seq (sd_for (ei_scr (ev_var rfl)) (fun i δ' O' => O' = O ∧ ∃ m c, 0 ≤ m ∧ m < 2147483647 ∧ δ' = [some (.scr ns), some (.int m), c]) ⟨rfl, 1, none, by omega, by omega, rfl⟩ (fun i d δ' O' hd hI => ?_) (fun δ' O' hI => ?_))
  · obtain ⟨rfl, m, c, h0, h1, rfl⟩ := hI
    rw [List.getElem?_map] at hd
    cases q : ns[i]? with
    | none => rw [q] at hd; cases hd
    | some n =>
      rw [q] at hd; cases hd
      refine gd_name ?_
      walk_at "sl"
      refine sd_asg (d := .int ((m * 48271 + n + 7) % 2147483647)) (by walk_at "ev") ?_
      exact ⟨rfl, _, _, Int.emod_nonneg _ (by decide), Int.emod_lt_of_pos _ (by decide), rfl⟩
  · obtain ⟨rfl, m, c, h0, h1, rfl⟩ := hI
    refine sd_retP (evp_lst (ea_cons (ev_var rfl) (ea_cons ev_int (ea_cons (ev_var rfl) (ea_cons ev_int ea_nil)))) (by simp) fun p hn => ?_)
    exact hp p ⟨ns, 0, m, 0⟩ hn ⟨by show (0:Int) ≤ 0; omega, h0, h1, by show (0:Int) ≤ 0; omega⟩
theorem ok_law_drawn (T : Tx K mg A) : FnR P w K mg base (L2.CX P w) 1 A.f_law_drawn (SpD K (R_drawn)) := by
  obtain ⟨fd, F, hb⟩ := T.F_law_drawn
  refine fnD F sc_law_drawn hb (fun ds O Post h => by first | (obtain ⟨rfl, _⟩ := h; rfl) | (obtain ⟨_, rfl, _⟩ := h; rfl) | (obtain ⟨_, _, rfl, _⟩ := h; rfl) | (obtain ⟨_, _, _, rfl, _⟩ := h; rfl) | (obtain ⟨_, _, _, _, rfl, _⟩ := h; rfl) | (obtain ⟨_, _, _, _, _, rfl, _⟩ := h; rfl) | (obtain ⟨_, _, _, _, _, _, rfl, _⟩ := h; rfl) | (obtain ⟨_, _, _, _, _, _, _, rfl, _⟩ := h; rfl) | (obtain ⟨_, _, _, _, _, _, _, _, rfl, _⟩ := h; rfl) | (obtain ⟨_, _, _, _, _, _, _, _, _, rfl, _⟩ := h; rfl) | (obtain ⟨_, _, _, _, _, _, _, _, _, _, rfl, _⟩ := h; rfl) | (obtain ⟨_, _, _, _, _, _, _, _, _, _, _, rfl, _⟩ := h; rfl) | (obtain ⟨_, _, _, _, _, _, _, _, _, _, _, _, rfl, _⟩ := h; rfl) | (obtain ⟨_, _, _, _, _, _, _, _, _, _, _, _, _, rfl, _⟩ := h; rfl)) fun cdv A' outer s H E hr => ⟨_, PSs.nox (pss_cons (ps_if (pt_cmpR op_gt (pe_ix (ix_listK K) (pv 0) pe_int (fun _ _ => rfl)) pe_int (nomark _)) (pss_cons (ps_set (i := 2) sc_law_drawn.nd rfl (Or.inl rfl) (pe_op op_mod (pe_ix (ix_listK K) (pv 0) pe_int (fun _ _ => rfl)) (pv 1)))
      (pss_cons (ps_asg (pe_op op_fdivW (pe_ix (ix_listK K) (pv 0) pe_int (fun _ _ => rfl)) (pv 1)) (pg_sub (pv 0) pe_int set_list))
      (pss_one (ps_ret (pv 2))))) pss_nil)
      (pss_cons (ps_asg (pe_op op_add (pe_ix (ix_listK K) (pv 0) pe_int (fun _ _ => rfl)) pe_int) (pg_sub (pv 0) pe_int set_list))
      (pss_cons (ps_if (pt_cmpR op_le (pe_ix (ix_listK K) (pv 0) pe_int (fun _ _ => rfl)) (pe_callB (call_lenK K) (by rfl) T.b_len (by decide +kernel) (pa_cons (pe_ix (ix_listK K) (pv 0) pe_int (fun _ _ => rfl)) pa_nil)) (nomark _)) (pss_cons (ps_set (i := 3) sc_law_drawn.nd rfl (Or.inl rfl) (pe_ix (ix_listK K) (pe_ix (ix_listK K) (pv 0) pe_int (fun _ _ => rfl)) (pe_op op_sub (pe_ix (ix_listK K) (pv 0) pe_int (fun _ _ => rfl)) pe_int) (fun _ _ => rfl)))
      (pss_cons (ps_asg (pe_ifExp (pt_cmpR op_ge (pv 3) (pe_op op_pow pe_int pe_int) (nomark _)) (pe_op op_fdivW (pv 3) (pv 1)) pe_int) (pg_sub (pv 0) pe_int set_list))
      (pss_one (ps_ret (pe_op op_mod (pv 3) (pv 1)))))) pss_nil)
      (pss_cons (ps_asg (pe_op op_mod (pe_op op_add (pe_op op_mul (pe_ix (ix_listK K) (pv 0) pe_int (fun _ _ => rfl)) pe_int) pe_int) pe_int) (pg_sub (pv 0) pe_int set_list))
      (pss_one (ps_ret (pe_op op_mod (pe_op op_fdivW (pe_ix (ix_listK K) (pv 0) pe_int (fun _ _ => rfl)) pe_int) (pv 1)))))))), fun ds O Post hR => ?_⟩
  obtain ⟨st, n, q, rfl, hn, hn2, hst, hok, hp⟩ := hR
  obtain ⟨ns, pos, seed, rest⟩ := q
  obtain ⟨h0, h1, h2, h3⟩ := hok
  dsimp only at h0 h1 h2 h3
  unfold DS.enc at hst
  dsimp only at hst
  walk_at "go"
  refine sd_seq ?_
  apply sd_if (h := by walk_at "et") <;> intro e
  · have e : 0 < rest := of_decide_eq_true e
    walk_at "st"
    walk_at "st"
    walk_at "st"
    have en : DS.next ⟨ns, pos, seed, rest⟩ n = (rest % n, ⟨ns, pos, seed, rest / n⟩) := by unfold DS.next; rw [if_pos e]
    rw [en] at hp
    exact hp
  · have e : ¬ 0 < rest := of_decide_eq_false e
    walk_at "st"
    walk_at "st"
    refine sd_seq ?_
    apply sd_if (h := by walk_at "et") <;> intro e2
    · have e2 : pos + 1 ≤ (ns.length : Int) := of_decide_eq_true e2
      have hl : pos.toNat < ns.length := by omega
      have ha : atI ns (pos + 1 - 1) = some (ns.getD pos.toNat 0) := atI_of (k := pos.toNat) (by omega) (by rw [List.getD_eq_getElem?_getD, List.getElem?_eq_getElem hl]; rfl)
      have en : DS.next ⟨ns, pos, seed, rest⟩ n = (ns.getD pos.toNat 0 % n, ⟨ns, pos + 1, seed, if 10 ^ 18 ≤ ns.getD pos.toNat 0 then ns.getD pos.toNat 0 / n else 0⟩) := by unfold DS.next; rw [if_neg e, if_pos e2]
      rw [en] at hp
      generalize ns.getD pos.toNat 0 = cell at *
      walk_at "st"
      refine sd_seq ?_
      apply sd_setL
      focus
        apply ev_if (d := .int (if 10 ^ 18 ≤ cell then cell / n else 0))
        focus walk_at "et"
        · intro z
          rw [if_pos (show (10 : Int) ^ 18 ≤ cell from of_decide_eq_true z)]
          walk_at "ev"
        · intro z
          rw [if_neg (show ¬ (10 : Int) ^ 18 ≤ cell from of_decide_eq_false z)]
          walk_at "ev"
      focus walk_at "ev"
      focus walk_at "ev"
      focus walk_at "own"
      focus exact ixN_of (k := 3) rfl (by simp)
      walk_at "sl"
      walk_at "st"
      rw [setO_setO]
      exact hp
    · have e2 : ¬ pos + 1 ≤ (ns.length : Int) := of_decide_eq_false e2
      walk_at "st"
      walk_at "st"
      walk_at "st"
      have en : DS.next ⟨ns, pos, seed, rest⟩ n = (((seed * 48271 + 11) % 2147483647) / 7 % n, ⟨ns, pos + 1, (seed * 48271 + 11) % 2147483647, rest⟩) := by unfold DS.next; rw [if_neg e, if_neg e2]
      rw [en] at hp
      rw [setO_setO]
      exact hp
/-! ### rows -/
def encR (b : B) : D := .tup [.int b.amt, .tup (b.st.map .int)]
def R_lbill (A : Ad) : DR := fun ds O Post => ∃ b, ds = [encR b] ∧ BOk b ∧ Post (encB A b) O
theorem BOk.take {a : Int} {st : List Int} (h : BOk ⟨a, st⟩) (k : Nat) (hk : 0 < k) : BOk ⟨a, st.take k⟩ := by
  obtain ⟨h0, h1, h2, h3, h4⟩ := h
  refine ⟨h0, h1, ?_, h3.sublist (List.take_sublist _ _), fun s hs => h4 s (List.mem_of_mem_take hs)⟩
  intro z
  have z : st.take k = [] := z
  rw [List.take_eq_nil_iff] at z
  rcases z with z | z
  · omega
  · exact h2 z
local macro_rules | `(tactic| walk_at "ba") => `(tactic| (apply sd_asg; (focus (apply ev_lst; (focus (apply ea_cons; (focus (apply ev_mk; (focus walk_at "ea"); (focus (first | exact mk_B (b := ⟨_, [_]⟩) (by assumption) | exact mk_B (b := ⟨_, [_, _]⟩) (by assumption) | exact mk_B (b := ⟨_, [_, _, _]⟩) (by assumption) | exact mk_B (b := ⟨_, [_, _, _, _]⟩) (by assumption) | exact mk_B (b := ⟨_, [_, _, _, _, _]⟩) (by assumption) | exact mk_B (b := ⟨_, [_, _, _, _, _, _]⟩) (by assumption) | exact mk_B (b := ⟨_, [_, _, _, _, _, _, _]⟩) (by assumption) | exact mk_B (b := ⟨_, [_, _, _, _, _, _, _, _]⟩) (by assumption))))); (focus walk_at "ea"))); (focus (simp; done)))); walk_at "sl"))
local macro_rules | `(tactic| walk_at "bb") => `(tactic| (refine sd_seq ?_; first | (apply sd_no; (focus walk_at "et"); (focus (simp; done)); refine sd_next ?_) | (apply sd_yes; (focus walk_at "et"); (focus (simp; done)); walk_at "ba")))
theorem all8 {l : List Int} (h : l.Pairwise (· < ·)) (h2 : ∀ s ∈ l, 0 ≤ s ∧ s < 8) (hl : l.length = 8) : l = [0, 1, 2, 3, 4, 5, 6, 7] := by
  match l, hl with
  | [a, b, c, d, e, f, g, i], _ =>
    simp only [List.pairwise_cons, List.mem_cons, List.not_mem_nil, or_false, forall_eq_or_imp, forall_eq] at h h2
    obtain ⟨⟨h1, _⟩, ⟨h3, _⟩, ⟨h4, _⟩, ⟨h5, _⟩, ⟨h6, _⟩, ⟨h7, _⟩, h8, _⟩ := h
    obtain ⟨k1, k2, k3, k4, k5, k6, k7, k8⟩ := h2
    have : a = 0 := by omega
    have : b = 1 := by omega
    have : c = 2 := by omega
    have : d = 3 := by omega
    have : e = 4 := by omega
    have : f = 5 := by omega
    have : g = 6 := by omega
    have : i = 7 := by omega
    simp [*]
theorem ok_law_bill (T : Tx K mg A) : FnR P w K mg base (L2.CX P w) 4 A.f_law_bill (SpD K (R_lbill A)) := by
  obtain ⟨fd, F, hb⟩ := T.F_law_bill
  refine fnD F sc_law_bill hb (fun ds O Post h => by first | (obtain ⟨rfl, _⟩ := h; rfl) | (obtain ⟨_, rfl, _⟩ := h; rfl) | (obtain ⟨_, _, rfl, _⟩ := h; rfl) | (obtain ⟨_, _, _, rfl, _⟩ := h; rfl) | (obtain ⟨_, _, _, _, rfl, _⟩ := h; rfl) | (obtain ⟨_, _, _, _, _, rfl, _⟩ := h; rfl) | (obtain ⟨_, _, _, _, _, _, rfl, _⟩ := h; rfl) | (obtain ⟨_, _, _, _, _, _, _, rfl, _⟩ := h; rfl) | (obtain ⟨_, _, _, _, _, _, _, _, rfl, _⟩ := h; rfl) | (obtain ⟨_, _, _, _, _, _, _, _, _, rfl, _⟩ := h; rfl) | (obtain ⟨_, _, _, _, _, _, _, _, _, _, rfl, _⟩ := h; rfl) | (obtain ⟨_, _, _, _, _, _, _, _, _, _, _, rfl, _⟩ := h; rfl) | (obtain ⟨_, _, _, _, _, _, _, _, _, _, _, _, rfl, _⟩ := h; rfl) | (obtain ⟨_, _, _, _, _, _, _, _, _, _, _, _, _, rfl, _⟩ := h; rfl)) fun cdv A' outer s H E hr => ⟨_, PSs.nox (pss_cons (ps_asg (pv 0) (pg_tupK K (n := 2) rfl (pgs_cons (pg_name (i := 1) sc_law_bill.nd rfl (Or.inl rfl)) (pgs_cons (pg_name (i := 2) sc_law_bill.nd rfl (Or.inl rfl)) pgs_nil))))
      (pss_cons (ps_set (i := 3) sc_law_bill.nd rfl (Or.inl rfl) (pe_lst (pa_cons (StX.pe_makeR T.mk_Bill (ok_Bill_Dinit T) (hr.mono (by decide)) rfl T.g_Bill passL (pa_cons (pv 1) (pa_cons (pe_ix (ix_tupK K) (pv 2) pe_int (fun _ _ => rfl)) pa_nil))) pa_nil)))
      (pss_cons (ps_if (pt_cmpR op_eq (pe_callB (call_lenK K) (by rfl) T.b_len (by decide +kernel) (pa_cons (pv 2) pa_nil)) pe_int (nomark _)) (pss_one (ps_set (i := 3) sc_law_bill.nd rfl (Or.inl rfl) (pe_lst (pa_cons (StX.pe_makeR T.mk_Bill (ok_Bill_Dinit T) (hr.mono (by decide)) rfl T.g_Bill passL (pa_cons (pv 1) (pa_cons (pe_ix (ix_tupK K) (pv 2) pe_int (fun _ _ => rfl)) (pa_cons (pe_ix (ix_tupK K) (pv 2) pe_int (fun _ _ => rfl)) pa_nil)))) pa_nil)))) pss_nil)
      (pss_cons (ps_if (pt_cmpR op_eq (pe_callB (call_lenK K) (by rfl) T.b_len (by decide +kernel) (pa_cons (pv 2) pa_nil)) pe_int (nomark _)) (pss_one (ps_set (i := 3) sc_law_bill.nd rfl (Or.inl rfl) (pe_lst (pa_cons (StX.pe_makeR T.mk_Bill (ok_Bill_Dinit T) (hr.mono (by decide)) rfl T.g_Bill passL (pa_cons (pv 1) (pa_cons (pe_ix (ix_tupK K) (pv 2) pe_int (fun _ _ => rfl)) (pa_cons (pe_ix (ix_tupK K) (pv 2) pe_int (fun _ _ => rfl)) (pa_cons (pe_ix (ix_tupK K) (pv 2) pe_int (fun _ _ => rfl)) pa_nil))))) pa_nil)))) pss_nil)
      (pss_cons (ps_if (pt_cmpR op_eq (pe_callB (call_lenK K) (by rfl) T.b_len (by decide +kernel) (pa_cons (pv 2) pa_nil)) pe_int (nomark _)) (pss_one (ps_set (i := 3) sc_law_bill.nd rfl (Or.inl rfl) (pe_lst (pa_cons (StX.pe_makeR T.mk_Bill (ok_Bill_Dinit T) (hr.mono (by decide)) rfl T.g_Bill passL (pa_cons (pv 1) (pa_cons (pe_ix (ix_tupK K) (pv 2) pe_int (fun _ _ => rfl)) (pa_cons (pe_ix (ix_tupK K) (pv 2) pe_int (fun _ _ => rfl)) (pa_cons (pe_ix (ix_tupK K) (pv 2) pe_int (fun _ _ => rfl)) (pa_cons (pe_ix (ix_tupK K) (pv 2) pe_int (fun _ _ => rfl)) pa_nil)))))) pa_nil)))) pss_nil)
      (pss_cons (ps_if (pt_cmpR op_eq (pe_callB (call_lenK K) (by rfl) T.b_len (by decide +kernel) (pa_cons (pv 2) pa_nil)) pe_int (nomark _)) (pss_one (ps_set (i := 3) sc_law_bill.nd rfl (Or.inl rfl) (pe_lst (pa_cons (StX.pe_makeR T.mk_Bill (ok_Bill_Dinit T) (hr.mono (by decide)) rfl T.g_Bill passL (pa_cons (pv 1) (pa_cons (pe_ix (ix_tupK K) (pv 2) pe_int (fun _ _ => rfl)) (pa_cons (pe_ix (ix_tupK K) (pv 2) pe_int (fun _ _ => rfl)) (pa_cons (pe_ix (ix_tupK K) (pv 2) pe_int (fun _ _ => rfl)) (pa_cons (pe_ix (ix_tupK K) (pv 2) pe_int (fun _ _ => rfl)) (pa_cons (pe_ix (ix_tupK K) (pv 2) pe_int (fun _ _ => rfl)) pa_nil))))))) pa_nil)))) pss_nil)
      (pss_cons (ps_if (pt_cmpR op_eq (pe_callB (call_lenK K) (by rfl) T.b_len (by decide +kernel) (pa_cons (pv 2) pa_nil)) pe_int (nomark _)) (pss_one (ps_set (i := 3) sc_law_bill.nd rfl (Or.inl rfl) (pe_lst (pa_cons (StX.pe_makeR T.mk_Bill (ok_Bill_Dinit T) (hr.mono (by decide)) rfl T.g_Bill passL (pa_cons (pv 1) (pa_cons (pe_ix (ix_tupK K) (pv 2) pe_int (fun _ _ => rfl)) (pa_cons (pe_ix (ix_tupK K) (pv 2) pe_int (fun _ _ => rfl)) (pa_cons (pe_ix (ix_tupK K) (pv 2) pe_int (fun _ _ => rfl)) (pa_cons (pe_ix (ix_tupK K) (pv 2) pe_int (fun _ _ => rfl)) (pa_cons (pe_ix (ix_tupK K) (pv 2) pe_int (fun _ _ => rfl)) (pa_cons (pe_ix (ix_tupK K) (pv 2) pe_int (fun _ _ => rfl)) pa_nil)))))))) pa_nil)))) pss_nil)
      (pss_cons (ps_if (pt_cmpR op_gt (pe_callB (call_lenK K) (by rfl) T.b_len (by decide +kernel) (pa_cons (pv 2) pa_nil)) pe_int (nomark _)) (pss_one (ps_set (i := 3) sc_law_bill.nd rfl (Or.inl rfl) (pe_lst (pa_cons (StX.pe_makeR T.mk_Bill (ok_Bill_Dinit T) (hr.mono (by decide)) rfl T.g_Bill passL (pa_cons (pv 1) (pa_cons (pe_ix (ix_tupK K) (pv 2) pe_int (fun _ _ => rfl)) (pa_cons (pe_ix (ix_tupK K) (pv 2) pe_int (fun _ _ => rfl)) (pa_cons (pe_ix (ix_tupK K) (pv 2) pe_int (fun _ _ => rfl)) (pa_cons (pe_ix (ix_tupK K) (pv 2) pe_int (fun _ _ => rfl)) (pa_cons (pe_ix (ix_tupK K) (pv 2) pe_int (fun _ _ => rfl)) (pa_cons (pe_ix (ix_tupK K) (pv 2) pe_int (fun _ _ => rfl)) (pa_cons (pe_ix (ix_tupK K) (pv 2) pe_int (fun _ _ => rfl)) pa_nil))))))))) pa_nil)))) pss_nil)
      (pss_cons (ps_if (pt_cmpR op_eq (pe_callB (call_lenK K) (by rfl) T.b_len (by decide +kernel) (pa_cons (pv 2) pa_nil)) pe_int (nomark _)) (pss_one (ps_set (i := 3) sc_law_bill.nd rfl (Or.inl rfl) (pe_lst (pa_cons (StX.pe_makeR T.mk_Bill (ok_Bill_Dinit T) (hr.mono (by decide)) rfl T.g_Bill passL (pa_cons (pv 1) (pa_cons pe_int (pa_cons pe_int (pa_cons pe_int (pa_cons pe_int (pa_cons pe_int (pa_cons pe_int (pa_cons pe_int (pa_cons pe_int pa_nil)))))))))) pa_nil)))) pss_nil)
      (pss_one (ps_ret (pe_ix (ix_listK K) (pv 3) pe_int (fun _ _ => rfl))))))))))))), fun ds O Post hR => ?_⟩
  obtain ⟨b, rfl, hb, hp⟩ := hR
  obtain ⟨amt, st⟩ := b
  have hl := hb.len
  dsimp only at hl
  unfold encR
  walk_at "go"
  refine sd_seq (sd_asgG (Ev.toP (O1 := O) (by walk_at "ev") (gd_tup rfl (gds_cons (gd_name (gds_cons (gd_name (gds_nil ?_))))))))
  walk_at "sl"
  have t1 := hb.take 1 (by decide)
  have t2 := hb.take 2 (by decide)
  have t3 := hb.take 3 (by decide)
  have t4 := hb.take 4 (by decide)
  have t5 := hb.take 5 (by decide)
  have t6 := hb.take 6 (by decide)
  have t7 := hb.take 7 (by decide)
  have k8 : BOk ⟨amt, [0, 1, 2, 3, 4, 5, 6, 7]⟩ := ⟨hb.1, hb.2.1, by simp, by show List.Pairwise (· < ·) ([0, 1, 2, 3, 4, 5, 6, 7] : List Int); decide, by show ∀ s ∈ ([0, 1, 2, 3, 4, 5, 6, 7] : List Int), 0 ≤ s ∧ s < 8; decide⟩
  have h8 : st.length = 8 → st = [0, 1, 2, 3, 4, 5, 6, 7] := all8 hb.2.2.2.1 hb.2.2.2.2
  match st, hl with
  | [a], _ =>
    dsimp only [List.take] at t1 t2 t3 t4 t5 t6 t7
    refine sd_seq ?_
    walk_at "ba"
    walk_at "bb"
    walk_at "bb"
    walk_at "bb"
    walk_at "bb"
    walk_at "bb"
    walk_at "bb"
    walk_at "bb"
    walk_at "st"
    exact hp
  | [a, b], _ =>
    dsimp only [List.take] at t1 t2 t3 t4 t5 t6 t7
    refine sd_seq ?_
    walk_at "ba"
    walk_at "bb"
    walk_at "bb"
    walk_at "bb"
    walk_at "bb"
    walk_at "bb"
    walk_at "bb"
    walk_at "bb"
    walk_at "st"
    exact hp
  | [a, b, c], _ =>
    dsimp only [List.take] at t1 t2 t3 t4 t5 t6 t7
    refine sd_seq ?_
    walk_at "ba"
    walk_at "bb"
    walk_at "bb"
    walk_at "bb"
    walk_at "bb"
    walk_at "bb"
    walk_at "bb"
    walk_at "bb"
    walk_at "st"
    exact hp
  | [a, b, c, d], _ =>
    dsimp only [List.take] at t1 t2 t3 t4 t5 t6 t7
    refine sd_seq ?_
    walk_at "ba"
    walk_at "bb"
    walk_at "bb"
    walk_at "bb"
    walk_at "bb"
    walk_at "bb"
    walk_at "bb"
    walk_at "bb"
    walk_at "st"
    exact hp
  | [a, b, c, d, e], _ =>
    dsimp only [List.take] at t1 t2 t3 t4 t5 t6 t7
    refine sd_seq ?_
    walk_at "ba"
    walk_at "bb"
    walk_at "bb"
    walk_at "bb"
    walk_at "bb"
    walk_at "bb"
    walk_at "bb"
    walk_at "bb"
    walk_at "st"
    exact hp
  | [a, b, c, d, e, f], _ =>
    dsimp only [List.take] at t1 t2 t3 t4 t5 t6 t7
    refine sd_seq ?_
    walk_at "ba"
    walk_at "bb"
    walk_at "bb"
    walk_at "bb"
    walk_at "bb"
    walk_at "bb"
    walk_at "bb"
    walk_at "bb"
    walk_at "st"
    exact hp
  | [a, b, c, d, e, f, g], _ =>
    dsimp only [List.take] at t1 t2 t3 t4 t5 t6 t7
    refine sd_seq ?_
    walk_at "ba"
    walk_at "bb"
    walk_at "bb"
    walk_at "bb"
    walk_at "bb"
    walk_at "bb"
    walk_at "bb"
    walk_at "bb"
    walk_at "st"
    exact hp
  | [a, b, c, d, e, f, g, h], _ =>
    cases h8 rfl
    dsimp only [List.take] at t1 t2 t3 t4 t5 t6 t7
    refine sd_seq ?_
    walk_at "ba"
    walk_at "bb"
    walk_at "bb"
    walk_at "bb"
    walk_at "bb"
    walk_at "bb"
    walk_at "bb"
    walk_at "bb"
    walk_at "st"
    exact hp
  | _ :: _ :: _ :: _ :: _ :: _ :: _ :: _ :: _ :: _, z => exact absurd z.2 (by simp)
end
end Law

set_option Elab.async false
set_option linter.all false
set_option maxRecDepth 100000
set_option maxHeartbeats 4000000
namespace Law
open PySem PySem.Spec L2 DL
open PyProof.Rows hiding St
local macro_rules | `(tactic| walk_at "sl") => `(tactic| try dsimp only [startD, List.map, List.length_cons, List.length_nil, List.replicate, List.cons_append, List.nil_append, List.set_cons_zero, List.set_cons_succ, Nat.reduceSub, Nat.reduceAdd, wipeD])
local macro_rules | `(tactic| walk_at "go") => `(tactic| ((try dsimp only [cxOf, Cx.nox, Cx.wish, Cx.blk]); walk_at "sl"; walk_at "sl"))
local macro_rules | `(tactic| walk_at "own") => `(tactic| first | assumption | exact setO_same | (rw [setO_ne (by first | assumption | exact Ne.symm (by assumption))]; assumption) | (rw [setO_ne (by first | assumption | exact Ne.symm (by assumption))]; exact setO_same))
local macro_rules | `(tactic| walk_at "side") => `(tactic| first
  | assumption | rfl | exact flat_ints _ | exact atI0 | exact atI1 | exact atI2 | exact atI3 | decide | omega | (simp; done)
  | (refine cmodp ?_; omega) | (refine cdivw ?_ ?_ <;> omega) | (refine cmul_l ?_ ?_ <;> omega) | (refine cmul_r ?_ ?_ <;> omega) | (refine cpow ?_ ?_ ?_ <;> decide))
local macro_rules | `(tactic| walk_at "rr") => `(tactic| first
  | with_reducible exact r_int | with_reducible exact r_bl | with_reducible exact r_eqI | with_reducible exact r_neI | with_reducible exact r_eqB | with_reducible exact r_neB | with_reducible exact r_eqS | with_reducible exact r_neS
  | ((with_reducible apply r_intC); walk_at "side")
  | ((with_reducible apply r_ixL); walk_at "side") | ((with_reducible apply r_ixT); walk_at "side") | ((with_reducible apply r_ixS); walk_at "side") | ((with_reducible apply r_ixO); (focus walk_at "own"); (focus walk_at "side"))
  | ((with_reducible apply r_inT0) <;> walk_at "side") | ((with_reducible apply r_inL0) <;> walk_at "side") | ((with_reducible apply r_inT1) <;> walk_at "side") | ((with_reducible apply r_inL1) <;> walk_at "side")
  | ((with_reducible apply r_inO0); (focus walk_at "own"); (focus walk_at "side"); (focus walk_at "side")) | ((with_reducible apply r_inO1); (focus walk_at "own"); (focus walk_at "side"); (focus walk_at "side"))
  | ((with_reducible apply r_rep) <;> walk_at "side") | ((with_reducible apply r_cat) <;> walk_at "side")
  | ((with_reducible apply r_catA) <;> walk_at "side") | ((with_reducible apply r_catO); (focus walk_at "own"); (focus walk_at "side"))
  | ((with_reducible apply r_addS); (focus walk_at "side")) | with_reducible exact r_isN _ rfl | with_reducible exact r_notN _ rfl
  | ((with_reducible apply r_eqP); (focus walk_at "pl"); (focus walk_at "pl"); (focus decide); (focus decide)) | ((with_reducible apply r_neP); (focus walk_at "pl"); (focus walk_at "pl"); (focus decide); (focus decide)))
local macro_rules | `(tactic| walk_at "pl") => `(tactic| first | exact Pl.ints _ | exact Pl.intsL _ | exact Pl.nilT | exact Pl.nilL | exact Pl.int (n := 0) | assumption)
local macro_rules | `(tactic| walk_at "cc") => `(tactic| first
  | with_reducible exact c_lenL | with_reducible exact c_lenT | with_reducible exact c_lenS | ((with_reducible apply c_lenO); walk_at "own")
  | with_reducible exact c_listL | with_reducible exact c_listT | with_reducible exact c_tupL | with_reducible exact c_sum | with_reducible exact c_intB | with_reducible exact c_int1
  | with_reducible exact c_max2 | ((with_reducible apply c_strI); (focus walk_at "side")) | ((with_reducible apply c_lenStr); (focus walk_at "side"))
  | ((with_reducible apply c_isi); (focus rfl); (focus (first | decide +kernel | rfl))) | ((with_reducible apply c_isi2); (focus rfl); (focus (first | decide +kernel | rfl)); (focus (first | decide +kernel | rfl))))
local macro_rules | `(tactic| walk_at "ea") => `(tactic| first
  | with_reducible exact ea_nil
  | ((with_reducible apply ea_cons); (focus walk_at "ev"); (focus walk_at "ea"))
  | ((with_reducible apply ea_starT); (focus walk_at "ev"); (focus walk_at "ea")) | ((with_reducible apply ea_starL); (focus walk_at "ev"); (focus walk_at "ea")))
local macro_rules | `(tactic| walk_at "ev") => `(tactic| first
  | exact ev_var rfl | with_reducible exact ev_int | with_reducible exact ev_bl | with_reducible exact ev_str | with_reducible exact ev_non | with_reducible exact ev_ty | with_reducible exact ev_ref
  | ((with_reducible apply ev_op); (focus walk_at "ev"); (focus walk_at "ev"); (focus walk_at "rr"))
  | ((with_reducible apply ev_cb); (focus walk_at "ea"); (focus walk_at "cc"))
  | ((with_reducible apply ev_neg); (focus walk_at "ev"))
  | ((with_reducible apply ev_tup); (focus walk_at "ea"); (focus walk_at "side"))
  | ((with_reducible apply ev_lst); (focus walk_at "ea"); (focus walk_at "side"))
  | ((with_reducible apply ev_notV); (focus walk_at "ev"))
  | ((with_reducible apply ev_chain); (focus walk_at "ev"); (focus walk_at "ev"); (focus walk_at "rr"); (focus (intro _; walk_at "ev")); (focus (intro _; walk_at "rr")))
  | walk_at "evx")
local macro_rules | `(tactic| walk_at "et") => `(tactic| first
  | ((with_reducible apply et_test); walk_at "ev") | ((with_reducible apply et_B); walk_at "ev") | with_reducible exact et_yes
  | ((with_reducible apply et_not); walk_at "et")
  | ((with_reducible apply et_and); (focus walk_at "et"); (focus (intro _; walk_at "et")))
  | ((with_reducible apply et_or); (focus walk_at "et"); (focus (intro _; walk_at "et"))))
local macro_rules | `(tactic| walk_at "s1") => `(tactic| first
  | ((with_reducible apply sd_asg); (focus walk_at "ev"); walk_at "sl")
  | ((with_reducible apply sd_par); (focus walk_at "ea"); walk_at "sl")
  | ((with_reducible apply sd_setL); (focus walk_at "ev"); (focus walk_at "ev"); (focus walk_at "ev"); (focus walk_at "own"); (focus (first | exact ixN_of (k := 0) rfl (by simp) | exact ixN_of (k := 1) rfl (by simp) | exact ixN_of (k := 2) rfl (by simp) | exact ixN_of (k := 3) rfl (by simp) | assumption)); walk_at "sl")
  | ((with_reducible apply sd_app); (focus walk_at "ev"); (focus walk_at "own"); (focus walk_at "ev"); (focus walk_at "own"); (focus walk_at "side"); walk_at "sl")
  | ((with_reducible apply sd_ret); (focus walk_at "ev"))
  | with_reducible apply sd_next)
local macro_rules | `(tactic| walk_at "st") => `(tactic| first | ((with_reducible apply sd_seq); walk_at "s1") | walk_at "s1")
local macro_rules | `(tactic| walk_at "R") => `(tactic| first
  | exact ⟨_, rfl, rfl, rfl⟩ | exact ⟨_, _, rfl, rfl, rfl⟩ | exact ⟨_, _, _, rfl, rfl, rfl⟩ | exact ⟨_, _, _, _, rfl, rfl, rfl⟩
  | exact ⟨_, rfl, by assumption, rfl, rfl⟩ | exact ⟨_, _, rfl, by assumption, rfl, rfl⟩ | exact ⟨_, _, _, rfl, by assumption, rfl, rfl⟩ | exact ⟨_, _, _, _, rfl, by assumption, rfl, rfl⟩
  | exact ⟨_, _, rfl, by assumption, by assumption, rfl, rfl⟩ | exact ⟨_, _, _, rfl, by assumption, by assumption, rfl, rfl⟩ | exact ⟨_, _, _, _, rfl, by assumption, by assumption, rfl, rfl⟩)
local macro_rules | `(tactic| walk_at "evx") => `(tactic| first
  | ((with_reducible apply ev_run); (focus walk_at "ea"); walk_at "R")
  | ((with_reducible apply ev_propR); (focus walk_at "ev"); walk_at "R")
  | ((with_reducible apply ev_fld); (focus walk_at "ev"); (focus walk_at "cls"); (focus walk_at "cls"); (focus rfl))
  | ((with_reducible apply ev_ownIn0); (focus walk_at "ev"); (focus walk_at "ev"); walk_at "R")
  | ((with_reducible apply ev_slL); (focus walk_at "ev"); (focus walk_at "eo"); (focus walk_at "eo"))
  | ((with_reducible apply ev_slT); (focus walk_at "ev"); (focus walk_at "eo"); (focus walk_at "eo"))
  | ((with_reducible apply ev_cvalI); (focus walk_at "ev"); (focus walk_at "cls"); (focus walk_at "cls")))
local macro_rules | `(tactic| walk_at "eo") => `(tactic| first | with_reducible exact eo_none | ((with_reducible apply eo_some); walk_at "ev"))
local macro_rules | `(tactic| walk_at "cls") => `(tactic| first
  | with_reducible exact (by assumption : Tx _ _ _).cl_Shares
  | with_reducible exact (by assumption : Tx _ _ _).na_Shares_amounts
  | with_reducible exact (by assumption : Tx _ _ _).cl_Bill
  | with_reducible exact (by assumption : Tx _ _ _).na_Bill_total
  | with_reducible exact (by assumption : Tx _ _ _).na_Bill_there
  | with_reducible exact (by assumption : Tx _ _ _).cr_Bill
  | with_reducible exact (by assumption : Tx _ _ _).cv_Bill_MAX_SEATS
  | with_reducible exact (by assumption : Tx _ _ _).cl_Evening
  | with_reducible exact (by assumption : Tx _ _ _).na_Evening_size
  | with_reducible exact (by assumption : Tx _ _ _).na_Evening_parts
  | with_reducible exact (by assumption : Tx _ _ _).cr_Evening
  | with_reducible exact (by assumption : Tx _ _ _).cv_Evening_MAX_BILLS
  | with_reducible exact (by assumption : Tx _ _ _).cl_Course
  | with_reducible exact (by assumption : Tx _ _ _).na_Course_marks
  | with_reducible exact (by assumption : Tx _ _ _).na_Course_rows
  | with_reducible exact (by assumption : Tx _ _ _).na_Course_ring
  | with_reducible exact (by assumption : Tx _ _ _).na_Course_evening
  | with_reducible exact (by assumption : Tx _ _ _).cl_MarkObserver
  | with_reducible exact (by assumption : Tx _ _ _).na_MarkObserver_evening
  | with_reducible exact (by assumption : Tx _ _ _).na_MarkObserver_left
  | with_reducible exact (by assumption : Tx _ _ _).na_MarkObserver_accepted)
section
variable {P : Program} {w : World} {K : PySem.W.Frag} {mg : Str → Option Value} {base : Heap} {A : Ad}
def R_lev (A : Ad) : DR := fun ds O Post => ∃ n rows, ds = [.int n, .lst (List.map encR rows)] ∧ EOk n rows ∧ Post (encE A n rows) O
def R_lrows : DR := fun ds O Post => ∃ (st : Addr) (n most : Int) (s : DS), ds = [.ref st, .int n, .int most] ∧ (2 ≤ n ∧ n ≤ 8) ∧ (0 ≤ most ∧ most ≤ 30) ∧ O st = some s.enc ∧ s.ok ∧ ∀ rows (s' : DS), s'.ok → EOk n rows → (rows.length : Int) ≤ most → (∀ b ∈ rows, b.amt < 1000000000000) → Post (.lst (rows.map encR)) (setO O st s'.enc)
theorem ok_law_evening (T : Tx K mg A) : FnR P w K mg base (L2.CX P w) 6 A.f_law_evening (SpD K (R_lev A)) := by
  obtain ⟨fd, F, hb⟩ := T.F_law_evening
  refine fnD F sc_law_evening hb (fun ds O Post h => by first | (obtain ⟨rfl, _⟩ := h; rfl) | (obtain ⟨_, rfl, _⟩ := h; rfl) | (obtain ⟨_, _, rfl, _⟩ := h; rfl) | (obtain ⟨_, _, _, rfl, _⟩ := h; rfl) | (obtain ⟨_, _, _, _, rfl, _⟩ := h; rfl) | (obtain ⟨_, _, _, _, _, rfl, _⟩ := h; rfl) | (obtain ⟨_, _, _, _, _, _, rfl, _⟩ := h; rfl) | (obtain ⟨_, _, _, _, _, _, _, rfl, _⟩ := h; rfl) | (obtain ⟨_, _, _, _, _, _, _, _, rfl, _⟩ := h; rfl) | (obtain ⟨_, _, _, _, _, _, _, _, _, rfl, _⟩ := h; rfl) | (obtain ⟨_, _, _, _, _, _, _, _, _, _, rfl, _⟩ := h; rfl) | (obtain ⟨_, _, _, _, _, _, _, _, _, _, _, rfl, _⟩ := h; rfl) | (obtain ⟨_, _, _, _, _, _, _, _, _, _, _, _, rfl, _⟩ := h; rfl) | (obtain ⟨_, _, _, _, _, _, _, _, _, _, _, _, _, rfl, _⟩ := h; rfl)) fun cdv A' outer s H E hr => ⟨_, PSs.nox (pss_cons (ps_set (i := 2) sc_law_evening.nd rfl (Or.inl rfl) (StX.pe_makeR T.mk_Evening (ok_Evening_Dinit T) (hr.mono (by decide)) rfl T.g_Evening passL (pa_cons (pv 0) pa_nil)))
      (pss_cons (ps_for PassesOwn.never rfl (pi_listK K (pv 1)) (pg_name (i := 3) sc_law_evening.nd rfl (Or.inl rfl)) (pss_one (ps_set (i := 2) sc_law_evening.nd rfl (Or.inl rfl) (pe_op (op_ownS T.sf_Evening T.d_Evening_Dadd T.df_Evening_Dadd (ok_Evening_Dadd T) (hr.mono (by decide)) passL) (pv 2) (StX.pe_makeR T.mk_Evening (ok_Evening_Dinit T) (hr.mono (by decide)) rfl T.g_Evening passL (pa_cons (pv 0) (pa_cons (pe_run (ok_law_bill T) (hr.mono (by decide)) T.k_law_bill T.g__law_bill passL (pa_cons (pv 3) pa_nil)) pa_nil)))))))
      (pss_one (ps_ret (pv 2))))), fun ds O Post hR => ?_⟩
  obtain ⟨n, rows, rfl, he, hp⟩ := hR
  walk_at "go"
  have hE : EOk n [] := ⟨he.1, he.2.1, Nat.zero_le _, fun b hb => nomatch hb⟩
  refine sd_seq (sd_asg (d := encE A n []) (O1 := O) (ev_mk (ds := [.int n]) (O1 := O) (by walk_at "ea") (mk_E hE)) ?_)
  walk_at "sl"
  refine sd_seq (sd_for (ei_list (by walk_at "ev")) (fun i δ' O' => O' = O ∧ ∃ c, δ' = [some (.int n), some (.lst (rows.map encR)), some (encE A n (rows.take i)), c]) ⟨rfl, none, rfl⟩ (fun i d δ' O' hd hI => ?_) (fun δ' O' hI => ?_))
  · obtain ⟨rfl, c, rfl⟩ := hI
    rw [List.getElem?_map] at hd
    cases q : rows[i]? with
    | none => rw [q] at hd; cases hd
    | some b =>
      rw [q] at hd; cases hd
      refine gd_name ?_
      walk_at "sl"
      have hbm := he.2.2.2 b (List.mem_of_getElem? q)
      have hb := hbm.1
      have et : rows.take (i + 1) = rows.take i ++ [b] := by rw [List.take_add_one, q]; rfl
      have hE1 : EOk n [b] := ⟨he.1, he.2.1, by simp, fun x hx => by obtain rfl := List.mem_singleton.mp hx; exact hbm⟩
      have hE2 : EOk n (rows.take i ++ [b]) := by
        rw [← et]
        exact ⟨he.1, he.2.1, Nat.le_trans (by rw [List.length_take]; exact Nat.min_le_right _ _) he.2.2.1, fun x hx => he.2.2.2 x (List.mem_of_mem_take hx)⟩
      refine sd_asg (d := encE A n (rows.take (i + 1))) (O1 := O') ?_ ⟨rfl, _, rfl⟩
      rw [et]
      refine ev_ownS (C := A.c_Evening) (nm := ["size", "parts"]) (nm' := ["size", "parts"]) (ds := [.int n, .tup ((rows.take i).map (encB A))]) (es := [.int n, .tup ([b].map (encB A))]) (O1 := O') (O2 := O') (ev_var rfl) (ev_mk (ds := [.int n, encB A b]) (O1 := O') ?_ (mk_E (bs := [b]) hE1)) ⟨n, _, [b], rfl, hE2, rfl, rfl⟩
      walk_at "ea"
  · obtain ⟨rfl, c, rfl⟩ := hI
    rw [List.length_map, List.take_of_length_le (Nat.le_refl _)]
    walk_at "st"
    exact hp
/-! ### drawing -/
theorem DS.draw (s : DS) (n : Int) (hn : 0 < n) (hn2 : n ≤ 10 ^ 30) (hk : s.ok) : ∃ v s', 0 ≤ v ∧ v < n ∧ DS.ok s' ∧ ∀ {K : PySem.W.Frag} {t : TA} {E : XK} {δ : Sl} {O O1 O2 : Ow} {st : Addr}, O1 st = some s.enc → EvA K t δ O [.ref st, .int n] O1 → setO O1 st s'.enc = O2 → Ev K (tRun (SpD K R_drawn) E t) δ O (.int v) O2 :=
  ⟨(s.next n).1, (s.next n).2, (DS.next_r hn).1, (DS.next_r hn).2, DS.next_ok hn hk, fun ho h e => ev_run h ⟨_, n, s, rfl, hn, hn2, ho, hk, rfl, e⟩⟩
def Wst (O : Ow) (st p : Addr) (s : DS) (ds : List D) : Ow := setO (setO O st s.enc) p (.lst ds)
section
variable {O : Ow} {st p : Addr} {s s' : DS} {ds es : List D}
theorem W_st (h : st ≠ p) : Wst O st p s ds st = some s.enc := by unfold Wst; rw [setO_ne h]; exact setO_same
theorem W_p : Wst O st p s ds p = some (.lst ds) := setO_same
theorem W_next (h : st ≠ p) : setO (Wst O st p s ds) st s'.enc = Wst O st p s' ds := by unfold Wst; rw [setO_comm h.symm, setO_setO]
theorem W_app : setO (Wst O st p s ds) p (.lst es) = Wst O st p s es := setO_setO
theorem W_del (h : st ≠ p) (hp : O p = none) : delO (Wst O st p s ds) p = setO O st s.enc := delO_setO (by rw [setO_ne h.symm]; exact hp)
theorem W_first (h : st ≠ p) : setO (setO O p (.lst ds)) st s.enc = Wst O st p s ds := by unfold Wst; rw [setO_comm h.symm]
end
theorem ok_law_rows (T : Tx K mg A) : FnR P w K mg base (L2.CX P w) 2 A.f_law_rows (SpD K (R_lrows)) := by
  obtain ⟨fd, F, hb⟩ := T.F_law_rows
  refine fnD F sc_law_rows hb (fun ds O Post h => by first | (obtain ⟨rfl, _⟩ := h; rfl) | (obtain ⟨_, rfl, _⟩ := h; rfl) | (obtain ⟨_, _, rfl, _⟩ := h; rfl) | (obtain ⟨_, _, _, rfl, _⟩ := h; rfl) | (obtain ⟨_, _, _, _, rfl, _⟩ := h; rfl) | (obtain ⟨_, _, _, _, _, rfl, _⟩ := h; rfl) | (obtain ⟨_, _, _, _, _, _, rfl, _⟩ := h; rfl) | (obtain ⟨_, _, _, _, _, _, _, rfl, _⟩ := h; rfl) | (obtain ⟨_, _, _, _, _, _, _, _, rfl, _⟩ := h; rfl) | (obtain ⟨_, _, _, _, _, _, _, _, _, rfl, _⟩ := h; rfl) | (obtain ⟨_, _, _, _, _, _, _, _, _, _, rfl, _⟩ := h; rfl) | (obtain ⟨_, _, _, _, _, _, _, _, _, _, _, rfl, _⟩ := h; rfl) | (obtain ⟨_, _, _, _, _, _, _, _, _, _, _, _, rfl, _⟩ := h; rfl) | (obtain ⟨_, _, _, _, _, _, _, _, _, _, _, _, _, rfl, _⟩ := h; rfl)) fun cdv A' outer s H E hr => ⟨_, PSs.nox (pss_cons (ps_set (i := 3) sc_law_rows.nd rfl (Or.inl rfl) (pe_lst pa_nil))
      (pss_cons (ps_for PassesOwn.never rfl (pi_range1 (by rfl) T.b_range (pa_cons (pe_run (ok_law_drawn T) (hr.mono (by decide)) T.k_law_drawn T.g__law_drawn passL (pa_cons (pv 0) (pa_cons (pe_op op_add (pv 2) pe_int) pa_nil))) pa_nil)) (pg_name (i := 4) sc_law_rows.nd rfl (Or.inl rfl)) (pss_cons (ps_set (i := 5) sc_law_rows.nd rfl (Or.inl rfl) (pe_callTy (call_tupleK K) (by rfl) T.b_tuple (by decide +kernel) (pa_cons (pe_lc (own := [("_law_seat", 6)]) rfl sc_law_rows.nd (pi_range1 (by rfl) T.b_range (pa_cons (pv 1) pa_nil)) (blkOk_by (N := N_law_rows) (sc := defScope s_law_rows) (by decide +kernel)) (fun _ _ _ _ _ => (pg_name (i := 6) sc_law_rows.nd rfl (by first | exact Or.inl rfl | exact Or.inr rfl))) (fun _ _ _ _ _ => (pts_one (pt_cmpR op_gt (pe_run (ok_law_drawn T) (hr.mono (by decide)) T.k_law_drawn T.g__law_drawn passL (pa_cons (pv 0) (pa_cons pe_int pa_nil))) pe_int (nomark _)))) (fun _ _ _ _ _ => (pv 6))) pa_nil)))
      (pss_cons (ps_set (i := 5) sc_law_rows.nd rfl (Or.inl rfl) (pe_ifExp (pt_cmpR (op_neDK K hr.units) (pv 5) (pe_tup pa_nil) (nomark _)) (pv 5) (pe_tup (pa_cons (pe_run (ok_law_drawn T) (hr.mono (by decide)) T.k_law_drawn T.g__law_drawn passL (pa_cons (pv 0) (pa_cons (pv 1) pa_nil))) pa_nil))))
      (pss_one (ps_expr (pe_bm PySem.F.plainAttrs_list PySem.F.slot_list_append PySem.F.type_list_append mt_append (pv 3) (pa_cons (pe_tup (pa_cons (pe_run (ok_law_drawn T) (hr.mono (by decide)) T.k_law_drawn T.g__law_drawn passL (pa_cons (pv 0) (pa_cons (pe_ix (ix_listK K) (pe_lst (pa_cons pe_int (pa_cons pe_int (pa_cons (pe_op op_pow pe_int pe_int) pa_nil)))) (pe_run (ok_law_drawn T) (hr.mono (by decide)) T.k_law_drawn T.g__law_drawn passL (pa_cons (pv 0) (pa_cons pe_int pa_nil))) (fun _ _ => rfl)) pa_nil))) (pa_cons (pv 5) pa_nil))) pa_nil)))))))
      (pss_one (ps_ret (pv 3))))), fun ds O Post hR => ?_⟩
  obtain ⟨st, n, most, q, rfl, hn, hm, hst, hok, hp⟩ := hR
  walk_at "go"
  refine sd_seq (sd_asgP (evp_lst ea_nil (by simp) fun p hpn => ?_))
  walk_at "sl"
  have hne : st ≠ p := fun z => by rw [z] at hst; rw [hst] at hpn; cases hpn
  obtain ⟨v, q0, hv0, hv1, hq0, dr⟩ := q.draw (most + 1) (by omega) (by omega) hok
  have ho : setO O p (.lst []) st = some q.enc := by rw [setO_ne hne]; exact hst
  refine sd_seq (sd_for (ei_rngN (j := v) (ea_cons (dr ho (by walk_at "ea") (W_first hne)) ea_nil) (by omega)) (fun i δ' O' => ∃ rows q1 c1 c2 c3, rows.length = i ∧ DS.ok q1 ∧ (∀ b ∈ rows, (BOk b ∧ ∀ s ∈ b.st, s < n) ∧ b.amt < 1000000000000) ∧ O' = Wst O st p q1 (rows.map encR) ∧ δ' = [some (.ref st), some (.int n), some (.int most), some (.ref p), c1, c2, c3]) ⟨[], q0, none, none, none, rfl, hq0, (fun b hb => nomatch hb), rfl, rfl⟩ (fun i d δ' O' hd hI => ?_) (fun δ' O' hI => ?_))
  · obtain ⟨rows, q1, c1, c2, c3, hl, hq1, hrs, rfl, rfl⟩ := hI
    have hiv : i < v.toNat := by
      have := (List.getElem?_eq_some_iff.mp hd).1
      simpa using this
    rw [List.getElem?_map, List.getElem?_range hiv] at hd
    cases hd
    refine gd_name ?_
    walk_at "sl"
    clear dr
    refine sd_seq (sd_asgP (evp_ex (ι := List Int × DS) (Q := fun x => DS.ok x.2 ∧ x.1.Sublist ((List.range n.toNat).map Int.ofNat)) (f := fun x => .tup (x.1.map .int)) (S := fun x => Wst O st p x.2 (rows.map encR)) ?_ ?_))
    · refine ex_tupL ?_
      refine ex_lcSt DS.ok (fun x => Wst O st p x (rows.map encR)) D.int D.int (fun a => [some (.ref st), some (.int n), some (.int most), some (.ref p), some (.int (i : Nat)), c2, some (.int a)]) ((List.range n.toNat).map Int.ofNat) hq1 (by simp; omega) ?_ (fun a => gc_name (by decide)) (fun a ha s hs => ?_)
      · rw [List.map_map]
        exact ei_rngN (by walk_at "ea") (by omega)
      · obtain ⟨v, s', h0, h1, h2, dr⟩ := s.draw 3 (by omega) (by omega) hs
        refine ⟨decide (0 < v), s', h2, ?_, fun _ => by walk_at "ev"⟩
        exact et_test (ev_op (O1 := Wst O st p s' (rows.map encR)) (dr (W_st hne) (by walk_at "ea") (W_next hne)) ev_int (by walk_at "rr"))
    · rintro ⟨out, q2⟩ ⟨hq2, hsub⟩
      dsimp only at hq2 hsub ⊢
      walk_at "sl"
      have hin : ∀ s ∈ out, 0 ≤ s ∧ s < n := fun s hs => by
        obtain ⟨k, hk, rfl⟩ := List.mem_map.mp (hsub.subset hs)
        have := List.mem_range.mp hk
        show 0 ≤ (k : Int) ∧ (k : Int) < n
        omega
      have hasc : out.Pairwise (· < ·) := List.Pairwise.sublist hsub (List.pairwise_map.mpr (List.pairwise_lt_range.imp fun h => by simpa using h))
      refine sd_seq (sd_asgP (evp_ex (ι := List Int × DS) (Q := fun x => DS.ok x.2 ∧ x.1 ≠ [] ∧ x.1.Pairwise (· < ·) ∧ ∀ s ∈ x.1, 0 ≤ s ∧ s < n) (f := fun x => .tup (x.1.map .int)) (S := fun x => Wst O st p x.2 (rows.map encR)) ?_ ?_))
      · by_cases e : out = []
        · subst e
          obtain ⟨v, s', h0, h1, h2, dr⟩ := q2.draw n (by omega) (by omega) hq2
          refine ⟨([v], s'), ⟨h2, by simp, by simp, fun s hs => by obtain rfl := List.mem_singleton.mp hs; exact ⟨h0, h1⟩⟩, ?_⟩
          refine ev_if (O1 := Wst O st p q2 (rows.map encR)) (b := false) (EvT.is (b := !eqD (.tup (List.map D.int [])) (.tup [])) (by walk_at "et") rfl) (fun z => nomatch z) (fun _ => ?_)
          exact ev_tup (ea_cons (dr (W_st hne) (by walk_at "ea") (W_next hne)) ea_nil) (by simp)
        · refine ⟨(out, q2), ⟨hq2, e, hasc, hin⟩, ?_⟩
          refine ev_if (O1 := Wst O st p q2 (rows.map encR)) (b := true) (EvT.is (b := !eqD (.tup (List.map D.int out)) (.tup [])) (by walk_at "et") ?_) (fun _ => by walk_at "ev") (fun z => nomatch z)
          rw [eqD_nilT]
          cases out with
          | nil => exact absurd rfl e
          | cons a r => rfl
      · rintro ⟨th, q3⟩ ⟨hq3, h1, h2, h3⟩
        dsimp only at hq3 h1 h2 h3 ⊢
        walk_at "sl"
        obtain ⟨v1, q4, a0, a1, hq4, dr1⟩ := q3.draw 3 (by omega) (by omega) hq3
        obtain ⟨m, hm0, hm1, ha⟩ : ∃ m : Int, 0 < m ∧ m ≤ 1000000000000 ∧ atI [D.int 9, D.int 100, D.int (10 ^ (12 : Int).toNat)] v1 = some (.int m) := by
          have : v1 = 0 ∨ v1 = 1 ∨ v1 = 2 := by omega
          rcases this with rfl | rfl | rfl
          · exact ⟨9, by omega, by omega, atI0⟩
          · exact ⟨100, by omega, by omega, atI1⟩
          · exact ⟨10 ^ 12, by omega, by omega, atI2⟩
        obtain ⟨v2, q5, b0, b1, hq5, dr2⟩ := q4.draw m hm0 (by omega) hq4
        refine sd_app (l := p) (O1 := Wst O st p q3 (rows.map encR)) (O2 := Wst O st p q5 (rows.map encR)) (d := encR ⟨v2, th⟩) (ev_var rfl) W_p ?_ W_p ?_ ?_
        · refine ev_tup (ea_cons (dr2 (W_st hne) (ea_cons (ev_var rfl) (ea_cons (ev_op (O1 := Wst O st p q3 (rows.map encR)) ?_ (dr1 (W_st hne) (by walk_at "ea") (W_next hne)) (r_ixL ha)) ea_nil)) (W_next hne)) (by walk_at "ea")) (by simp)
          walk_at "ev"
        · rw [List.length_map, hl]; omega
        · rw [W_app]
          refine ⟨rows ++ [⟨v2, th⟩], q5, _, _, _, by simp [hl], hq5, fun b hb => ?_, by rw [List.map_append]; rfl, rfl⟩
          rcases List.mem_append.mp hb with hb | hb
          · exact hrs b hb
          · obtain rfl := List.mem_singleton.mp hb
            exact ⟨⟨⟨b0, by show v2 ≤ _; omega, h1, h2, fun s hs => ⟨(h3 s hs).1, by have := (h3 s hs).2; omega⟩⟩, fun s hs => (h3 s hs).2⟩, by show v2 < _; omega⟩
  · obtain ⟨rows, q1, c1, c2, c3, hl, hq1, hrs, rfl, rfl⟩ := hI
    rw [List.length_map, List.length_range] at hl
    refine sd_pub (i := 3) W_p rfl ?_
    rw [W_del hne hpn]
    walk_at "sl"
    walk_at "st"
    exact hp rows q1 hq1 ⟨hn.1, hn.2, by omega, fun b hb => (hrs b hb).1⟩ (by omega) fun b hb => (hrs b hb).2
end
end Law

set_option Elab.async false
set_option linter.all false
set_option maxRecDepth 100000
set_option maxHeartbeats 4000000
namespace Law
open PySem PySem.Spec L2 DL
open PyProof.Rows hiding St
local macro_rules | `(tactic| walk_at "sl") => `(tactic| try dsimp only [startD, List.map, List.length_cons, List.length_nil, List.replicate, List.cons_append, List.nil_append, List.set_cons_zero, List.set_cons_succ, Nat.reduceSub, Nat.reduceAdd, wipeD])
local macro_rules | `(tactic| walk_at "go") => `(tactic| ((try dsimp only [cxOf, Cx.nox, Cx.wish, Cx.blk]); walk_at "sl"; walk_at "sl"))
local macro_rules | `(tactic| walk_at "own") => `(tactic| first | assumption | exact setO_same | (rw [setO_ne (by first | assumption | exact Ne.symm (by assumption))]; assumption) | (rw [setO_ne (by first | assumption | exact Ne.symm (by assumption))]; exact setO_same))
local macro_rules | `(tactic| walk_at "side") => `(tactic| first
  | assumption | rfl | exact flat_ints _ | exact atI0 | exact atI1 | exact atI2 | exact atI3 | decide | omega | (simp; done)
  | (refine cmodp ?_; omega) | (refine cdivw ?_ ?_ <;> omega) | (refine cmul_l ?_ ?_ <;> omega) | (refine cmul_r ?_ ?_ <;> omega) | (refine cpow ?_ ?_ ?_ <;> decide))
local macro_rules | `(tactic| walk_at "rr") => `(tactic| first
  | with_reducible exact r_int | with_reducible exact r_bl | with_reducible exact r_eqI | with_reducible exact r_neI | with_reducible exact r_eqB | with_reducible exact r_neB | with_reducible exact r_eqS | with_reducible exact r_neS
  | ((with_reducible apply r_intC); walk_at "side")
  | ((with_reducible apply r_ixL); walk_at "side") | ((with_reducible apply r_ixT); walk_at "side") | ((with_reducible apply r_ixS); walk_at "side") | ((with_reducible apply r_ixO); (focus walk_at "own"); (focus walk_at "side"))
  | ((with_reducible apply r_inT0) <;> walk_at "side") | ((with_reducible apply r_inL0) <;> walk_at "side") | ((with_reducible apply r_inT1) <;> walk_at "side") | ((with_reducible apply r_inL1) <;> walk_at "side")
  | ((with_reducible apply r_inO0); (focus walk_at "own"); (focus walk_at "side"); (focus walk_at "side")) | ((with_reducible apply r_inO1); (focus walk_at "own"); (focus walk_at "side"); (focus walk_at "side"))
  | ((with_reducible apply r_rep) <;> walk_at "side") | ((with_reducible apply r_cat) <;> walk_at "side")
  | ((with_reducible apply r_catA) <;> walk_at "side") | ((with_reducible apply r_catO); (focus walk_at "own"); (focus walk_at "side"))
  | ((with_reducible apply r_addS); (focus walk_at "side")) | with_reducible exact r_isN _ rfl | with_reducible exact r_notN _ rfl
  | ((with_reducible apply r_eqP); (focus walk_at "pl"); (focus walk_at "pl"); (focus decide); (focus decide)) | ((with_reducible apply r_neP); (focus walk_at "pl"); (focus walk_at "pl"); (focus decide); (focus decide)))
local macro_rules | `(tactic| walk_at "pl") => `(tactic| first | exact Pl.ints _ | exact Pl.intsL _ | exact Pl.nilT | exact Pl.nilL | exact Pl.int (n := 0) | assumption)
local macro_rules | `(tactic| walk_at "cc") => `(tactic| first
  | with_reducible exact c_lenL | with_reducible exact c_lenT | with_reducible exact c_lenS | ((with_reducible apply c_lenO); walk_at "own")
  | with_reducible exact c_listL | with_reducible exact c_listT | with_reducible exact c_tupL | with_reducible exact c_sum | with_reducible exact c_intB | with_reducible exact c_int1
  | with_reducible exact c_max2 | ((with_reducible apply c_strI); (focus walk_at "side")) | ((with_reducible apply c_lenStr); (focus walk_at "side"))
  | ((with_reducible apply c_isi); (focus rfl); (focus (first | decide +kernel | rfl))) | ((with_reducible apply c_isi2); (focus rfl); (focus (first | decide +kernel | rfl)); (focus (first | decide +kernel | rfl))))
local macro_rules | `(tactic| walk_at "ea") => `(tactic| first
  | with_reducible exact ea_nil
  | ((with_reducible apply ea_cons); (focus walk_at "ev"); (focus walk_at "ea"))
  | ((with_reducible apply ea_starT); (focus walk_at "ev"); (focus walk_at "ea")) | ((with_reducible apply ea_starL); (focus walk_at "ev"); (focus walk_at "ea")))
local macro_rules | `(tactic| walk_at "ev") => `(tactic| first
  | exact ev_var rfl | with_reducible exact ev_int | with_reducible exact ev_bl | with_reducible exact ev_str | with_reducible exact ev_non | with_reducible exact ev_ty | with_reducible exact ev_ref
  | ((with_reducible apply ev_op); (focus walk_at "ev"); (focus walk_at "ev"); (focus walk_at "rr"))
  | ((with_reducible apply ev_cb); (focus walk_at "ea"); (focus walk_at "cc"))
  | ((with_reducible apply ev_neg); (focus walk_at "ev"))
  | ((with_reducible apply ev_tup); (focus walk_at "ea"); (focus walk_at "side"))
  | ((with_reducible apply ev_lst); (focus walk_at "ea"); (focus walk_at "side"))
  | ((with_reducible apply ev_notV); (focus walk_at "ev"))
  | ((with_reducible apply ev_chain); (focus walk_at "ev"); (focus walk_at "ev"); (focus walk_at "rr"); (focus (intro _; walk_at "ev")); (focus (intro _; walk_at "rr")))
  | walk_at "evx")
local macro_rules | `(tactic| walk_at "et") => `(tactic| first
  | ((with_reducible apply et_test); walk_at "ev") | ((with_reducible apply et_B); walk_at "ev") | with_reducible exact et_yes
  | ((with_reducible apply et_not); walk_at "et")
  | ((with_reducible apply et_and); (focus walk_at "et"); (focus (intro _; walk_at "et")))
  | ((with_reducible apply et_or); (focus walk_at "et"); (focus (intro _; walk_at "et"))))
local macro_rules | `(tactic| walk_at "s1") => `(tactic| first
  | ((with_reducible apply sd_asg); (focus walk_at "ev"); walk_at "sl")
  | ((with_reducible apply sd_par); (focus walk_at "ea"); walk_at "sl")
  | ((with_reducible apply sd_setL); (focus walk_at "ev"); (focus walk_at "ev"); (focus walk_at "ev"); (focus walk_at "own"); (focus (first | exact ixN_of (k := 0) rfl (by simp) | exact ixN_of (k := 1) rfl (by simp) | exact ixN_of (k := 2) rfl (by simp) | exact ixN_of (k := 3) rfl (by simp) | assumption)); walk_at "sl")
  | ((with_reducible apply sd_app); (focus walk_at "ev"); (focus walk_at "own"); (focus walk_at "ev"); (focus walk_at "own"); (focus walk_at "side"); walk_at "sl")
  | ((with_reducible apply sd_ret); (focus walk_at "ev"))
  | with_reducible apply sd_next)
local macro_rules | `(tactic| walk_at "st") => `(tactic| first | ((with_reducible apply sd_seq); walk_at "s1") | walk_at "s1")
local macro_rules | `(tactic| walk_at "R") => `(tactic| first
  | exact ⟨_, rfl, rfl, rfl⟩ | exact ⟨_, _, rfl, rfl, rfl⟩ | exact ⟨_, _, _, rfl, rfl, rfl⟩ | exact ⟨_, _, _, _, rfl, rfl, rfl⟩
  | exact ⟨_, rfl, by assumption, rfl, rfl⟩ | exact ⟨_, _, rfl, by assumption, rfl, rfl⟩ | exact ⟨_, _, _, rfl, by assumption, rfl, rfl⟩ | exact ⟨_, _, _, _, rfl, by assumption, rfl, rfl⟩
  | exact ⟨_, _, rfl, by assumption, by assumption, rfl, rfl⟩ | exact ⟨_, _, _, rfl, by assumption, by assumption, rfl, rfl⟩ | exact ⟨_, _, _, _, rfl, by assumption, by assumption, rfl, rfl⟩)
local macro_rules | `(tactic| walk_at "evx") => `(tactic| first
  | ((with_reducible apply ev_run); (focus walk_at "ea"); walk_at "R")
  | ((with_reducible apply ev_propR); (focus walk_at "ev"); walk_at "R")
  | ((with_reducible apply ev_fld); (focus walk_at "ev"); (focus walk_at "cls"); (focus walk_at "cls"); (focus rfl))
  | ((with_reducible apply ev_ownIn0); (focus walk_at "ev"); (focus walk_at "ev"); walk_at "R")
  | ((with_reducible apply ev_slL); (focus walk_at "ev"); (focus walk_at "eo"); (focus walk_at "eo"))
  | ((with_reducible apply ev_slT); (focus walk_at "ev"); (focus walk_at "eo"); (focus walk_at "eo"))
  | ((with_reducible apply ev_cvalI); (focus walk_at "ev"); (focus walk_at "cls"); (focus walk_at "cls")))
local macro_rules | `(tactic| walk_at "eo") => `(tactic| first | with_reducible exact eo_none | ((with_reducible apply eo_some); walk_at "ev"))
local macro_rules | `(tactic| walk_at "cls") => `(tactic| first
  | with_reducible exact (by assumption : Tx _ _ _).cl_Shares
  | with_reducible exact (by assumption : Tx _ _ _).na_Shares_amounts
  | with_reducible exact (by assumption : Tx _ _ _).cl_Bill
  | with_reducible exact (by assumption : Tx _ _ _).na_Bill_total
  | with_reducible exact (by assumption : Tx _ _ _).na_Bill_there
  | with_reducible exact (by assumption : Tx _ _ _).cr_Bill
  | with_reducible exact (by assumption : Tx _ _ _).cv_Bill_MAX_SEATS
  | with_reducible exact (by assumption : Tx _ _ _).cl_Evening
  | with_reducible exact (by assumption : Tx _ _ _).na_Evening_size
  | with_reducible exact (by assumption : Tx _ _ _).na_Evening_parts
  | with_reducible exact (by assumption : Tx _ _ _).cr_Evening
  | with_reducible exact (by assumption : Tx _ _ _).cv_Evening_MAX_BILLS
  | with_reducible exact (by assumption : Tx _ _ _).cl_Course
  | with_reducible exact (by assumption : Tx _ _ _).na_Course_marks
  | with_reducible exact (by assumption : Tx _ _ _).na_Course_rows
  | with_reducible exact (by assumption : Tx _ _ _).na_Course_ring
  | with_reducible exact (by assumption : Tx _ _ _).na_Course_evening
  | with_reducible exact (by assumption : Tx _ _ _).cl_MarkObserver
  | with_reducible exact (by assumption : Tx _ _ _).na_MarkObserver_evening
  | with_reducible exact (by assumption : Tx _ _ _).na_MarkObserver_left
  | with_reducible exact (by assumption : Tx _ _ _).na_MarkObserver_accepted)
section
variable {P : Program} {w : World} {K : PySem.W.Frag} {mg : Str → Option Value} {base : Heap} {A : Ad}
/-! ### plain laws -/
theorem asc_ext : ∀ {l m : List Int}, l.Pairwise (· < ·) → m.Pairwise (· < ·) → (∀ x, x ∈ l ↔ x ∈ m) → l = m
  | [], [], _, _, _ => rfl
  | [], b :: m, _, _, h => absurd ((h b).mpr (List.mem_cons_self ..)) (by simp)
  | a :: l, [], _, _, h => absurd ((h a).mp (List.mem_cons_self ..)) (by simp)
  | a :: l, b :: m, h1, h2, h => by
    have k1 := List.pairwise_cons.mp h1
    have k2 := List.pairwise_cons.mp h2
    have e : a = b := by
      rcases List.mem_cons.mp ((h a).mp (List.mem_cons_self ..)) with z | z
      · exact z
      · rcases List.mem_cons.mp ((h b).mpr (List.mem_cons_self ..)) with y | y
        · exact y.symm
        · have := k1.1 b y
          have := k2.1 a z
          omega
    subst e
    have := asc_ext (l := l) (m := m) k1.2 k2.2 fun x => by
      constructor
      · intro hx
        rcases List.mem_cons.mp ((h x).mp (List.mem_cons_of_mem _ hx)) with z | z
        · have := k1.1 x hx; omega
        · exact z
      · intro hx
        rcases List.mem_cons.mp ((h x).mpr (List.mem_cons_of_mem _ hx)) with z | z
        · have := k2.1 x hx; omega
        · exact z
    rw [this]
def rot (st : List Int) (m : Int) : List Int := st.filter (fun s => decide (m < s)) ++ st.filter (fun s => decide (s ≤ m))
def vis (st : List Int) (n m : Int) (t : Nat) : List Int := ((List.range t).map fun (j : Nat) => (m + 1 + (j : Int)) % n).filter fun x => decide (x ∈ st)
theorem vis_snoc (st : List Int) (n m : Int) (t : Nat) : vis st n m (t + 1) = if (m + 1 + (t : Int)) % n ∈ st then vis st n m t ++ [(m + 1 + (t : Int)) % n] else vis st n m t := by
  unfold vis
  rw [List.range_succ, List.map_append, List.filter_append]
  by_cases h : (m + 1 + (t : Int)) % n ∈ st
  · rw [if_pos h]; simp [h]
  · rw [if_neg h]; simp [h]
theorem asc_rg (a : Int) (k : Nat) : ((List.range k).map fun (j : Nat) => a + (j : Int)).Pairwise (· < ·) :=
  List.pairwise_map.mpr (List.pairwise_lt_range.imp fun h => by omega)
theorem vis_all {st : List Int} {n m : Int} (h0 : 0 ≤ m) (h1 : m < n) (hs : st.Pairwise (· < ·)) (hr : ∀ s ∈ st, 0 ≤ s ∧ s < n) : vis st n m n.toNat = rot st m := by
  unfold vis rot
  have e : n.toNat = (n - 1 - m).toNat + (m + 1).toNat := by omega
  rw [e, List.range_add, List.map_append, List.filter_append, List.map_map]
  congr 1
  · have e1 : ((List.range (n - 1 - m).toNat).map fun (j : Nat) => (m + 1 + (j : Int)) % n) = (List.range (n - 1 - m).toNat).map fun (j : Nat) => (m + 1) + (j : Int) :=
      List.map_congr_left fun j hj => by
        have := List.mem_range.mp hj
        exact Int.emod_eq_of_lt (by omega) (by omega)
    rw [e1]
    refine asc_ext ((asc_rg _ _).filter _) (hs.filter _) fun x => ?_
    simp only [List.mem_filter, List.mem_map, List.mem_range, decide_eq_true_eq]
    constructor
    · rintro ⟨⟨j, hj, rfl⟩, h⟩; exact ⟨h, by omega⟩
    · rintro ⟨h, h2⟩; have := hr x h; exact ⟨⟨(x - m - 1).toNat, by omega, by omega⟩, h⟩
  · have e1 : (List.map ((fun (j : Nat) => (m + 1 + (j : Int)) % n) ∘ fun x => (n - 1 - m).toNat + x) (List.range (m + 1).toNat)) = (List.range (m + 1).toNat).map fun (j : Nat) => (0 : Int) + (j : Int) :=
      List.map_congr_left fun j hj => by
        have := List.mem_range.mp hj
        show (m + 1 + (((n - 1 - m).toNat + j : Nat) : Int)) % n = 0 + (j : Int)
        have e2 : (m + 1 + (((n - 1 - m).toNat + j : Nat) : Int)) = (j : Int) + n := by omega
        rw [e2, Int.add_emod_right, Int.zero_add]
        exact Int.emod_eq_of_lt (by omega) (by omega)
    rw [e1]
    refine asc_ext ((asc_rg _ _).filter _) (hs.filter _) fun x => ?_
    simp only [List.mem_filter, List.mem_map, List.mem_range, decide_eq_true_eq]
    constructor
    · rintro ⟨⟨j, hj, rfl⟩, h⟩; exact ⟨h, by omega⟩
    · rintro ⟨h, h2⟩; have := hr x h; exact ⟨⟨x.toNat, by omega, by omega⟩, h⟩
theorem vis_pre (st : List Int) (n m : Int) {t u : Nat} (h : t ≤ u) : vis st n m t <+: vis st n m u := by
  obtain ⟨k, rfl⟩ := Nat.exists_eq_add_of_le h
  unfold vis
  rw [List.range_add, List.map_append, List.filter_append]
  exact List.prefix_append ..
theorem asc_nodup {l : List Int} (h : l.Pairwise (· < ·)) : l.Nodup := h.imp fun h => by omega
theorem rot_nodup {st : List Int} {m : Int} (hs : st.Pairwise (· < ·)) : (rot st m).Nodup := by
  unfold rot
  refine List.nodup_append.mpr ⟨asc_nodup (hs.filter _), asc_nodup (hs.filter _), fun a ha b hb => ?_⟩
  simp only [List.mem_filter, decide_eq_true_eq] at ha hb
  omega
theorem rot_len (st : List Int) (m : Int) : (rot st m).length = st.length := by
  unfold rot
  induction st with
  | nil => rfl
  | cons a r ih =>
    simp only [List.filter_cons, List.length_append] at ih ⊢
    by_cases h : m < a
    · have h' : ¬ a ≤ m := by omega
      simp only [h, h', decide_true, decide_false, ↓reduceIte, List.length_cons, Bool.false_eq_true]; omega
    · have h' : a ≤ m := by omega
      simp only [h, h', decide_true, decide_false, ↓reduceIte, List.length_cons, Bool.false_eq_true]; omega
theorem rot_mem (st : List Int) (m x : Int) : x ∈ rot st m ↔ x ∈ st := by
  unfold rot
  simp only [List.mem_append, List.mem_filter, decide_eq_true_eq]
  constructor
  · rintro (h | h) <;> exact h.1
  · intro h
    by_cases k : m < x
    · exact .inl ⟨h, k⟩
    · exact .inr ⟨h, by omega⟩
theorem pl_eq (b : B) (m : Int) : pl b m = (rot b.st m).take (b.amt % (b.st.length : Int)).toNat := rfl
/-- lists told by their cells -/
theorem set_rg {α : Type} (f : Nat → α) (N k : Nat) (v : α) : ((List.range N).map f).set k v = (List.range N).map fun j => if j = k then v else f j := by
  refine List.ext_getElem (by simp) fun i h1 h2 => ?_
  simp only [List.getElem_set, List.getElem_map, List.getElem_range]
  by_cases h : k = i
  · subst h; simp
  · rw [if_neg h, if_neg (fun z => h z.symm)]
theorem get_rg {α : Type} (f : Nat → α) (N k : Nat) (h : k < N) : ((List.range N).map f)[k]? = some (f k) := by
  rw [List.getElem?_map, List.getElem?_range h]; rfl
/-- the table of a law: each bill's cents, and the last mark -/
def tbl (n : Int) : List B → Int → List (List Int)
  | [], _ => []
  | b :: r, m => payC b n m :: tbl n r (payM b m)
def lstM : List B → Int → Int
  | [], m => m
  | b :: r, m => lstM r (payM b m)
theorem tbl_snoc {n : Int} {b : B} : ∀ {bs : List B} {m : Int}, tbl n (bs ++ [b]) m = tbl n bs m ++ [payC b n (lstM bs m)]
  | [], _ => rfl
  | c :: r, m => congrArg _ (tbl_snoc (bs := r))
theorem lst_snoc {b : B} : ∀ {bs : List B} {m : Int}, lstM (bs ++ [b]) m = payM b (lstM bs m)
  | [], _ => rfl
  | c :: r, m => lst_snoc (bs := r)
theorem plays_last {n : Int} : ∀ {bs : List B} {m : Int} {acc : List Int}, (plays n bs m acc).2 = lstM bs m
  | [], _, _ => rfl
  | c :: r, m, _ => plays_last (bs := r)
theorem pl_in {b : B} {m x : Int} (h : x ∈ pl b m) : x ∈ b.st := by
  rw [pl_eq] at h
  exact (rot_mem _ _ _).mp (List.mem_of_mem_take h)
theorem payM_in {n : Int} {b : B} {m : Int} (hb : ∀ s ∈ b.st, 0 ≤ s ∧ s < n) (hm : 0 ≤ m ∧ m < n) : 0 ≤ payM b m ∧ payM b m < n := by
  unfold payM
  cases q : (pl b m).getLast? with
  | none => exact hm
  | some v => exact hb v (pl_in (List.mem_of_getLast? q))
theorem lstM_in {n : Int} : ∀ {bs : List B} {m : Int}, (∀ b ∈ bs, ∀ s ∈ b.st, 0 ≤ s ∧ s < n) → 0 ≤ m ∧ m < n → 0 ≤ lstM bs m ∧ lstM bs m < n
  | [], _, _, hm => hm
  | b :: r, m, h, hm => lstM_in (bs := r) (fun c hc => h c (List.mem_cons_of_mem _ hc)) (payM_in (h b (List.mem_cons_self ..)) hm)
theorem getD_rg (f : Nat → Int) (N k : Nat) (h : k < N) : ((List.range N).map f).getD k 0 = f k := by
  rw [List.getD_eq_getElem?_getD, get_rg f N k h]; rfl
theorem plays_tbl {n : Int} : ∀ {bs : List B} {m : Int} {f : Nat → Int}, (plays n bs m ((List.range n.toNat).map f)).1 = (List.range n.toNat).map fun k => f k + ((tbl n bs m).map fun cs => cs.getD k 0).sum
  | [], m, f => by
    show (List.range n.toNat).map f = _
    refine List.map_congr_left fun k _ => ?_
    simp [tbl]
  | b :: r, m, f => by
    show (plays n r (payM b m) (List.zipWith (· + ·) ((List.range n.toNat).map f) (payC b n m))).1 = _
    have e : List.zipWith (· + ·) ((List.range n.toNat).map f) (payC b n m) = (List.range n.toNat).map fun k => f k + (payC b n m).getD k 0 := by
      refine List.ext_getElem (by simp [payC_len]) fun i h1 h2 => ?_
      have hi : i < (payC b n m).length := by rw [payC_len]; simpa using h2
      simp [List.getD_eq_getElem?_getD, List.getElem?_eq_getElem hi]
    rw [e, plays_tbl (bs := r)]
    refine List.map_congr_left fun k _ => ?_
    simp only [tbl, List.map_cons, List.sum_cons]
    omega
theorem play_tbl (n : Int) (bs : List B) (m : Int) : (play n bs m).1 = (List.range n.toNat).map fun k => ((tbl n bs m).map fun cs => cs.getD k 0).sum := by
  unfold play
  have e : List.replicate n.toNat (0 : Int) = (List.range n.toNat).map fun _ => 0 := by
    refine List.ext_getElem (by simp) fun i h1 h2 => by simp
  rw [e, plays_tbl]
  refine List.map_congr_left fun k _ => by omega
/-! the whole -/
def ind (l : List Int) (k : Nat) : Int := if (k : Int) ∈ l then 1 else 0
theorem sum_add (f g : Nat → Int) : ∀ (l : List Nat), (l.map fun k => f k + g k).sum = (l.map f).sum + (l.map g).sum
  | [] => rfl
  | a :: r => by have := sum_add f g r; simp only [List.map_cons, List.sum_cons] at this ⊢; omega
theorem sum_mul (c : Int) (g : Nat → Int) : ∀ (l : List Nat), (l.map fun k => c * g k).sum = c * (l.map g).sum
  | [] => by simp
  | a :: r => by have := sum_mul c g r; simp only [List.map_cons, List.sum_cons] at this ⊢; rw [this, Int.mul_add]
theorem sum_one (a : Int) (h0 : 0 ≤ a) : ∀ N : Nat, ((List.range N).map (ind [a])).sum = if a < N then 1 else 0
  | 0 => by simp; omega
  | N + 1 => by
    rw [List.range_succ, List.map_append, List.sum_append, sum_one a h0 N]
    simp only [ind, List.map_cons, List.map_nil, List.sum_cons, List.sum_nil, List.mem_singleton]
    by_cases h : a < (N : Int)
    · rw [if_pos h, if_neg (by omega), if_pos (by omega)]; rfl
    · rw [if_neg h]
      by_cases k : (N : Int) = a
      · rw [if_pos k, if_pos (by omega)]; rfl
      · rw [if_neg k, if_neg (by omega)]; rfl
theorem sum_ind (N : Nat) : ∀ (l : List Int), l.Nodup → (∀ s ∈ l, 0 ≤ s ∧ s < N) → ((List.range N).map (ind l)).sum = l.length
  | [], _, _ => by
    have : ((List.range N).map (ind [])) = (List.range N).map fun _ => 0 * 0 := List.map_congr_left fun k _ => by simp [ind]
    rw [this, sum_mul 0 (fun _ => 0)]; simp
  | a :: r, h, h2 => by
    have hn := List.nodup_cons.mp h
    have e : ((List.range N).map (ind (a :: r))) = (List.range N).map fun k => ind [a] k + ind r k := List.map_congr_left fun k _ => by
      unfold ind
      by_cases z : (k : Int) = a
      · have : ¬ (k : Int) ∈ r := by rw [z]; exact hn.1
        simp [z, hn.1]
      · simp [z]
    have ha := h2 a (List.mem_cons_self ..)
    rw [e, sum_add, sum_one a ha.1, if_pos ha.2, sum_ind N r hn.2 fun s hs => h2 s (List.mem_cons_of_mem _ hs)]
    simp only [List.length_cons]; omega
theorem payC_sum {b : B} {n m : Int} (hb : BOk b) (hs : ∀ s ∈ b.st, s < n) : (payC b n m).sum = b.amt := by
  have hl := hb.len
  have e : payC b n m = (List.range n.toNat).map fun k => (b.amt / (b.st.length : Int)) * ind b.st k + ind (pl b m) k := by
    unfold payC
    refine List.map_congr_left fun k _ => ?_
    unfold ind
    by_cases h : (k : Int) ∈ b.st
    · rw [if_pos h, if_pos h]; omega
    · rw [if_neg h, if_neg h, if_neg (fun z => h (pl_in z))]; omega
  have hr : ∀ s ∈ b.st, 0 ≤ s ∧ s < (n.toNat : Int) := fun s h => by have := hs s h; have := hb.2.2.2.2 s h; omega
  rw [e, sum_add, sum_mul, sum_ind _ _ (asc_nodup hb.2.2.2.1) hr, sum_ind _ _ ?_ fun s h => hr s (pl_in h)]
  · have h0 : 0 ≤ b.amt % (b.st.length : Int) := Int.emod_nonneg _ (by omega)
    have h1 : b.amt % (b.st.length : Int) < b.st.length := Int.emod_lt_of_pos _ (by omega)
    have el : ((pl b m).length : Int) = b.amt % (b.st.length : Int) := by
      rw [pl_eq, List.length_take, rot_len]; omega
    rw [el]
    have := Int.mul_ediv_add_emod b.amt (b.st.length : Int)
    rw [Int.mul_comm]; exact this
  · rw [pl_eq]; exact (rot_nodup hb.2.2.2.1).sublist (List.take_sublist ..)
theorem zip_sum : ∀ {l m : List Int}, l.length = m.length → (List.zipWith (· + ·) l m).sum = l.sum + m.sum
  | [], [], _ => rfl
  | a :: l, b :: m, h => by have := zip_sum (l := l) (m := m) (by simpa using h); simp only [List.zipWith_cons_cons, List.sum_cons]; omega
theorem plays_sum {n : Int} : ∀ {bs : List B} {m : Int} {acc : List Int}, acc.length = n.toNat → (∀ b ∈ bs, BOk b ∧ ∀ s ∈ b.st, s < n) → (plays n bs m acc).1.sum = acc.sum + (bs.map B.amt).sum
  | [], _, _, _, _ => by simp [plays]
  | b :: r, m, acc, h, hb => by
    show (plays n r (payM b m) (List.zipWith (· + ·) acc (payC b n m))).1.sum = _
    have hb0 := hb b (List.mem_cons_self ..)
    rw [plays_sum (bs := r) (by rw [List.length_zipWith, h, payC_len, Nat.min_self]) fun c hc => hb c (List.mem_cons_of_mem _ hc), zip_sum (by rw [h, payC_len]), payC_sum hb0.1 hb0.2]
    simp only [List.map_cons, List.sum_cons]; omega
theorem play_sum {n : Int} {bs : List B} {m : Int} (h : EOk n bs) : (play n bs m).1.sum = (bs.map B.amt).sum := by
  unfold play
  rw [plays_sum (by simp) h.2.2.2]
  simp
theorem play_len (n : Int) (bs : List B) (m : Int) : (play n bs m).1.length = n.toNat := plays_len (by simp)
theorem play_last (n : Int) (bs : List B) (m : Int) : (play n bs m).2 = lstM bs m := plays_last
end
end Law

set_option Elab.async false
set_option linter.all false
set_option maxRecDepth 100000
set_option maxHeartbeats 4000000
namespace Law
open PySem PySem.Spec L2 DL
open PyProof.Rows hiding St
local macro_rules | `(tactic| walk_at "sl") => `(tactic| try dsimp only [startD, List.map, List.length_cons, List.length_nil, List.replicate, List.cons_append, List.nil_append, List.set_cons_zero, List.set_cons_succ, Nat.reduceSub, Nat.reduceAdd, wipeD])
local macro_rules | `(tactic| walk_at "go") => `(tactic| ((try dsimp only [cxOf, Cx.nox, Cx.wish, Cx.blk]); walk_at "sl"; walk_at "sl"))
local macro_rules | `(tactic| walk_at "own") => `(tactic| first | assumption | exact setO_same | (rw [setO_ne (by first | assumption | exact Ne.symm (by assumption))]; assumption) | (rw [setO_ne (by first | assumption | exact Ne.symm (by assumption))]; exact setO_same))
local macro_rules | `(tactic| walk_at "side") => `(tactic| first
  | assumption | rfl | exact flat_ints _ | exact atI0 | exact atI1 | exact atI2 | exact atI3 | decide | omega | (simp; done)
  | (refine cmodp ?_; omega) | (refine cdivw ?_ ?_ <;> omega) | (refine cmul_l ?_ ?_ <;> omega) | (refine cmul_r ?_ ?_ <;> omega) | (refine cpow ?_ ?_ ?_ <;> decide))
local macro_rules | `(tactic| walk_at "rr") => `(tactic| first
  | with_reducible exact r_int | with_reducible exact r_bl | with_reducible exact r_eqI | with_reducible exact r_neI | with_reducible exact r_eqB | with_reducible exact r_neB | with_reducible exact r_eqS | with_reducible exact r_neS
  | ((with_reducible apply r_intC); walk_at "side")
  | ((with_reducible apply r_ixL); walk_at "side") | ((with_reducible apply r_ixT); walk_at "side") | ((with_reducible apply r_ixS); walk_at "side") | ((with_reducible apply r_ixO); (focus walk_at "own"); (focus walk_at "side"))
  | ((with_reducible apply r_inT0) <;> walk_at "side") | ((with_reducible apply r_inL0) <;> walk_at "side") | ((with_reducible apply r_inT1) <;> walk_at "side") | ((with_reducible apply r_inL1) <;> walk_at "side")
  | ((with_reducible apply r_inO0); (focus walk_at "own"); (focus walk_at "side"); (focus walk_at "side")) | ((with_reducible apply r_inO1); (focus walk_at "own"); (focus walk_at "side"); (focus walk_at "side"))
  | ((with_reducible apply r_rep) <;> walk_at "side") | ((with_reducible apply r_cat) <;> walk_at "side")
  | ((with_reducible apply r_catA) <;> walk_at "side") | ((with_reducible apply r_catO); (focus walk_at "own"); (focus walk_at "side"))
  | ((with_reducible apply r_addS); (focus walk_at "side")) | with_reducible exact r_isN _ rfl | with_reducible exact r_notN _ rfl
  | ((with_reducible apply r_eqP); (focus walk_at "pl"); (focus walk_at "pl"); (focus decide); (focus decide)) | ((with_reducible apply r_neP); (focus walk_at "pl"); (focus walk_at "pl"); (focus decide); (focus decide)))
local macro_rules | `(tactic| walk_at "pl") => `(tactic| first | exact Pl.ints _ | exact Pl.intsL _ | exact Pl.nilT | exact Pl.nilL | exact Pl.int (n := 0) | assumption)
local macro_rules | `(tactic| walk_at "cc") => `(tactic| first
  | with_reducible exact c_lenL | with_reducible exact c_lenT | with_reducible exact c_lenS | ((with_reducible apply c_lenO); walk_at "own")
  | with_reducible exact c_listL | with_reducible exact c_listT | with_reducible exact c_tupL | with_reducible exact c_sum | with_reducible exact c_intB | with_reducible exact c_int1
  | with_reducible exact c_max2 | ((with_reducible apply c_strI); (focus walk_at "side")) | ((with_reducible apply c_lenStr); (focus walk_at "side"))
  | ((with_reducible apply c_isi); (focus rfl); (focus (first | decide +kernel | rfl))) | ((with_reducible apply c_isi2); (focus rfl); (focus (first | decide +kernel | rfl)); (focus (first | decide +kernel | rfl))))
local macro_rules | `(tactic| walk_at "ea") => `(tactic| first
  | with_reducible exact ea_nil
  | ((with_reducible apply ea_cons); (focus walk_at "ev"); (focus walk_at "ea"))
  | ((with_reducible apply ea_starT); (focus walk_at "ev"); (focus walk_at "ea")) | ((with_reducible apply ea_starL); (focus walk_at "ev"); (focus walk_at "ea")))
local macro_rules | `(tactic| walk_at "ev") => `(tactic| first
  | exact ev_var rfl | with_reducible exact ev_int | with_reducible exact ev_bl | with_reducible exact ev_str | with_reducible exact ev_non | with_reducible exact ev_ty | with_reducible exact ev_ref
  | ((with_reducible apply ev_op); (focus walk_at "ev"); (focus walk_at "ev"); (focus walk_at "rr"))
  | ((with_reducible apply ev_cb); (focus walk_at "ea"); (focus walk_at "cc"))
  | ((with_reducible apply ev_neg); (focus walk_at "ev"))
  | ((with_reducible apply ev_tup); (focus walk_at "ea"); (focus walk_at "side"))
  | ((with_reducible apply ev_lst); (focus walk_at "ea"); (focus walk_at "side"))
  | ((with_reducible apply ev_notV); (focus walk_at "ev"))
  | ((with_reducible apply ev_chain); (focus walk_at "ev"); (focus walk_at "ev"); (focus walk_at "rr"); (focus (intro _; walk_at "ev")); (focus (intro _; walk_at "rr")))
  | walk_at "evx")
local macro_rules | `(tactic| walk_at "et") => `(tactic| first
  | ((with_reducible apply et_test); walk_at "ev") | ((with_reducible apply et_B); walk_at "ev") | with_reducible exact et_yes
  | ((with_reducible apply et_not); walk_at "et")
  | ((with_reducible apply et_and); (focus walk_at "et"); (focus (intro _; walk_at "et")))
  | ((with_reducible apply et_or); (focus walk_at "et"); (focus (intro _; walk_at "et"))))
local macro_rules | `(tactic| walk_at "s1") => `(tactic| first
  | ((with_reducible apply sd_asg); (focus walk_at "ev"); walk_at "sl")
  | ((with_reducible apply sd_par); (focus walk_at "ea"); walk_at "sl")
  | ((with_reducible apply sd_setL); (focus walk_at "ev"); (focus walk_at "ev"); (focus walk_at "ev"); (focus walk_at "own"); (focus (first | exact ixN_of (k := 0) rfl (by simp) | exact ixN_of (k := 1) rfl (by simp) | exact ixN_of (k := 2) rfl (by simp) | exact ixN_of (k := 3) rfl (by simp) | assumption)); walk_at "sl")
  | ((with_reducible apply sd_app); (focus walk_at "ev"); (focus walk_at "own"); (focus walk_at "ev"); (focus walk_at "own"); (focus walk_at "side"); walk_at "sl")
  | ((with_reducible apply sd_ret); (focus walk_at "ev"))
  | with_reducible apply sd_next)
local macro_rules | `(tactic| walk_at "st") => `(tactic| first | ((with_reducible apply sd_seq); walk_at "s1") | walk_at "s1")
local macro_rules | `(tactic| walk_at "R") => `(tactic| first
  | exact ⟨_, rfl, rfl, rfl⟩ | exact ⟨_, _, rfl, rfl, rfl⟩ | exact ⟨_, _, _, rfl, rfl, rfl⟩ | exact ⟨_, _, _, _, rfl, rfl, rfl⟩
  | exact ⟨_, rfl, by assumption, rfl, rfl⟩ | exact ⟨_, _, rfl, by assumption, rfl, rfl⟩ | exact ⟨_, _, _, rfl, by assumption, rfl, rfl⟩ | exact ⟨_, _, _, _, rfl, by assumption, rfl, rfl⟩
  | exact ⟨_, _, rfl, by assumption, by assumption, rfl, rfl⟩ | exact ⟨_, _, _, rfl, by assumption, by assumption, rfl, rfl⟩ | exact ⟨_, _, _, _, rfl, by assumption, by assumption, rfl, rfl⟩)
local macro_rules | `(tactic| walk_at "evx") => `(tactic| first
  | ((with_reducible apply ev_run); (focus walk_at "ea"); walk_at "R")
  | ((with_reducible apply ev_propR); (focus walk_at "ev"); walk_at "R")
  | ((with_reducible apply ev_fld); (focus walk_at "ev"); (focus walk_at "cls"); (focus walk_at "cls"); (focus rfl))
  | ((with_reducible apply ev_ownIn0); (focus walk_at "ev"); (focus walk_at "ev"); walk_at "R")
  | ((with_reducible apply ev_slL); (focus walk_at "ev"); (focus walk_at "eo"); (focus walk_at "eo"))
  | ((with_reducible apply ev_slT); (focus walk_at "ev"); (focus walk_at "eo"); (focus walk_at "eo"))
  | ((with_reducible apply ev_cvalI); (focus walk_at "ev"); (focus walk_at "cls"); (focus walk_at "cls")))
local macro_rules | `(tactic| walk_at "eo") => `(tactic| first | with_reducible exact eo_none | ((with_reducible apply eo_some); walk_at "ev"))
local macro_rules | `(tactic| walk_at "cls") => `(tactic| first
  | with_reducible exact (by assumption : Tx _ _ _).cl_Shares
  | with_reducible exact (by assumption : Tx _ _ _).na_Shares_amounts
  | with_reducible exact (by assumption : Tx _ _ _).cl_Bill
  | with_reducible exact (by assumption : Tx _ _ _).na_Bill_total
  | with_reducible exact (by assumption : Tx _ _ _).na_Bill_there
  | with_reducible exact (by assumption : Tx _ _ _).cr_Bill
  | with_reducible exact (by assumption : Tx _ _ _).cv_Bill_MAX_SEATS
  | with_reducible exact (by assumption : Tx _ _ _).cl_Evening
  | with_reducible exact (by assumption : Tx _ _ _).na_Evening_size
  | with_reducible exact (by assumption : Tx _ _ _).na_Evening_parts
  | with_reducible exact (by assumption : Tx _ _ _).cr_Evening
  | with_reducible exact (by assumption : Tx _ _ _).cv_Evening_MAX_BILLS
  | with_reducible exact (by assumption : Tx _ _ _).cl_Course
  | with_reducible exact (by assumption : Tx _ _ _).na_Course_marks
  | with_reducible exact (by assumption : Tx _ _ _).na_Course_rows
  | with_reducible exact (by assumption : Tx _ _ _).na_Course_ring
  | with_reducible exact (by assumption : Tx _ _ _).na_Course_evening
  | with_reducible exact (by assumption : Tx _ _ _).cl_MarkObserver
  | with_reducible exact (by assumption : Tx _ _ _).na_MarkObserver_evening
  | with_reducible exact (by assumption : Tx _ _ _).na_MarkObserver_left
  | with_reducible exact (by assumption : Tx _ _ _).na_MarkObserver_accepted)
section
variable {P : Program} {w : World} {K : PySem.W.Frag} {mg : Str → Option Value} {base : Heap} {A : Ad}
def encT (cs : List Int) : D := .lst (cs.map .int)
def POk (n : Int) (bs : List B) : Prop := 2 ≤ n ∧ n ≤ 8 ∧ bs.length ≤ 1000 ∧ ∀ b ∈ bs, BOk b ∧ ∀ s ∈ b.st, s < n
theorem EOk.p {n : Int} {bs : List B} (h : EOk n bs) : POk n bs := ⟨h.1, h.2.1, by have := h.2.2.1; omega, h.2.2.2⟩
theorem rg_map (f : Nat → Int) (N : Nat) : ((List.range N).map f).map D.int = (List.range N).map fun k => D.int (f k) := by rw [List.map_map]; rfl
theorem rep0 (k : Nat) : (List.replicate k [D.int 0]).flatten = ((List.range k).map fun _ => D.int 0) := by
  induction k with
  | zero => rfl
  | succ k ih => rw [List.replicate_succ', List.flatten_append, ih, List.range_succ, List.map_append]; rfl
end
end Law

set_option Elab.async false
set_option linter.all false
set_option maxRecDepth 100000
set_option maxHeartbeats 4000000
namespace Law
open PySem PySem.Spec L2 DL
open PyProof.Rows hiding St
local macro_rules | `(tactic| walk_at "sl") => `(tactic| try dsimp only [startD, List.map, List.length_cons, List.length_nil, List.replicate, List.cons_append, List.nil_append, List.set_cons_zero, List.set_cons_succ, Nat.reduceSub, Nat.reduceAdd, wipeD])
local macro_rules | `(tactic| walk_at "go") => `(tactic| ((try dsimp only [cxOf, Cx.nox, Cx.wish, Cx.blk]); walk_at "sl"; walk_at "sl"))
local macro_rules | `(tactic| walk_at "own") => `(tactic| first | assumption | exact setO_same | (rw [setO_ne (by first | assumption | exact Ne.symm (by assumption))]; assumption) | (rw [setO_ne (by first | assumption | exact Ne.symm (by assumption))]; exact setO_same))
local macro_rules | `(tactic| walk_at "side") => `(tactic| first
  | assumption | rfl | exact flat_ints _ | exact atI0 | exact atI1 | exact atI2 | exact atI3 | decide | omega | (simp; done)
  | (refine cmodp ?_; omega) | (refine cdivw ?_ ?_ <;> omega) | (refine cmul_l ?_ ?_ <;> omega) | (refine cmul_r ?_ ?_ <;> omega) | (refine cpow ?_ ?_ ?_ <;> decide))
local macro_rules | `(tactic| walk_at "rr") => `(tactic| first
  | with_reducible exact r_int | with_reducible exact r_bl | with_reducible exact r_eqI | with_reducible exact r_neI | with_reducible exact r_eqB | with_reducible exact r_neB | with_reducible exact r_eqS | with_reducible exact r_neS
  | ((with_reducible apply r_intC); walk_at "side")
  | ((with_reducible apply r_ixL); walk_at "side") | ((with_reducible apply r_ixT); walk_at "side") | ((with_reducible apply r_ixS); walk_at "side") | ((with_reducible apply r_ixO); (focus walk_at "own"); (focus walk_at "side"))
  | ((with_reducible apply r_inT0) <;> walk_at "side") | ((with_reducible apply r_inL0) <;> walk_at "side") | ((with_reducible apply r_inT1) <;> walk_at "side") | ((with_reducible apply r_inL1) <;> walk_at "side")
  | ((with_reducible apply r_inO0); (focus walk_at "own"); (focus walk_at "side"); (focus walk_at "side")) | ((with_reducible apply r_inO1); (focus walk_at "own"); (focus walk_at "side"); (focus walk_at "side"))
  | ((with_reducible apply r_rep) <;> walk_at "side") | ((with_reducible apply r_cat) <;> walk_at "side")
  | ((with_reducible apply r_catA) <;> walk_at "side") | ((with_reducible apply r_catO); (focus walk_at "own"); (focus walk_at "side"))
  | ((with_reducible apply r_addS); (focus walk_at "side")) | with_reducible exact r_isN _ rfl | with_reducible exact r_notN _ rfl
  | ((with_reducible apply r_eqP); (focus walk_at "pl"); (focus walk_at "pl"); (focus decide); (focus decide)) | ((with_reducible apply r_neP); (focus walk_at "pl"); (focus walk_at "pl"); (focus decide); (focus decide)))
local macro_rules | `(tactic| walk_at "pl") => `(tactic| first | exact Pl.ints _ | exact Pl.intsL _ | exact Pl.nilT | exact Pl.nilL | exact Pl.int (n := 0) | assumption)
local macro_rules | `(tactic| walk_at "cc") => `(tactic| first
  | with_reducible exact c_lenL | with_reducible exact c_lenT | with_reducible exact c_lenS | ((with_reducible apply c_lenO); walk_at "own")
  | with_reducible exact c_listL | with_reducible exact c_listT | with_reducible exact c_tupL | with_reducible exact c_sum | with_reducible exact c_intB | with_reducible exact c_int1
  | with_reducible exact c_max2 | ((with_reducible apply c_strI); (focus walk_at "side")) | ((with_reducible apply c_lenStr); (focus walk_at "side"))
  | ((with_reducible apply c_isi); (focus rfl); (focus (first | decide +kernel | rfl))) | ((with_reducible apply c_isi2); (focus rfl); (focus (first | decide +kernel | rfl)); (focus (first | decide +kernel | rfl))))
local macro_rules | `(tactic| walk_at "ea") => `(tactic| first
  | with_reducible exact ea_nil
  | ((with_reducible apply ea_cons); (focus walk_at "ev"); (focus walk_at "ea"))
  | ((with_reducible apply ea_starT); (focus walk_at "ev"); (focus walk_at "ea")) | ((with_reducible apply ea_starL); (focus walk_at "ev"); (focus walk_at "ea")))
local macro_rules | `(tactic| walk_at "ev") => `(tactic| first
  | exact ev_var rfl | with_reducible exact ev_int | with_reducible exact ev_bl | with_reducible exact ev_str | with_reducible exact ev_non | with_reducible exact ev_ty | with_reducible exact ev_ref
  | ((with_reducible apply ev_op); (focus walk_at "ev"); (focus walk_at "ev"); (focus walk_at "rr"))
  | ((with_reducible apply ev_cb); (focus walk_at "ea"); (focus walk_at "cc"))
  | ((with_reducible apply ev_neg); (focus walk_at "ev"))
  | ((with_reducible apply ev_tup); (focus walk_at "ea"); (focus walk_at "side"))
  | ((with_reducible apply ev_lst); (focus walk_at "ea"); (focus walk_at "side"))
  | ((with_reducible apply ev_notV); (focus walk_at "ev"))
  | ((with_reducible apply ev_chain); (focus walk_at "ev"); (focus walk_at "ev"); (focus walk_at "rr"); (focus (intro _; walk_at "ev")); (focus (intro _; walk_at "rr")))
  | walk_at "evx")
local macro_rules | `(tactic| walk_at "et") => `(tactic| first
  | ((with_reducible apply et_test); walk_at "ev") | ((with_reducible apply et_B); walk_at "ev") | with_reducible exact et_yes
  | ((with_reducible apply et_not); walk_at "et")
  | ((with_reducible apply et_and); (focus walk_at "et"); (focus (intro _; walk_at "et")))
  | ((with_reducible apply et_or); (focus walk_at "et"); (focus (intro _; walk_at "et"))))
local macro_rules | `(tactic| walk_at "s1") => `(tactic| first
  | ((with_reducible apply sd_asg); (focus walk_at "ev"); walk_at "sl")
  | ((with_reducible apply sd_par); (focus walk_at "ea"); walk_at "sl")
  | ((with_reducible apply sd_setL); (focus walk_at "ev"); (focus walk_at "ev"); (focus walk_at "ev"); (focus walk_at "own"); (focus (first | exact ixN_of (k := 0) rfl (by simp) | exact ixN_of (k := 1) rfl (by simp) | exact ixN_of (k := 2) rfl (by simp) | exact ixN_of (k := 3) rfl (by simp) | assumption)); walk_at "sl")
  | ((with_reducible apply sd_app); (focus walk_at "ev"); (focus walk_at "own"); (focus walk_at "ev"); (focus walk_at "own"); (focus walk_at "side"); walk_at "sl")
  | ((with_reducible apply sd_ret); (focus walk_at "ev"))
  | with_reducible apply sd_next)
local macro_rules | `(tactic| walk_at "st") => `(tactic| first | ((with_reducible apply sd_seq); walk_at "s1") | walk_at "s1")
local macro_rules | `(tactic| walk_at "R") => `(tactic| first
  | exact ⟨_, rfl, rfl, rfl⟩ | exact ⟨_, _, rfl, rfl, rfl⟩ | exact ⟨_, _, _, rfl, rfl, rfl⟩ | exact ⟨_, _, _, _, rfl, rfl, rfl⟩
  | exact ⟨_, rfl, by assumption, rfl, rfl⟩ | exact ⟨_, _, rfl, by assumption, rfl, rfl⟩ | exact ⟨_, _, _, rfl, by assumption, rfl, rfl⟩ | exact ⟨_, _, _, _, rfl, by assumption, rfl, rfl⟩
  | exact ⟨_, _, rfl, by assumption, by assumption, rfl, rfl⟩ | exact ⟨_, _, _, rfl, by assumption, by assumption, rfl, rfl⟩ | exact ⟨_, _, _, _, rfl, by assumption, by assumption, rfl, rfl⟩)
local macro_rules | `(tactic| walk_at "evx") => `(tactic| first
  | ((with_reducible apply ev_run); (focus walk_at "ea"); walk_at "R")
  | ((with_reducible apply ev_propR); (focus walk_at "ev"); walk_at "R")
  | ((with_reducible apply ev_fld); (focus walk_at "ev"); (focus walk_at "cls"); (focus walk_at "cls"); (focus rfl))
  | ((with_reducible apply ev_ownIn0); (focus walk_at "ev"); (focus walk_at "ev"); walk_at "R")
  | ((with_reducible apply ev_slL); (focus walk_at "ev"); (focus walk_at "eo"); (focus walk_at "eo"))
  | ((with_reducible apply ev_slT); (focus walk_at "ev"); (focus walk_at "eo"); (focus walk_at "eo"))
  | ((with_reducible apply ev_cvalI); (focus walk_at "ev"); (focus walk_at "cls"); (focus walk_at "cls")))
local macro_rules | `(tactic| walk_at "eo") => `(tactic| first | with_reducible exact eo_none | ((with_reducible apply eo_some); walk_at "ev"))
local macro_rules | `(tactic| walk_at "cls") => `(tactic| first
  | with_reducible exact (by assumption : Tx _ _ _).cl_Shares
  | with_reducible exact (by assumption : Tx _ _ _).na_Shares_amounts
  | with_reducible exact (by assumption : Tx _ _ _).cl_Bill
  | with_reducible exact (by assumption : Tx _ _ _).na_Bill_total
  | with_reducible exact (by assumption : Tx _ _ _).na_Bill_there
  | with_reducible exact (by assumption : Tx _ _ _).cr_Bill
  | with_reducible exact (by assumption : Tx _ _ _).cv_Bill_MAX_SEATS
  | with_reducible exact (by assumption : Tx _ _ _).cl_Evening
  | with_reducible exact (by assumption : Tx _ _ _).na_Evening_size
  | with_reducible exact (by assumption : Tx _ _ _).na_Evening_parts
  | with_reducible exact (by assumption : Tx _ _ _).cr_Evening
  | with_reducible exact (by assumption : Tx _ _ _).cv_Evening_MAX_BILLS
  | with_reducible exact (by assumption : Tx _ _ _).cl_Course
  | with_reducible exact (by assumption : Tx _ _ _).na_Course_marks
  | with_reducible exact (by assumption : Tx _ _ _).na_Course_rows
  | with_reducible exact (by assumption : Tx _ _ _).na_Course_ring
  | with_reducible exact (by assumption : Tx _ _ _).na_Course_evening
  | with_reducible exact (by assumption : Tx _ _ _).cl_MarkObserver
  | with_reducible exact (by assumption : Tx _ _ _).na_MarkObserver_evening
  | with_reducible exact (by assumption : Tx _ _ _).na_MarkObserver_left
  | with_reducible exact (by assumption : Tx _ _ _).na_MarkObserver_accepted)
section
variable {P : Program} {w : World} {K : PySem.W.Frag} {mg : Str → Option Value} {base : Heap} {A : Ad}
def R_paid : DR := fun ds O Post => ∃ n rows m, ds = [.int n, .lst (List.map encR rows), .int m] ∧ POk n rows ∧ (0 ≤ m ∧ m < n) ∧ Post (.tup [.lst ((tbl n rows m).map encT), .int (lstM rows m)]) O
theorem ok_law_paid (T : Tx K mg A) : FnR P w K mg base (L2.CX P w) 1 A.f_law_paid (SpD K (R_paid)) := by
  obtain ⟨fd, F, hb⟩ := T.F_law_paid
  refine fnD F sc_law_paid hb (fun ds O Post h => by first | (obtain ⟨rfl, _⟩ := h; rfl) | (obtain ⟨_, rfl, _⟩ := h; rfl) | (obtain ⟨_, _, rfl, _⟩ := h; rfl) | (obtain ⟨_, _, _, rfl, _⟩ := h; rfl) | (obtain ⟨_, _, _, _, rfl, _⟩ := h; rfl) | (obtain ⟨_, _, _, _, _, rfl, _⟩ := h; rfl) | (obtain ⟨_, _, _, _, _, _, rfl, _⟩ := h; rfl) | (obtain ⟨_, _, _, _, _, _, _, rfl, _⟩ := h; rfl) | (obtain ⟨_, _, _, _, _, _, _, _, rfl, _⟩ := h; rfl) | (obtain ⟨_, _, _, _, _, _, _, _, _, rfl, _⟩ := h; rfl) | (obtain ⟨_, _, _, _, _, _, _, _, _, _, rfl, _⟩ := h; rfl) | (obtain ⟨_, _, _, _, _, _, _, _, _, _, _, rfl, _⟩ := h; rfl) | (obtain ⟨_, _, _, _, _, _, _, _, _, _, _, _, rfl, _⟩ := h; rfl) | (obtain ⟨_, _, _, _, _, _, _, _, _, _, _, _, _, rfl, _⟩ := h; rfl)) fun cdv A' outer s H E hr => ⟨_, PSs.nox (pss_cons (ps_set (i := 3) sc_law_paid.nd rfl (Or.inl rfl) (pe_lst pa_nil))
      (pss_cons (ps_for PassesOwn.never rfl (pi_listK K (pv 1)) (pg_tupK K (n := 2) rfl (pgs_cons (pg_name (i := 4) sc_law_paid.nd rfl (Or.inl rfl)) (pgs_cons (pg_name (i := 5) sc_law_paid.nd rfl (Or.inl rfl)) pgs_nil))) (pss_cons (ps_par (by rfl) sc_law_paid.nd (i := 6) (j := 7) rfl rfl (by decide) rfl rfl (pa_cons (pe_op op_rep (pe_lst (pa_cons pe_int pa_nil)) (pv 0)) (pa_cons (pe_op op_mod (pv 4) (pe_callB (call_lenK K) (by rfl) T.b_len (by decide +kernel) (pa_cons (pv 5) pa_nil))) pa_nil)) (by rfl))
      (pss_cons (ps_for PassesOwn.never rfl (pi_tupK K (pv 5)) (pg_name (i := 8) sc_law_paid.nd rfl (Or.inl rfl)) (pss_one (ps_asg (pe_op op_fdivW (pv 4) (pe_callB (call_lenK K) (by rfl) T.b_len (by decide +kernel) (pa_cons (pv 5) pa_nil))) (pg_sub (pv 6) (pv 8) set_list))))
      (pss_cons (ps_set (i := 9) sc_law_paid.nd rfl (Or.inl rfl) (pv 2))
      (pss_cons (ps_while PassesOwn.never (pt_cmpR op_gt (pv 7) pe_int (nomark _)) (pss_cons (ps_set (i := 9) sc_law_paid.nd rfl (Or.inl rfl) (pe_op op_mod (pe_op op_add (pv 9) pe_int) (pv 0)))
      (pss_one (ps_if (pt_cmpR (op_inK K) (pv 9) (pv 5) (by rfl)) (pss_cons (ps_asg (pe_op op_add (pe_ix (ix_listK K) (pv 6) (pv 9) (fun _ _ => rfl)) pe_int) (pg_sub (pv 6) (pv 9) set_list))
      (pss_one (ps_par (by rfl) sc_law_paid.nd (i := 7) (j := 2) rfl rfl (by decide) rfl rfl (pa_cons (pe_op op_sub (pv 7) pe_int) (pa_cons (pv 9) pa_nil)) (by rfl)))) pss_nil))))
      (pss_one (ps_expr (pe_bm PySem.F.plainAttrs_list PySem.F.slot_list_append PySem.F.type_list_append mt_append (pv 3) (pa_cons (pv 6) pa_nil)))))))))
      (pss_one (ps_ret (pe_tup (pa_cons (pv 3) (pa_cons (pv 2) pa_nil))))))), fun ds O Post hR => ?_⟩
  obtain ⟨n, rows, m, rfl, he, hm, hp⟩ := hR
  have hn1 := he.1
  have hn2 := he.2.1
  walk_at "go"
  refine sd_seq (sd_asgP (evp_lst ea_nil (by simp) fun p hpn => ?_))
  walk_at "sl"
  refine sd_seq (sd_for (ei_list (by walk_at "ev")) (fun i δ' O' => ∃ c1 c2 c3 c4 c5 c6, O' = setO O p (.lst ((tbl n (rows.take i) m).map encT)) ∧ δ' = [some (.int n), some (.lst (rows.map encR)), some (.int (lstM (rows.take i) m)), some (.ref p), c1, c2, c3, c4, c5, c6]) ⟨none, none, none, none, none, none, rfl, rfl⟩ (fun i d δ' O' hd hI => ?_) (fun δ' O' hI => ?_))
  · obtain ⟨c1, c2, c3, c4, c5, c6, rfl, rfl⟩ := hI
    rw [List.getElem?_map] at hd
    cases hq : rows[i]? with
    | none => rw [hq] at hd; cases hd
    | some b =>
      rw [hq] at hd; cases hd
      have hil := (List.getElem?_eq_some_iff.mp hq).1
      have et : rows.take (i + 1) = rows.take i ++ [b] := by rw [List.take_add_one, hq]; rfl
      have hbm := he.2.2.2 b (List.mem_of_getElem? hq)
      have hr : ∀ s ∈ b.st, 0 ≤ s ∧ s < n := fun s hs => ⟨(hbm.1.2.2.2.2 s hs).1, hbm.2 s hs⟩
      have hmk : 0 ≤ lstM (rows.take i) m ∧ lstM (rows.take i) m < n := lstM_in (fun c hc s hs => by
        have := he.2.2.2 c (List.mem_of_mem_take hc)
        exact ⟨(this.1.2.2.2.2 s hs).1, this.2 s hs⟩) hm
      have htl : (tbl n (rows.take i) m).length ≤ 1000 := by
        have : ∀ (bs : List B) (m : Int), (tbl n bs m).length = bs.length := fun bs => by
          induction bs with
          | nil => intro m; rfl
          | cons b r ih => intro m; show (tbl n r _).length + 1 = _; rw [ih]; rfl
        rw [this]
        exact Nat.le_trans (by rw [List.length_take]; exact Nat.min_le_right _ _) he.2.2.1
      have hb := hbm.1
      have hl := hb.len
      have hasc := hb.2.2.2.1
      rw [et, tbl_snoc, lst_snoc]
      generalize lstM (rows.take i) m = mk at *
      generalize tbl n (rows.take i) m = tb at *
      have elen : (b.st.map D.int).length = b.st.length := List.length_map ..
      have hl1 : 0 < ((b.st.map D.int).length : Int) := by omega
      have hl2 : ((b.st.map D.int).length : Int) ≤ 8 := by omega
      unfold encR
      refine gd_tup rfl (gds_cons (gd_name (gds_cons (gd_name (gds_nil ?_)))))
      walk_at "sl"
      refine sd_seq (sd_parP (eap_cons (evp_rep (ds := [.int 0]) (i := n) (O1 := setO O p (.lst (tb.map encT))) (O2 := setO O p (.lst (tb.map encT))) (by walk_at "ev") (by walk_at "ev") (by omega) (by simp; omega) fun q hqn => EvA.toP (O1 := setO (setO O p (.lst (tb.map encT))) q (.lst (List.replicate n.toNat [D.int 0]).flatten)) (ea_cons (d := .int (b.amt % (b.st.length : Int))) (Ev.is (d := .int (b.amt % ((b.st.map D.int).length : Int))) (by walk_at "ev") (by rw [elen])) ea_nil) ⟨_, _, rfl, ?_⟩)))
      walk_at "sl"
      rw [rep0]
      have hqp : q ≠ p := fun z => by rw [z, setO_same] at hqn; cases hqn
      have hdel : ∀ X, delO (setO (setO O p (.lst (tb.map encT))) q X) q = setO O p (.lst (tb.map encT)) := fun X => delO_setO hqn
      have hap : ∀ X, setO (setO O p (.lst (tb.map encT))) p X = setO O p X := fun X => setO_setO
      have hOp : (setO O p (.lst (tb.map encT))) p = some (.lst (tb.map encT)) := setO_same
      generalize setO O p (.lst (tb.map encT)) = O1 at *
      refine sd_seq (sd_for (ei_tup (by walk_at "ev")) (fun j δ' O' => ∃ c, O' = setO O1 q (.lst ((List.range n.toNat).map fun (k : Nat) => D.int (if (k : Int) ∈ b.st.take j then b.amt / (b.st.length : Int) else 0))) ∧ δ' = [some (.int n), some (.lst (rows.map encR)), some (.int mk), some (.ref p), some (.int b.amt), some (.tup (b.st.map D.int)), some (.ref q), some (.int (b.amt % (b.st.length : Int))), c, c6]) ⟨c5, ?_, rfl⟩ (fun j d δ' O' hd hI => ?_) (fun δ' O' hI => ?_))
      · simp
      · obtain ⟨c, rfl, rfl⟩ := hI
        rw [List.getElem?_map] at hd
        cases hz : b.st[j]? with
        | none => rw [hz] at hd; cases hd
        | some z =>
          rw [hz] at hd; cases hd
          refine gd_name ?_
          walk_at "sl"
          have hzr := hr z (List.mem_of_getElem? hz)
          apply sd_setL (d := .int (b.amt / (b.st.length : Int))) (l := q) (i := z) (k := z.toNat)
          focus exact Ev.is (d := .int (b.amt / ((b.st.map D.int).length : Int))) (by walk_at "ev") (by rw [elen])
          focus walk_at "ev"
          focus walk_at "ev"
          focus exact setO_same
          focus exact ixN_of (by omega) (by simp; omega)
          refine ⟨_, ?_, rfl⟩
          rw [setO_setO, set_rg]
          congr 2
          refine List.map_congr_left fun k _ => ?_
          rw [List.take_add_one, hz]
          by_cases e : k = z.toNat
          · rw [if_pos e, if_pos (List.mem_append.mpr (.inr (by simp; omega)))]
          · rw [if_neg e]
            have e' : ¬ (k : Int) = z := by omega
            simp [e']
      · obtain ⟨c, rfl, rfl⟩ := hI
        rw [elen, List.take_of_length_le (Nat.le_refl _)]
        walk_at "st"
        have hL0 : 0 ≤ b.amt % (b.st.length : Int) := Int.emod_nonneg _ (by omega)
        have hL1 : b.amt % (b.st.length : Int) < b.st.length := Int.emod_lt_of_pos _ (by omega)
        have hpl := pl_eq b mk
        have hva := vis_all hmk.1 hmk.2 hasc hr
        have hpay : payC b n mk = (List.range n.toNat).map fun (k : Nat) => if (k : Int) ∈ b.st then b.amt / (b.st.length : Int) + (if (k : Int) ∈ pl b mk then 1 else 0) else 0 := rfl
        have hpM : payM b mk = (pl b mk).getLast?.getD mk := rfl
        generalize b.amt % (b.st.length : Int) = L at *
        generalize b.amt / (b.st.length : Int) = bs at *
        refine sd_seq (sd_while (fun mm δ' O' => ∃ t : Nat, t ≤ n.toNat ∧ mm = n.toNat - t ∧ ((vis b.st n mk t).length : Int) ≤ L ∧ δ' = [some (.int n), some (.lst (rows.map encR)), some (.int ((vis b.st n mk t).getLast?.getD mk)), some (.ref p), some (.int b.amt), some (.tup (b.st.map D.int)), some (.ref q), some (.int (L - (vis b.st n mk t).length)), c, some (.int ((mk + (t : Int)) % n))] ∧ O' = setO O1 q (.lst ((List.range n.toNat).map fun (k : Nat) => D.int (if (k : Int) ∈ b.st then bs + (if (k : Int) ∈ vis b.st n mk t then 1 else 0) else 0)))) n.toNat ⟨0, Nat.zero_le _, rfl, hL0, ?_, ?_⟩ fun mm δ' O' hW => ?_)
        · have e0 : (mk + ((0 : Nat) : Int)) % n = mk := by rw [Int.natCast_zero, Int.add_zero]; exact Int.emod_eq_of_lt hmk.1 hmk.2
          rw [e0]
          simp [vis]
        · simp [vis]
        · obtain ⟨t, ht, rfl, hvl, rfl, rfl⟩ := hW
          refine ⟨decide (0 < L - (vis b.st n mk t).length), _, by walk_at "et", fun e => ?_, fun e => ?_⟩
          · have e : 0 < L - ((vis b.st n mk t).length : Int) := of_decide_eq_true e
            have htn : t < n.toNat := by
              rcases Nat.lt_or_ge t n.toNat with h | h
              · exact h
              · have h' : t = n.toNat := by omega
                rw [h', hva, rot_len] at e
                omega
            have hvs := vis_snoc b.st n mk t
            have hx : ((mk + (t : Int)) % n + 1) % n = (mk + 1 + (t : Int)) % n := by
              rw [Int.emod_add_emod]; congr 1; omega
            have hx2 : (mk + ((t + 1 : Nat) : Int)) % n = (mk + 1 + (t : Int)) % n := by congr 1; omega
            have hx0 : 0 ≤ (mk + 1 + (t : Int)) % n := Int.emod_nonneg _ (by omega)
            have hx1 : (mk + 1 + (t : Int)) % n < n := Int.emod_lt_of_pos _ (by omega)
            have hnd : (vis b.st n mk (t + 1)).Nodup := by
              have h1 := vis_pre b.st n mk (t := t + 1) (u := n.toNat) htn
              rw [hva] at h1
              exact (rot_nodup hasc).sublist h1.sublist
            refine sd_seq (sd_asg (d := .int ((mk + 1 + (t : Int)) % n)) (Ev.is (d := .int (((mk + (t : Int)) % n + 1) % n)) (by walk_at "ev") (by rw [hx])) ?_)
            walk_at "sl"
            generalize (mk + 1 + (t : Int)) % n = x at *
            have hf : (b.st.map D.int).all flatD = true := flat_ints _
            refine sd_if (b := decide (x ∈ b.st)) (EvT.is (b := inD (.int x) (b.st.map D.int)) (by walk_at "et") (inD_int ..)) (fun e2 => ?_) (fun e2 => ?_)
            · have e2 : x ∈ b.st := of_decide_eq_true e2
              rw [if_pos e2] at hvs
              rw [hvs] at hnd
              have hxv : x ∉ vis b.st n mk t := fun z => (List.nodup_append.mp hnd).2.2 x z x (List.mem_singleton.mpr rfl) rfl
              have ha : atI ((List.range n.toNat).map fun (k : Nat) => D.int (if (k : Int) ∈ b.st then bs + (if (k : Int) ∈ vis b.st n mk t then 1 else 0) else 0)) x = some (.int bs) := by
                refine atI_of (k := x.toNat) (by omega) ?_
                have ec : ((x.toNat : Nat) : Int) = x := by omega
                rw [get_rg _ _ _ (by omega), ec, if_pos e2, if_neg hxv, Int.add_zero]
              refine sd_seq ?_
              apply sd_setL (d := .int (bs + 1)) (l := q) (i := x) (k := x.toNat)
              focus exact ev_op (ev_op (ev_var rfl) (ev_var rfl) (r_ixO setO_same ha)) ev_int (by walk_at "rr")
              focus walk_at "ev"
              focus walk_at "ev"
              focus exact setO_same
              focus exact ixN_of (by omega) (by simp; omega)
              walk_at "sl"
              rw [setO_setO, set_rg]
              apply sd_par
              focus walk_at "ea"
              refine ⟨n.toNat - (t + 1), by omega, t + 1, htn, rfl, ?_, ?_, ?_⟩
              · rw [hvs, List.length_append]; simp; omega
              · walk_at "sl"
                rw [hvs, hx2]
                simp
                omega
              · congr 2
                refine List.map_congr_left fun k _ => ?_
                rw [hvs]
                by_cases ek : k = x.toNat
                · have ec : (k : Int) = x := by omega
                  rw [if_pos ek, ec, if_pos e2, if_pos (by simp)]
                · have ec : ¬ (k : Int) = x := by omega
                  rw [if_neg ek]
                  simp [ec]
            · have e2 : x ∉ b.st := of_decide_eq_false e2
              rw [if_neg e2] at hvs
              refine sd_next ⟨n.toNat - (t + 1), by omega, t + 1, htn, rfl, ?_, ?_, ?_⟩
              · rw [hvs]; exact hvl
              · rw [hvs, hx2]
              · rw [hvs]
          · have e : ¬ 0 < L - ((vis b.st n mk t).length : Int) := of_decide_eq_false e
            have ev : vis b.st n mk t = pl b mk := by
              have h1 := vis_pre b.st n mk ht
              rw [hva] at h1
              rw [hpl, List.prefix_iff_eq_take.mp h1]
              congr 1
              omega
            rw [ev]
            refine sd_pub (i := 6) setO_same rfl ?_
            rw [hdel]
            walk_at "sl"
            apply sd_app (l := p) (d := encT (payC b n mk))
            focus exact ev_var rfl
            focus exact hOp
            focus
              rw [hpay]
              unfold encT
              rw [rg_map]
              exact ev_var rfl
            focus exact hOp
            focus (rw [List.length_map]; omega)
            rw [hap, hpM]
            exact ⟨_, _, _, _, _, _, by rw [List.map_append]; rfl, rfl⟩
  · obtain ⟨c1, c2, c3, c4, c5, c6, rfl, rfl⟩ := hI
    rw [List.length_map, List.take_of_length_le (Nat.le_refl _)]
    refine sd_pub (i := 3) setO_same rfl ?_
    rw [delO_setO hpn]
    walk_at "sl"
    walk_at "st"
    exact hp
end
end Law

set_option Elab.async false
set_option linter.all false
set_option maxRecDepth 100000
set_option maxHeartbeats 4000000
namespace Law
open PySem PySem.Spec L2 DL
open PyProof.Rows hiding St
local macro_rules | `(tactic| walk_at "sl") => `(tactic| try dsimp only [startD, List.map, List.length_cons, List.length_nil, List.replicate, List.cons_append, List.nil_append, List.set_cons_zero, List.set_cons_succ, Nat.reduceSub, Nat.reduceAdd, wipeD])
local macro_rules | `(tactic| walk_at "go") => `(tactic| ((try dsimp only [cxOf, Cx.nox, Cx.wish, Cx.blk]); walk_at "sl"; walk_at "sl"))
local macro_rules | `(tactic| walk_at "own") => `(tactic| first | assumption | exact setO_same | (rw [setO_ne (by first | assumption | exact Ne.symm (by assumption))]; assumption) | (rw [setO_ne (by first | assumption | exact Ne.symm (by assumption))]; exact setO_same))
local macro_rules | `(tactic| walk_at "side") => `(tactic| first
  | assumption | rfl | exact flat_ints _ | exact atI0 | exact atI1 | exact atI2 | exact atI3 | decide | omega | (simp; done)
  | (refine cmodp ?_; omega) | (refine cdivw ?_ ?_ <;> omega) | (refine cmul_l ?_ ?_ <;> omega) | (refine cmul_r ?_ ?_ <;> omega) | (refine cpow ?_ ?_ ?_ <;> decide))
local macro_rules | `(tactic| walk_at "rr") => `(tactic| first
  | with_reducible exact r_int | with_reducible exact r_bl | with_reducible exact r_eqI | with_reducible exact r_neI | with_reducible exact r_eqB | with_reducible exact r_neB | with_reducible exact r_eqS | with_reducible exact r_neS
  | ((with_reducible apply r_intC); walk_at "side")
  | ((with_reducible apply r_ixL); walk_at "side") | ((with_reducible apply r_ixT); walk_at "side") | ((with_reducible apply r_ixS); walk_at "side") | ((with_reducible apply r_ixO); (focus walk_at "own"); (focus walk_at "side"))
  | ((with_reducible apply r_inT0) <;> walk_at "side") | ((with_reducible apply r_inL0) <;> walk_at "side") | ((with_reducible apply r_inT1) <;> walk_at "side") | ((with_reducible apply r_inL1) <;> walk_at "side")
  | ((with_reducible apply r_inO0); (focus walk_at "own"); (focus walk_at "side"); (focus walk_at "side")) | ((with_reducible apply r_inO1); (focus walk_at "own"); (focus walk_at "side"); (focus walk_at "side"))
  | ((with_reducible apply r_rep) <;> walk_at "side") | ((with_reducible apply r_cat) <;> walk_at "side")
  | ((with_reducible apply r_catA) <;> walk_at "side") | ((with_reducible apply r_catO); (focus walk_at "own"); (focus walk_at "side"))
  | ((with_reducible apply r_addS); (focus walk_at "side")) | with_reducible exact r_isN _ rfl | with_reducible exact r_notN _ rfl
  | ((with_reducible apply r_eqP); (focus walk_at "pl"); (focus walk_at "pl"); (focus decide); (focus decide)) | ((with_reducible apply r_neP); (focus walk_at "pl"); (focus walk_at "pl"); (focus decide); (focus decide)))
local macro_rules | `(tactic| walk_at "pl") => `(tactic| first | exact Pl.ints _ | exact Pl.intsL _ | exact Pl.nilT | exact Pl.nilL | exact Pl.int (n := 0) | assumption)
local macro_rules | `(tactic| walk_at "cc") => `(tactic| first
  | with_reducible exact c_lenL | with_reducible exact c_lenT | with_reducible exact c_lenS | ((with_reducible apply c_lenO); walk_at "own")
  | with_reducible exact c_listL | with_reducible exact c_listT | with_reducible exact c_tupL | with_reducible exact c_sum | with_reducible exact c_intB | with_reducible exact c_int1
  | with_reducible exact c_max2 | ((with_reducible apply c_strI); (focus walk_at "side")) | ((with_reducible apply c_lenStr); (focus walk_at "side"))
  | ((with_reducible apply c_isi); (focus rfl); (focus (first | decide +kernel | rfl))) | ((with_reducible apply c_isi2); (focus rfl); (focus (first | decide +kernel | rfl)); (focus (first | decide +kernel | rfl))))
local macro_rules | `(tactic| walk_at "ea") => `(tactic| first
  | with_reducible exact ea_nil
  | ((with_reducible apply ea_cons); (focus walk_at "ev"); (focus walk_at "ea"))
  | ((with_reducible apply ea_starT); (focus walk_at "ev"); (focus walk_at "ea")) | ((with_reducible apply ea_starL); (focus walk_at "ev"); (focus walk_at "ea")))
local macro_rules | `(tactic| walk_at "ev") => `(tactic| first
  | exact ev_var rfl | with_reducible exact ev_int | with_reducible exact ev_bl | with_reducible exact ev_str | with_reducible exact ev_non | with_reducible exact ev_ty | with_reducible exact ev_ref
  | ((with_reducible apply ev_op); (focus walk_at "ev"); (focus walk_at "ev"); (focus walk_at "rr"))
  | ((with_reducible apply ev_cb); (focus walk_at "ea"); (focus walk_at "cc"))
  | ((with_reducible apply ev_neg); (focus walk_at "ev"))
  | ((with_reducible apply ev_tup); (focus walk_at "ea"); (focus walk_at "side"))
  | ((with_reducible apply ev_lst); (focus walk_at "ea"); (focus walk_at "side"))
  | ((with_reducible apply ev_notV); (focus walk_at "ev"))
  | ((with_reducible apply ev_chain); (focus walk_at "ev"); (focus walk_at "ev"); (focus walk_at "rr"); (focus (intro _; walk_at "ev")); (focus (intro _; walk_at "rr")))
  | walk_at "evx")
local macro_rules | `(tactic| walk_at "et") => `(tactic| first
  | ((with_reducible apply et_test); walk_at "ev") | ((with_reducible apply et_B); walk_at "ev") | with_reducible exact et_yes
  | ((with_reducible apply et_not); walk_at "et")
  | ((with_reducible apply et_and); (focus walk_at "et"); (focus (intro _; walk_at "et")))
  | ((with_reducible apply et_or); (focus walk_at "et"); (focus (intro _; walk_at "et"))))
local macro_rules | `(tactic| walk_at "s1") => `(tactic| first
  | ((with_reducible apply sd_asg); (focus walk_at "ev"); walk_at "sl")
  | ((with_reducible apply sd_par); (focus walk_at "ea"); walk_at "sl")
  | ((with_reducible apply sd_setL); (focus walk_at "ev"); (focus walk_at "ev"); (focus walk_at "ev"); (focus walk_at "own"); (focus (first | exact ixN_of (k := 0) rfl (by simp) | exact ixN_of (k := 1) rfl (by simp) | exact ixN_of (k := 2) rfl (by simp) | exact ixN_of (k := 3) rfl (by simp) | assumption)); walk_at "sl")
  | ((with_reducible apply sd_app); (focus walk_at "ev"); (focus walk_at "own"); (focus walk_at "ev"); (focus walk_at "own"); (focus walk_at "side"); walk_at "sl")
  | ((with_reducible apply sd_ret); (focus walk_at "ev"))
  | with_reducible apply sd_next)
local macro_rules | `(tactic| walk_at "st") => `(tactic| first | ((with_reducible apply sd_seq); walk_at "s1") | walk_at "s1")
local macro_rules | `(tactic| walk_at "R") => `(tactic| first
  | exact ⟨_, rfl, rfl, rfl⟩ | exact ⟨_, _, rfl, rfl, rfl⟩ | exact ⟨_, _, _, rfl, rfl, rfl⟩ | exact ⟨_, _, _, _, rfl, rfl, rfl⟩
  | exact ⟨_, rfl, by assumption, rfl, rfl⟩ | exact ⟨_, _, rfl, by assumption, rfl, rfl⟩ | exact ⟨_, _, _, rfl, by assumption, rfl, rfl⟩ | exact ⟨_, _, _, _, rfl, by assumption, rfl, rfl⟩
  | exact ⟨_, _, rfl, by assumption, by assumption, rfl, rfl⟩ | exact ⟨_, _, _, rfl, by assumption, by assumption, rfl, rfl⟩ | exact ⟨_, _, _, _, rfl, by assumption, by assumption, rfl, rfl⟩)
local macro_rules | `(tactic| walk_at "evx") => `(tactic| first
  | ((with_reducible apply ev_run); (focus walk_at "ea"); walk_at "R")
  | ((with_reducible apply ev_propR); (focus walk_at "ev"); walk_at "R")
  | ((with_reducible apply ev_fld); (focus walk_at "ev"); (focus walk_at "cls"); (focus walk_at "cls"); (focus rfl))
  | ((with_reducible apply ev_ownIn0); (focus walk_at "ev"); (focus walk_at "ev"); walk_at "R")
  | ((with_reducible apply ev_slL); (focus walk_at "ev"); (focus walk_at "eo"); (focus walk_at "eo"))
  | ((with_reducible apply ev_slT); (focus walk_at "ev"); (focus walk_at "eo"); (focus walk_at "eo"))
  | ((with_reducible apply ev_cvalI); (focus walk_at "ev"); (focus walk_at "cls"); (focus walk_at "cls")))
local macro_rules | `(tactic| walk_at "eo") => `(tactic| first | with_reducible exact eo_none | ((with_reducible apply eo_some); walk_at "ev"))
local macro_rules | `(tactic| walk_at "cls") => `(tactic| first
  | with_reducible exact (by assumption : Tx _ _ _).cl_Shares
  | with_reducible exact (by assumption : Tx _ _ _).na_Shares_amounts
  | with_reducible exact (by assumption : Tx _ _ _).cl_Bill
  | with_reducible exact (by assumption : Tx _ _ _).na_Bill_total
  | with_reducible exact (by assumption : Tx _ _ _).na_Bill_there
  | with_reducible exact (by assumption : Tx _ _ _).cr_Bill
  | with_reducible exact (by assumption : Tx _ _ _).cv_Bill_MAX_SEATS
  | with_reducible exact (by assumption : Tx _ _ _).cl_Evening
  | with_reducible exact (by assumption : Tx _ _ _).na_Evening_size
  | with_reducible exact (by assumption : Tx _ _ _).na_Evening_parts
  | with_reducible exact (by assumption : Tx _ _ _).cr_Evening
  | with_reducible exact (by assumption : Tx _ _ _).cv_Evening_MAX_BILLS
  | with_reducible exact (by assumption : Tx _ _ _).cl_Course
  | with_reducible exact (by assumption : Tx _ _ _).na_Course_marks
  | with_reducible exact (by assumption : Tx _ _ _).na_Course_rows
  | with_reducible exact (by assumption : Tx _ _ _).na_Course_ring
  | with_reducible exact (by assumption : Tx _ _ _).na_Course_evening
  | with_reducible exact (by assumption : Tx _ _ _).cl_MarkObserver
  | with_reducible exact (by assumption : Tx _ _ _).na_MarkObserver_evening
  | with_reducible exact (by assumption : Tx _ _ _).na_MarkObserver_left
  | with_reducible exact (by assumption : Tx _ _ _).na_MarkObserver_accepted)
section
variable {P : Program} {w : World} {K : PySem.W.Frag} {mg : Str → Option Value} {base : Heap} {A : Ad}
def R_totals : DR := fun ds O Post => ∃ n tb, ds = [.int n, .lst (List.map encT tb)] ∧ (0 ≤ n ∧ n ≤ 8) ∧ ((∀ cs ∈ tb, cs.length = n.toNat) ∧ tb.length ≤ 1000) ∧ Post (.tup (((List.range n.toNat).map fun k => (tb.map fun cs => cs.getD k 0).sum).map .int)) O
theorem tbl_ok {n : Int} : ∀ {bs : List B} {m : Int}, (∀ cs ∈ tbl n bs m, cs.length = n.toNat) ∧ (tbl n bs m).length = bs.length
  | [], _ => ⟨(fun _ h => nomatch h), rfl⟩
  | b :: r, m => by
    refine ⟨fun cs h => ?_, congrArg (· + 1) (tbl_ok (bs := r)).2⟩
    rcases List.mem_cons.mp h with rfl | h
    · exact payC_len ..
    · exact (tbl_ok (bs := r)).1 cs h
/-- the total of a table as a law asks it -/
theorem ev_tot {E : XK} {t : TA} {δ : Sl} {O O1 : Ow} {n m : Int} {bs : List B} (he : POk n bs) (h : EvA K t δ O [.int n, .lst ((tbl n bs m).map encT)] O1) : Ev K (tRun (SpD K R_totals) E t) δ O (.tup ((play n bs m).1.map .int)) O1 := by
  rw [play_tbl]
  refine ev_run h ⟨n, _, rfl, ⟨by have := he.1; omega, he.2.1⟩, ⟨tbl_ok.1, ?_⟩, rfl, rfl⟩
  rw [tbl_ok.2]
  exact he.2.2.1
end
end Law

set_option Elab.async false
set_option linter.all false
set_option maxRecDepth 100000
set_option maxHeartbeats 4000000
namespace Law
open PySem PySem.Spec L2 DL
open PyProof.Rows hiding St
local macro_rules | `(tactic| walk_at "sl") => `(tactic| try dsimp only [startD, List.map, List.length_cons, List.length_nil, List.replicate, List.cons_append, List.nil_append, List.set_cons_zero, List.set_cons_succ, Nat.reduceSub, Nat.reduceAdd, wipeD])
local macro_rules | `(tactic| walk_at "go") => `(tactic| ((try dsimp only [cxOf, Cx.nox, Cx.wish, Cx.blk]); walk_at "sl"; walk_at "sl"))
local macro_rules | `(tactic| walk_at "own") => `(tactic| first | assumption | exact setO_same | (rw [setO_ne (by first | assumption | exact Ne.symm (by assumption))]; assumption) | (rw [setO_ne (by first | assumption | exact Ne.symm (by assumption))]; exact setO_same))
local macro_rules | `(tactic| walk_at "side") => `(tactic| first
  | assumption | rfl | exact flat_ints _ | exact atI0 | exact atI1 | exact atI2 | exact atI3 | decide | omega | (simp; done)
  | (refine cmodp ?_; omega) | (refine cdivw ?_ ?_ <;> omega) | (refine cmul_l ?_ ?_ <;> omega) | (refine cmul_r ?_ ?_ <;> omega) | (refine cpow ?_ ?_ ?_ <;> decide))
local macro_rules | `(tactic| walk_at "rr") => `(tactic| first
  | with_reducible exact r_int | with_reducible exact r_bl | with_reducible exact r_eqI | with_reducible exact r_neI | with_reducible exact r_eqB | with_reducible exact r_neB | with_reducible exact r_eqS | with_reducible exact r_neS
  | ((with_reducible apply r_intC); walk_at "side")
  | ((with_reducible apply r_ixL); walk_at "side") | ((with_reducible apply r_ixT); walk_at "side") | ((with_reducible apply r_ixS); walk_at "side") | ((with_reducible apply r_ixO); (focus walk_at "own"); (focus walk_at "side"))
  | ((with_reducible apply r_inT0) <;> walk_at "side") | ((with_reducible apply r_inL0) <;> walk_at "side") | ((with_reducible apply r_inT1) <;> walk_at "side") | ((with_reducible apply r_inL1) <;> walk_at "side")
  | ((with_reducible apply r_inO0); (focus walk_at "own"); (focus walk_at "side"); (focus walk_at "side")) | ((with_reducible apply r_inO1); (focus walk_at "own"); (focus walk_at "side"); (focus walk_at "side"))
  | ((with_reducible apply r_rep) <;> walk_at "side") | ((with_reducible apply r_cat) <;> walk_at "side")
  | ((with_reducible apply r_catA) <;> walk_at "side") | ((with_reducible apply r_catO); (focus walk_at "own"); (focus walk_at "side"))
  | ((with_reducible apply r_addS); (focus walk_at "side")) | with_reducible exact r_isN _ rfl | with_reducible exact r_notN _ rfl
  | ((with_reducible apply r_eqP); (focus walk_at "pl"); (focus walk_at "pl"); (focus decide); (focus decide)) | ((with_reducible apply r_neP); (focus walk_at "pl"); (focus walk_at "pl"); (focus decide); (focus decide)))
local macro_rules | `(tactic| walk_at "pl") => `(tactic| first | exact Pl.ints _ | exact Pl.intsL _ | exact Pl.nilT | exact Pl.nilL | exact Pl.int (n := 0) | assumption)
local macro_rules | `(tactic| walk_at "cc") => `(tactic| first
  | with_reducible exact c_lenL | with_reducible exact c_lenT | with_reducible exact c_lenS | ((with_reducible apply c_lenO); walk_at "own")
  | with_reducible exact c_listL | with_reducible exact c_listT | with_reducible exact c_tupL | with_reducible exact c_sum | with_reducible exact c_intB | with_reducible exact c_int1
  | with_reducible exact c_max2 | ((with_reducible apply c_strI); (focus walk_at "side")) | ((with_reducible apply c_lenStr); (focus walk_at "side"))
  | ((with_reducible apply c_isi); (focus rfl); (focus (first | decide +kernel | rfl))) | ((with_reducible apply c_isi2); (focus rfl); (focus (first | decide +kernel | rfl)); (focus (first | decide +kernel | rfl))))
local macro_rules | `(tactic| walk_at "ea") => `(tactic| first
  | with_reducible exact ea_nil
  | ((with_reducible apply ea_cons); (focus walk_at "ev"); (focus walk_at "ea"))
  | ((with_reducible apply ea_starT); (focus walk_at "ev"); (focus walk_at "ea")) | ((with_reducible apply ea_starL); (focus walk_at "ev"); (focus walk_at "ea")))
local macro_rules | `(tactic| walk_at "ev") => `(tactic| first
  | exact ev_var rfl | with_reducible exact ev_int | with_reducible exact ev_bl | with_reducible exact ev_str | with_reducible exact ev_non | with_reducible exact ev_ty | with_reducible exact ev_ref
  | ((with_reducible apply ev_op); (focus walk_at "ev"); (focus walk_at "ev"); (focus walk_at "rr"))
  | ((with_reducible apply ev_cb); (focus walk_at "ea"); (focus walk_at "cc"))
  | ((with_reducible apply ev_neg); (focus walk_at "ev"))
  | ((with_reducible apply ev_tup); (focus walk_at "ea"); (focus walk_at "side"))
  | ((with_reducible apply ev_lst); (focus walk_at "ea"); (focus walk_at "side"))
  | ((with_reducible apply ev_notV); (focus walk_at "ev"))
  | ((with_reducible apply ev_chain); (focus walk_at "ev"); (focus walk_at "ev"); (focus walk_at "rr"); (focus (intro _; walk_at "ev")); (focus (intro _; walk_at "rr")))
  | walk_at "evx")
local macro_rules | `(tactic| walk_at "et") => `(tactic| first
  | ((with_reducible apply et_test); walk_at "ev") | ((with_reducible apply et_B); walk_at "ev") | with_reducible exact et_yes
  | ((with_reducible apply et_not); walk_at "et")
  | ((with_reducible apply et_and); (focus walk_at "et"); (focus (intro _; walk_at "et")))
  | ((with_reducible apply et_or); (focus walk_at "et"); (focus (intro _; walk_at "et"))))
local macro_rules | `(tactic| walk_at "s1") => `(tactic| first
  | ((with_reducible apply sd_asg); (focus walk_at "ev"); walk_at "sl")
  | ((with_reducible apply sd_par); (focus walk_at "ea"); walk_at "sl")
  | ((with_reducible apply sd_setL); (focus walk_at "ev"); (focus walk_at "ev"); (focus walk_at "ev"); (focus walk_at "own"); (focus (first | exact ixN_of (k := 0) rfl (by simp) | exact ixN_of (k := 1) rfl (by simp) | exact ixN_of (k := 2) rfl (by simp) | exact ixN_of (k := 3) rfl (by simp) | assumption)); walk_at "sl")
  | ((with_reducible apply sd_app); (focus walk_at "ev"); (focus walk_at "own"); (focus walk_at "ev"); (focus walk_at "own"); (focus walk_at "side"); walk_at "sl")
  | ((with_reducible apply sd_ret); (focus walk_at "ev"))
  | with_reducible apply sd_next)
local macro_rules | `(tactic| walk_at "st") => `(tactic| first | ((with_reducible apply sd_seq); walk_at "s1") | walk_at "s1")
local macro_rules | `(tactic| walk_at "R") => `(tactic| first
  | exact ⟨_, rfl, rfl, rfl⟩ | exact ⟨_, _, rfl, rfl, rfl⟩ | exact ⟨_, _, _, rfl, rfl, rfl⟩ | exact ⟨_, _, _, _, rfl, rfl, rfl⟩
  | exact ⟨_, rfl, by assumption, rfl, rfl⟩ | exact ⟨_, _, rfl, by assumption, rfl, rfl⟩ | exact ⟨_, _, _, rfl, by assumption, rfl, rfl⟩ | exact ⟨_, _, _, _, rfl, by assumption, rfl, rfl⟩
  | exact ⟨_, _, rfl, by assumption, by assumption, rfl, rfl⟩ | exact ⟨_, _, _, rfl, by assumption, by assumption, rfl, rfl⟩ | exact ⟨_, _, _, _, rfl, by assumption, by assumption, rfl, rfl⟩)
local macro_rules | `(tactic| walk_at "evx") => `(tactic| first
  | ((with_reducible apply ev_run); (focus walk_at "ea"); walk_at "R")
  | ((with_reducible apply ev_propR); (focus walk_at "ev"); walk_at "R")
  | ((with_reducible apply ev_fld); (focus walk_at "ev"); (focus walk_at "cls"); (focus walk_at "cls"); (focus rfl))
  | ((with_reducible apply ev_ownIn0); (focus walk_at "ev"); (focus walk_at "ev"); walk_at "R")
  | ((with_reducible apply ev_slL); (focus walk_at "ev"); (focus walk_at "eo"); (focus walk_at "eo"))
  | ((with_reducible apply ev_slT); (focus walk_at "ev"); (focus walk_at "eo"); (focus walk_at "eo"))
  | ((with_reducible apply ev_cvalI); (focus walk_at "ev"); (focus walk_at "cls"); (focus walk_at "cls")))
local macro_rules | `(tactic| walk_at "eo") => `(tactic| first | with_reducible exact eo_none | ((with_reducible apply eo_some); walk_at "ev"))
local macro_rules | `(tactic| walk_at "cls") => `(tactic| first
  | with_reducible exact (by assumption : Tx _ _ _).cl_Shares
  | with_reducible exact (by assumption : Tx _ _ _).na_Shares_amounts
  | with_reducible exact (by assumption : Tx _ _ _).cl_Bill
  | with_reducible exact (by assumption : Tx _ _ _).na_Bill_total
  | with_reducible exact (by assumption : Tx _ _ _).na_Bill_there
  | with_reducible exact (by assumption : Tx _ _ _).cr_Bill
  | with_reducible exact (by assumption : Tx _ _ _).cv_Bill_MAX_SEATS
  | with_reducible exact (by assumption : Tx _ _ _).cl_Evening
  | with_reducible exact (by assumption : Tx _ _ _).na_Evening_size
  | with_reducible exact (by assumption : Tx _ _ _).na_Evening_parts
  | with_reducible exact (by assumption : Tx _ _ _).cr_Evening
  | with_reducible exact (by assumption : Tx _ _ _).cv_Evening_MAX_BILLS
  | with_reducible exact (by assumption : Tx _ _ _).cl_Course
  | with_reducible exact (by assumption : Tx _ _ _).na_Course_marks
  | with_reducible exact (by assumption : Tx _ _ _).na_Course_rows
  | with_reducible exact (by assumption : Tx _ _ _).na_Course_ring
  | with_reducible exact (by assumption : Tx _ _ _).na_Course_evening
  | with_reducible exact (by assumption : Tx _ _ _).cl_MarkObserver
  | with_reducible exact (by assumption : Tx _ _ _).na_MarkObserver_evening
  | with_reducible exact (by assumption : Tx _ _ _).na_MarkObserver_left
  | with_reducible exact (by assumption : Tx _ _ _).na_MarkObserver_accepted)
section
variable {P : Program} {w : World} {K : PySem.W.Frag} {mg : Str → Option Value} {base : Heap} {A : Ad}
theorem rg_none (k : Nat) : ((List.range k).filter fun _ => false).map (fun (j : Nat) => D.int (j : Int)) = [] := by simp
local macro_rules | `(tactic| walk_at "fl") => `(tactic| (refine sd_seq ?_; apply sd_no; (focus walk_at "et"); (focus rfl); refine sd_next ?_; refine sd_seq ?_; apply sd_no; (focus walk_at "et"); (focus (simp; done)); refine sd_next ?_))
theorem same_step {k n : Nat} (T : Tx K mg A) (IH : FnR P w K mg base (L2.CX P w) k A.f_law_same (SpD K (R_same n))) : FnR P w K mg base (L2.CX P w) (k + 1) A.f_law_same (SpD K (R_same (n + 1))) := by
  obtain ⟨fd, F, hb⟩ := T.F_law_same
  refine fnD F sc_law_same hb (fun ds O Post h => by obtain ⟨_, rfl, _⟩ := h; rfl) fun cdv A' outer s H E hr => ⟨_, PSs.nox (pss_cons (ps_if (pt_val (pe_callB (call_isiK2 K) (by rfl) T.b_isinstance (by decide +kernel) (pa_cons (pv 1) (pa_cons (pe_tup (pa_cons (pe_bltn (v := .ty "tuple") (by rfl) T.b_tuple (by decide +kernel) rfl) (pa_cons (pe_bltn (v := .ty "list") (by rfl) T.b_list (by decide +kernel) rfl) pa_nil))) pa_nil)))) (pss_cons (ps_if (PW.pt (pw_or (pt_not (pt_val (pe_callB (call_isiK2 K) (by rfl) T.b_isinstance (by decide +kernel) (pa_cons (pv 0) (pa_cons (pe_tup (pa_cons (pe_bltn (v := .ty "tuple") (by rfl) T.b_tuple (by decide +kernel) rfl) (pa_cons (pe_bltn (v := .ty "list") (by rfl) T.b_list (by decide +kernel) rfl) pa_nil))) pa_nil))))) (pw_or1 (pt_cmpR op_ne (pe_callB (call_isiK1 K) (by rfl) T.b_isinstance (by decide +kernel) (pa_cons (pv 0) (pa_cons (pe_bltn (v := .ty "list") (by rfl) T.b_list (by decide +kernel) rfl) pa_nil))) (pe_callB (call_isiK1 K) (by rfl) T.b_isinstance (by decide +kernel) (pa_cons (pv 1) (pa_cons (pe_bltn (v := .ty "list") (by rfl) T.b_list (by decide +kernel) rfl) pa_nil))) (nomark _))))) (pss_one (ps_ret pe_bl)) pss_nil)
      (pss_cons (ps_if (pt_cmpR op_ne (pe_callB (call_lenK K) (by rfl) T.b_len (by decide +kernel) (pa_cons (pv 0) pa_nil)) (pe_callB (call_lenK K) (by rfl) T.b_len (by decide +kernel) (pa_cons (pv 1) pa_nil)) (nomark _)) (pss_one (ps_ret pe_bl)) pss_nil)
      (pss_one (ps_ret (pe_cmpR (op_eqDK K hr.units) (pe_lc (own := [("_law_k", 2)]) rfl sc_law_same.nd (pi_range1 (by rfl) T.b_range (pa_cons (pe_callB (call_lenK K) (by rfl) T.b_len (by decide +kernel) (pa_cons (pv 1) pa_nil)) pa_nil)) (blkOk_by (N := N_law_same) (sc := defScope s_law_same) (by decide +kernel)) (fun _ _ _ _ _ => (pg_name (i := 2) sc_law_same.nd rfl (by first | exact Or.inl rfl | exact Or.inr rfl))) (fun _ _ _ _ _ => (pts_one (pt_not (pt_val (pe_run IH hr T.k_law_same T.g__law_same passL (pa_cons (pe_ix (ix_seqK K) (pv 0) (pv 2) (fun _ _ => rfl)) (pa_cons (pe_ix (ix_seqK K) (pv 1) (pv 2) (fun _ _ => rfl)) pa_nil))))))) (fun _ _ _ _ _ => (pv 2))) (pe_lst pa_nil) (nomark _)))))) pss_nil)
      (pss_cons (ps_if (pt_cmpR op_ne (pe_callB (call_isiK1 K) (by rfl) T.b_isinstance (by decide +kernel) (pa_cons (pv 0) (pa_cons (pe_bltn (v := .ty "bool") (by rfl) T.b_bool (by decide +kernel) rfl) pa_nil))) (pe_callB (call_isiK1 K) (by rfl) T.b_isinstance (by decide +kernel) (pa_cons (pv 1) (pa_cons (pe_bltn (v := .ty "bool") (by rfl) T.b_bool (by decide +kernel) rfl) pa_nil))) (nomark _)) (pss_one (ps_ret pe_bl)) pss_nil)
      (pss_one (ps_ret (pe_and (pe_cmpR op_eq (pe_callB (call_isiK1 K) (by rfl) T.b_isinstance (by decide +kernel) (pa_cons (pv 0) (pa_cons (pe_bltn (v := .ty "int") (by rfl) T.b_int (by decide +kernel) rfl) pa_nil))) (pe_callB (call_isiK1 K) (by rfl) T.b_isinstance (by decide +kernel) (pa_cons (pv 1) (pa_cons (pe_bltn (v := .ty "int") (by rfl) T.b_int (by decide +kernel) rfl) pa_nil))) (nomark _)) (pe_one (pe_cmpR (op_eqDK K hr.units) (pv 0) (pv 1) (nomark _)))))))), fun ds O Post hR => ?_⟩
  obtain ⟨x, rfl, hx, hp⟩ := hR
  walk_at "go"
  cases hx with
  | flat h =>
    have hP := h
    cases h with
    | non =>
      walk_at "fl"
      refine sd_ret (d := .bl true) (O1 := O) (ev_andVT (O1 := O) (Ev.is (by walk_at "ev") (by first | rfl | decide +kernel)) (Ev.is (by walk_at "ev") (by rw [eqD_self hP]))) hp
    | bl =>
      walk_at "fl"
      refine sd_ret (d := .bl true) (O1 := O) (ev_andVT (O1 := O) (Ev.is (by walk_at "ev") (by first | rfl | decide +kernel)) (Ev.is (by walk_at "ev") (by rw [eqD_self hP]))) hp
    | int =>
      walk_at "fl"
      refine sd_ret (d := .bl true) (O1 := O) (ev_andVT (O1 := O) (Ev.is (by walk_at "ev") (by first | rfl | decide +kernel)) (Ev.is (by walk_at "ev") (by rw [eqD_self hP]))) hp
    | str =>
      walk_at "fl"
      refine sd_ret (d := .bl true) (O1 := O) (ev_andVT (O1 := O) (Ev.is (by walk_at "ev") (by first | rfl | decide +kernel)) (Ev.is (by walk_at "ev") (by rw [eqD_self hP]))) hp
  | @tup n ds hl h =>
    refine sd_seq ?_
    apply sd_yes
    focus walk_at "et"
    focus rfl
    refine sd_seq ?_
    apply sd_no
    focus walk_at "et"
    focus rfl
    refine sd_next (sd_seq ?_)
    apply sd_no
    focus walk_at "et"
    focus (simp; done)
    refine sd_next ?_
    refine sd_ret (d := .bl true) (O1 := O) (Ev.is (d := .bl (eqD (.lst []) (.lst []))) (ev_op (O1 := O) (x := .lst []) (Ev.is (ev_lc (O1 := O) (ei_rngN (j := (ds.length : Int)) (by walk_at "ea") (by omega)) (cp_filter (List.range ds.length) (fun (j : Nat) => D.int (j : Int)) (fun (j : Nat) => D.int (j : Int)) (fun j => [some (.tup ds), some (.tup ds), some (.int (j : Int))]) (fun _ => false) fun j hj => ⟨gc_name (by decide), ?_, fun z => nomatch z⟩) (by simp; omega)) (by rw [rg_none])) (by walk_at "ev") (by walk_at "rr")) (by rw [eqD_nilL]; rfl)) hp
    have hjl := List.mem_range.mp hj
    have hat : atI ds (j : Int) = some ds[j] := atI_of rfl (List.getElem?_eq_getElem hjl)
    exact et_not (b := true) (et_test (ev_run (O1 := O) (ea_cons (ev_op (ev_var rfl) (ev_var rfl) (r_ixAT hat)) (ea_cons (ev_op (ev_var rfl) (ev_var rfl) (r_ixAT hat)) ea_nil)) ⟨_, rfl, h _ (List.getElem_mem hjl), rfl, rfl⟩))
  | @lst n ds hl h =>
    refine sd_seq ?_
    apply sd_yes
    focus walk_at "et"
    focus rfl
    refine sd_seq ?_
    apply sd_no
    focus walk_at "et"
    focus rfl
    refine sd_next (sd_seq ?_)
    apply sd_no
    focus walk_at "et"
    focus (simp; done)
    refine sd_next ?_
    refine sd_ret (d := .bl true) (O1 := O) (Ev.is (d := .bl (eqD (.lst []) (.lst []))) (ev_op (O1 := O) (x := .lst []) (Ev.is (ev_lc (O1 := O) (ei_rngN (j := (ds.length : Int)) (by walk_at "ea") (by omega)) (cp_filter (List.range ds.length) (fun (j : Nat) => D.int (j : Int)) (fun (j : Nat) => D.int (j : Int)) (fun j => [some (.lst ds), some (.lst ds), some (.int (j : Int))]) (fun _ => false) fun j hj => ⟨gc_name (by decide), ?_, fun z => nomatch z⟩) (by simp; omega)) (by rw [rg_none])) (by walk_at "ev") (by walk_at "rr")) (by rw [eqD_nilL]; rfl)) hp
    have hjl := List.mem_range.mp hj
    have hat : atI ds (j : Int) = some ds[j] := atI_of rfl (List.getElem?_eq_getElem hjl)
    exact et_not (b := true) (et_test (ev_run (O1 := O) (ea_cons (ev_op (ev_var rfl) (ev_var rfl) (r_ixAL hat)) (ea_cons (ev_op (ev_var rfl) (ev_var rfl) (r_ixAL hat)) ea_nil)) ⟨_, rfl, h _ (List.getElem_mem hjl), rfl, rfl⟩))
theorem ok_law_same (T : Tx K mg A) : FnR P w K mg base (L2.CX P w) 3 A.f_law_same (SpD K (R_same 3)) := same_step T (same_step T (same_step T fnR0))
def R_law : DR := fun ds O Post => ∃ ns, ds = [.scr ns] ∧ ∀ O', Post (.bl true) O'
theorem law_sp {H : Hp} {a : Addr} {ns : List Int} {E : XK} (hl : ns.length ≤ 63) (hS : SqL K H a (ns.map V.int)) : SpD K R_law [.ref a] H (fun v _ => v = .bl true) E :=
  ⟨H, fun _ => none, [.scr ns], fun d _ => d = .bl true, ⟨fun _ _ h => h, fun p m h => nomatch h⟩, ⟨_, _, rfl, ⟨a, rfl, hS⟩, rfl⟩, ⟨ns, rfl, fun _ => rfl⟩, fun d O' v G' H' hd _ iv => by subst hd; exact iv⟩
end
end Law

set_option Elab.async false
set_option linter.all false
set_option maxRecDepth 100000
set_option maxHeartbeats 4000000
namespace Law
open PySem PySem.Spec L2 DL
open PyProof.Rows hiding St
local macro_rules | `(tactic| walk_at "sl") => `(tactic| try dsimp only [startD, List.map, List.length_cons, List.length_nil, List.replicate, List.cons_append, List.nil_append, List.set_cons_zero, List.set_cons_succ, Nat.reduceSub, Nat.reduceAdd, wipeD])
local macro_rules | `(tactic| walk_at "go") => `(tactic| ((try dsimp only [cxOf, Cx.nox, Cx.wish, Cx.blk]); walk_at "sl"; walk_at "sl"))
local macro_rules | `(tactic| walk_at "own") => `(tactic| first | assumption | exact setO_same | (rw [setO_ne (by first | assumption | exact Ne.symm (by assumption))]; assumption) | (rw [setO_ne (by first | assumption | exact Ne.symm (by assumption))]; exact setO_same))
local macro_rules | `(tactic| walk_at "side") => `(tactic| first
  | assumption | rfl | exact flat_ints _ | exact atI0 | exact atI1 | exact atI2 | exact atI3 | decide | omega | (simp; done)
  | (refine cmodp ?_; omega) | (refine cdivw ?_ ?_ <;> omega) | (refine cmul_l ?_ ?_ <;> omega) | (refine cmul_r ?_ ?_ <;> omega) | (refine cpow ?_ ?_ ?_ <;> decide))
local macro_rules | `(tactic| walk_at "rr") => `(tactic| first
  | with_reducible exact r_int | with_reducible exact r_bl | with_reducible exact r_eqI | with_reducible exact r_neI | with_reducible exact r_eqB | with_reducible exact r_neB | with_reducible exact r_eqS | with_reducible exact r_neS
  | ((with_reducible apply r_intC); walk_at "side")
  | ((with_reducible apply r_ixL); walk_at "side") | ((with_reducible apply r_ixT); walk_at "side") | ((with_reducible apply r_ixS); walk_at "side") | ((with_reducible apply r_ixO); (focus walk_at "own"); (focus walk_at "side"))
  | ((with_reducible apply r_inT0) <;> walk_at "side") | ((with_reducible apply r_inL0) <;> walk_at "side") | ((with_reducible apply r_inT1) <;> walk_at "side") | ((with_reducible apply r_inL1) <;> walk_at "side")
  | ((with_reducible apply r_inO0); (focus walk_at "own"); (focus walk_at "side"); (focus walk_at "side")) | ((with_reducible apply r_inO1); (focus walk_at "own"); (focus walk_at "side"); (focus walk_at "side"))
  | ((with_reducible apply r_rep) <;> walk_at "side") | ((with_reducible apply r_cat) <;> walk_at "side")
  | ((with_reducible apply r_catA) <;> walk_at "side") | ((with_reducible apply r_catO); (focus walk_at "own"); (focus walk_at "side"))
  | ((with_reducible apply r_addS); (focus walk_at "side")) | with_reducible exact r_isN _ rfl | with_reducible exact r_notN _ rfl
  | ((with_reducible apply r_eqP); (focus walk_at "pl"); (focus walk_at "pl"); (focus decide); (focus decide)) | ((with_reducible apply r_neP); (focus walk_at "pl"); (focus walk_at "pl"); (focus decide); (focus decide)))
local macro_rules | `(tactic| walk_at "pl") => `(tactic| first | exact Pl.ints _ | exact Pl.intsL _ | exact Pl.nilT | exact Pl.nilL | exact Pl.int (n := 0) | assumption)
local macro_rules | `(tactic| walk_at "cc") => `(tactic| first
  | with_reducible exact c_lenL | with_reducible exact c_lenT | with_reducible exact c_lenS | ((with_reducible apply c_lenO); walk_at "own")
  | with_reducible exact c_listL | with_reducible exact c_listT | with_reducible exact c_tupL | with_reducible exact c_sum | with_reducible exact c_intB | with_reducible exact c_int1
  | with_reducible exact c_max2 | ((with_reducible apply c_strI); (focus walk_at "side")) | ((with_reducible apply c_lenStr); (focus walk_at "side"))
  | ((with_reducible apply c_isi); (focus rfl); (focus (first | decide +kernel | rfl))) | ((with_reducible apply c_isi2); (focus rfl); (focus (first | decide +kernel | rfl)); (focus (first | decide +kernel | rfl))))
local macro_rules | `(tactic| walk_at "ea") => `(tactic| first
  | with_reducible exact ea_nil
  | ((with_reducible apply ea_cons); (focus walk_at "ev"); (focus walk_at "ea"))
  | ((with_reducible apply ea_starT); (focus walk_at "ev"); (focus walk_at "ea")) | ((with_reducible apply ea_starL); (focus walk_at "ev"); (focus walk_at "ea")))
local macro_rules | `(tactic| walk_at "ev") => `(tactic| first
  | exact ev_var rfl | with_reducible exact ev_int | with_reducible exact ev_bl | with_reducible exact ev_str | with_reducible exact ev_non | with_reducible exact ev_ty | with_reducible exact ev_ref
  | ((with_reducible apply ev_op); (focus walk_at "ev"); (focus walk_at "ev"); (focus walk_at "rr"))
  | ((with_reducible apply ev_cb); (focus walk_at "ea"); (focus walk_at "cc"))
  | ((with_reducible apply ev_neg); (focus walk_at "ev"))
  | ((with_reducible apply ev_tup); (focus walk_at "ea"); (focus walk_at "side"))
  | ((with_reducible apply ev_lst); (focus walk_at "ea"); (focus walk_at "side"))
  | ((with_reducible apply ev_notV); (focus walk_at "ev"))
  | ((with_reducible apply ev_chain); (focus walk_at "ev"); (focus walk_at "ev"); (focus walk_at "rr"); (focus (intro _; walk_at "ev")); (focus (intro _; walk_at "rr")))
  | walk_at "evx")
local macro_rules | `(tactic| walk_at "et") => `(tactic| first
  | ((with_reducible apply et_test); walk_at "ev") | ((with_reducible apply et_B); walk_at "ev") | with_reducible exact et_yes
  | ((with_reducible apply et_not); walk_at "et")
  | ((with_reducible apply et_and); (focus walk_at "et"); (focus (intro _; walk_at "et")))
  | ((with_reducible apply et_or); (focus walk_at "et"); (focus (intro _; walk_at "et"))))
local macro_rules | `(tactic| walk_at "s1") => `(tactic| first
  | ((with_reducible apply sd_asg); (focus walk_at "ev"); walk_at "sl")
  | ((with_reducible apply sd_par); (focus walk_at "ea"); walk_at "sl")
  | ((with_reducible apply sd_setL); (focus walk_at "ev"); (focus walk_at "ev"); (focus walk_at "ev"); (focus walk_at "own"); (focus (first | exact ixN_of (k := 0) rfl (by simp) | exact ixN_of (k := 1) rfl (by simp) | exact ixN_of (k := 2) rfl (by simp) | exact ixN_of (k := 3) rfl (by simp) | assumption)); walk_at "sl")
  | ((with_reducible apply sd_app); (focus walk_at "ev"); (focus walk_at "own"); (focus walk_at "ev"); (focus walk_at "own"); (focus walk_at "side"); walk_at "sl")
  | ((with_reducible apply sd_ret); (focus walk_at "ev"))
  | with_reducible apply sd_next)
local macro_rules | `(tactic| walk_at "st") => `(tactic| first | ((with_reducible apply sd_seq); walk_at "s1") | walk_at "s1")
local macro_rules | `(tactic| walk_at "R") => `(tactic| first
  | exact ⟨_, rfl, rfl, rfl⟩ | exact ⟨_, _, rfl, rfl, rfl⟩ | exact ⟨_, _, _, rfl, rfl, rfl⟩ | exact ⟨_, _, _, _, rfl, rfl, rfl⟩
  | exact ⟨_, rfl, by assumption, rfl, rfl⟩ | exact ⟨_, _, rfl, by assumption, rfl, rfl⟩ | exact ⟨_, _, _, rfl, by assumption, rfl, rfl⟩ | exact ⟨_, _, _, _, rfl, by assumption, rfl, rfl⟩
  | exact ⟨_, _, rfl, by assumption, by assumption, rfl, rfl⟩ | exact ⟨_, _, _, rfl, by assumption, by assumption, rfl, rfl⟩ | exact ⟨_, _, _, _, rfl, by assumption, by assumption, rfl, rfl⟩)
local macro_rules | `(tactic| walk_at "evx") => `(tactic| first
  | ((with_reducible apply ev_run); (focus walk_at "ea"); walk_at "R")
  | ((with_reducible apply ev_propR); (focus walk_at "ev"); walk_at "R")
  | ((with_reducible apply ev_fld); (focus walk_at "ev"); (focus walk_at "cls"); (focus walk_at "cls"); (focus rfl))
  | ((with_reducible apply ev_ownIn0); (focus walk_at "ev"); (focus walk_at "ev"); walk_at "R")
  | ((with_reducible apply ev_slL); (focus walk_at "ev"); (focus walk_at "eo"); (focus walk_at "eo"))
  | ((with_reducible apply ev_slT); (focus walk_at "ev"); (focus walk_at "eo"); (focus walk_at "eo"))
  | ((with_reducible apply ev_cvalI); (focus walk_at "ev"); (focus walk_at "cls"); (focus walk_at "cls")))
local macro_rules | `(tactic| walk_at "eo") => `(tactic| first | with_reducible exact eo_none | ((with_reducible apply eo_some); walk_at "ev"))
local macro_rules | `(tactic| walk_at "cls") => `(tactic| first
  | with_reducible exact (by assumption : Tx _ _ _).cl_Shares
  | with_reducible exact (by assumption : Tx _ _ _).na_Shares_amounts
  | with_reducible exact (by assumption : Tx _ _ _).cl_Bill
  | with_reducible exact (by assumption : Tx _ _ _).na_Bill_total
  | with_reducible exact (by assumption : Tx _ _ _).na_Bill_there
  | with_reducible exact (by assumption : Tx _ _ _).cr_Bill
  | with_reducible exact (by assumption : Tx _ _ _).cv_Bill_MAX_SEATS
  | with_reducible exact (by assumption : Tx _ _ _).cl_Evening
  | with_reducible exact (by assumption : Tx _ _ _).na_Evening_size
  | with_reducible exact (by assumption : Tx _ _ _).na_Evening_parts
  | with_reducible exact (by assumption : Tx _ _ _).cr_Evening
  | with_reducible exact (by assumption : Tx _ _ _).cv_Evening_MAX_BILLS
  | with_reducible exact (by assumption : Tx _ _ _).cl_Course
  | with_reducible exact (by assumption : Tx _ _ _).na_Course_marks
  | with_reducible exact (by assumption : Tx _ _ _).na_Course_rows
  | with_reducible exact (by assumption : Tx _ _ _).na_Course_ring
  | with_reducible exact (by assumption : Tx _ _ _).na_Course_evening
  | with_reducible exact (by assumption : Tx _ _ _).cl_MarkObserver
  | with_reducible exact (by assumption : Tx _ _ _).na_MarkObserver_evening
  | with_reducible exact (by assumption : Tx _ _ _).na_MarkObserver_left
  | with_reducible exact (by assumption : Tx _ _ _).na_MarkObserver_accepted)
section
variable {P : Program} {w : World} {K : PySem.W.Frag} {mg : Str → Option Value} {base : Heap} {A : Ad}
def R_sadd (A : Ad) : DR := fun ds O Post => ∃ xs ys, ds = [encS A xs, encS A ys] ∧ (xs.length = ys.length ∧ xs.length ≤ 1000) ∧ Post (encS A (List.zipWith (· + ·) xs ys)) O
def R_ssub (A : Ad) : DR := fun ds O Post => ∃ xs ys, ds = [encS A xs, encS A ys] ∧ (xs.length = ys.length ∧ xs.length ≤ 1000) ∧ Post (encS A (List.zipWith (· - ·) xs ys)) O
def R_smul (A : Ad) : DR := fun ds O Post => ∃ xs t, ds = [encS A xs, .int t] ∧ (xs.length ≤ 1000 ∧ 0 ≤ t ∧ t < 18446744073709551616) ∧ Post (encS A (xs.map fun c => c * t)) O
def R_sget (A : Ad) : DR := fun ds O Post => ∃ xs k v, ds = [encS A xs, .int k] ∧ (0 ≤ k ∧ xs[k.toNat]? = some v) ∧ Post (.int v) O
def R_seq (A : Ad) : DR := fun ds O Post => ∃ xs ys, ds = [encS A xs, encS A ys] ∧ Post (.bl (decide (xs = ys))) O
def R_nosh (A : Ad) : DR := fun ds O Post => ∃ n, ds = [.int n] ∧ (0 ≤ n ∧ n ≤ 1000) ∧ Post (encS A ((List.range n.toNat).map fun _ => 0)) O
theorem zipS_ints (xs ys : List Int) : (List.zipWith (· - ·) xs ys).map D.int = (xs.zip ys).map fun q => D.int (q.1 - q.2) := by
  induction xs generalizing ys with
  | nil => rfl
  | cons x r ih => cases ys with
    | nil => rfl
    | cons y s => simp [ih s]
theorem ok_Shares_Dadd (T : Tx K mg A) : FnR P w K mg base (L2.CX P w) 3 A.f_Shares_Dadd (SpD K (R_sadd A)) := by
  obtain ⟨fd, F, hb⟩ := T.F_Shares_Dadd
  refine fnD F sc_Shares_Dadd hb (fun ds O Post h => by first | (obtain ⟨rfl, _⟩ := h; rfl) | (obtain ⟨_, rfl, _⟩ := h; rfl) | (obtain ⟨_, _, rfl, _⟩ := h; rfl) | (obtain ⟨_, _, _, rfl, _⟩ := h; rfl) | (obtain ⟨_, _, _, _, rfl, _⟩ := h; rfl) | (obtain ⟨_, _, _, _, _, rfl, _⟩ := h; rfl) | (obtain ⟨_, _, _, _, _, _, rfl, _⟩ := h; rfl) | (obtain ⟨_, _, _, _, _, _, _, rfl, _⟩ := h; rfl) | (obtain ⟨_, _, _, _, _, _, _, _, rfl, _⟩ := h; rfl) | (obtain ⟨_, _, _, _, _, _, _, _, _, rfl, _⟩ := h; rfl) | (obtain ⟨_, _, _, _, _, _, _, _, _, _, rfl, _⟩ := h; rfl) | (obtain ⟨_, _, _, _, _, _, _, _, _, _, _, rfl, _⟩ := h; rfl) | (obtain ⟨_, _, _, _, _, _, _, _, _, _, _, _, rfl, _⟩ := h; rfl) | (obtain ⟨_, _, _, _, _, _, _, _, _, _, _, _, _, rfl, _⟩ := h; rfl)) fun cdv A' outer s H E hr => ⟨_, PSs.nox (pss_cons (ps_if (pt_cmpR op_ne (pe_callB (call_lenK K) (by rfl) T.b_len (by decide +kernel) (pa_cons (pe_fldK K (pv 0)) pa_nil)) (pe_callB (call_lenK K) (by rfl) T.b_len (by decide +kernel) (pa_cons (pe_fldK K (pv 1)) pa_nil)) (nomark _)) (pss_one ps_never) pss_nil)
      (pss_cons (ps_setLc (i := 2) (own := [("one", 3), ("another", 4)]) rfl sc_Shares_Dadd.nd rfl rfl (sw_true rfl rfl rfl (by decide +kernel)) (pi_zipK K T.b_zip (pa_cons (pe_fldK K (pv 0)) (pa_cons (pe_fldK K (pv 1)) pa_nil))) (blkOk_by (N := N_Shares_Dadd) (sc := defScope s_Shares_Dadd) (by decide +kernel)) (fun _ _ _ _ _ => (pg_tupK K (n := 2) rfl (pgs_cons (pg_name (i := 3) sc_Shares_Dadd.nd rfl (by first | exact Or.inl rfl | exact Or.inr rfl)) (pgs_cons (pg_name (i := 4) sc_Shares_Dadd.nd rfl (by first | exact Or.inl rfl | exact Or.inr rfl)) pgs_nil)))) (fun _ _ _ _ _ => pts_nil) (fun _ _ _ _ _ => (pe_op op_add (pv 3) (pv 4))))
      (pss_one (ps_ret (pe_mkS1K K T.mk_Shares (ok_Shares_Dinit T) (hr.mono (by decide)) T.g_Shares passL (pv 2)))))), fun ds O Post hR => ?_⟩
  obtain ⟨xs, ys, rfl, ⟨hl, hl2⟩, hp⟩ := hR
  unfold encS
  walk_at "go"
  refine sd_seq ?_
  apply sd_never
  focus walk_at "et"
  focus (simp; omega)
  refine sd_next ?_
  refine sd_seq (sd_asg (d := .lst ((List.zipWith (· + ·) xs ys).map D.int)) (O1 := O) ?_ ?_)
  · rw [zipW_ints]
    refine ev_lc (O1 := O) (items := (xs.zip ys).map fun q => D.tup [.int q.1, .int q.2]) ?_ (cp_map (xs.zip ys) _ _ (fun q => [some (encS A xs), some (encS A ys), none, some (.int q.1), some (.int q.2)]) fun a ha => ⟨gc_tup2 (by decide) (by decide), et_yes, by walk_at "ev"⟩) ?_
    · rw [← zipD_ints]
      exact ei_zipT (by walk_at "ea")
    · rw [List.length_map, List.length_zip]; omega
  walk_at "sl"
  refine sd_ret (O1 := O) (ev_mk (ds := (List.zipWith (· + ·) xs ys).map D.int) (O1 := O) ?_ (mk_S (by rw [List.length_zipWith]; omega))) hp
  exact EvA.is (ds := (List.zipWith (· + ·) xs ys).map D.int ++ []) (by walk_at "ea") (List.append_nil _)
theorem ok_Shares_Dmul (T : Tx K mg A) : FnR P w K mg base (L2.CX P w) 3 A.f_Shares_Dmul (SpD K (R_smul A)) := by
  obtain ⟨fd, F, hb⟩ := T.F_Shares_Dmul
  refine fnD F sc_Shares_Dmul hb (fun ds O Post h => by first | (obtain ⟨rfl, _⟩ := h; rfl) | (obtain ⟨_, rfl, _⟩ := h; rfl) | (obtain ⟨_, _, rfl, _⟩ := h; rfl) | (obtain ⟨_, _, _, rfl, _⟩ := h; rfl) | (obtain ⟨_, _, _, _, rfl, _⟩ := h; rfl) | (obtain ⟨_, _, _, _, _, rfl, _⟩ := h; rfl) | (obtain ⟨_, _, _, _, _, _, rfl, _⟩ := h; rfl) | (obtain ⟨_, _, _, _, _, _, _, rfl, _⟩ := h; rfl) | (obtain ⟨_, _, _, _, _, _, _, _, rfl, _⟩ := h; rfl) | (obtain ⟨_, _, _, _, _, _, _, _, _, rfl, _⟩ := h; rfl) | (obtain ⟨_, _, _, _, _, _, _, _, _, _, rfl, _⟩ := h; rfl) | (obtain ⟨_, _, _, _, _, _, _, _, _, _, _, rfl, _⟩ := h; rfl) | (obtain ⟨_, _, _, _, _, _, _, _, _, _, _, _, rfl, _⟩ := h; rfl) | (obtain ⟨_, _, _, _, _, _, _, _, _, _, _, _, _, rfl, _⟩ := h; rfl)) fun cdv A' outer s H E hr => ⟨_, PSs.nox (pss_cons (ps_setLc (i := 2) (own := [("cents", 3)]) rfl sc_Shares_Dmul.nd rfl rfl (sw_true rfl rfl rfl (by decide +kernel)) (pi_tupK K (pe_fldK K (pv 0))) (blkOk_by (N := N_Shares_Dmul) (sc := defScope s_Shares_Dmul) (by decide +kernel)) (fun _ _ _ _ _ => (pg_name (i := 3) sc_Shares_Dmul.nd rfl (by first | exact Or.inl rfl | exact Or.inr rfl))) (fun _ _ _ _ _ => pts_nil) (fun _ _ _ _ _ => (pe_op op_mul (pv 3) (pv 1))))
      (pss_one (ps_ret (pe_mkS1K K T.mk_Shares (ok_Shares_Dinit T) (hr.mono (by decide)) T.g_Shares passL (pv 2))))), fun ds O Post hR => ?_⟩
  obtain ⟨xs, t, rfl, ⟨hl, ht0, ht1⟩, hp⟩ := hR
  unfold encS
  walk_at "go"
  have hb : -18446744073709551616 < t := by omega
  refine sd_seq (sd_asg (d := .lst ((xs.map fun c => c * t).map D.int)) (O1 := O) ?_ ?_)
  · rw [List.map_map]
    exact ev_lc (O1 := O) (ei_tup (ds := xs.map D.int) (by walk_at "ev")) (cp_map xs D.int _ (fun c => [some (encS A xs), some (.int t), none, some (.int c)]) fun a ha => ⟨gc_name (by decide), et_yes, ev_op (ev_var rfl) (ev_var rfl) (r_intC (cmul_r hb ht1))⟩) (by rw [List.length_map]; omega)
  walk_at "sl"
  refine sd_ret (O1 := O) (ev_mk (ds := (xs.map fun c => c * t).map D.int) (O1 := O) ?_ (mk_S (by rw [List.length_map]; omega))) hp
  exact EvA.is (ds := (xs.map fun c => c * t).map D.int ++ []) (by walk_at "ea") (List.append_nil _)
theorem ok_no_shares (T : Tx K mg A) : FnR P w K mg base (L2.CX P w) 3 A.f_no_shares (SpD K (R_nosh A)) := by
  obtain ⟨fd, F, hb⟩ := T.F_no_shares
  refine fnD F sc_no_shares hb (fun ds O Post h => by first | (obtain ⟨rfl, _⟩ := h; rfl) | (obtain ⟨_, rfl, _⟩ := h; rfl) | (obtain ⟨_, _, rfl, _⟩ := h; rfl) | (obtain ⟨_, _, _, rfl, _⟩ := h; rfl) | (obtain ⟨_, _, _, _, rfl, _⟩ := h; rfl) | (obtain ⟨_, _, _, _, _, rfl, _⟩ := h; rfl) | (obtain ⟨_, _, _, _, _, _, rfl, _⟩ := h; rfl) | (obtain ⟨_, _, _, _, _, _, _, rfl, _⟩ := h; rfl) | (obtain ⟨_, _, _, _, _, _, _, _, rfl, _⟩ := h; rfl) | (obtain ⟨_, _, _, _, _, _, _, _, _, rfl, _⟩ := h; rfl) | (obtain ⟨_, _, _, _, _, _, _, _, _, _, rfl, _⟩ := h; rfl) | (obtain ⟨_, _, _, _, _, _, _, _, _, _, _, rfl, _⟩ := h; rfl) | (obtain ⟨_, _, _, _, _, _, _, _, _, _, _, _, rfl, _⟩ := h; rfl) | (obtain ⟨_, _, _, _, _, _, _, _, _, _, _, _, _, rfl, _⟩ := h; rfl)) fun cdv A' outer s H E hr => ⟨_, PSs.nox (pss_cons (ps_set (i := 1) sc_no_shares.nd rfl (Or.inl rfl) (pe_op op_rep (pe_lst (pa_cons pe_int pa_nil)) (pv 0)))
      (pss_one (ps_ret (pe_mkS1K K T.mk_Shares (ok_Shares_Dinit T) (hr.mono (by decide)) T.g_Shares passL (pv 1))))), fun ds O Post hR => ?_⟩
  obtain ⟨n, rfl, hn, hp⟩ := hR
  walk_at "go"
  refine sd_seq (sd_asg (d := .lst (((List.range n.toNat).map fun _ => (0 : Int)).map D.int)) (O1 := O) (Ev.is (d := .lst (List.replicate n.toNat [D.int 0]).flatten) ?_ ?_) ?_)
  · have hz : [D.int 0].length * n.toNat ≤ 100000 := by simp; omega
    have hq : -(2 ^ 63) ≤ n ∧ n < 2 ^ 63 := by omega
    walk_at "ev"
  · rw [rep0, rg_map]
  walk_at "sl"
  refine sd_ret (O1 := O) (ev_mk (ds := ((List.range n.toNat).map fun _ => (0 : Int)).map D.int) (O1 := O) ?_ (mk_S (by simp; omega))) hp
  exact EvA.is (ds := ((List.range n.toNat).map fun _ => (0 : Int)).map D.int ++ []) (by walk_at "ea") (List.append_nil _)
end
end Law

set_option Elab.async false
set_option linter.all false
set_option maxRecDepth 100000
set_option maxHeartbeats 4000000
namespace Law
open PySem PySem.Spec L2 DL
open PyProof.Rows hiding St
local macro_rules | `(tactic| walk_at "sl") => `(tactic| try dsimp only [startD, List.map, List.length_cons, List.length_nil, List.replicate, List.cons_append, List.nil_append, List.set_cons_zero, List.set_cons_succ, Nat.reduceSub, Nat.reduceAdd, wipeD])
local macro_rules | `(tactic| walk_at "go") => `(tactic| ((try dsimp only [cxOf, Cx.nox, Cx.wish, Cx.blk]); walk_at "sl"; walk_at "sl"))
local macro_rules | `(tactic| walk_at "own") => `(tactic| first | assumption | exact setO_same | (rw [setO_ne (by first | assumption | exact Ne.symm (by assumption))]; assumption) | (rw [setO_ne (by first | assumption | exact Ne.symm (by assumption))]; exact setO_same))
local macro_rules | `(tactic| walk_at "side") => `(tactic| first
  | assumption | rfl | exact flat_ints _ | exact atI0 | exact atI1 | exact atI2 | exact atI3 | decide | omega | (simp; done)
  | (refine cmodp ?_; omega) | (refine cdivw ?_ ?_ <;> omega) | (refine cmul_l ?_ ?_ <;> omega) | (refine cmul_r ?_ ?_ <;> omega) | (refine cpow ?_ ?_ ?_ <;> decide))
local macro_rules | `(tactic| walk_at "rr") => `(tactic| first
  | with_reducible exact r_int | with_reducible exact r_bl | with_reducible exact r_eqI | with_reducible exact r_neI | with_reducible exact r_eqB | with_reducible exact r_neB | with_reducible exact r_eqS | with_reducible exact r_neS
  | ((with_reducible apply r_intC); walk_at "side")
  | ((with_reducible apply r_ixL); walk_at "side") | ((with_reducible apply r_ixT); walk_at "side") | ((with_reducible apply r_ixS); walk_at "side") | ((with_reducible apply r_ixO); (focus walk_at "own"); (focus walk_at "side"))
  | ((with_reducible apply r_inT0) <;> walk_at "side") | ((with_reducible apply r_inL0) <;> walk_at "side") | ((with_reducible apply r_inT1) <;> walk_at "side") | ((with_reducible apply r_inL1) <;> walk_at "side")
  | ((with_reducible apply r_inO0); (focus walk_at "own"); (focus walk_at "side"); (focus walk_at "side")) | ((with_reducible apply r_inO1); (focus walk_at "own"); (focus walk_at "side"); (focus walk_at "side"))
  | ((with_reducible apply r_rep) <;> walk_at "side") | ((with_reducible apply r_cat) <;> walk_at "side")
  | ((with_reducible apply r_catA) <;> walk_at "side") | ((with_reducible apply r_catO); (focus walk_at "own"); (focus walk_at "side"))
  | ((with_reducible apply r_addS); (focus walk_at "side")) | with_reducible exact r_isN _ rfl | with_reducible exact r_notN _ rfl
  | ((with_reducible apply r_eqP); (focus walk_at "pl"); (focus walk_at "pl"); (focus decide); (focus decide)) | ((with_reducible apply r_neP); (focus walk_at "pl"); (focus walk_at "pl"); (focus decide); (focus decide)))
local macro_rules | `(tactic| walk_at "pl") => `(tactic| first | exact Pl.ints _ | exact Pl.intsL _ | exact Pl.nilT | exact Pl.nilL | exact Pl.int (n := 0) | assumption)
local macro_rules | `(tactic| walk_at "cc") => `(tactic| first
  | with_reducible exact c_lenL | with_reducible exact c_lenT | with_reducible exact c_lenS | ((with_reducible apply c_lenO); walk_at "own")
  | with_reducible exact c_listL | with_reducible exact c_listT | with_reducible exact c_tupL | with_reducible exact c_sum | with_reducible exact c_intB | with_reducible exact c_int1
  | with_reducible exact c_max2 | ((with_reducible apply c_strI); (focus walk_at "side")) | ((with_reducible apply c_lenStr); (focus walk_at "side"))
  | ((with_reducible apply c_isi); (focus rfl); (focus (first | decide +kernel | rfl))) | ((with_reducible apply c_isi2); (focus rfl); (focus (first | decide +kernel | rfl)); (focus (first | decide +kernel | rfl))))
local macro_rules | `(tactic| walk_at "ea") => `(tactic| first
  | with_reducible exact ea_nil
  | ((with_reducible apply ea_cons); (focus walk_at "ev"); (focus walk_at "ea"))
  | ((with_reducible apply ea_starT); (focus walk_at "ev"); (focus walk_at "ea")) | ((with_reducible apply ea_starL); (focus walk_at "ev"); (focus walk_at "ea")))
local macro_rules | `(tactic| walk_at "ev") => `(tactic| first
  | exact ev_var rfl | with_reducible exact ev_int | with_reducible exact ev_bl | with_reducible exact ev_str | with_reducible exact ev_non | with_reducible exact ev_ty | with_reducible exact ev_ref
  | ((with_reducible apply ev_op); (focus walk_at "ev"); (focus walk_at "ev"); (focus walk_at "rr"))
  | ((with_reducible apply ev_cb); (focus walk_at "ea"); (focus walk_at "cc"))
  | ((with_reducible apply ev_neg); (focus walk_at "ev"))
  | ((with_reducible apply ev_tup); (focus walk_at "ea"); (focus walk_at "side"))
  | ((with_reducible apply ev_lst); (focus walk_at "ea"); (focus walk_at "side"))
  | ((with_reducible apply ev_notV); (focus walk_at "ev"))
  | ((with_reducible apply ev_chain); (focus walk_at "ev"); (focus walk_at "ev"); (focus walk_at "rr"); (focus (intro _; walk_at "ev")); (focus (intro _; walk_at "rr")))
  | walk_at "evx")
local macro_rules | `(tactic| walk_at "et") => `(tactic| first
  | ((with_reducible apply et_test); walk_at "ev") | ((with_reducible apply et_B); walk_at "ev") | with_reducible exact et_yes
  | ((with_reducible apply et_not); walk_at "et")
  | ((with_reducible apply et_and); (focus walk_at "et"); (focus (intro _; walk_at "et")))
  | ((with_reducible apply et_or); (focus walk_at "et"); (focus (intro _; walk_at "et"))))
local macro_rules | `(tactic| walk_at "s1") => `(tactic| first
  | ((with_reducible apply sd_asg); (focus walk_at "ev"); walk_at "sl")
  | ((with_reducible apply sd_par); (focus walk_at "ea"); walk_at "sl")
  | ((with_reducible apply sd_setL); (focus walk_at "ev"); (focus walk_at "ev"); (focus walk_at "ev"); (focus walk_at "own"); (focus (first | exact ixN_of (k := 0) rfl (by simp) | exact ixN_of (k := 1) rfl (by simp) | exact ixN_of (k := 2) rfl (by simp) | exact ixN_of (k := 3) rfl (by simp) | assumption)); walk_at "sl")
  | ((with_reducible apply sd_app); (focus walk_at "ev"); (focus walk_at "own"); (focus walk_at "ev"); (focus walk_at "own"); (focus walk_at "side"); walk_at "sl")
  | ((with_reducible apply sd_ret); (focus walk_at "ev"))
  | with_reducible apply sd_next)
local macro_rules | `(tactic| walk_at "st") => `(tactic| first | ((with_reducible apply sd_seq); walk_at "s1") | walk_at "s1")
local macro_rules | `(tactic| walk_at "R") => `(tactic| first
  | exact ⟨_, rfl, rfl, rfl⟩ | exact ⟨_, _, rfl, rfl, rfl⟩ | exact ⟨_, _, _, rfl, rfl, rfl⟩ | exact ⟨_, _, _, _, rfl, rfl, rfl⟩
  | exact ⟨_, rfl, by assumption, rfl, rfl⟩ | exact ⟨_, _, rfl, by assumption, rfl, rfl⟩ | exact ⟨_, _, _, rfl, by assumption, rfl, rfl⟩ | exact ⟨_, _, _, _, rfl, by assumption, rfl, rfl⟩
  | exact ⟨_, _, rfl, by assumption, by assumption, rfl, rfl⟩ | exact ⟨_, _, _, rfl, by assumption, by assumption, rfl, rfl⟩ | exact ⟨_, _, _, _, rfl, by assumption, by assumption, rfl, rfl⟩)
local macro_rules | `(tactic| walk_at "evx") => `(tactic| first
  | ((with_reducible apply ev_run); (focus walk_at "ea"); walk_at "R")
  | ((with_reducible apply ev_propR); (focus walk_at "ev"); walk_at "R")
  | ((with_reducible apply ev_fld); (focus walk_at "ev"); (focus walk_at "cls"); (focus walk_at "cls"); (focus rfl))
  | ((with_reducible apply ev_ownIn0); (focus walk_at "ev"); (focus walk_at "ev"); walk_at "R")
  | ((with_reducible apply ev_slL); (focus walk_at "ev"); (focus walk_at "eo"); (focus walk_at "eo"))
  | ((with_reducible apply ev_slT); (focus walk_at "ev"); (focus walk_at "eo"); (focus walk_at "eo"))
  | ((with_reducible apply ev_cvalI); (focus walk_at "ev"); (focus walk_at "cls"); (focus walk_at "cls")))
local macro_rules | `(tactic| walk_at "eo") => `(tactic| first | with_reducible exact eo_none | ((with_reducible apply eo_some); walk_at "ev"))
local macro_rules | `(tactic| walk_at "cls") => `(tactic| first
  | with_reducible exact (by assumption : Tx _ _ _).cl_Shares
  | with_reducible exact (by assumption : Tx _ _ _).na_Shares_amounts
  | with_reducible exact (by assumption : Tx _ _ _).cl_Bill
  | with_reducible exact (by assumption : Tx _ _ _).na_Bill_total
  | with_reducible exact (by assumption : Tx _ _ _).na_Bill_there
  | with_reducible exact (by assumption : Tx _ _ _).cr_Bill
  | with_reducible exact (by assumption : Tx _ _ _).cv_Bill_MAX_SEATS
  | with_reducible exact (by assumption : Tx _ _ _).cl_Evening
  | with_reducible exact (by assumption : Tx _ _ _).na_Evening_size
  | with_reducible exact (by assumption : Tx _ _ _).na_Evening_parts
  | with_reducible exact (by assumption : Tx _ _ _).cr_Evening
  | with_reducible exact (by assumption : Tx _ _ _).cv_Evening_MAX_BILLS
  | with_reducible exact (by assumption : Tx _ _ _).cl_Course
  | with_reducible exact (by assumption : Tx _ _ _).na_Course_marks
  | with_reducible exact (by assumption : Tx _ _ _).na_Course_rows
  | with_reducible exact (by assumption : Tx _ _ _).na_Course_ring
  | with_reducible exact (by assumption : Tx _ _ _).na_Course_evening
  | with_reducible exact (by assumption : Tx _ _ _).cl_MarkObserver
  | with_reducible exact (by assumption : Tx _ _ _).na_MarkObserver_evening
  | with_reducible exact (by assumption : Tx _ _ _).na_MarkObserver_left
  | with_reducible exact (by assumption : Tx _ _ _).na_MarkObserver_accepted)
section
variable {P : Program} {w : World} {K : PySem.W.Frag} {mg : Str → Option Value} {base : Heap} {A : Ad}
/-! ### repeated evenings, plainly -/
def mkA (bs : List B) (m : Int) : Nat → Int
  | 0 => m
  | t + 1 => lstM bs (mkA bs m t)
def rwA (n : Int) (bs : List B) (m : Int) (t : Nat) : List Int := (play n bs (mkA bs m t)).1
def csA (n : Int) (bs : List B) (m : Int) (k : Nat) (t : Nat) : Int := (rwA n bs m t).getD k 0
def sumTo (f : Nat → Int) : Nat → Int
  | 0 => 0
  | t + 1 => sumTo f t + f t
def smA (n : Int) (bs : List B) (m : Int) (t : Nat) : List Int := (List.range n.toNat).map fun k => sumTo (csA n bs m k) t
theorem mkA_add (bs : List B) (m : Int) (s : Nat) : ∀ t, mkA bs m (s + t) = mkA bs (mkA bs m s) t
  | 0 => rfl
  | t + 1 => by show lstM bs (mkA bs m (s + t)) = lstM bs (mkA bs (mkA bs m s) t); rw [mkA_add bs m s t]
theorem mkA_in {n : Int} {bs : List B} {m : Int} (he : EOk n bs) (hm : 0 ≤ m ∧ m < n) : ∀ t, 0 ≤ mkA bs m t ∧ mkA bs m t < n
  | 0 => hm
  | t + 1 => lstM_in (fun b hb s hs => ⟨((he.2.2.2 b hb).1.2.2.2.2 s hs).1, (he.2.2.2 b hb).2 s hs⟩) (mkA_in he hm t)
theorem rwA_len (n : Int) (bs : List B) (m : Int) (t : Nat) : (rwA n bs m t).length = n.toNat := play_len ..
theorem rwA_eq (n : Int) (bs : List B) (m : Int) (t : Nat) : rwA n bs m t = (List.range n.toNat).map fun k => csA n bs m k t := by
  refine List.ext_getElem (by simp [rwA_len]) fun i h1 h2 => ?_
  simp [csA, List.getD_eq_getElem?_getD, List.getElem?_eq_getElem h1]
theorem zip_rg (N : Nat) (f g : Nat → Int) : List.zipWith (· + ·) ((List.range N).map f) ((List.range N).map g) = (List.range N).map fun k => f k + g k := by
  refine List.ext_getElem (by simp) fun i h1 h2 => by simp
theorem zipm_rg (N : Nat) (f g : Nat → Int) : List.zipWith (· - ·) ((List.range N).map f) ((List.range N).map g) = (List.range N).map fun k => f k - g k := by
  refine List.ext_getElem (by simp) fun i h1 h2 => by simp
theorem sumTo_add (f : Nat → Int) (s : Nat) : ∀ t, sumTo f (s + t) = sumTo f s + sumTo (fun i => f (s + i)) t
  | 0 => by simp [sumTo]
  | t + 1 => by
    show sumTo f (s + t) + f (s + t) = sumTo f s + (sumTo (fun i => f (s + i)) t + f (s + t))
    rw [sumTo_add f s t]; omega
theorem csA_add (n : Int) (bs : List B) (m : Int) (k s t : Nat) : csA n bs m k (s + t) = csA n bs (mkA bs m s) k t := by unfold csA rwA; rw [mkA_add]
/-- two goes are one -/
theorem smA_add (n : Int) (bs : List B) (m : Int) (s t : Nat) : smA n bs m (s + t) = List.zipWith (· + ·) (smA n bs m s) (smA n bs (mkA bs m s) t) := by
  unfold smA
  rw [zip_rg]
  refine List.map_congr_left fun k _ => ?_
  rw [sumTo_add]
  congr 2
  funext i
  exact csA_add ..
/-- marks come round -/
structure CrsOk (bs : List B) (m : Int) (L r : Nat) : Prop where
  lt : r < L
  le : L ≤ 8
  ring : mkA bs m L = mkA bs m r
theorem CrsOk.per {bs : List B} {m : Int} {L r : Nat} (h : CrsOk bs m L r) {j : Nat} (hj : r ≤ j) : mkA bs m (j + (L - r)) = mkA bs m j := by
  have e1 : j + (L - r) = L + (j - r) := by have := h.lt; omega
  have e2 : mkA bs m j = mkA bs m (r + (j - r)) := by congr 1; omega
  rw [e1, e2, mkA_add, mkA_add, h.ring]
theorem CrsOk.pers {bs : List B} {m : Int} {L r : Nat} (h : CrsOk bs m L r) {j : Nat} (hj : r ≤ j) : ∀ t, mkA bs m (j + t * (L - r)) = mkA bs m j
  | 0 => by simp
  | t + 1 => by
    have e : j + (t + 1) * (L - r) = (j + t * (L - r)) + (L - r) := by rw [Nat.succ_mul]; omega
    rw [e, h.per (Nat.le_trans hj (Nat.le_add_right ..)), h.pers hj t]
theorem sum_per {f : Nat → Int} {r p : Nat} (h : ∀ j, r ≤ j → f (j + p) = f j) : ∀ d, sumTo f (r + d + p) = sumTo f (r + d) + (sumTo f (r + p) - sumTo f r)
  | 0 => by simp; omega
  | d + 1 => by
    have e : r + (d + 1) + p = (r + d + p) + 1 := by omega
    have e2 : r + (d + 1) = (r + d) + 1 := by omega
    rw [e, e2]
    show sumTo f (r + d + p) + f (r + d + p) = sumTo f (r + d) + f (r + d) + _
    rw [sum_per h d, h (r + d) (by omega)]; omega
theorem sum_pers {f : Nat → Int} {r p : Nat} (h : ∀ j, r ≤ j → f (j + p) = f j) {j : Nat} (hj : r ≤ j) : ∀ t : Nat, sumTo f (j + t * p) = sumTo f j + (sumTo f (r + p) - sumTo f r) * (t : Int)
  | 0 => by simp
  | t + 1 => by
    obtain ⟨d, hd⟩ := Nat.exists_eq_add_of_le (show r ≤ j + t * p from Nat.le_trans hj (Nat.le_add_right ..))
    have e : j + (t + 1) * p = r + d + p := by rw [Nat.succ_mul]; omega
    rw [e, sum_per h d, ← hd, sum_pers h hj t]
    have : ((t + 1 : Nat) : Int) = (t : Int) + 1 := by omega
    rw [this, Int.mul_add, Int.mul_one]; omega
theorem CrsOk.cs {n : Int} {bs : List B} {m : Int} {L r : Nat} (h : CrsOk bs m L r) (k : Nat) : ∀ j, r ≤ j → csA n bs m k (j + (L - r)) = csA n bs m k j := fun j hj => by
  unfold csA rwA; rw [h.per hj]
/-- what after() reckons -/
theorem CrsOk.after {n : Int} {bs : List B} {m : Int} {L r : Nat} (h : CrsOk bs m L r) {T tn rest : Nat} (e : T = rest + tn * (L - r)) (hr : tn = 0 ∨ r ≤ rest) : mkA bs m T = mkA bs m rest ∧ ∀ k, sumTo (csA n bs m k) T = (sumTo (csA n bs m k) L - sumTo (csA n bs m k) r) * (tn : Int) + sumTo (csA n bs m k) rest := by
  rcases hr with rfl | hr
  · have : T = rest := by omega
    subst this
    exact ⟨rfl, fun k => by simp⟩
  · subst e
    refine ⟨h.pers hr tn, fun k => ?_⟩
    rw [sum_pers (h.cs k) hr tn]
    have : r + (L - r) = L := by have := h.lt; omega
    rw [this]; omega
theorem CrsOk.find {n : Int} {bs : List B} {m : Int} {t : Nat} (he : EOk n bs) (hm : 0 ≤ m ∧ m < n) (hd : ((List.range t).map (mkA bs m)).Nodup) : t ≤ 8 := by
  have h1 : ∀ s ∈ (List.range t).map (mkA bs m), 0 ≤ s ∧ s < (n.toNat : Int) := fun s hs => by
    obtain ⟨i, _, rfl⟩ := List.mem_map.mp hs
    have := mkA_in he hm i
    omega
  have h2 := sum_ind n.toNat _ hd h1
  have h3 : ∀ (l : List Nat) (g : Nat → Int), (∀ k, g k ≤ 1) → (l.map g).sum ≤ l.length := fun l g hg => by
    induction l with
    | nil => simp
    | cons a r ih => have := hg a; simp only [List.map_cons, List.sum_cons, List.length_cons]; omega
  have h4 := h3 (List.range n.toNat) (ind ((List.range t).map (mkA bs m))) fun k => by unfold ind; split <;> omega
  rw [h2] at h4
  simp at h4
  have := he.2.1
  omega
end
end Law

set_option Elab.async false
set_option linter.all false
set_option maxRecDepth 100000
set_option maxHeartbeats 4000000
namespace Law
open PySem PySem.Spec L2 DL
open PyProof.Rows hiding St
local macro_rules | `(tactic| walk_at "sl") => `(tactic| try dsimp only [startD, List.map, List.length_cons, List.length_nil, List.replicate, List.cons_append, List.nil_append, List.set_cons_zero, List.set_cons_succ, Nat.reduceSub, Nat.reduceAdd, wipeD])
local macro_rules | `(tactic| walk_at "go") => `(tactic| ((try dsimp only [cxOf, Cx.nox, Cx.wish, Cx.blk]); walk_at "sl"; walk_at "sl"))
local macro_rules | `(tactic| walk_at "own") => `(tactic| first | assumption | exact setO_same | (rw [setO_ne (by first | assumption | exact Ne.symm (by assumption))]; assumption) | (rw [setO_ne (by first | assumption | exact Ne.symm (by assumption))]; exact setO_same))
local macro_rules | `(tactic| walk_at "side") => `(tactic| first
  | assumption | rfl | exact flat_ints _ | exact atI0 | exact atI1 | exact atI2 | exact atI3 | decide | omega | (simp; done)
  | (refine cmodp ?_; omega) | (refine cdivw ?_ ?_ <;> omega) | (refine cmul_l ?_ ?_ <;> omega) | (refine cmul_r ?_ ?_ <;> omega) | (refine cpow ?_ ?_ ?_ <;> decide))
local macro_rules | `(tactic| walk_at "rr") => `(tactic| first
  | with_reducible exact r_int | with_reducible exact r_bl | with_reducible exact r_eqI | with_reducible exact r_neI | with_reducible exact r_eqB | with_reducible exact r_neB | with_reducible exact r_eqS | with_reducible exact r_neS
  | ((with_reducible apply r_intC); walk_at "side")
  | ((with_reducible apply r_ixL); walk_at "side") | ((with_reducible apply r_ixT); walk_at "side") | ((with_reducible apply r_ixS); walk_at "side") | ((with_reducible apply r_ixO); (focus walk_at "own"); (focus walk_at "side"))
  | ((with_reducible apply r_inT0) <;> walk_at "side") | ((with_reducible apply r_inL0) <;> walk_at "side") | ((with_reducible apply r_inT1) <;> walk_at "side") | ((with_reducible apply r_inL1) <;> walk_at "side")
  | ((with_reducible apply r_inO0); (focus walk_at "own"); (focus walk_at "side"); (focus walk_at "side")) | ((with_reducible apply r_inO1); (focus walk_at "own"); (focus walk_at "side"); (focus walk_at "side"))
  | ((with_reducible apply r_rep) <;> walk_at "side") | ((with_reducible apply r_cat) <;> walk_at "side")
  | ((with_reducible apply r_catA) <;> walk_at "side") | ((with_reducible apply r_catO); (focus walk_at "own"); (focus walk_at "side"))
  | ((with_reducible apply r_addS); (focus walk_at "side")) | with_reducible exact r_isN _ rfl | with_reducible exact r_notN _ rfl
  | ((with_reducible apply r_eqP); (focus walk_at "pl"); (focus walk_at "pl"); (focus decide); (focus decide)) | ((with_reducible apply r_neP); (focus walk_at "pl"); (focus walk_at "pl"); (focus decide); (focus decide)))
local macro_rules | `(tactic| walk_at "pl") => `(tactic| first | exact Pl.ints _ | exact Pl.intsL _ | exact Pl.nilT | exact Pl.nilL | exact Pl.int (n := 0) | assumption)
local macro_rules | `(tactic| walk_at "cc") => `(tactic| first
  | with_reducible exact c_lenL | with_reducible exact c_lenT | with_reducible exact c_lenS | ((with_reducible apply c_lenO); walk_at "own")
  | with_reducible exact c_listL | with_reducible exact c_listT | with_reducible exact c_tupL | with_reducible exact c_sum | with_reducible exact c_intB | with_reducible exact c_int1
  | with_reducible exact c_max2 | ((with_reducible apply c_strI); (focus walk_at "side")) | ((with_reducible apply c_lenStr); (focus walk_at "side"))
  | ((with_reducible apply c_isi); (focus rfl); (focus (first | decide +kernel | rfl))) | ((with_reducible apply c_isi2); (focus rfl); (focus (first | decide +kernel | rfl)); (focus (first | decide +kernel | rfl))))
local macro_rules | `(tactic| walk_at "ea") => `(tactic| first
  | with_reducible exact ea_nil
  | ((with_reducible apply ea_cons); (focus walk_at "ev"); (focus walk_at "ea"))
  | ((with_reducible apply ea_starT); (focus walk_at "ev"); (focus walk_at "ea")) | ((with_reducible apply ea_starL); (focus walk_at "ev"); (focus walk_at "ea")))
local macro_rules | `(tactic| walk_at "ev") => `(tactic| first
  | exact ev_var rfl | with_reducible exact ev_int | with_reducible exact ev_bl | with_reducible exact ev_str | with_reducible exact ev_non | with_reducible exact ev_ty | with_reducible exact ev_ref
  | ((with_reducible apply ev_op); (focus walk_at "ev"); (focus walk_at "ev"); (focus walk_at "rr"))
  | ((with_reducible apply ev_cb); (focus walk_at "ea"); (focus walk_at "cc"))
  | ((with_reducible apply ev_neg); (focus walk_at "ev"))
  | ((with_reducible apply ev_tup); (focus walk_at "ea"); (focus walk_at "side"))
  | ((with_reducible apply ev_lst); (focus walk_at "ea"); (focus walk_at "side"))
  | ((with_reducible apply ev_notV); (focus walk_at "ev"))
  | ((with_reducible apply ev_chain); (focus walk_at "ev"); (focus walk_at "ev"); (focus walk_at "rr"); (focus (intro _; walk_at "ev")); (focus (intro _; walk_at "rr")))
  | walk_at "evx")
local macro_rules | `(tactic| walk_at "et") => `(tactic| first
  | ((with_reducible apply et_test); walk_at "ev") | ((with_reducible apply et_B); walk_at "ev") | with_reducible exact et_yes
  | ((with_reducible apply et_not); walk_at "et")
  | ((with_reducible apply et_and); (focus walk_at "et"); (focus (intro _; walk_at "et")))
  | ((with_reducible apply et_or); (focus walk_at "et"); (focus (intro _; walk_at "et"))))
local macro_rules | `(tactic| walk_at "s1") => `(tactic| first
  | ((with_reducible apply sd_asg); (focus walk_at "ev"); walk_at "sl")
  | ((with_reducible apply sd_par); (focus walk_at "ea"); walk_at "sl")
  | ((with_reducible apply sd_setL); (focus walk_at "ev"); (focus walk_at "ev"); (focus walk_at "ev"); (focus walk_at "own"); (focus (first | exact ixN_of (k := 0) rfl (by simp) | exact ixN_of (k := 1) rfl (by simp) | exact ixN_of (k := 2) rfl (by simp) | exact ixN_of (k := 3) rfl (by simp) | assumption)); walk_at "sl")
  | ((with_reducible apply sd_app); (focus walk_at "ev"); (focus walk_at "own"); (focus walk_at "ev"); (focus walk_at "own"); (focus walk_at "side"); walk_at "sl")
  | ((with_reducible apply sd_ret); (focus walk_at "ev"))
  | with_reducible apply sd_next)
local macro_rules | `(tactic| walk_at "st") => `(tactic| first | ((with_reducible apply sd_seq); walk_at "s1") | walk_at "s1")
local macro_rules | `(tactic| walk_at "R") => `(tactic| first
  | exact ⟨_, rfl, rfl, rfl⟩ | exact ⟨_, _, rfl, rfl, rfl⟩ | exact ⟨_, _, _, rfl, rfl, rfl⟩ | exact ⟨_, _, _, _, rfl, rfl, rfl⟩
  | exact ⟨_, rfl, by assumption, rfl, rfl⟩ | exact ⟨_, _, rfl, by assumption, rfl, rfl⟩ | exact ⟨_, _, _, rfl, by assumption, rfl, rfl⟩ | exact ⟨_, _, _, _, rfl, by assumption, rfl, rfl⟩
  | exact ⟨_, _, rfl, by assumption, by assumption, rfl, rfl⟩ | exact ⟨_, _, _, rfl, by assumption, by assumption, rfl, rfl⟩ | exact ⟨_, _, _, _, rfl, by assumption, by assumption, rfl, rfl⟩)
local macro_rules | `(tactic| walk_at "evx") => `(tactic| first
  | ((with_reducible apply ev_run); (focus walk_at "ea"); walk_at "R")
  | ((with_reducible apply ev_propR); (focus walk_at "ev"); walk_at "R")
  | ((with_reducible apply ev_fld); (focus walk_at "ev"); (focus walk_at "cls"); (focus walk_at "cls"); (focus rfl))
  | ((with_reducible apply ev_ownIn0); (focus walk_at "ev"); (focus walk_at "ev"); walk_at "R")
  | ((with_reducible apply ev_slL); (focus walk_at "ev"); (focus walk_at "eo"); (focus walk_at "eo"))
  | ((with_reducible apply ev_slT); (focus walk_at "ev"); (focus walk_at "eo"); (focus walk_at "eo"))
  | ((with_reducible apply ev_cvalI); (focus walk_at "ev"); (focus walk_at "cls"); (focus walk_at "cls")))
local macro_rules | `(tactic| walk_at "eo") => `(tactic| first | with_reducible exact eo_none | ((with_reducible apply eo_some); walk_at "ev"))
local macro_rules | `(tactic| walk_at "cls") => `(tactic| first
  | with_reducible exact (by assumption : Tx _ _ _).cl_Shares
  | with_reducible exact (by assumption : Tx _ _ _).na_Shares_amounts
  | with_reducible exact (by assumption : Tx _ _ _).cl_Bill
  | with_reducible exact (by assumption : Tx _ _ _).na_Bill_total
  | with_reducible exact (by assumption : Tx _ _ _).na_Bill_there
  | with_reducible exact (by assumption : Tx _ _ _).cr_Bill
  | with_reducible exact (by assumption : Tx _ _ _).cv_Bill_MAX_SEATS
  | with_reducible exact (by assumption : Tx _ _ _).cl_Evening
  | with_reducible exact (by assumption : Tx _ _ _).na_Evening_size
  | with_reducible exact (by assumption : Tx _ _ _).na_Evening_parts
  | with_reducible exact (by assumption : Tx _ _ _).cr_Evening
  | with_reducible exact (by assumption : Tx _ _ _).cv_Evening_MAX_BILLS
  | with_reducible exact (by assumption : Tx _ _ _).cl_Course
  | with_reducible exact (by assumption : Tx _ _ _).na_Course_marks
  | with_reducible exact (by assumption : Tx _ _ _).na_Course_rows
  | with_reducible exact (by assumption : Tx _ _ _).na_Course_ring
  | with_reducible exact (by assumption : Tx _ _ _).na_Course_evening
  | with_reducible exact (by assumption : Tx _ _ _).cl_MarkObserver
  | with_reducible exact (by assumption : Tx _ _ _).na_MarkObserver_evening
  | with_reducible exact (by assumption : Tx _ _ _).na_MarkObserver_left
  | with_reducible exact (by assumption : Tx _ _ _).na_MarkObserver_accepted)
section
variable {P : Program} {w : World} {K : PySem.W.Frag} {mg : Str → Option Value} {base : Heap} {A : Ad}
def encC (A : Ad) (n : Int) (bs : List B) (m : Int) (L r : Nat) : D := .ins A.c_Course ["marks", "rows", "ring", "evening"] [.lst (((List.range L).map (mkA bs m)).map .int), .lst ((List.range L).map fun i => encS A (rwA n bs m i)), .int (r : Int), encE A n bs]
def R_cinit (A : Ad) : DR := fun ds O Post => ∃ x n bs m, ds = [.ref x, encE A n bs, .int m] ∧ O x = some (.ins A.c_Course [] []) ∧ EOk n bs ∧ (0 ≤ m ∧ m < n) ∧ ∀ L r, CrsOk bs m L r → Post .non (setO O x (.ins A.c_Course ["marks", "rows", "ring", "evening"] [.lst (((List.range L).map (mkA bs m)).map .int), .lst ((List.range L).map fun i => encS A (rwA n bs m i)), .int (r : Int), encE A n bs]))
def R_ring (A : Ad) : DR := fun ds O Post => ∃ n bs m L r, ds = [encC A n bs m L r] ∧ EOk n bs ∧ CrsOk bs m L r ∧ Post (encS A ((List.range n.toNat).map fun k => sumTo (csA n bs m k) L - sumTo (csA n bs m k) r)) O
def R_cafter (A : Ad) : DR := fun ds O Post => ∃ n bs m L r t, ds = [encC A n bs m L r, .int t] ∧ EOk n bs ∧ CrsOk bs m L r ∧ (0 ≤ t ∧ t ≤ 1000000000000000000) ∧ Post (.tup [encS A (smA n bs m t.toNat), .int (mkA bs m t.toNat)]) O
def R_rep (A : Ad) : DR := fun ds O Post => ∃ n bs m t, ds = [encE A n bs, .int m, .int t] ∧ EOk n bs ∧ (0 ≤ m ∧ m < n) ∧ (0 ≤ t ∧ t ≤ 1000000000000000000) ∧ Post (.tup [encS A (smA n bs m t.toNat), .int (mkA bs m t.toNat)]) O
section
variable {O : Ow} {x p1 p2 C : Addr} {a b : List D}
def Zc (O : Ow) (C x p1 p2 : Addr) (a b : List D) : Ow := setO (setO (setO O x (.ins C ["marks", "rows"] [.ref p1, .ref p2])) p1 (.lst a)) p2 (.lst b)
theorem Z_x (h1 : x ≠ p1) (h2 : x ≠ p2) : Zc O C x p1 p2 a b x = some (.ins C ["marks", "rows"] [.ref p1, .ref p2]) := by unfold Zc; rw [setO_ne h2, setO_ne h1]; exact setO_same
theorem Z_1 (h : p1 ≠ p2) : Zc O C x p1 p2 a b p1 = some (.lst a) := by unfold Zc; rw [setO_ne h]; exact setO_same
theorem Z_2 : Zc O C x p1 p2 a b p2 = some (.lst b) := setO_same
theorem Z_s1 {a' : List D} (h : p1 ≠ p2) : setO (Zc O C x p1 p2 a b) p1 (.lst a') = Zc O C x p1 p2 a' b := by unfold Zc; rw [setO_comm h.symm, setO_setO]
theorem Z_s2 {b' : List D} : setO (Zc O C x p1 p2 a b) p2 (.lst b') = Zc O C x p1 p2 a b' := setO_setO
theorem Z_init (h1 : x ≠ p1) (h2 : x ≠ p2) {m : MO} : setO (setO (setO (setO O p1 (.lst a)) p2 (.lst b)) x m) x (.ins C ["marks", "rows"] [.ref p1, .ref p2]) = Zc O C x p1 p2 a b := by
  unfold Zc
  rw [setO_setO, setO_comm h2.symm, setO_comm h1.symm]
theorem Z_out (h1 : x ≠ p1) (h2 : x ≠ p2) (h : p1 ≠ p2) (n1 : O p1 = none) (n2 : O p2 = none) {m m' : MO} : setO (delO (setO (delO (Zc O C x p1 p2 a b) p1) x m) p2) x m' = setO O x m' := by
  funext q
  unfold Zc setO delO
  by_cases e : q = x
  · simp [e]
  · by_cases e1 : q = p1
    · subst e1; simp [e, h, n1]
    · by_cases e2 : q = p2
      · subst e2; simp [e, n2]
      · simp [e, e1, e2]
end
theorem rg_snoc {α : Type} (f : Nat → α) (t : Nat) : (List.range (t + 1)).map f = (List.range t).map f ++ [f t] := by rw [List.range_succ, List.map_append]; rfl
theorem cutD_drop {ds : List D} {j : Nat} : DL.cutD ds (some (j : Int)) none = ds.drop j := by
  unfold DL.cutD
  rw [HT.sIx_none, HT.sIx_nat]
  by_cases q : j ≤ ds.length
  · rw [Nat.min_eq_left q, List.take_of_length_le (by rw [List.length_drop]; omega)]
  · rw [Nat.min_eq_right (by omega), List.drop_of_length_le (Nat.le_refl _), List.drop_of_length_le (by omega), List.take_nil]
theorem ok_Course_Dinit (T : Tx K mg A) : FnR P w K mg base (L2.CX P w) 6 A.f_Course_Dinit (SpD K (R_cinit A)) := by
  obtain ⟨fd, F, hb⟩ := T.F_Course_Dinit
  refine fnD F sc_Course_Dinit hb (fun ds O Post h => by first | (obtain ⟨rfl, _⟩ := h; rfl) | (obtain ⟨_, rfl, _⟩ := h; rfl) | (obtain ⟨_, _, rfl, _⟩ := h; rfl) | (obtain ⟨_, _, _, rfl, _⟩ := h; rfl) | (obtain ⟨_, _, _, _, rfl, _⟩ := h; rfl) | (obtain ⟨_, _, _, _, _, rfl, _⟩ := h; rfl) | (obtain ⟨_, _, _, _, _, _, rfl, _⟩ := h; rfl) | (obtain ⟨_, _, _, _, _, _, _, rfl, _⟩ := h; rfl) | (obtain ⟨_, _, _, _, _, _, _, _, rfl, _⟩ := h; rfl) | (obtain ⟨_, _, _, _, _, _, _, _, _, rfl, _⟩ := h; rfl) | (obtain ⟨_, _, _, _, _, _, _, _, _, _, rfl, _⟩ := h; rfl) | (obtain ⟨_, _, _, _, _, _, _, _, _, _, _, rfl, _⟩ := h; rfl) | (obtain ⟨_, _, _, _, _, _, _, _, _, _, _, _, rfl, _⟩ := h; rfl) | (obtain ⟨_, _, _, _, _, _, _, _, _, _, _, _, _, rfl, _⟩ := h; rfl)) fun cdv A' outer s H E hr => ⟨_, PSs.nox (pss_cons (ps_asg (pe_tup (pa_cons (pe_lst pa_nil) (pa_cons (pe_lst pa_nil) pa_nil))) (pg_tupK K (n := 2) rfl (pgs_cons (pg_fldK K (pv 0)) (pgs_cons (pg_fldK K (pv 0)) pgs_nil))))
      (pss_cons (ps_while PassesOwn.never (pt_cmpR (op_notInK K) (pv 2) (pe_fldK K (pv 0)) (by rfl)) (pss_cons (ps_expr (pe_bm PySem.F.plainAttrs_list PySem.F.slot_list_append PySem.F.type_list_append mt_append (pe_fldK K (pv 0)) (pa_cons (pv 2) pa_nil)))
      (pss_cons (ps_asg (pe_run (ok_played T) (hr.mono (by decide)) T.k_played T.g_played passL (pa_cons (pv 1) (pa_cons (pv 2) pa_nil))) (pg_tupK K (n := 2) rfl (pgs_cons (pg_name (i := 3) sc_Course_Dinit.nd rfl (Or.inl rfl)) (pgs_cons (pg_name (i := 2) sc_Course_Dinit.nd rfl (Or.inl rfl)) pgs_nil))))
      (pss_one (ps_expr (pe_bm PySem.F.plainAttrs_list PySem.F.slot_list_append PySem.F.type_list_append mt_append (pe_fldK K (pv 0)) (pa_cons (pv 3) pa_nil)))))))
      (pss_cons (ps_fld (pv 0) (pe_bm PySem.F.plainAttrs_list PySem.F.slot_list_index PySem.F.type_list_index (mt_indexK K) (pe_fldK K (pv 0)) (pa_cons (pv 2) pa_nil)) rfl)
      (pss_one (ps_fld (pv 0) (pv 1) rfl))))), fun ds O Post hR => ?_⟩
  obtain ⟨x, n, bs, m, rfl, hox, he, hm, hp⟩ := hR
  walk_at "go"
  refine sd_seq (sd_asgG (evp_tup (eap_cons (evp_lst ea_nil (by simp) fun p1 hp1 => eap_cons (evp_lst ea_nil (by simp) fun p2 hp2 => eap_nil ⟨by simp, ?_⟩)))))
  have hx1 : x ≠ p1 := fun z => by rw [← z, hox] at hp1; cases hp1
  have hp21 : p1 ≠ p2 := fun z => by rw [← z, setO_same] at hp2; cases hp2
  rw [setO_ne hp21.symm] at hp2
  have hx2 : x ≠ p2 := fun z => by rw [← z, hox] at hp2; cases hp2
  have hox' : setO (setO O p1 (.lst [])) p2 (.lst []) x = some (.ins A.c_Course [] []) := by rw [setO_ne hx2, setO_ne hx1]; exact hox
  refine gd_tup rfl (gds_cons (gd_fldN (by walk_at "ev") hox' (by walk_at "cls") (by walk_at "cls") (by decide +kernel) (by decide) (gds_cons (gd_fldN (by walk_at "ev") setO_same (by walk_at "cls") (by walk_at "cls") (by decide +kernel) (by decide) (gds_nil ?_)))))
  show Sd _ _ _ _ (setO (setO (setO (setO O p1 (.lst [])) p2 (.lst [])) x (.ins A.c_Course ["marks"] [.ref p1])) x (.ins A.c_Course ["marks", "rows"] [.ref p1, .ref p2]))
  rw [Z_init hx1 hx2]
  refine sd_seq (sd_while (fun mm δ' O' => ∃ (t : Nat) (c : Option D), mm = 8 - t ∧ ((List.range t).map (mkA bs m)).Nodup ∧ δ' = [some (.ref x), some (encE A n bs), some (.int (mkA bs m t)), c] ∧ O' = Zc O A.c_Course x p1 p2 (((List.range t).map (mkA bs m)).map .int) ((List.range t).map fun i => encS A (rwA n bs m i))) 8 ⟨0, none, rfl, by simp, rfl, rfl⟩ fun mm δ' O' hW => ?_)
  obtain ⟨t, c, rfl, hnd, rfl, rfl⟩ := hW
  have ht8 := CrsOk.find he hm hnd
  have hmk := mkA_in he hm t
  have hf : (((List.range t).map (mkA bs m)).map D.int).all flatD = true := flat_ints _
  refine ⟨!decide (mkA bs m t ∈ (List.range t).map (mkA bs m)), _, EvT.is (b := !inD (.int (mkA bs m t)) (((List.range t).map (mkA bs m)).map .int)) (et_test (ev_op (ev_var rfl) (ev_fldO (ev_var rfl) (Z_x hx1 hx2) (by walk_at "cls") (by walk_at "cls") rfl) (r_inO1 (Z_1 hp21) rfl hf))) (by rw [inD_int]), fun e => ?_, fun e => ?_⟩
  · have e : mkA bs m t ∉ (List.range t).map (mkA bs m) := by simpa using e
    have hnd' : ((List.range (t + 1)).map (mkA bs m)).Nodup := by
      rw [rg_snoc]
      refine List.nodup_append.mpr ⟨hnd, by simp, fun a ha b hb => ?_⟩
      obtain rfl := List.mem_singleton.mp hb
      exact fun z => e (z ▸ ha)
    have ht8' := CrsOk.find he hm hnd'
    refine sd_seq (sd_app (l := p1) (d := .int (mkA bs m t)) (ev_fldO (ev_var rfl) (Z_x hx1 hx2) (by walk_at "cls") (by walk_at "cls") rfl) (Z_1 hp21) (ev_var rfl) (Z_1 hp21) (by simp; omega) ?_)
    rw [Z_s1 hp21]
    refine sd_seq (sd_asgG (Ev.toP (ev_run (ds := [encE A n bs, .int (mkA bs m t)]) (by walk_at "ea") ⟨n, bs, mkA bs m t, rfl, he, rfl, rfl⟩) (gd_tup rfl (gds_cons (gd_name (gds_cons (gd_name (gds_nil ?_))))))))
    walk_at "sl"
    refine sd_app (l := p2) (d := encS A (rwA n bs m t)) (ev_fldO (ev_var rfl) (Z_x hx1 hx2) (by walk_at "cls") (by walk_at "cls") rfl) Z_2 (ev_var rfl) Z_2 (by simp; omega) ?_
    rw [Z_s2, play_last]
    refine ⟨8 - (t + 1), by omega, t + 1, _, rfl, hnd', rfl, ?_⟩
    rw [rg_snoc, rg_snoc, List.map_append]
    rfl
  · have e : mkA bs m t ∈ (List.range t).map (mkA bs m) := by simpa using e
    obtain ⟨r, hr, er⟩ := List.mem_map.mp e
    have hrt := List.mem_range.mp hr
    refine sd_pubF (jj := 0) (Z_x hx1 hx2) rfl (Z_1 hp21) hx1 ?_
    dsimp only [List.set_cons_zero, List.set_cons_succ]
    refine sd_pubF (jj := 1) (q := p2) setO_same rfl (by rw [setO_ne hx2.symm]; unfold delO; rw [if_neg hp21.symm]; exact Z_2) hx2 ?_
    dsimp only [List.set_cons_zero, List.set_cons_succ]
    rw [Z_out hx1 hx2 hp21 hp1 hp2]
    have hget : ((List.range t).map (mkA bs m))[r]? = some (mkA bs m t) := by rw [get_rg _ _ _ hrt, er]
    refine sd_seq (sd_fldN (p := x) (d := .int (r : Int)) (O1 := _) (O2 := _) (ev_index (ns := (List.range t).map (mkA bs m)) (ev_fldO (ev_var rfl) setO_same (by walk_at "cls") (by walk_at "cls") rfl) (by walk_at "ea") hget fun q hq z => ?_) (by walk_at "ev") setO_same (by walk_at "cls") (by walk_at "cls") (by decide +kernel) (by decide) ?_)
    · obtain ⟨l1, e1⟩ := List.getElem?_eq_some_iff.mp z
      obtain ⟨l2, e2⟩ := List.getElem?_eq_some_iff.mp hget
      exact List.pairwise_iff_getElem.mp hnd q r l1 l2 hq (by rw [e1, e2])
    refine sd_fldN (p := x) (d := encE A n bs) (by walk_at "ev") (by walk_at "ev") setO_same (by walk_at "cls") (by walk_at "cls") (by decide +kernel) (by decide) ?_
    rw [setO_setO, setO_setO]
    exact hp t r ⟨hrt, ht8, er.symm⟩
theorem ok_Course_ring_shares (T : Tx K mg A) : FnR P w K mg base (L2.CX P w) 4 A.f_Course_ring_shares (SpD K (R_ring A)) := by
  obtain ⟨fd, F, hb⟩ := T.F_Course_ring_shares
  refine fnD F sc_Course_ring_shares hb (fun ds O Post h => by first | (obtain ⟨rfl, _⟩ := h; rfl) | (obtain ⟨_, rfl, _⟩ := h; rfl) | (obtain ⟨_, _, rfl, _⟩ := h; rfl) | (obtain ⟨_, _, _, rfl, _⟩ := h; rfl) | (obtain ⟨_, _, _, _, rfl, _⟩ := h; rfl) | (obtain ⟨_, _, _, _, _, rfl, _⟩ := h; rfl) | (obtain ⟨_, _, _, _, _, _, rfl, _⟩ := h; rfl) | (obtain ⟨_, _, _, _, _, _, _, rfl, _⟩ := h; rfl) | (obtain ⟨_, _, _, _, _, _, _, _, rfl, _⟩ := h; rfl) | (obtain ⟨_, _, _, _, _, _, _, _, _, rfl, _⟩ := h; rfl) | (obtain ⟨_, _, _, _, _, _, _, _, _, _, rfl, _⟩ := h; rfl) | (obtain ⟨_, _, _, _, _, _, _, _, _, _, _, rfl, _⟩ := h; rfl) | (obtain ⟨_, _, _, _, _, _, _, _, _, _, _, _, rfl, _⟩ := h; rfl) | (obtain ⟨_, _, _, _, _, _, _, _, _, _, _, _, _, rfl, _⟩ := h; rfl)) fun cdv A' outer s H E hr => ⟨_, PSs.nox (pss_cons (ps_set (i := 1) sc_Course_ring_shares.nd rfl (Or.inl rfl) (pe_run (ok_no_shares T) (hr.mono (by decide)) T.k_no_shares T.g_no_shares passL (pa_cons (pe_propR (pe_fldK K (pv 0)) T.cl_Evening T.p_Evening_seat_count (ok_Evening_seat_count T) (hr.mono (by decide)) (fun _ _ _ _ z => cx0 z)) pa_nil)))
      (pss_cons (ps_for PassesOwn.never rfl (pi_listK K (pe_slice (sl_listK K) (pe_fldK K (pv 0)) (po_some (pe_fldK K (pv 0))) po_none)) (pg_name (i := 2) sc_Course_ring_shares.nd rfl (Or.inl rfl)) (pss_one (ps_set (i := 1) sc_Course_ring_shares.nd rfl (Or.inl rfl) (pe_op (op_ownS T.sf_Shares T.d_Shares_Dadd T.df_Shares_Dadd (ok_Shares_Dadd T) (hr.mono (by decide)) passL) (pv 1) (pv 2)))))
      (pss_one (ps_ret (pv 1))))), fun ds O Post hR => ?_⟩
  obtain ⟨n, bs, m, L, r, rfl, he, hc, hp⟩ := hR
  have hn1 := he.1
  have hn2 := he.2.1
  have hL := hc.le
  have hrl := hc.lt
  unfold encC
  walk_at "go"
  refine sd_seq (sd_asg (d := encS A ((List.range n.toNat).map fun _ => 0)) (O1 := O) (ev_run (ds := [.int n]) (O1 := O) (ea_cons (ev_propR (C := A.c_Evening) (nm := ["size", "parts"]) (ds := [.int n, .tup (bs.map (encB A))]) (O1 := O) (ev_fld (ev_var rfl) (by walk_at "cls") (by walk_at "cls") rfl) ⟨n, bs, rfl, rfl, rfl⟩) ea_nil) ⟨n, rfl, by omega, rfl, rfl⟩) ?_)
  walk_at "sl"
  refine sd_seq (sd_for (items := ((List.range L).map fun i => encS A (rwA n bs m i)).drop r) (ei_list (Ev.is (by walk_at "ev") (by rw [cutD_drop]))) (fun i δ' O' => O' = O ∧ ∃ c, δ' = [some (encC A n bs m L r), some (encS A ((List.range n.toNat).map fun k => sumTo (csA n bs m k) (r + i) - sumTo (csA n bs m k) r)), c]) ⟨rfl, none, ?_⟩ (fun i d δ' O' hd hI => ?_) (fun δ' O' hI => ?_))
  · simp [encC]
  · obtain ⟨rfl, c, rfl⟩ := hI
    have hil : r + i < L := by
      have := (List.getElem?_eq_some_iff.mp hd).1
      simp at this; omega
    rw [List.getElem?_drop, get_rg _ _ _ hil] at hd
    cases hd
    refine gd_name ?_
    walk_at "sl"
    refine sd_asg (d := encS A ((List.range n.toNat).map fun k => sumTo (csA n bs m k) (r + (i + 1)) - sumTo (csA n bs m k) r)) (O1 := O') (ev_ownS (C := A.c_Shares) (nm := ["amounts"]) (nm' := ["amounts"]) (ev_var rfl) (ev_var rfl) ⟨_, _, rfl, ⟨by rw [rwA_len]; simp, by simp; omega⟩, ?_, rfl⟩) ⟨rfl, _, rfl⟩
    rw [rwA_eq, zip_rg]
    congr 1
    refine List.map_congr_left fun k _ => ?_
    show sumTo (csA n bs m k) (r + i) - sumTo (csA n bs m k) r + csA n bs m k (r + i) = sumTo (csA n bs m k) (r + i) + csA n bs m k (r + i) - _
    omega
  · obtain ⟨rfl, c, rfl⟩ := hI
    have el : r + (((List.range L).map fun i => encS A (rwA n bs m i)).drop r).length = L := by simp; omega
    rw [el]
    walk_at "st"
    exact hp
end
end Law

set_option Elab.async false
set_option linter.all false
set_option maxRecDepth 100000
set_option maxHeartbeats 4000000
namespace Law
open PySem PySem.Spec L2 DL
open PyProof.Rows hiding St
local macro_rules | `(tactic| walk_at "sl") => `(tactic| try dsimp only [startD, List.map, List.length_cons, List.length_nil, List.replicate, List.cons_append, List.nil_append, List.set_cons_zero, List.set_cons_succ, Nat.reduceSub, Nat.reduceAdd, wipeD])
local macro_rules | `(tactic| walk_at "go") => `(tactic| ((try dsimp only [cxOf, Cx.nox, Cx.wish, Cx.blk]); walk_at "sl"; walk_at "sl"))
local macro_rules | `(tactic| walk_at "own") => `(tactic| first | assumption | exact setO_same | (rw [setO_ne (by first | assumption | exact Ne.symm (by assumption))]; assumption) | (rw [setO_ne (by first | assumption | exact Ne.symm (by assumption))]; exact setO_same))
local macro_rules | `(tactic| walk_at "side") => `(tactic| first
  | assumption | rfl | exact flat_ints _ | exact atI0 | exact atI1 | exact atI2 | exact atI3 | decide | omega | (simp; done)
  | (refine cmodp ?_; omega) | (refine cdivw ?_ ?_ <;> omega) | (refine cmul_l ?_ ?_ <;> omega) | (refine cmul_r ?_ ?_ <;> omega) | (refine cpow ?_ ?_ ?_ <;> decide))
local macro_rules | `(tactic| walk_at "rr") => `(tactic| first
  | with_reducible exact r_int | with_reducible exact r_bl | with_reducible exact r_eqI | with_reducible exact r_neI | with_reducible exact r_eqB | with_reducible exact r_neB | with_reducible exact r_eqS | with_reducible exact r_neS
  | ((with_reducible apply r_intC); walk_at "side")
  | ((with_reducible apply r_ixL); walk_at "side") | ((with_reducible apply r_ixT); walk_at "side") | ((with_reducible apply r_ixS); walk_at "side") | ((with_reducible apply r_ixO); (focus walk_at "own"); (focus walk_at "side"))
  | ((with_reducible apply r_inT0) <;> walk_at "side") | ((with_reducible apply r_inL0) <;> walk_at "side") | ((with_reducible apply r_inT1) <;> walk_at "side") | ((with_reducible apply r_inL1) <;> walk_at "side")
  | ((with_reducible apply r_inO0); (focus walk_at "own"); (focus walk_at "side"); (focus walk_at "side")) | ((with_reducible apply r_inO1); (focus walk_at "own"); (focus walk_at "side"); (focus walk_at "side"))
  | ((with_reducible apply r_rep) <;> walk_at "side") | ((with_reducible apply r_cat) <;> walk_at "side")
  | ((with_reducible apply r_catA) <;> walk_at "side") | ((with_reducible apply r_catO); (focus walk_at "own"); (focus walk_at "side"))
  | ((with_reducible apply r_addS); (focus walk_at "side")) | with_reducible exact r_isN _ rfl | with_reducible exact r_notN _ rfl
  | ((with_reducible apply r_eqP); (focus walk_at "pl"); (focus walk_at "pl"); (focus decide); (focus decide)) | ((with_reducible apply r_neP); (focus walk_at "pl"); (focus walk_at "pl"); (focus decide); (focus decide)))
local macro_rules | `(tactic| walk_at "pl") => `(tactic| first | exact Pl.ints _ | exact Pl.intsL _ | exact Pl.nilT | exact Pl.nilL | exact Pl.int (n := 0) | assumption)
local macro_rules | `(tactic| walk_at "cc") => `(tactic| first
  | with_reducible exact c_lenL | with_reducible exact c_lenT | with_reducible exact c_lenS | ((with_reducible apply c_lenO); walk_at "own")
  | with_reducible exact c_listL | with_reducible exact c_listT | with_reducible exact c_tupL | with_reducible exact c_sum | with_reducible exact c_intB | with_reducible exact c_int1
  | with_reducible exact c_max2 | ((with_reducible apply c_strI); (focus walk_at "side")) | ((with_reducible apply c_lenStr); (focus walk_at "side"))
  | ((with_reducible apply c_isi); (focus rfl); (focus (first | decide +kernel | rfl))) | ((with_reducible apply c_isi2); (focus rfl); (focus (first | decide +kernel | rfl)); (focus (first | decide +kernel | rfl))))
local macro_rules | `(tactic| walk_at "ea") => `(tactic| first
  | with_reducible exact ea_nil
  | ((with_reducible apply ea_cons); (focus walk_at "ev"); (focus walk_at "ea"))
  | ((with_reducible apply ea_starT); (focus walk_at "ev"); (focus walk_at "ea")) | ((with_reducible apply ea_starL); (focus walk_at "ev"); (focus walk_at "ea")))
local macro_rules | `(tactic| walk_at "ev") => `(tactic| first
  | exact ev_var rfl | with_reducible exact ev_int | with_reducible exact ev_bl | with_reducible exact ev_str | with_reducible exact ev_non | with_reducible exact ev_ty | with_reducible exact ev_ref
  | ((with_reducible apply ev_op); (focus walk_at "ev"); (focus walk_at "ev"); (focus walk_at "rr"))
  | ((with_reducible apply ev_cb); (focus walk_at "ea"); (focus walk_at "cc"))
  | ((with_reducible apply ev_neg); (focus walk_at "ev"))
  | ((with_reducible apply ev_tup); (focus walk_at "ea"); (focus walk_at "side"))
  | ((with_reducible apply ev_lst); (focus walk_at "ea"); (focus walk_at "side"))
  | ((with_reducible apply ev_notV); (focus walk_at "ev"))
  | ((with_reducible apply ev_chain); (focus walk_at "ev"); (focus walk_at "ev"); (focus walk_at "rr"); (focus (intro _; walk_at "ev")); (focus (intro _; walk_at "rr")))
  | walk_at "evx")
local macro_rules | `(tactic| walk_at "et") => `(tactic| first
  | ((with_reducible apply et_test); walk_at "ev") | ((with_reducible apply et_B); walk_at "ev") | with_reducible exact et_yes
  | ((with_reducible apply et_not); walk_at "et")
  | ((with_reducible apply et_and); (focus walk_at "et"); (focus (intro _; walk_at "et")))
  | ((with_reducible apply et_or); (focus walk_at "et"); (focus (intro _; walk_at "et"))))
local macro_rules | `(tactic| walk_at "s1") => `(tactic| first
  | ((with_reducible apply sd_asg); (focus walk_at "ev"); walk_at "sl")
  | ((with_reducible apply sd_par); (focus walk_at "ea"); walk_at "sl")
  | ((with_reducible apply sd_setL); (focus walk_at "ev"); (focus walk_at "ev"); (focus walk_at "ev"); (focus walk_at "own"); (focus (first | exact ixN_of (k := 0) rfl (by simp) | exact ixN_of (k := 1) rfl (by simp) | exact ixN_of (k := 2) rfl (by simp) | exact ixN_of (k := 3) rfl (by simp) | assumption)); walk_at "sl")
  | ((with_reducible apply sd_app); (focus walk_at "ev"); (focus walk_at "own"); (focus walk_at "ev"); (focus walk_at "own"); (focus walk_at "side"); walk_at "sl")
  | ((with_reducible apply sd_ret); (focus walk_at "ev"))
  | with_reducible apply sd_next)
local macro_rules | `(tactic| walk_at "st") => `(tactic| first | ((with_reducible apply sd_seq); walk_at "s1") | walk_at "s1")
local macro_rules | `(tactic| walk_at "R") => `(tactic| first
  | exact ⟨_, rfl, rfl, rfl⟩ | exact ⟨_, _, rfl, rfl, rfl⟩ | exact ⟨_, _, _, rfl, rfl, rfl⟩ | exact ⟨_, _, _, _, rfl, rfl, rfl⟩
  | exact ⟨_, rfl, by assumption, rfl, rfl⟩ | exact ⟨_, _, rfl, by assumption, rfl, rfl⟩ | exact ⟨_, _, _, rfl, by assumption, rfl, rfl⟩ | exact ⟨_, _, _, _, rfl, by assumption, rfl, rfl⟩
  | exact ⟨_, _, rfl, by assumption, by assumption, rfl, rfl⟩ | exact ⟨_, _, _, rfl, by assumption, by assumption, rfl, rfl⟩ | exact ⟨_, _, _, _, rfl, by assumption, by assumption, rfl, rfl⟩)
local macro_rules | `(tactic| walk_at "evx") => `(tactic| first
  | ((with_reducible apply ev_run); (focus walk_at "ea"); walk_at "R")
  | ((with_reducible apply ev_propR); (focus walk_at "ev"); walk_at "R")
  | ((with_reducible apply ev_fld); (focus walk_at "ev"); (focus walk_at "cls"); (focus walk_at "cls"); (focus rfl))
  | ((with_reducible apply ev_ownIn0); (focus walk_at "ev"); (focus walk_at "ev"); walk_at "R")
  | ((with_reducible apply ev_slL); (focus walk_at "ev"); (focus walk_at "eo"); (focus walk_at "eo"))
  | ((with_reducible apply ev_slT); (focus walk_at "ev"); (focus walk_at "eo"); (focus walk_at "eo"))
  | ((with_reducible apply ev_cvalI); (focus walk_at "ev"); (focus walk_at "cls"); (focus walk_at "cls")))
local macro_rules | `(tactic| walk_at "eo") => `(tactic| first | with_reducible exact eo_none | ((with_reducible apply eo_some); walk_at "ev"))
local macro_rules | `(tactic| walk_at "cls") => `(tactic| first
  | with_reducible exact (by assumption : Tx _ _ _).cl_Shares
  | with_reducible exact (by assumption : Tx _ _ _).na_Shares_amounts
  | with_reducible exact (by assumption : Tx _ _ _).cl_Bill
  | with_reducible exact (by assumption : Tx _ _ _).na_Bill_total
  | with_reducible exact (by assumption : Tx _ _ _).na_Bill_there
  | with_reducible exact (by assumption : Tx _ _ _).cr_Bill
  | with_reducible exact (by assumption : Tx _ _ _).cv_Bill_MAX_SEATS
  | with_reducible exact (by assumption : Tx _ _ _).cl_Evening
  | with_reducible exact (by assumption : Tx _ _ _).na_Evening_size
  | with_reducible exact (by assumption : Tx _ _ _).na_Evening_parts
  | with_reducible exact (by assumption : Tx _ _ _).cr_Evening
  | with_reducible exact (by assumption : Tx _ _ _).cv_Evening_MAX_BILLS
  | with_reducible exact (by assumption : Tx _ _ _).cl_Course
  | with_reducible exact (by assumption : Tx _ _ _).na_Course_marks
  | with_reducible exact (by assumption : Tx _ _ _).na_Course_rows
  | with_reducible exact (by assumption : Tx _ _ _).na_Course_ring
  | with_reducible exact (by assumption : Tx _ _ _).na_Course_evening
  | with_reducible exact (by assumption : Tx _ _ _).cl_MarkObserver
  | with_reducible exact (by assumption : Tx _ _ _).na_MarkObserver_evening
  | with_reducible exact (by assumption : Tx _ _ _).na_MarkObserver_left
  | with_reducible exact (by assumption : Tx _ _ _).na_MarkObserver_accepted)
section
variable {P : Program} {w : World} {K : PySem.W.Frag} {mg : Str → Option Value} {base : Heap} {A : Ad}
theorem after_nums {L r T : Nat} (h : r < L) : ∃ tn rest : Nat, ((if (T : Int) - r > 0 then (T : Int) - r else 0) / ((L : Int) - r) = (tn : Int)) ∧ T = rest + tn * (L - r) ∧ (tn = 0 ∨ r ≤ rest) ∧ rest < L ∧ tn ≤ T := by
  have hp : 0 < L - r := by omega
  refine ⟨(T - r) / (L - r), T - (T - r) / (L - r) * (L - r), ?_, ?_, ?_, ?_, ?_⟩
  · have e1 : (if (T : Int) - r > 0 then (T : Int) - r else 0) = ((T - r : Nat) : Int) := by split <;> omega
    have e2 : (L : Int) - r = ((L - r : Nat) : Int) := by omega
    rw [e1, e2]; rfl
  · have := Nat.div_mul_le_self (T - r) (L - r)
    omega
  · have h1 := Nat.div_mul_le_self (T - r) (L - r)
    by_cases q : r ≤ T
    · right; omega
    · left
      have : T - r = 0 := by omega
      rw [this, Nat.zero_div]
  · have h1 := Nat.div_mul_le_self (T - r) (L - r)
    have h2 := Nat.mod_lt (T - r) hp
    have h3 := Nat.mod_add_div' (T - r) (L - r)
    omega
  · exact Nat.le_trans (Nat.div_le_self _ _) (Nat.sub_le _ _)
theorem ok_Course_after (T : Tx K mg A) : FnR P w K mg base (L2.CX P w) 5 A.f_Course_after (SpD K (R_cafter A)) := by
  obtain ⟨fd, F, hb⟩ := T.F_Course_after
  refine fnD F sc_Course_after hb (fun ds O Post h => by first | (obtain ⟨rfl, _⟩ := h; rfl) | (obtain ⟨_, rfl, _⟩ := h; rfl) | (obtain ⟨_, _, rfl, _⟩ := h; rfl) | (obtain ⟨_, _, _, rfl, _⟩ := h; rfl) | (obtain ⟨_, _, _, _, rfl, _⟩ := h; rfl) | (obtain ⟨_, _, _, _, _, rfl, _⟩ := h; rfl) | (obtain ⟨_, _, _, _, _, _, rfl, _⟩ := h; rfl) | (obtain ⟨_, _, _, _, _, _, _, rfl, _⟩ := h; rfl) | (obtain ⟨_, _, _, _, _, _, _, _, rfl, _⟩ := h; rfl) | (obtain ⟨_, _, _, _, _, _, _, _, _, rfl, _⟩ := h; rfl) | (obtain ⟨_, _, _, _, _, _, _, _, _, _, rfl, _⟩ := h; rfl) | (obtain ⟨_, _, _, _, _, _, _, _, _, _, _, rfl, _⟩ := h; rfl) | (obtain ⟨_, _, _, _, _, _, _, _, _, _, _, _, rfl, _⟩ := h; rfl) | (obtain ⟨_, _, _, _, _, _, _, _, _, _, _, _, _, rfl, _⟩ := h; rfl)) fun cdv A' outer s H E hr => ⟨_, PSs.nox (pss_cons (ps_set (i := 2) sc_Course_after.nd rfl (Or.inl rfl) (pe_op op_sub (pe_callB (call_lenK K) (by rfl) T.b_len (by decide +kernel) (pa_cons (pe_fldK K (pv 0)) pa_nil)) (pe_fldK K (pv 0))))
      (pss_cons (ps_set (i := 3) sc_Course_after.nd rfl (Or.inl rfl) (pe_op op_fdivW (pe_callB (call_max2 rfl) (by rfl) T.b_max (by decide +kernel) (pa_cons pe_int (pa_cons (pe_op op_sub (pv 1) (pe_fldK K (pv 0))) pa_nil))) (pv 2)))
      (pss_cons (ps_par (by rfl) sc_Course_after.nd (i := 4) (j := 5) rfl rfl (by decide) rfl rfl (pa_cons (pe_op (op_ownI T.sf_Shares T.d_Shares_Dmul T.df_Shares_Dmul T.dr_Shares_Dmul (.inl rfl) T.i1_mul T.i2_mul T.si_Shares (ok_Shares_Dmul T) (hr.mono (by decide)) passL) (pe_methR0 (pv 0) T.cl_Course T.m_Course_ring_shares (ok_Course_ring_shares T) (hr.mono (by decide)) passL) (pv 3)) (pa_cons (pe_op op_sub (pv 1) (pe_op op_mul (pv 3) (pv 2))) pa_nil)) (by rfl))
      (pss_cons (ps_for PassesOwn.never rfl (pi_listK K (pe_slice (sl_listK K) (pe_fldK K (pv 0)) po_none (po_some (pv 5)))) (pg_name (i := 6) sc_Course_after.nd rfl (Or.inl rfl)) (pss_one (ps_set (i := 4) sc_Course_after.nd rfl (Or.inl rfl) (pe_op (op_ownS T.sf_Shares T.d_Shares_Dadd T.df_Shares_Dadd (ok_Shares_Dadd T) (hr.mono (by decide)) passL) (pv 4) (pv 6)))))
      (pss_one (ps_ret (pe_tup (pa_cons (pv 4) (pa_cons (pe_ifExp (pt_cmpR op_lt (pv 5) (pe_callB (call_lenK K) (by rfl) T.b_len (by decide +kernel) (pa_cons (pe_fldK K (pv 0)) pa_nil)) (nomark _)) (pe_ix (ix_listK K) (pe_fldK K (pv 0)) (pv 5) (fun _ _ => rfl)) (pe_ix (ix_listK K) (pe_fldK K (pv 0)) (pe_fldK K (pv 0)) (fun _ _ => rfl))) pa_nil))))))))), fun ds O Post hR => ?_⟩
  obtain ⟨n, bs, m, L, r, t, rfl, he, hc, ht, hp⟩ := hR
  obtain ⟨T, rfl⟩ : ∃ T : Nat, t = (T : Int) := ⟨t.toNat, by omega⟩
  have hn1 := he.1
  have hn2 := he.2.1
  have hL := hc.le
  have hrl := hc.lt
  obtain ⟨tn, rest, e1, e2, e3, e4, e5⟩ := after_nums (T := T) hrl
  obtain ⟨am, as⟩ := hc.after (n := n) e2 e3
  unfold encC
  walk_at "go"
  have el : (((List.range L).map (mkA bs m)).map D.int).length = L := by simp
  refine sd_seq (sd_asg (d := .int ((L : Int) - r)) (O1 := O) (Ev.is (d := .int (((((List.range L).map (mkA bs m)).map D.int).length : Int) - (r : Int))) (by walk_at "ev") (by rw [el])) ?_)
  walk_at "sl"
  have hsz : 0 < (L : Int) - r := by omega
  have hsz2 : (L : Int) - r ≤ 1000000000000000000000000000000 := by omega
  refine sd_seq (sd_asg (d := .int (tn : Int)) (O1 := O) (Ev.is (d := .int ((if (T : Int) - r > 0 then (T : Int) - r else 0) / ((L : Int) - r))) (ev_op (O1 := O) (ev_cb (ds := [.int 0, .int ((T : Int) - r)]) (O1 := O) (by walk_at "ea") c_max2) (ev_var rfl) (r_intC (cdivw hsz hsz2))) (by rw [e1])) ?_)
  walk_at "sl"
  have hrest : (T : Int) - (tn : Int) * ((L : Int) - r) = (rest : Int) := by
    have : ((L : Int) - r) = ((L - r : Nat) : Int) := by omega
    rw [this, ← Int.natCast_mul]
    omega
  refine sd_seq (sd_par (a := encS A ((List.range n.toNat).map fun k => (sumTo (csA n bs m k) L - sumTo (csA n bs m k) r) * (tn : Int))) (b := .int (rest : Int)) (O1 := O) (ea_cons (O1 := O) ?_ (ea_cons (O1 := O) (Ev.is (d := .int ((T : Int) - (tn : Int) * ((L : Int) - r))) (by walk_at "ev") (by rw [hrest])) ea_nil)) ?_)
  · refine ev_ownI (C := A.c_Shares) (nm := ["amounts"]) (O1 := O) (O2 := O) (ev_meth (C := A.c_Course) (nm := ["marks", "rows", "ring", "evening"]) (O1 := O) (es := []) (ev_var rfl) (by decide +kernel) ea_nil ⟨n, bs, m, L, r, rfl, he, hc, rfl, rfl⟩) (ev_var rfl) ⟨_, (tn : Int), rfl, ⟨by simp; omega, by omega, by omega⟩, ?_, rfl⟩
    rw [List.map_map]; rfl
  walk_at "sl"
  refine sd_seq (sd_for (items := ((List.range L).map fun i => encS A (rwA n bs m i)).take rest) (ei_list (Ev.is (d := .lst (DL.cutD ((List.range L).map fun i => encS A (rwA n bs m i)) none (some (rest : Int)))) (by walk_at "ev") (by rw [cutD_take (by omega), Int.toNat_natCast]))) (fun i δ' O' => O' = O ∧ ∃ c, δ' = [some (encC A n bs m L r), some (.int (T : Int)), some (.int ((L : Int) - r)), some (.int (tn : Int)), some (encS A ((List.range n.toNat).map fun k => (sumTo (csA n bs m k) L - sumTo (csA n bs m k) r) * (tn : Int) + sumTo (csA n bs m k) i)), some (.int (rest : Int)), c]) ⟨rfl, none, ?_⟩ (fun i d δ' O' hd hI => ?_) (fun δ' O' hI => ?_))
  · simp [sumTo, encC]
  · obtain ⟨rfl, c, rfl⟩ := hI
    have hil : i < rest := by
      have := (List.getElem?_eq_some_iff.mp hd).1
      simp at this; omega
    rw [List.getElem?_take, if_pos hil, get_rg _ _ _ (by omega)] at hd
    cases hd
    refine gd_name ?_
    walk_at "sl"
    refine sd_asg (d := encS A ((List.range n.toNat).map fun k => (sumTo (csA n bs m k) L - sumTo (csA n bs m k) r) * (tn : Int) + sumTo (csA n bs m k) (i + 1))) (O1 := O') (ev_ownS (C := A.c_Shares) (nm := ["amounts"]) (nm' := ["amounts"]) (ev_var rfl) (ev_var rfl) ⟨_, _, rfl, ⟨by rw [rwA_len]; simp, by simp; omega⟩, ?_, rfl⟩) ⟨rfl, _, rfl⟩
    rw [rwA_eq, zip_rg]
    congr 1
    refine List.map_congr_left fun k _ => ?_
    show _ * (tn : Int) + sumTo (csA n bs m k) i + csA n bs m k i = _ * (tn : Int) + (sumTo (csA n bs m k) i + csA n bs m k i)
    rw [Int.add_assoc]
  · obtain ⟨rfl, c, rfl⟩ := hI
    have er : (((List.range L).map fun i => encS A (rwA n bs m i)).take rest).length = rest := by simp; omega
    rw [er]
    have hat : atI (((List.range L).map (mkA bs m)).map D.int) (rest : Int) = some (.int (mkA bs m rest)) := atI_of rfl (by rw [List.getElem?_map, get_rg _ _ _ e4]; rfl)
    have efin : ((List.range n.toNat).map fun k => (sumTo (csA n bs m k) L - sumTo (csA n bs m k) r) * (tn : Int) + sumTo (csA n bs m k) rest) = smA n bs m T := List.map_congr_left fun k _ => (as k).symm
    rw [Int.toNat_natCast] at hp
    refine sd_ret (O1 := O') (ev_tup (O1 := O') (ea_cons (d := encS A (smA n bs m T)) (O1 := O') (Ev.is (ev_var rfl) (by rw [efin])) (ea_cons (d := .int (mkA bs m T)) (O1 := O') (ev_if (O1 := O') (b := true) (EvT.is (b := decide ((rest : Int) < ((((List.range L).map (mkA bs m)).map D.int).length : Int))) ?_ ?_) (fun _ => ?_) (fun z => nomatch z)) ea_nil)) (by simp)) hp
    · unfold encC; walk_at "et"
    · rw [el]; simp; omega
    · rw [am]; unfold encC; walk_at "ev"
theorem ok_repeated (T : Tx K mg A) : FnR P w K mg base (L2.CX P w) 8 A.f_repeated (SpD K (R_rep A)) := by
  obtain ⟨fd, F, hb⟩ := T.F_repeated
  refine fnD F sc_repeated hb (fun ds O Post h => by first | (obtain ⟨rfl, _⟩ := h; rfl) | (obtain ⟨_, rfl, _⟩ := h; rfl) | (obtain ⟨_, _, rfl, _⟩ := h; rfl) | (obtain ⟨_, _, _, rfl, _⟩ := h; rfl) | (obtain ⟨_, _, _, _, rfl, _⟩ := h; rfl) | (obtain ⟨_, _, _, _, _, rfl, _⟩ := h; rfl) | (obtain ⟨_, _, _, _, _, _, rfl, _⟩ := h; rfl) | (obtain ⟨_, _, _, _, _, _, _, rfl, _⟩ := h; rfl) | (obtain ⟨_, _, _, _, _, _, _, _, rfl, _⟩ := h; rfl) | (obtain ⟨_, _, _, _, _, _, _, _, _, rfl, _⟩ := h; rfl) | (obtain ⟨_, _, _, _, _, _, _, _, _, _, rfl, _⟩ := h; rfl) | (obtain ⟨_, _, _, _, _, _, _, _, _, _, _, rfl, _⟩ := h; rfl) | (obtain ⟨_, _, _, _, _, _, _, _, _, _, _, _, rfl, _⟩ := h; rfl) | (obtain ⟨_, _, _, _, _, _, _, _, _, _, _, _, _, rfl, _⟩ := h; rfl)) fun cdv A' outer s H E hr => ⟨_, PSs.nox (pss_cons (ps_expr (pe_run (ok_validate_mark T) (hr.mono (by decide)) T.k_validate_mark T.g_validate_mark passL (pa_cons (pv 0) (pa_cons (pv 1) pa_nil))))
      (pss_cons (ps_if (pt_not (pt_chain op_le op_le pe_int (pv 2) (pe_glob (v := .int 1000000000000000000) rfl T.g_MAX_TIMES ⟨_, rfl⟩))) (pss_one ps_never) pss_nil)
      (pss_one (ps_ret (pe_methR (StX.pe_makeR T.mk_Course (ok_Course_Dinit T) (hr.mono (by decide)) rfl T.g_Course passL (pa_cons (pv 0) (pa_cons (pv 1) pa_nil))) T.cl_Course T.m_Course_after (ok_Course_after T) (hr.mono (by decide)) passL (pa_cons (pv 2) pa_nil)))))), fun ds O Post hR => ?_⟩
  obtain ⟨n, bs, m, t, rfl, he, hm, ht, hp⟩ := hR
  walk_at "go"
  refine sd_seq (sd_dropP (Ev.toP (O1 := O) (ev_run (ds := [encE A n bs, .int m]) (by walk_at "ea") ⟨n, bs, m, rfl, hm, rfl, rfl⟩) ?_))
  refine sd_seq ?_
  apply sd_never
  focus walk_at "et"
  focus (simp; omega)
  refine sd_next ?_
  refine sd_retP (evp_methP (evp_mkI (ds := [encE A n bs, .int m]) (O1 := O) (by walk_at "ea") fun x hx => ⟨x, n, bs, m, rfl, setO_same, he, hm, fun L r hc => ⟨rfl, _, _, setO_setO, _, _, [.int t], O, rfl, by decide +kernel, by walk_at "ea", n, bs, m, L, r, t, rfl, he, hc, ht, hp⟩⟩))
end
end Law

set_option Elab.async false
set_option linter.all false
set_option maxRecDepth 100000
set_option maxHeartbeats 4000000
namespace Law
open PySem PySem.Spec L2 DL
open PyProof.Rows hiding St
local macro_rules | `(tactic| walk_at "sl") => `(tactic| try dsimp only [startD, List.map, List.length_cons, List.length_nil, List.replicate, List.cons_append, List.nil_append, List.set_cons_zero, List.set_cons_succ, Nat.reduceSub, Nat.reduceAdd, wipeD])
local macro_rules | `(tactic| walk_at "go") => `(tactic| ((try dsimp only [cxOf, Cx.nox, Cx.wish, Cx.blk]); walk_at "sl"; walk_at "sl"))
local macro_rules | `(tactic| walk_at "own") => `(tactic| first | assumption | exact setO_same | (rw [setO_ne (by first | assumption | exact Ne.symm (by assumption))]; assumption) | (rw [setO_ne (by first | assumption | exact Ne.symm (by assumption))]; exact setO_same))
local macro_rules | `(tactic| walk_at "side") => `(tactic| first
  | assumption | rfl | exact flat_ints _ | exact atI0 | exact atI1 | exact atI2 | exact atI3 | decide | omega | (simp; done)
  | (refine cmodp ?_; omega) | (refine cdivw ?_ ?_ <;> omega) | (refine cmul_l ?_ ?_ <;> omega) | (refine cmul_r ?_ ?_ <;> omega) | (refine cpow ?_ ?_ ?_ <;> decide))
local macro_rules | `(tactic| walk_at "rr") => `(tactic| first
  | with_reducible exact r_int | with_reducible exact r_bl | with_reducible exact r_eqI | with_reducible exact r_neI | with_reducible exact r_eqB | with_reducible exact r_neB | with_reducible exact r_eqS | with_reducible exact r_neS
  | ((with_reducible apply r_intC); walk_at "side")
  | ((with_reducible apply r_ixL); walk_at "side") | ((with_reducible apply r_ixT); walk_at "side") | ((with_reducible apply r_ixS); walk_at "side") | ((with_reducible apply r_ixO); (focus walk_at "own"); (focus walk_at "side"))
  | ((with_reducible apply r_inT0) <;> walk_at "side") | ((with_reducible apply r_inL0) <;> walk_at "side") | ((with_reducible apply r_inT1) <;> walk_at "side") | ((with_reducible apply r_inL1) <;> walk_at "side")
  | ((with_reducible apply r_inO0); (focus walk_at "own"); (focus walk_at "side"); (focus walk_at "side")) | ((with_reducible apply r_inO1); (focus walk_at "own"); (focus walk_at "side"); (focus walk_at "side"))
  | ((with_reducible apply r_rep) <;> walk_at "side") | ((with_reducible apply r_cat) <;> walk_at "side")
  | ((with_reducible apply r_catA) <;> walk_at "side") | ((with_reducible apply r_catO); (focus walk_at "own"); (focus walk_at "side"))
  | ((with_reducible apply r_addS); (focus walk_at "side")) | with_reducible exact r_isN _ rfl | with_reducible exact r_notN _ rfl
  | ((with_reducible apply r_eqP); (focus walk_at "pl"); (focus walk_at "pl"); (focus decide); (focus decide)) | ((with_reducible apply r_neP); (focus walk_at "pl"); (focus walk_at "pl"); (focus decide); (focus decide)))
local macro_rules | `(tactic| walk_at "pl") => `(tactic| first | exact Pl.ints _ | exact Pl.intsL _ | exact Pl.nilT | exact Pl.nilL | exact Pl.int (n := 0) | assumption)
local macro_rules | `(tactic| walk_at "cc") => `(tactic| first
  | with_reducible exact c_lenL | with_reducible exact c_lenT | with_reducible exact c_lenS | ((with_reducible apply c_lenO); walk_at "own")
  | with_reducible exact c_listL | with_reducible exact c_listT | with_reducible exact c_tupL | with_reducible exact c_sum | with_reducible exact c_intB | with_reducible exact c_int1
  | with_reducible exact c_max2 | ((with_reducible apply c_strI); (focus walk_at "side")) | ((with_reducible apply c_lenStr); (focus walk_at "side"))
  | ((with_reducible apply c_isi); (focus rfl); (focus (first | decide +kernel | rfl))) | ((with_reducible apply c_isi2); (focus rfl); (focus (first | decide +kernel | rfl)); (focus (first | decide +kernel | rfl))))
local macro_rules | `(tactic| walk_at "ea") => `(tactic| first
  | with_reducible exact ea_nil
  | ((with_reducible apply ea_cons); (focus walk_at "ev"); (focus walk_at "ea"))
  | ((with_reducible apply ea_starT); (focus walk_at "ev"); (focus walk_at "ea")) | ((with_reducible apply ea_starL); (focus walk_at "ev"); (focus walk_at "ea")))
local macro_rules | `(tactic| walk_at "ev") => `(tactic| first
  | exact ev_var rfl | with_reducible exact ev_int | with_reducible exact ev_bl | with_reducible exact ev_str | with_reducible exact ev_non | with_reducible exact ev_ty | with_reducible exact ev_ref
  | ((with_reducible apply ev_op); (focus walk_at "ev"); (focus walk_at "ev"); (focus walk_at "rr"))
  | ((with_reducible apply ev_cb); (focus walk_at "ea"); (focus walk_at "cc"))
  | ((with_reducible apply ev_neg); (focus walk_at "ev"))
  | ((with_reducible apply ev_tup); (focus walk_at "ea"); (focus walk_at "side"))
  | ((with_reducible apply ev_lst); (focus walk_at "ea"); (focus walk_at "side"))
  | ((with_reducible apply ev_notV); (focus walk_at "ev"))
  | ((with_reducible apply ev_chain); (focus walk_at "ev"); (focus walk_at "ev"); (focus walk_at "rr"); (focus (intro _; walk_at "ev")); (focus (intro _; walk_at "rr")))
  | walk_at "evx")
local macro_rules | `(tactic| walk_at "et") => `(tactic| first
  | ((with_reducible apply et_test); walk_at "ev") | ((with_reducible apply et_B); walk_at "ev") | with_reducible exact et_yes
  | ((with_reducible apply et_not); walk_at "et")
  | ((with_reducible apply et_and); (focus walk_at "et"); (focus (intro _; walk_at "et")))
  | ((with_reducible apply et_or); (focus walk_at "et"); (focus (intro _; walk_at "et"))))
local macro_rules | `(tactic| walk_at "s1") => `(tactic| first
  | ((with_reducible apply sd_asg); (focus walk_at "ev"); walk_at "sl")
  | ((with_reducible apply sd_par); (focus walk_at "ea"); walk_at "sl")
  | ((with_reducible apply sd_setL); (focus walk_at "ev"); (focus walk_at "ev"); (focus walk_at "ev"); (focus walk_at "own"); (focus (first | exact ixN_of (k := 0) rfl (by simp) | exact ixN_of (k := 1) rfl (by simp) | exact ixN_of (k := 2) rfl (by simp) | exact ixN_of (k := 3) rfl (by simp) | assumption)); walk_at "sl")
  | ((with_reducible apply sd_app); (focus walk_at "ev"); (focus walk_at "own"); (focus walk_at "ev"); (focus walk_at "own"); (focus walk_at "side"); walk_at "sl")
  | ((with_reducible apply sd_ret); (focus walk_at "ev"))
  | with_reducible apply sd_next)
local macro_rules | `(tactic| walk_at "st") => `(tactic| first | ((with_reducible apply sd_seq); walk_at "s1") | walk_at "s1")
local macro_rules | `(tactic| walk_at "R") => `(tactic| first
  | exact ⟨_, rfl, rfl, rfl⟩ | exact ⟨_, _, rfl, rfl, rfl⟩ | exact ⟨_, _, _, rfl, rfl, rfl⟩ | exact ⟨_, _, _, _, rfl, rfl, rfl⟩
  | exact ⟨_, rfl, by assumption, rfl, rfl⟩ | exact ⟨_, _, rfl, by assumption, rfl, rfl⟩ | exact ⟨_, _, _, rfl, by assumption, rfl, rfl⟩ | exact ⟨_, _, _, _, rfl, by assumption, rfl, rfl⟩
  | exact ⟨_, _, rfl, by assumption, by assumption, rfl, rfl⟩ | exact ⟨_, _, _, rfl, by assumption, by assumption, rfl, rfl⟩ | exact ⟨_, _, _, _, rfl, by assumption, by assumption, rfl, rfl⟩)
local macro_rules | `(tactic| walk_at "evx") => `(tactic| first
  | ((with_reducible apply ev_run); (focus walk_at "ea"); walk_at "R")
  | ((with_reducible apply ev_propR); (focus walk_at "ev"); walk_at "R")
  | ((with_reducible apply ev_fld); (focus walk_at "ev"); (focus walk_at "cls"); (focus walk_at "cls"); (focus rfl))
  | ((with_reducible apply ev_ownIn0); (focus walk_at "ev"); (focus walk_at "ev"); walk_at "R")
  | ((with_reducible apply ev_slL); (focus walk_at "ev"); (focus walk_at "eo"); (focus walk_at "eo"))
  | ((with_reducible apply ev_slT); (focus walk_at "ev"); (focus walk_at "eo"); (focus walk_at "eo"))
  | ((with_reducible apply ev_cvalI); (focus walk_at "ev"); (focus walk_at "cls"); (focus walk_at "cls")))
local macro_rules | `(tactic| walk_at "eo") => `(tactic| first | with_reducible exact eo_none | ((with_reducible apply eo_some); walk_at "ev"))
local macro_rules | `(tactic| walk_at "cls") => `(tactic| first
  | with_reducible exact (by assumption : Tx _ _ _).cl_Shares
  | with_reducible exact (by assumption : Tx _ _ _).na_Shares_amounts
  | with_reducible exact (by assumption : Tx _ _ _).cl_Bill
  | with_reducible exact (by assumption : Tx _ _ _).na_Bill_total
  | with_reducible exact (by assumption : Tx _ _ _).na_Bill_there
  | with_reducible exact (by assumption : Tx _ _ _).cr_Bill
  | with_reducible exact (by assumption : Tx _ _ _).cv_Bill_MAX_SEATS
  | with_reducible exact (by assumption : Tx _ _ _).cl_Evening
  | with_reducible exact (by assumption : Tx _ _ _).na_Evening_size
  | with_reducible exact (by assumption : Tx _ _ _).na_Evening_parts
  | with_reducible exact (by assumption : Tx _ _ _).cr_Evening
  | with_reducible exact (by assumption : Tx _ _ _).cv_Evening_MAX_BILLS
  | with_reducible exact (by assumption : Tx _ _ _).cl_Course
  | with_reducible exact (by assumption : Tx _ _ _).na_Course_marks
  | with_reducible exact (by assumption : Tx _ _ _).na_Course_rows
  | with_reducible exact (by assumption : Tx _ _ _).na_Course_ring
  | with_reducible exact (by assumption : Tx _ _ _).na_Course_evening
  | with_reducible exact (by assumption : Tx _ _ _).cl_MarkObserver
  | with_reducible exact (by assumption : Tx _ _ _).na_MarkObserver_evening
  | with_reducible exact (by assumption : Tx _ _ _).na_MarkObserver_left
  | with_reducible exact (by assumption : Tx _ _ _).na_MarkObserver_accepted)
section
variable {P : Program} {w : World} {K : PySem.W.Frag} {mg : Str → Option Value} {base : Heap} {A : Ad}
def R_elen (A : Ad) : DR := fun ds O Post => ∃ n bs, ds = [encE A n bs] ∧ Post (.int (bs.length : Int)) O
theorem ok_Evening_Dlen (T : Tx K mg A) : FnR P w K mg base (L2.CX P w) 1 A.f_Evening_Dlen (SpD K (R_elen A)) := by
  obtain ⟨fd, F, hb⟩ := T.F_Evening_Dlen
  refine fnD F sc_Evening_Dlen hb (fun ds O Post h => by first | (obtain ⟨rfl, _⟩ := h; rfl) | (obtain ⟨_, rfl, _⟩ := h; rfl) | (obtain ⟨_, _, rfl, _⟩ := h; rfl) | (obtain ⟨_, _, _, rfl, _⟩ := h; rfl) | (obtain ⟨_, _, _, _, rfl, _⟩ := h; rfl) | (obtain ⟨_, _, _, _, _, rfl, _⟩ := h; rfl) | (obtain ⟨_, _, _, _, _, _, rfl, _⟩ := h; rfl) | (obtain ⟨_, _, _, _, _, _, _, rfl, _⟩ := h; rfl) | (obtain ⟨_, _, _, _, _, _, _, _, rfl, _⟩ := h; rfl) | (obtain ⟨_, _, _, _, _, _, _, _, _, rfl, _⟩ := h; rfl) | (obtain ⟨_, _, _, _, _, _, _, _, _, _, rfl, _⟩ := h; rfl) | (obtain ⟨_, _, _, _, _, _, _, _, _, _, _, rfl, _⟩ := h; rfl) | (obtain ⟨_, _, _, _, _, _, _, _, _, _, _, _, rfl, _⟩ := h; rfl) | (obtain ⟨_, _, _, _, _, _, _, _, _, _, _, _, _, rfl, _⟩ := h; rfl)) fun cdv A' outer s H E hr => ⟨_, PSs.nox (pss_one (ps_ret (pe_callB (call_lenK K) (by rfl) T.b_len (by decide +kernel) (pa_cons (pe_fldK K (pv 0)) pa_nil)))), fun ds O Post hR => ?_⟩
  obtain ⟨n, bs, rfl, hp⟩ := hR
  unfold encE
  walk_at "go"
  refine sd_ret (d := .int (bs.length : Int)) (O1 := O) (Ev.is (d := .int ((bs.map (encB A)).length : Int)) (by walk_at "ev") (by simp)) hp
end
end Law

set_option Elab.async false
set_option linter.all false
set_option maxRecDepth 100000
set_option maxHeartbeats 4000000
namespace Law
open PySem PySem.Spec L2 DL
open PyProof.Rows hiding St
local macro_rules | `(tactic| walk_at "sl") => `(tactic| try dsimp only [startD, List.map, List.length_cons, List.length_nil, List.replicate, List.cons_append, List.nil_append, List.set_cons_zero, List.set_cons_succ, Nat.reduceSub, Nat.reduceAdd, wipeD])
local macro_rules | `(tactic| walk_at "go") => `(tactic| ((try dsimp only [cxOf, Cx.nox, Cx.wish, Cx.blk]); walk_at "sl"; walk_at "sl"))
local macro_rules | `(tactic| walk_at "own") => `(tactic| first | assumption | exact setO_same | (rw [setO_ne (by first | assumption | exact Ne.symm (by assumption))]; assumption) | (rw [setO_ne (by first | assumption | exact Ne.symm (by assumption))]; exact setO_same))
local macro_rules | `(tactic| walk_at "side") => `(tactic| first
  | assumption | rfl | exact flat_ints _ | exact atI0 | exact atI1 | exact atI2 | exact atI3 | decide | omega | (simp; done)
  | (refine cmodp ?_; omega) | (refine cdivw ?_ ?_ <;> omega) | (refine cmul_l ?_ ?_ <;> omega) | (refine cmul_r ?_ ?_ <;> omega) | (refine cpow ?_ ?_ ?_ <;> decide))
local macro_rules | `(tactic| walk_at "rr") => `(tactic| first
  | with_reducible exact r_int | with_reducible exact r_bl | with_reducible exact r_eqI | with_reducible exact r_neI | with_reducible exact r_eqB | with_reducible exact r_neB | with_reducible exact r_eqS | with_reducible exact r_neS
  | ((with_reducible apply r_intC); walk_at "side")
  | ((with_reducible apply r_ixL); walk_at "side") | ((with_reducible apply r_ixT); walk_at "side") | ((with_reducible apply r_ixS); walk_at "side") | ((with_reducible apply r_ixO); (focus walk_at "own"); (focus walk_at "side"))
  | ((with_reducible apply r_inT0) <;> walk_at "side") | ((with_reducible apply r_inL0) <;> walk_at "side") | ((with_reducible apply r_inT1) <;> walk_at "side") | ((with_reducible apply r_inL1) <;> walk_at "side")
  | ((with_reducible apply r_inO0); (focus walk_at "own"); (focus walk_at "side"); (focus walk_at "side")) | ((with_reducible apply r_inO1); (focus walk_at "own"); (focus walk_at "side"); (focus walk_at "side"))
  | ((with_reducible apply r_rep) <;> walk_at "side") | ((with_reducible apply r_cat) <;> walk_at "side")
  | ((with_reducible apply r_catA) <;> walk_at "side") | ((with_reducible apply r_catO); (focus walk_at "own"); (focus walk_at "side"))
  | ((with_reducible apply r_addS); (focus walk_at "side")) | with_reducible exact r_isN _ rfl | with_reducible exact r_notN _ rfl
  | ((with_reducible apply r_eqP); (focus walk_at "pl"); (focus walk_at "pl"); (focus decide); (focus decide)) | ((with_reducible apply r_neP); (focus walk_at "pl"); (focus walk_at "pl"); (focus decide); (focus decide)))
local macro_rules | `(tactic| walk_at "pl") => `(tactic| first | exact Pl.ints _ | exact Pl.intsL _ | exact Pl.nilT | exact Pl.nilL | exact Pl.int (n := 0) | assumption)
local macro_rules | `(tactic| walk_at "cc") => `(tactic| first
  | with_reducible exact c_lenL | with_reducible exact c_lenT | with_reducible exact c_lenS | ((with_reducible apply c_lenO); walk_at "own")
  | with_reducible exact c_listL | with_reducible exact c_listT | with_reducible exact c_tupL | with_reducible exact c_sum | with_reducible exact c_intB | with_reducible exact c_int1
  | with_reducible exact c_max2 | ((with_reducible apply c_strI); (focus walk_at "side")) | ((with_reducible apply c_lenStr); (focus walk_at "side"))
  | ((with_reducible apply c_isi); (focus rfl); (focus (first | decide +kernel | rfl))) | ((with_reducible apply c_isi2); (focus rfl); (focus (first | decide +kernel | rfl)); (focus (first | decide +kernel | rfl))))
local macro_rules | `(tactic| walk_at "ea") => `(tactic| first
  | with_reducible exact ea_nil
  | ((with_reducible apply ea_cons); (focus walk_at "ev"); (focus walk_at "ea"))
  | ((with_reducible apply ea_starT); (focus walk_at "ev"); (focus walk_at "ea")) | ((with_reducible apply ea_starL); (focus walk_at "ev"); (focus walk_at "ea")))
local macro_rules | `(tactic| walk_at "ev") => `(tactic| first
  | exact ev_var rfl | with_reducible exact ev_int | with_reducible exact ev_bl | with_reducible exact ev_str | with_reducible exact ev_non | with_reducible exact ev_ty | with_reducible exact ev_ref
  | ((with_reducible apply ev_op); (focus walk_at "ev"); (focus walk_at "ev"); (focus walk_at "rr"))
  | ((with_reducible apply ev_cb); (focus walk_at "ea"); (focus walk_at "cc"))
  | ((with_reducible apply ev_neg); (focus walk_at "ev"))
  | ((with_reducible apply ev_tup); (focus walk_at "ea"); (focus walk_at "side"))
  | ((with_reducible apply ev_lst); (focus walk_at "ea"); (focus walk_at "side"))
  | ((with_reducible apply ev_notV); (focus walk_at "ev"))
  | ((with_reducible apply ev_chain); (focus walk_at "ev"); (focus walk_at "ev"); (focus walk_at "rr"); (focus (intro _; walk_at "ev")); (focus (intro _; walk_at "rr")))
  | walk_at "evx")
local macro_rules | `(tactic| walk_at "et") => `(tactic| first
  | ((with_reducible apply et_test); walk_at "ev") | ((with_reducible apply et_B); walk_at "ev") | with_reducible exact et_yes
  | ((with_reducible apply et_not); walk_at "et")
  | ((with_reducible apply et_and); (focus walk_at "et"); (focus (intro _; walk_at "et")))
  | ((with_reducible apply et_or); (focus walk_at "et"); (focus (intro _; walk_at "et"))))
local macro_rules | `(tactic| walk_at "s1") => `(tactic| first
  | ((with_reducible apply sd_asg); (focus walk_at "ev"); walk_at "sl")
  | ((with_reducible apply sd_par); (focus walk_at "ea"); walk_at "sl")
  | ((with_reducible apply sd_setL); (focus walk_at "ev"); (focus walk_at "ev"); (focus walk_at "ev"); (focus walk_at "own"); (focus (first | exact ixN_of (k := 0) rfl (by simp) | exact ixN_of (k := 1) rfl (by simp) | exact ixN_of (k := 2) rfl (by simp) | exact ixN_of (k := 3) rfl (by simp) | assumption)); walk_at "sl")
  | ((with_reducible apply sd_app); (focus walk_at "ev"); (focus walk_at "own"); (focus walk_at "ev"); (focus walk_at "own"); (focus walk_at "side"); walk_at "sl")
  | ((with_reducible apply sd_ret); (focus walk_at "ev"))
  | with_reducible apply sd_next)
local macro_rules | `(tactic| walk_at "st") => `(tactic| first | ((with_reducible apply sd_seq); walk_at "s1") | walk_at "s1")
local macro_rules | `(tactic| walk_at "R") => `(tactic| first
  | exact ⟨_, rfl, rfl, rfl⟩ | exact ⟨_, _, rfl, rfl, rfl⟩ | exact ⟨_, _, _, rfl, rfl, rfl⟩ | exact ⟨_, _, _, _, rfl, rfl, rfl⟩
  | exact ⟨_, rfl, by assumption, rfl, rfl⟩ | exact ⟨_, _, rfl, by assumption, rfl, rfl⟩ | exact ⟨_, _, _, rfl, by assumption, rfl, rfl⟩ | exact ⟨_, _, _, _, rfl, by assumption, rfl, rfl⟩
  | exact ⟨_, _, rfl, by assumption, by assumption, rfl, rfl⟩ | exact ⟨_, _, _, rfl, by assumption, by assumption, rfl, rfl⟩ | exact ⟨_, _, _, _, rfl, by assumption, by assumption, rfl, rfl⟩)
local macro_rules | `(tactic| walk_at "evx") => `(tactic| first
  | ((with_reducible apply ev_run); (focus walk_at "ea"); walk_at "R")
  | ((with_reducible apply ev_propR); (focus walk_at "ev"); walk_at "R")
  | ((with_reducible apply ev_fld); (focus walk_at "ev"); (focus walk_at "cls"); (focus walk_at "cls"); (focus rfl))
  | ((with_reducible apply ev_ownIn0); (focus walk_at "ev"); (focus walk_at "ev"); walk_at "R")
  | ((with_reducible apply ev_slL); (focus walk_at "ev"); (focus walk_at "eo"); (focus walk_at "eo"))
  | ((with_reducible apply ev_slT); (focus walk_at "ev"); (focus walk_at "eo"); (focus walk_at "eo"))
  | ((with_reducible apply ev_cvalI); (focus walk_at "ev"); (focus walk_at "cls"); (focus walk_at "cls")))
local macro_rules | `(tactic| walk_at "eo") => `(tactic| first | with_reducible exact eo_none | ((with_reducible apply eo_some); walk_at "ev"))
local macro_rules | `(tactic| walk_at "cls") => `(tactic| first
  | with_reducible exact (by assumption : Tx _ _ _).cl_Shares
  | with_reducible exact (by assumption : Tx _ _ _).na_Shares_amounts
  | with_reducible exact (by assumption : Tx _ _ _).cl_Bill
  | with_reducible exact (by assumption : Tx _ _ _).na_Bill_total
  | with_reducible exact (by assumption : Tx _ _ _).na_Bill_there
  | with_reducible exact (by assumption : Tx _ _ _).cr_Bill
  | with_reducible exact (by assumption : Tx _ _ _).cv_Bill_MAX_SEATS
  | with_reducible exact (by assumption : Tx _ _ _).cl_Evening
  | with_reducible exact (by assumption : Tx _ _ _).na_Evening_size
  | with_reducible exact (by assumption : Tx _ _ _).na_Evening_parts
  | with_reducible exact (by assumption : Tx _ _ _).cr_Evening
  | with_reducible exact (by assumption : Tx _ _ _).cv_Evening_MAX_BILLS
  | with_reducible exact (by assumption : Tx _ _ _).cl_Course
  | with_reducible exact (by assumption : Tx _ _ _).na_Course_marks
  | with_reducible exact (by assumption : Tx _ _ _).na_Course_rows
  | with_reducible exact (by assumption : Tx _ _ _).na_Course_ring
  | with_reducible exact (by assumption : Tx _ _ _).na_Course_evening
  | with_reducible exact (by assumption : Tx _ _ _).cl_MarkObserver
  | with_reducible exact (by assumption : Tx _ _ _).na_MarkObserver_evening
  | with_reducible exact (by assumption : Tx _ _ _).na_MarkObserver_left
  | with_reducible exact (by assumption : Tx _ _ _).na_MarkObserver_accepted)
section
variable {P : Program} {w : World} {K : PySem.W.Frag} {mg : Str → Option Value} {base : Heap} {A : Ad}
theorem snoc_take {α : Type} {l : List α} {i : Nat} {a : α} (h : l[i]? = some a) : l.take (i + 1) = l.take i ++ [a] := by rw [List.take_add_one, h]; rfl
/-! ### an observer -/
def ofA (n : Int) (bs : List B) (m : Int) (num k : Nat) : Int := (payC (bs.getD (num % bs.length) ⟨0, []⟩) n (lstM (bs.take (num % bs.length)) (mkA bs m (num / bs.length)))).getD k 0
def obsM (A : Ad) (n : Int) (bs : List B) (l : List Int) (p : Addr) : MO := .ins A.c_MarkObserver ["evening", "left", "accepted"] [encE A n bs, .tup (l.map .int), .ref p]
theorem ofA_in {n : Int} {bs : List B} {m : Int} {num : Nat} (hE : EOk n bs) (hb : bs ≠ []) (hm : 0 ≤ m ∧ m < n) : 0 ≤ lstM (bs.take (num % bs.length)) (mkA bs m (num / bs.length)) ∧ lstM (bs.take (num % bs.length)) (mkA bs m (num / bs.length)) < n :=
  lstM_in (fun c hc s hs => by
    have := hE.2.2.2 c (List.mem_of_mem_take hc)
    exact ⟨(this.1.2.2.2.2 s hs).1, this.2 s hs⟩) (mkA_in hE hm _)
def R_vseatx (A : Ad) : DRX := fun ds O Post XP => ∃ n bs m, ds = [encE A n bs, .int m] ∧ (0 ≤ m ∧ m < n → Post .non O) ∧ (¬ (0 ≤ m ∧ m < n) → XP ⟨A.c_UnknownSeat, none⟩ O)
def R_oinitx (A : Ad) : DRX := fun ds O Post XP => ∃ x n bs, ds = [.ref x, encE A n bs] ∧ O x = some (.ins A.c_MarkObserver [] []) ∧ EOk n bs ∧ (bs ≠ [] → ∀ p, p ≠ x → O p = none → Post .non (setO (setO O x (obsM A n bs ((List.range n.toNat).map fun (k : Nat) => (k : Int)) p)) p (.lst []))) ∧ (bs = [] → XP ⟨A.c_InvalidNumber, none⟩ O)
def R_oinit (A : Ad) : DR := fun ds O Post => ∃ x n bs, ds = [.ref x, encE A n bs] ∧ O x = some (.ins A.c_MarkObserver [] []) ∧ EOk n bs ∧ bs ≠ [] ∧ ∀ p, p ≠ x → O p = none → Post .non (setO (setO O x (obsM A n bs ((List.range n.toNat).map fun (k : Nat) => (k : Int)) p)) p (.lst []))
def R_opaid (A : Ad) : DR := fun ds O Post => ∃ x p n bs l m num k, ds = [.ref x, .int m, .int num, .int k] ∧ O x = some (obsM A n bs l p) ∧ EOk n bs ∧ bs ≠ [] ∧ (0 ≤ m ∧ m < n) ∧ (1 ≤ num ∧ num ≤ 1000000000000000000) ∧ (0 ≤ k ∧ k < n) ∧ Post (.int (ofA n bs m (num - 1).toNat k.toNat)) O
def fewA (n : Int) (bs : List B) (l : List Int) (num k : Nat) (c : Int) : List Int := l.filter fun m => ofA n bs m num k == c
def R_oseex (A : Ad) : DRX := fun ds O Post XPost => ∃ x p n bs l rs num k c, ds = [.ref x, .int num, .int k, .int c] ∧ O x = some (obsM A n bs l p) ∧ O p = some (.lst rs) ∧ x ≠ p ∧ EOk n bs ∧ bs ≠ [] ∧ (∀ m ∈ l, 0 ≤ m ∧ m < n) ∧ l.length ≤ 8 ∧ rs.length ≤ 1000 ∧ (¬ (1 ≤ num ∧ num ≤ 1000000000000000000) → XPost ⟨A.c_InvalidNumber, none⟩ O) ∧ (1 ≤ num ∧ num ≤ 1000000000000000000 → ¬ (0 ≤ k ∧ k < n) → XPost ⟨A.c_UnknownSeat, none⟩ O) ∧
  (1 ≤ num ∧ num ≤ 1000000000000000000 → 0 ≤ k ∧ k < n → (fewA n bs l (num - 1).toNat k.toNat c ≠ [] → Post (.int ((fewA n bs l (num - 1).toNat k.toNat c).length : Nat)) (setO (setO O x (obsM A n bs (fewA n bs l (num - 1).toNat k.toNat c) p)) p (.lst (rs ++ [.tup [.int num, .int k, .int c]])))) ∧ (fewA n bs l (num - 1).toNat k.toNat c = [] → XPost ⟨A.c_Contradiction, none⟩ O))
def R_oposs (A : Ad) : DR := fun ds O Post => ∃ x p n bs l, ds = [.ref x] ∧ O x = some (obsM A n bs l p) ∧ Post (.tup (List.map D.int l)) O
def R_orec (A : Ad) : DR := fun ds O Post => ∃ x p n bs l rs, ds = [.ref x] ∧ O x = some (obsM A n bs l p) ∧ O p = some (.lst rs) ∧ ∀ y, O y = none → Post (.ref y) (setO O y (.lst rs))
theorem okx_validate_seat (T : Tx K mg A) : FnR P w K mg base (L2.CX P w) 3 A.f_validate_seat (SpDX K (R_vseatx A)) := by
  obtain ⟨fd, F, hb⟩ := T.F_validate_seat
  refine fnDX F sc_validate_seat hb (fun ds O Post XPost h => by first | (obtain ⟨rfl, _⟩ := h; rfl) | (obtain ⟨_, rfl, _⟩ := h; rfl) | (obtain ⟨_, _, rfl, _⟩ := h; rfl) | (obtain ⟨_, _, _, rfl, _⟩ := h; rfl) | (obtain ⟨_, _, _, _, rfl, _⟩ := h; rfl) | (obtain ⟨_, _, _, _, _, rfl, _⟩ := h; rfl) | (obtain ⟨_, _, _, _, _, _, rfl, _⟩ := h; rfl) | (obtain ⟨_, _, _, _, _, _, _, rfl, _⟩ := h; rfl) | (obtain ⟨_, _, _, _, _, _, _, _, rfl, _⟩ := h; rfl) | (obtain ⟨_, _, _, _, _, _, _, _, _, rfl, _⟩ := h; rfl) | (obtain ⟨_, _, _, _, _, _, _, _, _, _, rfl, _⟩ := h; rfl) | (obtain ⟨_, _, _, _, _, _, _, _, _, _, _, rfl, _⟩ := h; rfl) | (obtain ⟨_, _, _, _, _, _, _, _, _, _, _, _, rfl, _⟩ := h; rfl) | (obtain ⟨_, _, _, _, _, _, _, _, _, _, _, _, _, rfl, _⟩ := h; rfl)) fun cdv A' outer s H E hr => ⟨_, (pss_one (ps_if (pt_not (pt_chain op_le op_lt pe_int (pv 1) (pe_propR (pv 0) T.cl_Evening T.p_Evening_seat_count (ok_Evening_seat_count T) (hr.mono (by decide)) (fun _ _ _ _ z => cx0 z)))) (pss_one (ps_raise rfl (takes_of rfl rfl rfl rfl) (pmk_own PySem.F.excBase_ValueError T.xc_UnknownSeat.made T.g_UnknownSeat T.xc_UnknownSeat.kp (raises_own T.xc_UnknownSeat.sub T.xc_UnknownSeat.ty) rfl))) pss_nil)), fun ds O Post XPost hR => ?_⟩
  obtain ⟨n, bs, m, rfl, hs, hx⟩ := hR
  walk_at "go"
  refine sdx_if (EvT.tox (O1 := O) (b := !(decide (0 ≤ m) && decide (m < n))) (by walk_at "et") ⟨fun e => sdx_raise (hx (fun z => by simp [z.1, z.2] at e)), fun e => Sd.tox (sd_next (hs (by simpa using e)))⟩)
theorem okx_MarkObserver_Dinit (T : Tx K mg A) : FnR P w K mg base (L2.CX P w) 3 A.f_MarkObserver_Dinit (SpDX K (R_oinitx A)) := by
  obtain ⟨fd, F, hb⟩ := T.F_MarkObserver_Dinit
  refine fnDX F sc_MarkObserver_Dinit hb (fun ds O Post XPost h => by first | (obtain ⟨rfl, _⟩ := h; rfl) | (obtain ⟨_, rfl, _⟩ := h; rfl) | (obtain ⟨_, _, rfl, _⟩ := h; rfl) | (obtain ⟨_, _, _, rfl, _⟩ := h; rfl) | (obtain ⟨_, _, _, _, rfl, _⟩ := h; rfl) | (obtain ⟨_, _, _, _, _, rfl, _⟩ := h; rfl) | (obtain ⟨_, _, _, _, _, _, rfl, _⟩ := h; rfl) | (obtain ⟨_, _, _, _, _, _, _, rfl, _⟩ := h; rfl) | (obtain ⟨_, _, _, _, _, _, _, _, rfl, _⟩ := h; rfl) | (obtain ⟨_, _, _, _, _, _, _, _, _, rfl, _⟩ := h; rfl) | (obtain ⟨_, _, _, _, _, _, _, _, _, _, rfl, _⟩ := h; rfl) | (obtain ⟨_, _, _, _, _, _, _, _, _, _, _, rfl, _⟩ := h; rfl) | (obtain ⟨_, _, _, _, _, _, _, _, _, _, _, _, rfl, _⟩ := h; rfl) | (obtain ⟨_, _, _, _, _, _, _, _, _, _, _, _, _, rfl, _⟩ := h; rfl)) fun cdv A' outer s H E hr => ⟨_, (pss_cons (ps_if (pt_cmpR op_eq (pe_callB (call_lenOwn T.d_Evening_Dlen T.df_Evening_Dlen (ok_Evening_Dlen T) (hr.mono (by decide)) passL) (by rfl) T.b_len (by decide +kernel) (pa_cons (pv 1) pa_nil)) pe_int (nomark _)) (pss_one (ps_raise rfl (takes_of rfl rfl rfl rfl) (pmk_own PySem.F.excBase_ValueError T.xc_InvalidNumber.made T.g_InvalidNumber T.xc_InvalidNumber.kp (raises_own T.xc_InvalidNumber.sub T.xc_InvalidNumber.ty) rfl))) pss_nil)
      (pss_cons (ps_fld (pv 0) (pv 1) rfl)
      (pss_cons (ps_fld (pv 0) (pe_tupRg rfl (by rfl) T.b_tuple (prg_1 (by rfl) T.b_range (pe_propR (pv 1) T.cl_Evening T.p_Evening_seat_count (ok_Evening_seat_count T) (hr.mono (by decide)) (fun _ _ _ _ z => cx0 z)))) rfl)
      (pss_one (ps_fld (pv 0) (pe_lst pa_nil) rfl))))), fun ds O Post XPost hR => ?_⟩
  obtain ⟨x, n, bs, rfl, ho, hE, hs, hx⟩ := hR
  have h1 := hE.1
  have h2 := hE.2.1
  have hE3 := hE.2.2.1
  walk_at "go"
  refine sdx_seq (sdx_if (EvT.tox (O1 := O) (b := (bs.length : Int) == 0) (et_test (ev_op (ev_cb (ea_cons (d := encE A n bs) (ev_var rfl) ea_nil) (c_lenOwn (n := (bs.length : Int)) ⟨by omega, by omega⟩ ⟨n, bs, rfl, rfl, rfl⟩)) ev_int (by walk_at "rr"))) ⟨fun e => sdx_raise (hx (List.eq_nil_of_length_eq_zero (by simpa using e))), fun e => Sd.tox (sd_next ?_)⟩))
  have hb : bs ≠ [] := fun z => by rw [z] at e; simp at e
  have hp := hs hb
  refine Sd.tox ?_
  refine sd_seq (sd_fldN (p := x) (d := encE A n bs) (by walk_at "ev") (by walk_at "ev") ho (by walk_at "cls") (by walk_at "cls") (by decide +kernel) (by decide) ?_)
  have erg : rng 0 n.toNat = ((List.range n.toNat).map fun (k : Nat) => (k : Int)).map D.int := by rw [rng0, List.map_map]; rfl
  refine sd_seq (sd_fldN (p := x) (d := .tup (((List.range n.toNat).map fun (k : Nat) => (k : Int)).map D.int)) (O1 := setO O x (.ins A.c_MarkObserver ["evening"] [encE A n bs])) (Ev.is (ev_tupRg (ev_propR (C := A.c_Evening) (nm := ["size", "parts"]) (ds := [.int n, .tup (bs.map (encB A))]) (ev_var rfl) ⟨n, bs, rfl, rfl, rfl⟩) (by omega)) (by rw [erg])) (by walk_at "ev") setO_same (by walk_at "cls") (by walk_at "cls") (by decide +kernel) (by decide) ?_)
  rw [setO_setO]
  refine sd_fldNP (C := A.c_MarkObserver) (p := x) (by walk_at "cls") (by walk_at "cls") (evp_lst ea_nil (by simp) fun p hpn => ?_)
  have hpx : p ≠ x := fun z => by rw [z, setO_same] at hpn; cases hpn
  rw [setO_ne hpx] at hpn
  refine ⟨_, ["evening", "left"], _, ev_var rfl, by rw [setO_ne hpx.symm]; exact setO_same, by decide +kernel, by decide, ?_⟩
  rw [setO_comm hpx, setO_setO]
  exact hp p hpx hpn
theorem ok_MarkObserver_Dinit (T : Tx K mg A) : FnR P w K mg base (L2.CX P w) 3 A.f_MarkObserver_Dinit (SpD K (R_oinit A)) :=
  DL.FnR.calm (okx_MarkObserver_Dinit T) fun ds O Post ⟨x, n, bs, e, h1, h2, h3, hp⟩ => ⟨x, n, bs, e, h1, h2, fun _ => hp, fun z => absurd z h3⟩
theorem ok_MarkObserver_paid (T : Tx K mg A) : FnR P w K mg base (L2.CX P w) 8 A.f_MarkObserver_paid (SpD K (R_opaid A)) := by
  obtain ⟨fd, F, hb⟩ := T.F_MarkObserver_paid
  refine fnD F sc_MarkObserver_paid hb (fun ds O Post h => by first | (obtain ⟨rfl, _⟩ := h; rfl) | (obtain ⟨_, rfl, _⟩ := h; rfl) | (obtain ⟨_, _, rfl, _⟩ := h; rfl) | (obtain ⟨_, _, _, rfl, _⟩ := h; rfl) | (obtain ⟨_, _, _, _, rfl, _⟩ := h; rfl) | (obtain ⟨_, _, _, _, _, rfl, _⟩ := h; rfl) | (obtain ⟨_, _, _, _, _, _, rfl, _⟩ := h; rfl) | (obtain ⟨_, _, _, _, _, _, _, rfl, _⟩ := h; rfl) | (obtain ⟨_, _, _, _, _, _, _, _, rfl, _⟩ := h; rfl) | (obtain ⟨_, _, _, _, _, _, _, _, _, rfl, _⟩ := h; rfl) | (obtain ⟨_, _, _, _, _, _, _, _, _, _, rfl, _⟩ := h; rfl) | (obtain ⟨_, _, _, _, _, _, _, _, _, _, _, rfl, _⟩ := h; rfl) | (obtain ⟨_, _, _, _, _, _, _, _, _, _, _, _, rfl, _⟩ := h; rfl) | (obtain ⟨_, _, _, _, _, _, _, _, _, _, _, _, _, rfl, _⟩ := h; rfl)) fun cdv A' outer s H E hr => ⟨_, PSs.nox (pss_cons (ps_par (by rfl) sc_MarkObserver_paid.nd (i := 4) (j := 5) rfl rfl (by decide) rfl rfl (pa_cons (pe_op op_fdivW (pe_op op_sub (pv 2) pe_int) (pe_callB (call_lenOwn T.d_Evening_Dlen T.df_Evening_Dlen (ok_Evening_Dlen T) (hr.mono (by decide)) passL) (by rfl) T.b_len (by decide +kernel) (pa_cons (pe_fldK K (pv 0)) pa_nil))) (pa_cons (pe_op op_mod (pe_op op_sub (pv 2) pe_int) (pe_callB (call_lenOwn T.d_Evening_Dlen T.df_Evening_Dlen (ok_Evening_Dlen T) (hr.mono (by decide)) passL) (by rfl) T.b_len (by decide +kernel) (pa_cons (pe_fldK K (pv 0)) pa_nil))) pa_nil)) (by rfl))
      (pss_cons (ps_set (i := 6) sc_MarkObserver_paid.nd rfl (Or.inl rfl) (pe_ix (ix_tupK K) (pe_methR (StX.pe_makeR T.mk_Course (ok_Course_Dinit T) (hr.mono (by decide)) rfl T.g_Course passL (pa_cons (pe_fldK K (pv 0)) (pa_cons (pv 1) pa_nil))) T.cl_Course T.m_Course_after (ok_Course_after T) (hr.mono (by decide)) passL (pa_cons (pv 4) pa_nil)) pe_int (fun _ _ => rfl)))
      (pss_cons (ps_for PassesOwn.never rfl (pi_tupK K (pe_slice (sl_tupAK K) (pe_propR (pe_fldK K (pv 0)) T.cl_Evening T.p_Evening_bills (ok_Evening_bills T) (hr.mono (by decide)) (fun _ _ _ _ z => cx0 z)) po_none (po_some (pv 5)))) (pg_name (i := 7) sc_MarkObserver_paid.nd rfl (Or.inl rfl)) (pss_one (ps_set (i := 6) sc_MarkObserver_paid.nd rfl (Or.inl rfl) (pe_ix (ix_tupK K) (pe_run (ok_pay T) (hr.mono (by decide)) T.k_pay T.g_pay passL (pa_cons (pv 7) (pa_cons (pe_propR (pe_fldK K (pv 0)) T.cl_Evening T.p_Evening_seat_count (ok_Evening_seat_count T) (hr.mono (by decide)) (fun _ _ _ _ z => cx0 z)) (pa_cons (pv 6) pa_nil)))) pe_int (fun _ _ => rfl)))))
      (pss_one (ps_ret (pe_ix (ix_listK K) (pe_ix (ix_tupK K) (pe_run (ok_pay T) (hr.mono (by decide)) T.k_pay T.g_pay passL (pa_cons (pe_ixOwn T.d_Evening_Dgetitem T.dk_Evening_Dgetitem T.df_Evening_Dgetitem (ok_Evening_Dgetitem T) (hr.mono (by decide)) passL (pe_fldK K (pv 0)) (pv 5)) (pa_cons (pe_propR (pe_fldK K (pv 0)) T.cl_Evening T.p_Evening_seat_count (ok_Evening_seat_count T) (hr.mono (by decide)) (fun _ _ _ _ z => cx0 z)) (pa_cons (pv 6) pa_nil)))) pe_int (fun _ _ => rfl)) (pv 3) (fun _ _ => rfl))))))), fun ds O Post hR => ?_⟩
  obtain ⟨x, p, n, bs, l, m, num, k, rfl, ho, hE, hb, hm, hnum, hk, hp⟩ := hR
  have h1 := hE.1
  have h2 := hE.2.1
  have hl : bs.length ≠ 0 := fun z => hb (List.eq_nil_of_length_eq_zero z)
  have hE3 := hE.2.2.1
  obtain ⟨N, hN⟩ : ∃ N : Nat, num - 1 = (N : Int) := ⟨(num - 1).toNat, by omega⟩
  rw [hN, Int.toNat_natCast] at hp
  have hev : ∀ {δ : Sl}, δ[0]? = some (some (.ref x)) → Ev K (tFld K (tVar 0) "evening") δ O (encE A n bs) O := fun h => ev_fldO (ev_var h) ho (by walk_at "cls") (by walk_at "cls") rfl
  have hcnt : ∀ {δ : Sl} {E : XK}, δ[0]? = some (some (.ref x)) → Ev K (tPropR A.c_Evening (SpD K (R_count A)) E (tFld K (tVar 0) "evening")) δ O (.int n) O := fun h => ev_propR (C := A.c_Evening) (nm := ["size", "parts"]) (ds := [.int n, .tup (bs.map (encB A))]) (hev h) ⟨n, bs, rfl, rfl, rfl⟩
  have hlen : ∀ {δ : Sl} {E : XK}, δ[0]? = some (some (.ref x)) → Ev K (tCB (rOwnLen A.c_Evening (SpD K (R_elen A)) E) (tCons (tFld K (tVar 0) "evening") tNil)) δ O (.int (bs.length : Int)) O := fun h => ev_cb (ea_cons (d := encE A n bs) (hev h) ea_nil) (c_lenOwn (n := (bs.length : Int)) ⟨by omega, by omega⟩ ⟨n, bs, rfl, rfl, rfl⟩)
  walk_at "go"
  have hlt : N % bs.length < bs.length := Nat.mod_lt _ (by omega)
  have hdv : N / bs.length ≤ N := Nat.div_le_self _ _
  have hT : (0 : Int) ≤ ((N / bs.length : Nat) : Int) ∧ ((N / bs.length : Nat) : Int) ≤ 1000000000000000000 := ⟨Int.natCast_nonneg _, Int.le_trans (Int.ofNat_le.mpr hdv) (by omega)⟩
  refine sd_seq (sd_par (a := .int ((N / bs.length : Nat) : Int)) (b := .int ((N % bs.length : Nat) : Int)) (O1 := O) (ea_cons (O1 := O) (Ev.is (d := .int ((num - 1) / (bs.length : Int))) (ev_op (by walk_at "ev") (hlen rfl) (r_intC (cdivw (by omega) (by omega)))) (by rw [hN]; rfl)) (ea_cons (O1 := O) (Ev.is (d := .int ((num - 1) % (bs.length : Int))) (ev_op (by walk_at "ev") (hlen rfl) (r_intC (cmodp (i := num - 1) (by omega)))) (by rw [hN]; rfl)) ea_nil)) ?_)
  walk_at "sl"
  refine sd_seq (sd_asg (d := .int (mkA bs m (N / bs.length))) (O1 := O) (ev_op (x := .tup [encS A (smA n bs m (N / bs.length)), .int (mkA bs m (N / bs.length))]) (O1 := O) (EvP.ev (evp_methP (evp_mkI (ds := [encE A n bs, .int m]) (O1 := O) (ea_cons (hev rfl) (by walk_at "ea")) fun y hy => ⟨y, n, bs, m, rfl, setO_same, hE, hm, fun L r hc => ⟨rfl, _, _, setO_setO, _, _, [.int ((N / bs.length : Nat) : Int)], O, rfl, by decide +kernel, by walk_at "ea", n, bs, m, L, r, _, rfl, hE, hc, hT, ⟨?_, rfl⟩⟩⟩))) ev_int (r_ixT atI1)) ?_)
  · rw [Int.toNat_natCast]
  walk_at "sl"
  refine sd_seq (sd_for (O1 := O) (items := (bs.take (N % bs.length)).map (encB A)) (ei_tup (Ev.is (d := .tup (DL.cutD (bs.map (encB A)) none (some ((N % bs.length : Nat) : Int)))) (ev_slT (ev_propR (C := A.c_Evening) (nm := ["size", "parts"]) (ds := [.int n, .tup (bs.map (encB A))]) (hev rfl) ⟨n, bs, rfl, rfl, rfl⟩) eo_none (eo_some (ev_var rfl))) (by rw [cutD_take (by omega), Int.toNat_natCast, List.map_take]))) (fun i δ' O' => O' = O ∧ ∃ c7, δ' = [some (.ref x), some (.int m), some (.int num), some (.int k), some (.int ((N / bs.length : Nat) : Int)), some (.int ((N % bs.length : Nat) : Int)), some (.int (lstM ((bs.take (N % bs.length)).take i) (mkA bs m (N / bs.length)))), c7]) ⟨rfl, none, by simp [lstM]⟩ (fun i d δ' O' hd hI => ?_) (fun δ' O' hI => ?_))
  · obtain ⟨hO', c7, rfl⟩ := hI
    rw [hO']
    rw [List.getElem?_map] at hd
    cases q : (bs.take (N % bs.length))[i]? with
    | none => rw [q] at hd; cases hd
    | some b =>
      rw [q] at hd; cases hd
      have hbo := (hE.2.2.2 b (List.mem_of_mem_take (List.mem_of_getElem? q))).1
      show Gd K _ (encB A b) _ _ _
      refine gd_name ?_
      walk_at "sl"
      rw [snoc_take q, lst_snoc]
      refine sd_asg (O1 := O) (ev_op (x := .tup [.lst ((payC b n (lstM ((bs.take (N % bs.length)).take i) (mkA bs m (N / bs.length)))).map .int), .int (payM b (lstM ((bs.take (N % bs.length)).take i) (mkA bs m (N / bs.length))))]) (O1 := O) (ev_run (ds := [encB A b, .int n, .int (lstM ((bs.take (N % bs.length)).take i) (mkA bs m (N / bs.length)))]) (O1 := O) (ea_cons (ev_var rfl) (ea_cons (hcnt rfl) (ea_cons (ev_var rfl) ea_nil))) ⟨b, n, _, rfl, hbo, by omega, rfl, rfl⟩) ev_int (r_ixT atI1)) ⟨rfl, _, rfl⟩
  · obtain ⟨hO', c7, rfl⟩ := hI
    rw [hO', List.length_map, List.take_of_length_le (Nat.le_refl _)]
    have hbk : bs[N % bs.length]? = some (bs.getD (N % bs.length) ⟨0, []⟩) := by rw [List.getD_eq_getElem?_getD, List.getElem?_eq_getElem hlt]; rfl
    unfold ofA at hp
    generalize bs.getD (N % bs.length) ⟨0, []⟩ = b at *
    have hbo := (hE.2.2.2 b (List.mem_of_getElem? hbk)).1
    generalize lstM (bs.take (N % bs.length)) (mkA bs m (N / bs.length)) = pl at *
    refine sd_ret (O1 := O) (ev_op (O1 := O) (ev_op (x := .tup [.lst ((payC b n pl).map .int), .int (payM b pl)]) (O1 := O) (ev_run (ds := [encB A b, .int n, .int pl]) (O1 := O) (ea_cons (ev_ownX (C := A.c_Evening) (nm := ["size", "parts"]) (hev rfl) (ev_var rfl) ⟨n, bs, _, b, rfl, ⟨by omega, by rw [Int.toNat_natCast]; exact hbk⟩, rfl, rfl⟩) (ea_cons (hcnt rfl) (ea_cons (ev_var rfl) ea_nil))) ⟨b, n, _, rfl, hbo, by omega, rfl, rfl⟩) ev_int (r_ixT atI0)) (ev_var rfl) (r_ixL (d := .int ((payC b n pl).getD k.toNat 0)) ?_)) hp
    exact atI_of (k := k.toNat) (by omega) (by rw [List.getElem?_map, List.getD_eq_getElem?_getD, List.getElem?_eq_getElem (by rw [payC_len]; omega)]; rfl)
theorem ok_MarkObserver_possible_marks (T : Tx K mg A) : FnR P w K mg base (L2.CX P w) 1 A.f_MarkObserver_possible_marks (SpD K (R_oposs A)) := by
  obtain ⟨fd, F, hb⟩ := T.F_MarkObserver_possible_marks
  refine fnD F sc_MarkObserver_possible_marks hb (fun ds O Post h => by first | (obtain ⟨rfl, _⟩ := h; rfl) | (obtain ⟨_, rfl, _⟩ := h; rfl) | (obtain ⟨_, _, rfl, _⟩ := h; rfl) | (obtain ⟨_, _, _, rfl, _⟩ := h; rfl) | (obtain ⟨_, _, _, _, rfl, _⟩ := h; rfl) | (obtain ⟨_, _, _, _, _, rfl, _⟩ := h; rfl) | (obtain ⟨_, _, _, _, _, _, rfl, _⟩ := h; rfl) | (obtain ⟨_, _, _, _, _, _, _, rfl, _⟩ := h; rfl) | (obtain ⟨_, _, _, _, _, _, _, _, rfl, _⟩ := h; rfl) | (obtain ⟨_, _, _, _, _, _, _, _, _, rfl, _⟩ := h; rfl) | (obtain ⟨_, _, _, _, _, _, _, _, _, _, rfl, _⟩ := h; rfl) | (obtain ⟨_, _, _, _, _, _, _, _, _, _, _, rfl, _⟩ := h; rfl) | (obtain ⟨_, _, _, _, _, _, _, _, _, _, _, _, rfl, _⟩ := h; rfl) | (obtain ⟨_, _, _, _, _, _, _, _, _, _, _, _, _, rfl, _⟩ := h; rfl)) fun cdv A' outer s H E hr => ⟨_, PSs.nox (pss_one (ps_ret (pe_fldK K (pv 0)))), fun ds O Post hR => ?_⟩
  obtain ⟨x, p, n, bs, l, rfl, ho, hp⟩ := hR
  walk_at "go"
  exact sd_ret (O1 := O) (ev_fldO (ev_var rfl) ho (by walk_at "cls") (by walk_at "cls") rfl) hp
theorem ok_MarkObserver_records (T : Tx K mg A) : FnR P w K mg base (L2.CX P w) 1 A.f_MarkObserver_records (SpD K (R_orec A)) := by
  obtain ⟨fd, F, hb⟩ := T.F_MarkObserver_records
  refine fnD F sc_MarkObserver_records hb (fun ds O Post h => by first | (obtain ⟨rfl, _⟩ := h; rfl) | (obtain ⟨_, rfl, _⟩ := h; rfl) | (obtain ⟨_, _, rfl, _⟩ := h; rfl) | (obtain ⟨_, _, _, rfl, _⟩ := h; rfl) | (obtain ⟨_, _, _, _, rfl, _⟩ := h; rfl) | (obtain ⟨_, _, _, _, _, rfl, _⟩ := h; rfl) | (obtain ⟨_, _, _, _, _, _, rfl, _⟩ := h; rfl) | (obtain ⟨_, _, _, _, _, _, _, rfl, _⟩ := h; rfl) | (obtain ⟨_, _, _, _, _, _, _, _, rfl, _⟩ := h; rfl) | (obtain ⟨_, _, _, _, _, _, _, _, _, rfl, _⟩ := h; rfl) | (obtain ⟨_, _, _, _, _, _, _, _, _, _, rfl, _⟩ := h; rfl) | (obtain ⟨_, _, _, _, _, _, _, _, _, _, _, rfl, _⟩ := h; rfl) | (obtain ⟨_, _, _, _, _, _, _, _, _, _, _, _, rfl, _⟩ := h; rfl) | (obtain ⟨_, _, _, _, _, _, _, _, _, _, _, _, _, rfl, _⟩ := h; rfl)) fun cdv A' outer s H E hr => ⟨_, PSs.nox (pss_one (ps_ret (pe_callTy (call_listK K) (by rfl) T.b_list (by decide +kernel) (pa_cons (pe_fldK K (pv 0)) pa_nil)))), fun ds O Post hR => ?_⟩
  obtain ⟨x, p, n, bs, l, rs, rfl, ho, hop, hp⟩ := hR
  walk_at "go"
  exact sd_retP (evp_listLs (ev_fldO (ev_var rfl) ho (by walk_at "cls") (by walk_at "cls") rfl) (.own hop) hp)
theorem okx_MarkObserver_see (T : Tx K mg A) : FnR P w K mg base (L2.CX P w) 9 A.f_MarkObserver_see (SpDX K (R_oseex A)) := by
  obtain ⟨fd, F, hb⟩ := T.F_MarkObserver_see
  refine fnDX F sc_MarkObserver_see hb (fun ds O Post XPost h => by first | (obtain ⟨rfl, _⟩ := h; rfl) | (obtain ⟨_, rfl, _⟩ := h; rfl) | (obtain ⟨_, _, rfl, _⟩ := h; rfl) | (obtain ⟨_, _, _, rfl, _⟩ := h; rfl) | (obtain ⟨_, _, _, _, rfl, _⟩ := h; rfl) | (obtain ⟨_, _, _, _, _, rfl, _⟩ := h; rfl) | (obtain ⟨_, _, _, _, _, _, rfl, _⟩ := h; rfl) | (obtain ⟨_, _, _, _, _, _, _, rfl, _⟩ := h; rfl) | (obtain ⟨_, _, _, _, _, _, _, _, rfl, _⟩ := h; rfl) | (obtain ⟨_, _, _, _, _, _, _, _, _, rfl, _⟩ := h; rfl) | (obtain ⟨_, _, _, _, _, _, _, _, _, _, rfl, _⟩ := h; rfl) | (obtain ⟨_, _, _, _, _, _, _, _, _, _, _, rfl, _⟩ := h; rfl) | (obtain ⟨_, _, _, _, _, _, _, _, _, _, _, _, rfl, _⟩ := h; rfl) | (obtain ⟨_, _, _, _, _, _, _, _, _, _, _, _, _, rfl, _⟩ := h; rfl)) fun cdv A' outer s H E hr => ⟨_, (pss_cons (ps_if (pt_not (pt_chain op_le op_le pe_int (pv 1) (pe_glob (v := .int 1000000000000000000) rfl T.g_MAX_TIMES ⟨_, rfl⟩))) (pss_one (ps_raise rfl (takes_of rfl rfl rfl rfl) (pmk_own PySem.F.excBase_ValueError T.xc_InvalidNumber.made T.g_InvalidNumber T.xc_InvalidNumber.kp (raises_own T.xc_InvalidNumber.sub T.xc_InvalidNumber.ty) rfl))) pss_nil)
      (pss_cons (ps_expr (pe_run (okx_validate_seat T) (hr.mono (by decide)) T.k_validate_seat T.g_validate_seat (passes_call (takes_of rfl rfl rfl rfl) (fun _ _ _ _ h => h)) (pa_cons (pe_fldK K (pv 0)) (pa_cons (pv 2) pa_nil))))
      (pss_cons (ps_set (i := 4) sc_MarkObserver_see.nd rfl (Or.inl rfl) (pe_callTy (call_tupleK K) (by rfl) T.b_tuple (by decide +kernel) (pa_cons (pe_lc (own := [("mark", 5)]) rfl sc_MarkObserver_see.nd (pi_tupK K (pe_fldK K (pv 0))) (blkOk_by (N := N_MarkObserver_see) (sc := defScope s_MarkObserver_see) (by decide +kernel)) (fun _ _ _ _ _ => (pg_name (i := 5) sc_MarkObserver_see.nd rfl (by first | exact Or.inl rfl | exact Or.inr rfl))) (fun _ _ _ _ _ => (pts_one (pt_cmpR op_eq (pe_methR (pv 0) T.cl_MarkObserver T.m_MarkObserver_paid (ok_MarkObserver_paid T) (hr.mono (by decide)) passL (pa_cons (pv 5) (pa_cons (pv 1) (pa_cons (pv 2) pa_nil)))) (pv 3) (nomark _)))) (fun _ _ _ _ _ => (pv 5))) pa_nil)))
      (pss_cons (ps_if (pt_cmpR (op_eqDK K hr.units) (pv 4) (pe_tup pa_nil) (nomark _)) (pss_one (ps_raise rfl (takes_of rfl rfl rfl rfl) (pmk_own PySem.F.excBase_ValueError T.xc_Contradiction.made T.g_Contradiction T.xc_Contradiction.kp (raises_own T.xc_Contradiction.sub T.xc_Contradiction.ty) rfl))) pss_nil)
      (pss_cons (ps_fld (pv 0) (pv 4) rfl)
      (pss_cons (ps_expr (pe_bm PySem.F.plainAttrs_list PySem.F.slot_list_append PySem.F.type_list_append mt_append (pe_fldK K (pv 0)) (pa_cons (pe_tup (pa_cons (pv 1) (pa_cons (pv 2) (pa_cons (pv 3) pa_nil)))) pa_nil)))
      (pss_one (ps_ret (pe_callB (call_lenK K) (by rfl) T.b_len (by decide +kernel) (pa_cons (pv 4) pa_nil)))))))))), fun ds O Post XPost hR => ?_⟩
  obtain ⟨x, p, n, bs, l, rs, num, k, c, rfl, ho, hop, hxp, hE, hb, hl, hl8, hrs, hx1, hx2, hs⟩ := hR
  have hev : ∀ {δ : Sl}, δ[0]? = some (some (.ref x)) → Ev K (tFld K (tVar 0) "evening") δ O (encE A n bs) O := fun h => ev_fldO (ev_var h) ho (by walk_at "cls") (by walk_at "cls") rfl
  walk_at "go"
  refine sdx_seq (sdx_if (EvT.tox (O1 := O) (b := !(decide (1 ≤ num) && decide (num ≤ 1000000000000000000))) (by walk_at "et") ⟨fun e => sdx_raise (hx1 (fun z => by simp [z.1, z.2] at e)), fun e => Sd.tox (sd_next ?_)⟩))
  have hnum : 1 ≤ num ∧ num ≤ 1000000000000000000 := by simpa using e
  refine sdx_seq (sdx_dropP (evx_run (ds := [encE A n bs, .int k]) (O1 := O) (fun _ _ _ _ h => h) (ea_cons (hev rfl) (by walk_at "ea")) ⟨n, bs, k, rfl, fun hk => ?_, fun nk => hx2 hnum nk⟩))
  obtain ⟨hp, hx⟩ := hs hnum hk
  dsimp only
  refine sdx_seq (Sd.tox (sd_asg (d := .tup ((fewA n bs l (num - 1).toNat k.toNat c).map D.int)) (O1 := O) (ev_cb (ea_cons (d := .lst ((fewA n bs l (num - 1).toNat k.toNat c).map D.int)) ?_ ea_nil) c_tupL) ?_))
  · unfold fewA
    refine ev_lc (items := l.map D.int) (ei_tup (ev_fldO (ev_var rfl) ho (by walk_at "cls") (by walk_at "cls") rfl)) (cp_filter l D.int D.int (fun m => [some (.ref x), some (.int num), some (.int k), some (.int c), none, some (.int m)]) _ fun m hm => ⟨gc_name (by decide), ?_, fun _ => ev_var rfl⟩) (by simp; omega)
    exact et_test (ev_op (EvP.ev (evp_methO (p := x) (nm := ["evening", "left", "accepted"]) (es := [.int m, .int num, .int k]) (ev_var rfl) ho (by decide +kernel) (by walk_at "ea") ⟨x, p, n, bs, l, m, num, k, rfl, ho, hE, hb, hl m hm, hnum, hk, rfl, rfl⟩)) (ev_var rfl) (by walk_at "rr"))
  walk_at "sl"
  have hfl : (fewA n bs l (num - 1).toNat k.toNat c).length ≤ 8 := Nat.le_trans (List.length_filter_le _ _) hl8
  generalize fewA n bs l (num - 1).toNat k.toNat c = fw at *
  have hte : EvT K (tTest (tOp (rEqD K) (tVar 4) (tTup tNil))) [some (D.ref x), some (.int num), some (.int k), some (.int c), some (.tup (fw.map D.int)), none] O (fw.isEmpty) O := EvT.is (by walk_at "et") (by rw [eqD_nilT]; cases fw <;> rfl)
  refine sdx_seq (sdx_if (hte.tox ⟨fun e => sdx_raise (hx (by simpa using e)), fun e => Sd.tox (sd_next ?_)⟩))
  have hne : fw ≠ [] := fun z => by rw [z] at e; cases e
  refine Sd.tox ?_
  refine sd_seq (sd_fldS (p := x) (j := 1) (d := .tup (fw.map D.int)) (by walk_at "ev") (by walk_at "ev") ho (by walk_at "cls") (by walk_at "cls") rfl (by decide +kernel) (by decide) ?_)
  have hop2 : ∀ {m}, setO O x m p = some (.lst rs) := by intro m; rw [setO_ne hxp.symm]; exact hop
  show Sd K _ _ _ (setO O x (obsM A n bs fw p))
  refine sd_seq (sd_app (l := p) (d := .tup [.int num, .int k, .int c]) (O2 := setO O x (obsM A n bs fw p)) (ev_fldO (C := A.c_MarkObserver) (nm := ["evening", "left", "accepted"]) (ds := [encE A n bs, .tup (fw.map .int), .ref p]) (ev_var rfl) setO_same (by walk_at "cls") (by walk_at "cls") rfl) hop2 (by walk_at "ev") hop2 (by omega) ?_)
  refine sd_ret (d := .int (fw.length : Nat)) (O1 := setO (setO O x (obsM A n bs fw p)) p (.lst (rs ++ [.tup [.int num, .int k, .int c]]))) (Ev.is (d := .int ((fw.map D.int).length : Int)) (by walk_at "ev") (by simp)) (hp hne)
end
end Law

set_option Elab.async false
set_option linter.all false
set_option maxRecDepth 100000
set_option maxHeartbeats 4000000
namespace Law
open PySem PySem.Spec L2 DL
open PyProof.Rows hiding St
local macro_rules | `(tactic| walk_at "sl") => `(tactic| try dsimp only [startD, List.map, List.length_cons, List.length_nil, List.replicate, List.cons_append, List.nil_append, List.set_cons_zero, List.set_cons_succ, Nat.reduceSub, Nat.reduceAdd, wipeD])
local macro_rules | `(tactic| walk_at "go") => `(tactic| ((try dsimp only [cxOf, Cx.nox, Cx.wish, Cx.blk]); walk_at "sl"; walk_at "sl"))
local macro_rules | `(tactic| walk_at "own") => `(tactic| first | assumption | exact setO_same | (rw [setO_ne (by first | assumption | exact Ne.symm (by assumption))]; assumption) | (rw [setO_ne (by first | assumption | exact Ne.symm (by assumption))]; exact setO_same))
local macro_rules | `(tactic| walk_at "side") => `(tactic| first
  | assumption | rfl | exact flat_ints _ | exact atI0 | exact atI1 | exact atI2 | exact atI3 | decide | omega | (simp; done)
  | (refine cmodp ?_; omega) | (refine cdivw ?_ ?_ <;> omega) | (refine cmul_l ?_ ?_ <;> omega) | (refine cmul_r ?_ ?_ <;> omega) | (refine cpow ?_ ?_ ?_ <;> decide))
local macro_rules | `(tactic| walk_at "rr") => `(tactic| first
  | with_reducible exact r_int | with_reducible exact r_bl | with_reducible exact r_eqI | with_reducible exact r_neI | with_reducible exact r_eqB | with_reducible exact r_neB | with_reducible exact r_eqS | with_reducible exact r_neS
  | ((with_reducible apply r_intC); walk_at "side")
  | ((with_reducible apply r_ixL); walk_at "side") | ((with_reducible apply r_ixT); walk_at "side") | ((with_reducible apply r_ixS); walk_at "side") | ((with_reducible apply r_ixO); (focus walk_at "own"); (focus walk_at "side"))
  | ((with_reducible apply r_inT0) <;> walk_at "side") | ((with_reducible apply r_inL0) <;> walk_at "side") | ((with_reducible apply r_inT1) <;> walk_at "side") | ((with_reducible apply r_inL1) <;> walk_at "side")
  | ((with_reducible apply r_inO0); (focus walk_at "own"); (focus walk_at "side"); (focus walk_at "side")) | ((with_reducible apply r_inO1); (focus walk_at "own"); (focus walk_at "side"); (focus walk_at "side"))
  | ((with_reducible apply r_rep) <;> walk_at "side") | ((with_reducible apply r_cat) <;> walk_at "side")
  | ((with_reducible apply r_catA) <;> walk_at "side") | ((with_reducible apply r_catO); (focus walk_at "own"); (focus walk_at "side"))
  | ((with_reducible apply r_addS); (focus walk_at "side")) | with_reducible exact r_isN _ rfl | with_reducible exact r_notN _ rfl
  | ((with_reducible apply r_eqP); (focus walk_at "pl"); (focus walk_at "pl"); (focus decide); (focus decide)) | ((with_reducible apply r_neP); (focus walk_at "pl"); (focus walk_at "pl"); (focus decide); (focus decide)))
local macro_rules | `(tactic| walk_at "pl") => `(tactic| first | exact Pl.ints _ | exact Pl.intsL _ | exact Pl.nilT | exact Pl.nilL | exact Pl.int (n := 0) | assumption)
local macro_rules | `(tactic| walk_at "cc") => `(tactic| first
  | with_reducible exact c_lenL | with_reducible exact c_lenT | with_reducible exact c_lenS | ((with_reducible apply c_lenO); walk_at "own")
  | with_reducible exact c_listL | with_reducible exact c_listT | with_reducible exact c_tupL | with_reducible exact c_sum | with_reducible exact c_intB | with_reducible exact c_int1
  | with_reducible exact c_max2 | ((with_reducible apply c_strI); (focus walk_at "side")) | ((with_reducible apply c_lenStr); (focus walk_at "side"))
  | ((with_reducible apply c_isi); (focus rfl); (focus (first | decide +kernel | rfl))) | ((with_reducible apply c_isi2); (focus rfl); (focus (first | decide +kernel | rfl)); (focus (first | decide +kernel | rfl))))
local macro_rules | `(tactic| walk_at "ea") => `(tactic| first
  | with_reducible exact ea_nil
  | ((with_reducible apply ea_cons); (focus walk_at "ev"); (focus walk_at "ea"))
  | ((with_reducible apply ea_starT); (focus walk_at "ev"); (focus walk_at "ea")) | ((with_reducible apply ea_starL); (focus walk_at "ev"); (focus walk_at "ea")))
local macro_rules | `(tactic| walk_at "ev") => `(tactic| first
  | exact ev_var rfl | with_reducible exact ev_int | with_reducible exact ev_bl | with_reducible exact ev_str | with_reducible exact ev_non | with_reducible exact ev_ty | with_reducible exact ev_ref
  | ((with_reducible apply ev_op); (focus walk_at "ev"); (focus walk_at "ev"); (focus walk_at "rr"))
  | ((with_reducible apply ev_cb); (focus walk_at "ea"); (focus walk_at "cc"))
  | ((with_reducible apply ev_neg); (focus walk_at "ev"))
  | ((with_reducible apply ev_tup); (focus walk_at "ea"); (focus walk_at "side"))
  | ((with_reducible apply ev_lst); (focus walk_at "ea"); (focus walk_at "side"))
  | ((with_reducible apply ev_notV); (focus walk_at "ev"))
  | ((with_reducible apply ev_chain); (focus walk_at "ev"); (focus walk_at "ev"); (focus walk_at "rr"); (focus (intro _; walk_at "ev")); (focus (intro _; walk_at "rr")))
  | walk_at "evx")
local macro_rules | `(tactic| walk_at "et") => `(tactic| first
  | ((with_reducible apply et_test); walk_at "ev") | ((with_reducible apply et_B); walk_at "ev") | with_reducible exact et_yes
  | ((with_reducible apply et_not); walk_at "et")
  | ((with_reducible apply et_and); (focus walk_at "et"); (focus (intro _; walk_at "et")))
  | ((with_reducible apply et_or); (focus walk_at "et"); (focus (intro _; walk_at "et"))))
local macro_rules | `(tactic| walk_at "s1") => `(tactic| first
  | ((with_reducible apply sd_asg); (focus walk_at "ev"); walk_at "sl")
  | ((with_reducible apply sd_par); (focus walk_at "ea"); walk_at "sl")
  | ((with_reducible apply sd_setL); (focus walk_at "ev"); (focus walk_at "ev"); (focus walk_at "ev"); (focus walk_at "own"); (focus (first | exact ixN_of (k := 0) rfl (by simp) | exact ixN_of (k := 1) rfl (by simp) | exact ixN_of (k := 2) rfl (by simp) | exact ixN_of (k := 3) rfl (by simp) | assumption)); walk_at "sl")
  | ((with_reducible apply sd_app); (focus walk_at "ev"); (focus walk_at "own"); (focus walk_at "ev"); (focus walk_at "own"); (focus walk_at "side"); walk_at "sl")
  | ((with_reducible apply sd_ret); (focus walk_at "ev"))
  | with_reducible apply sd_next)
local macro_rules | `(tactic| walk_at "st") => `(tactic| first | ((with_reducible apply sd_seq); walk_at "s1") | walk_at "s1")
local macro_rules | `(tactic| walk_at "R") => `(tactic| first
  | exact ⟨_, rfl, rfl, rfl⟩ | exact ⟨_, _, rfl, rfl, rfl⟩ | exact ⟨_, _, _, rfl, rfl, rfl⟩ | exact ⟨_, _, _, _, rfl, rfl, rfl⟩
  | exact ⟨_, rfl, by assumption, rfl, rfl⟩ | exact ⟨_, _, rfl, by assumption, rfl, rfl⟩ | exact ⟨_, _, _, rfl, by assumption, rfl, rfl⟩ | exact ⟨_, _, _, _, rfl, by assumption, rfl, rfl⟩
  | exact ⟨_, _, rfl, by assumption, by assumption, rfl, rfl⟩ | exact ⟨_, _, _, rfl, by assumption, by assumption, rfl, rfl⟩ | exact ⟨_, _, _, _, rfl, by assumption, by assumption, rfl, rfl⟩)
local macro_rules | `(tactic| walk_at "evx") => `(tactic| first
  | ((with_reducible apply ev_run); (focus walk_at "ea"); walk_at "R")
  | ((with_reducible apply ev_propR); (focus walk_at "ev"); walk_at "R")
  | ((with_reducible apply ev_fld); (focus walk_at "ev"); (focus walk_at "cls"); (focus walk_at "cls"); (focus rfl))
  | ((with_reducible apply ev_ownIn0); (focus walk_at "ev"); (focus walk_at "ev"); walk_at "R")
  | ((with_reducible apply ev_slL); (focus walk_at "ev"); (focus walk_at "eo"); (focus walk_at "eo"))
  | ((with_reducible apply ev_slT); (focus walk_at "ev"); (focus walk_at "eo"); (focus walk_at "eo"))
  | ((with_reducible apply ev_cvalI); (focus walk_at "ev"); (focus walk_at "cls"); (focus walk_at "cls")))
local macro_rules | `(tactic| walk_at "eo") => `(tactic| first | with_reducible exact eo_none | ((with_reducible apply eo_some); walk_at "ev"))
local macro_rules | `(tactic| walk_at "cls") => `(tactic| first
  | with_reducible exact (by assumption : Tx _ _ _).cl_Shares
  | with_reducible exact (by assumption : Tx _ _ _).na_Shares_amounts
  | with_reducible exact (by assumption : Tx _ _ _).cl_Bill
  | with_reducible exact (by assumption : Tx _ _ _).na_Bill_total
  | with_reducible exact (by assumption : Tx _ _ _).na_Bill_there
  | with_reducible exact (by assumption : Tx _ _ _).cr_Bill
  | with_reducible exact (by assumption : Tx _ _ _).cv_Bill_MAX_SEATS
  | with_reducible exact (by assumption : Tx _ _ _).cl_Evening
  | with_reducible exact (by assumption : Tx _ _ _).na_Evening_size
  | with_reducible exact (by assumption : Tx _ _ _).na_Evening_parts
  | with_reducible exact (by assumption : Tx _ _ _).cr_Evening
  | with_reducible exact (by assumption : Tx _ _ _).cv_Evening_MAX_BILLS
  | with_reducible exact (by assumption : Tx _ _ _).cl_Course
  | with_reducible exact (by assumption : Tx _ _ _).na_Course_marks
  | with_reducible exact (by assumption : Tx _ _ _).na_Course_rows
  | with_reducible exact (by assumption : Tx _ _ _).na_Course_ring
  | with_reducible exact (by assumption : Tx _ _ _).na_Course_evening
  | with_reducible exact (by assumption : Tx _ _ _).cl_MarkObserver
  | with_reducible exact (by assumption : Tx _ _ _).na_MarkObserver_evening
  | with_reducible exact (by assumption : Tx _ _ _).na_MarkObserver_left
  | with_reducible exact (by assumption : Tx _ _ _).na_MarkObserver_accepted)
section
variable {P : Program} {w : World} {K : PySem.W.Frag} {mg : Str → Option Value} {base : Heap} {A : Ad}
def xO (A : Ad) (Post : D → Ow → Prop) : XD → Ow → Prop := fun x O' => (x.cls = A.c_Contradiction ∧ Post (.tup [.str "Contradiction"]) O') ∨ (x.cls = A.c_InvalidNumber ∧ Post (.tup [.str "InvalidNumber"]) O') ∨ (x.cls = A.c_UnknownSeat ∧ Post (.tup [.str "UnknownSeat"]) O')
def R_out (A : Ad) (P : Program) (w : World) (K : PySem.W.Frag) (mg : Str → Option Value) (base : Heap) : DR := fun ds O Post => ∃ R, ds = [actD P w K mg base 10 R] ∧ R O Post (xO A Post)
theorem ok_law_outcome (T : Tx K mg A) : FnR P w K mg base (L2.CX P w) 11 A.f_law_outcome (SpD K (R_out A P w K mg base)) := by
  obtain ⟨fd, F, hb⟩ := T.F_law_outcome
  refine fnD F sc_law_outcome hb (fun ds O Post h => by first | (obtain ⟨rfl, _⟩ := h; rfl) | (obtain ⟨_, rfl, _⟩ := h; rfl) | (obtain ⟨_, _, rfl, _⟩ := h; rfl) | (obtain ⟨_, _, _, rfl, _⟩ := h; rfl) | (obtain ⟨_, _, _, _, rfl, _⟩ := h; rfl) | (obtain ⟨_, _, _, _, _, rfl, _⟩ := h; rfl) | (obtain ⟨_, _, _, _, _, _, rfl, _⟩ := h; rfl) | (obtain ⟨_, _, _, _, _, _, _, rfl, _⟩ := h; rfl) | (obtain ⟨_, _, _, _, _, _, _, _, rfl, _⟩ := h; rfl) | (obtain ⟨_, _, _, _, _, _, _, _, _, rfl, _⟩ := h; rfl) | (obtain ⟨_, _, _, _, _, _, _, _, _, _, rfl, _⟩ := h; rfl) | (obtain ⟨_, _, _, _, _, _, _, _, _, _, _, rfl, _⟩ := h; rfl) | (obtain ⟨_, _, _, _, _, _, _, _, _, _, _, _, rfl, _⟩ := h; rfl) | (obtain ⟨_, _, _, _, _, _, _, _, _, _, _, _, _, rfl, _⟩ := h; rfl)) fun cdv A' outer s H E hr => ⟨_, PSs.nox (pss_one (ps_tryM K rfl rfl takes0 (fun W pn xe tk po => (pss_one (ps_ret (pe_act P w K mg base (i := 0) (k := 10) (hr.mono (by decide)) tk)))) (.cons ⟨rfl, by decide, .inl T.g_Contradiction⟩ (fun a oe cls d pn _ _ => (pss_one (ps_ret (pe_tup (pa_cons pe_str pa_nil))))) (.cons ⟨rfl, by decide, .inl T.g_InvalidNumber⟩ (fun a oe cls d pn _ _ => (pss_one (ps_ret (pe_tup (pa_cons pe_str pa_nil))))) (.cons ⟨rfl, by decide, .inl T.g_UnknownSeat⟩ (fun a oe cls d pn _ _ => (pss_one (ps_ret (pe_tup (pa_cons pe_str pa_nil))))) .nil))))), fun ds O Post hR => ?_⟩
  obtain ⟨R, rfl, hR⟩ := hR
  walk_at "go"
  refine sd_tryMany (XP := fun _ => xO A Post) (fun W => sdx_retP (evx_act rfl hR)) (fun δ' x O' hX => ?_)
  rcases hX with ⟨h1, h2⟩ | ⟨h1, h2⟩ | ⟨h1, h2⟩
  · rw [h1]
    exact ⟨_, .here T.xe_Contradiction_Contradiction, fun a d => sd_ret (O1 := O') (by walk_at "ev") h2⟩
  · rw [h1]
    exact ⟨_, .next T.xe_InvalidNumber_Contradiction (.here T.xe_InvalidNumber_InvalidNumber), fun a d => sd_ret (O1 := O') (by walk_at "ev") h2⟩
  · rw [h1]
    exact ⟨_, .next T.xe_UnknownSeat_Contradiction (.next T.xe_UnknownSeat_InvalidNumber (.here T.xe_UnknownSeat_UnknownSeat)), fun a d => sd_ret (O1 := O') (by walk_at "ev") h2⟩
def R_lcts (A : Ad) : DR := fun ds O Post => ∃ n bs m num, ds = [encE A n bs, .int n, .lst (List.map encR bs), .int m, .int num] ∧ EOk n bs ∧ bs ≠ [] ∧ (0 ≤ m ∧ m < n) ∧ (1 ≤ num ∧ num ≤ 1000000000000000000) ∧ Post (.lst ((payC (bs.getD ((num - 1).toNat % bs.length) ⟨0, []⟩) n (lstM (bs.take ((num - 1).toNat % bs.length)) (mkA bs m ((num - 1).toNat / bs.length)))).map .int)) O
theorem ok_law_cents (T : Tx K mg A) : FnR P w K mg base (L2.CX P w) 9 A.f_law_cents (SpD K (R_lcts A)) := by
  obtain ⟨fd, F, hb⟩ := T.F_law_cents
  refine fnD F sc_law_cents hb (fun ds O Post h => by first | (obtain ⟨rfl, _⟩ := h; rfl) | (obtain ⟨_, rfl, _⟩ := h; rfl) | (obtain ⟨_, _, rfl, _⟩ := h; rfl) | (obtain ⟨_, _, _, rfl, _⟩ := h; rfl) | (obtain ⟨_, _, _, _, rfl, _⟩ := h; rfl) | (obtain ⟨_, _, _, _, _, rfl, _⟩ := h; rfl) | (obtain ⟨_, _, _, _, _, _, rfl, _⟩ := h; rfl) | (obtain ⟨_, _, _, _, _, _, _, rfl, _⟩ := h; rfl) | (obtain ⟨_, _, _, _, _, _, _, _, rfl, _⟩ := h; rfl) | (obtain ⟨_, _, _, _, _, _, _, _, _, rfl, _⟩ := h; rfl) | (obtain ⟨_, _, _, _, _, _, _, _, _, _, rfl, _⟩ := h; rfl) | (obtain ⟨_, _, _, _, _, _, _, _, _, _, _, rfl, _⟩ := h; rfl) | (obtain ⟨_, _, _, _, _, _, _, _, _, _, _, _, rfl, _⟩ := h; rfl) | (obtain ⟨_, _, _, _, _, _, _, _, _, _, _, _, _, rfl, _⟩ := h; rfl)) fun cdv A' outer s H E hr => ⟨_, PSs.nox (pss_cons (ps_set (i := 5) sc_law_cents.nd rfl (Or.inl rfl) (pe_ix (ix_tupK K) (pe_run (ok_repeated T) (hr.mono (by decide)) T.k_repeated T.g_repeated passL (pa_cons (pv 0) (pa_cons (pv 3) (pa_cons (pe_op op_fdivW (pe_op op_sub (pv 4) pe_int) (pe_callB (call_lenK K) (by rfl) T.b_len (by decide +kernel) (pa_cons (pv 2) pa_nil))) pa_nil)))) pe_int (fun _ _ => rfl)))
      (pss_cons (ps_set (i := 6) sc_law_cents.nd rfl (Or.inl rfl) (pe_op op_mod (pe_op op_sub (pv 4) pe_int) (pe_callB (call_lenK K) (by rfl) T.b_len (by decide +kernel) (pa_cons (pv 2) pa_nil))))
      (pss_one (ps_ret (pe_ix (ix_listK K) (pe_ix (ix_tupK K) (pe_run (ok_law_paid T) (hr.mono (by decide)) T.k_law_paid T.g__law_paid passL (pa_cons (pv 1) (pa_cons (pe_slice (sl_listK K) (pv 2) po_none (po_some (pe_op op_add (pv 6) pe_int))) (pa_cons (pv 5) pa_nil)))) pe_int (fun _ _ => rfl)) (pv 6) (fun _ _ => rfl)))))), fun ds O Post hR => ?_⟩
  obtain ⟨n, bs, m, num, rfl, hE, hb, hm, hnum, hp⟩ := hR
  have h1 := hE.1
  have h2 := hE.2.1
  have hl : bs.length ≠ 0 := fun z => hb (List.eq_nil_of_length_eq_zero z)
  have hE3 := hE.2.2.1
  obtain ⟨N, hN⟩ : ∃ N : Nat, num - 1 = (N : Int) := ⟨(num - 1).toNat, by omega⟩
  rw [hN, Int.toNat_natCast] at hp
  walk_at "go"
  have hlt : N % bs.length < bs.length := Nat.mod_lt _ (by omega)
  have hdv : N / bs.length ≤ N := Nat.div_le_self _ _
  have hT : (0 : Int) ≤ ((N / bs.length : Nat) : Int) ∧ ((N / bs.length : Nat) : Int) ≤ 1000000000000000000 := ⟨Int.natCast_nonneg _, Int.le_trans (Int.ofNat_le.mpr hdv) (by omega)⟩
  have hlen : ∀ {δ : Sl}, δ[2]? = some (some (.lst (bs.map encR))) → Ev K (tCB (fun xs H Q => ∃ p ys, xs = [.ref p] ∧ (SqL K H p ys ∨ SqT K H p ys) ∧ Q (.int ys.length) H) (tCons (tVar 2) tNil)) δ O (.int (bs.length : Int)) O := fun h => Ev.is (d := .int ((bs.map encR).length : Int)) (ev_cb (ea_cons (ev_var h) ea_nil) c_lenL) (by rw [List.length_map])
  refine sd_seq (sd_asg (d := .int (mkA bs m (N / bs.length))) (O1 := O) (ev_op (x := .tup [encS A (smA n bs m (N / bs.length)), .int (mkA bs m (N / bs.length))]) (O1 := O) (ev_run (ds := [encE A n bs, .int m, .int ((N / bs.length : Nat) : Int)]) (O1 := O) (ea_cons (ev_var rfl) (ea_cons (ev_var rfl) (ea_cons (Ev.is (d := .int ((num - 1) / (bs.length : Int))) (ev_op (by walk_at "ev") (hlen rfl) (r_intC (cdivw (by omega) (by omega)))) (by rw [hN]; rfl)) ea_nil))) ⟨n, bs, m, _, rfl, hE, hm, hT, by rw [Int.toNat_natCast], rfl⟩) ev_int (r_ixT atI1)) ?_)
  walk_at "sl"
  refine sd_seq (sd_asg (d := .int ((N % bs.length : Nat) : Int)) (O1 := O) (Ev.is (d := .int ((num - 1) % (bs.length : Int))) (ev_op (by walk_at "ev") (hlen rfl) (r_intC (cmodp (i := num - 1) (by omega)))) (by rw [hN]; rfl)) ?_)
  walk_at "sl"
  obtain ⟨b, hbk⟩ : ∃ b, bs[N % bs.length]? = some b := ⟨_, List.getElem?_eq_getElem hlt⟩
  have hbg : bs.getD (N % bs.length) ⟨0, []⟩ = b := by rw [List.getD_eq_getElem?_getD, hbk]; rfl
  rw [hbg] at hp
  have hpl := mkA_in hE hm (N / bs.length)
  generalize mkA bs m (N / bs.length) = pl at *
  have htk : bs.take (N % bs.length + 1) = bs.take (N % bs.length) ++ [b] := snoc_take hbk
  have hP : POk n (bs.take (N % bs.length + 1)) := ⟨hE.1, hE.2.1, by rw [List.length_take]; omega, fun c hc => hE.2.2.2 c (List.mem_of_mem_take hc)⟩
  have hcut : DL.cutD (bs.map encR) none (some (((N % bs.length : Nat) : Int) + 1)) = (bs.take (N % bs.length + 1)).map encR := by rw [show ((N % bs.length : Nat) : Int) + 1 = ((N % bs.length + 1 : Nat) : Int) from rfl, cutD_take (by omega), Int.toNat_natCast, List.map_take]
  refine sd_ret (O1 := O) (ev_op (O1 := O) (ev_op (x := .tup [.lst ((tbl n (bs.take (N % bs.length + 1)) pl).map encT), .int (lstM (bs.take (N % bs.length + 1)) pl)]) (O1 := O) (ev_run (ds := [.int n, .lst ((bs.take (N % bs.length + 1)).map encR), .int pl]) (O1 := O) (ea_cons (ev_var rfl) (ea_cons (Ev.is (d := .lst (DL.cutD (bs.map encR) none (some (((N % bs.length : Nat) : Int) + 1)))) (by walk_at "ev") (by rw [hcut])) (ea_cons (ev_var rfl) ea_nil))) ⟨n, _, pl, rfl, hP, hpl, rfl, rfl⟩) ev_int (r_ixT atI0)) (ev_var rfl) (r_ixL (d := .lst ((payC b n (lstM (bs.take (N % bs.length)) pl)).map .int)) ?_)) hp
  refine atI_of (k := N % bs.length) rfl ?_
  rw [htk, tbl_snoc, List.map_append, List.getElem?_append_right (by rw [List.length_map, tbl_ok.2, List.length_take]; omega), List.length_map, tbl_ok.2, List.length_take, Nat.min_eq_left (by omega), Nat.sub_self]
  rfl
def rgI (n : Int) : List Int := (List.range n.toNat).map fun (k : Nat) => (k : Int)
theorem rgI_rng (n : Int) : rng 0 n.toNat = (rgI n).map D.int := by unfold rgI; rw [rng0, List.map_map]; rfl
theorem all_ok {n a : Int} (hn : 2 ≤ n ∧ n ≤ 8) (ha : 0 ≤ a ∧ a < 50) : BOk ⟨a, rgI n⟩ ∧ ∀ s ∈ (⟨a, rgI n⟩ : B).st, s < n := by
  refine ⟨⟨ha.1, by show a ≤ _; omega, ?_, ?_, ?_⟩, ?_⟩
  · intro z
    have := congrArg List.length z
    simp [rgI] at this
    omega
  · exact List.pairwise_map.mpr (List.pairwise_lt_range.imp fun h => by simpa using h)
  · intro s hs
    obtain ⟨k, hk, rfl⟩ := List.mem_map.mp hs
    have := List.mem_range.mp hk
    omega
  · intro s hs
    obtain ⟨k, hk, rfl⟩ := List.mem_map.mp hs
    have := List.mem_range.mp hk
    omega
def kvR (f : Nat → D) (i : Nat) : List (Key × D) := (List.range i).map fun (k : Nat) => ((.inl (k : Int) : Key), f k)
theorem kvR_get (f : Nat → D) : ∀ (i j : Nat), dgetD (kvR f i) (.inl (j : Int)) = if j < i then some (f j) else none := fun i j => by
  unfold dgetD kvR
  rw [List.find?_map]
  have e : ((fun (kv : Key × D) => decide (kv.1 = .inl (j : Int))) ∘ fun (k : Nat) => ((.inl (k : Int) : Key), f k)) = fun k => decide (k = j) := by
    funext k
    show decide ((.inl (k : Int) : Key) = .inl (j : Int)) = _
    refine decide_eq_decide.mpr ⟨fun h => by have := Sum.inl.inj h; omega, fun h => by rw [h]⟩
  rw [e]
  by_cases h : j < i
  · rw [if_pos h]
    have : (List.range i).find? (fun k => decide (k = j)) = some j := by
      rw [List.find?_range_eq_some]
      exact ⟨by simp, List.mem_range.mpr h, fun k hk => by simp; omega⟩
    rw [this]; rfl
  · rw [if_neg h]
    have : (List.range i).find? (fun k => decide (k = j)) = none := by
      rw [List.find?_eq_none]
      intro k hk
      have := List.mem_range.mp hk
      simp; omega
    rw [this]; rfl
theorem kvR_snoc (f : Nat → D) (i : Nat) : kvR f i ++ [(.inl (i : Int), f i)] = kvR f (i + 1) := by unfold kvR; rw [List.range_succ, List.map_append]; rfl
theorem evp_out (T : Tx K mg A) {X : Cx} {δ : Sl} {O : Ow} {q : Str} {te : XK → TE} {Po : D → Ow → Prop} (hX : X.prog = P ∧ X.w = w ∧ X.K = K ∧ X.mg = mg) (hq : X.env.qual ++ "<lambda>" = q) (hO : O A.tb_law = some (tabM q))
    (h : RAct K te δ O Po (xO A Po)) : EvP K (tRunU X 11 A.f_law_outcome (tCons (tLam X A.tb_law 9 te) tNil)) δ O Po := by
  obtain ⟨rfl, rfl, rfl, rfl⟩ := hX
  subst hq
  exact evp_runU (ea_cons (ev_lam hO) ea_nil) fun σ base' hu hC => ⟨R_out A X.prog X.w X.K X.mg base', [actD X.prog X.w X.K X.mg base' 10 (RAct X.K te δ)], fun G vs sl i => by
    obtain ⟨v, rfl, iv⟩ := isL1 i
    exact ⟨v, [], rfl, lam_act hu hC sl iv, rfl⟩, ok_law_outcome T, _, rfl, h⟩
theorem ev_outsP (T : Tx K mg A) {X : Cx} {δ : Sl} {O : Ow} {tes : List (XK → TE)} (outs : List D) (hX : X.prog = P ∧ X.w = w ∧ X.K = K ∧ X.mg = mg) (hi : δ[18]? = some (some (.lst (tes.map (lamD X 9))))) (hj : 20 < δ.length) (hl : tes.length ≤ 50000)
    (h : Fa2 (fun te d => RAct K te δ O (fun d' O' => d' = d ∧ O' = O) (xO A fun d' O' => d' = d ∧ O' = O)) tes outs) :
    Ev K (fun σ H Q => tLc (iList K (tVar 18)) (gName 20) tYes (tRunV X σ 11 A.f_law_outcome (tCons (tVar 20) tNil)) [20] σ H Q) δ O (.lst outs) O := by
  obtain ⟨rfl, rfl, rfl, rfl⟩ := hX
  exact ev_lamOuts2 hi hj hl (h.imp fun te d hR base' hu => ⟨R_out A X.prog X.w X.K X.mg base', ok_law_outcome T, _, rfl, hR⟩)
theorem ev_lams2 {X : Cx} {δ : Sl} {O : Ow} {q : Str} {P1 : Addr} {te1 te2 : XK → TE} (hK : X.K = K) (hq : X.env.qual ++ "<lambda>" = q) (hO : O P1 = some (tabM q)) : Ev K (tLst (tCons (tLam X P1 9 te1) (tCons (tLam X P1 9 te2) tNil))) δ O (.lst ([te1, te2].map (lamD X 9))) O :=
  ev_lst (ea_cons (ev_lamK hK hq hO) (ea_cons (ev_lamK hK hq hO) ea_nil)) (by simp)
theorem ev_lamsCat {X : Cx} {δ : Sl} {O O1 O2 : Ow} {ta tb : TE} {l m : List (XK → TE)} (h1 : Ev K ta δ O (.lst (l.map (lamD X 9))) O1) (h2 : Ev K tb δ O1 (.lst (m.map (lamD X 9))) O2) (hl : l.length + m.length ≤ 100000) : Ev K (tOp rCat ta tb) δ O (.lst ((l ++ m).map (lamD X 9))) O2 := by
  rw [List.map_append]
  exact ev_op h1 h2 (r_cat (by rw [List.length_map, List.length_map]; exact hl))
def R_lawT (A : Ad) : DR := fun ds O Post => ∃ ns, ds = [.scr ns] ∧ O A.tb_law = some (tabM (("law" ++ ".<locals>." : Str) ++ "<lambda>")) ∧ ∀ O', Post (.bl true) O'
theorem law_spT {H : Hp} {a c : Addr} {ns : List Int} {E : XK} (hl : ns.length ≤ 63) (hT : ∀ p ∈ [(c, A.tb_law)], H p.2 = some (.tbl #[])) (hS : SqL K H a (ns.map V.int)) : SpD K (R_lawT A) [.ref a] H (fun v _ => v = .bl true) E :=
  sp_tabs [(A.tb_law, ("law" ++ ".<locals>." : Str) ++ "<lambda>")] (fun p hp => by rw [List.mem_singleton] at hp; subst hp; exact hT _ (List.mem_cons_self ..)) hS ⟨ns, rfl, by simp [tabsO], fun _ => rfl⟩
theorem ok_law (T : Tx K mg A) (TB : Tb base mg A) {fd : FuncData} (F : Fun K "law" "law" s_law A.f_law fd) (hc : fd.code = .ref A.cc_law) : FnOk P w K mg base (L2.CX P w) 12 A.f_law fd ["_law_script"] (SpD K (R_lawT A)) := by
  refine fnOL F sc_law hc (fun ds O Post h => by obtain ⟨_, rfl, _⟩ := h; rfl) fun cdv A' outer s H E hcd hr => ⟨_, PSs.nox (pss_cons (ps_set (i := 1) sc_law.nd rfl (Or.inl rfl) (pe_run (ok_law_start T) (hr.mono (by decide)) T.k_law_start T.g__law_start passL (pa_cons (pv 0) pa_nil)))
      (pss_cons (ps_for PassesOwn.never rfl (pi_range1 (by rfl) T.b_range (pa_cons pe_int pa_nil)) (pg_name (i := 2) sc_law.nd rfl (Or.inl rfl)) (pss_cons (ps_set (i := 3) sc_law.nd rfl (Or.inr rfl) (pe_op op_add pe_int (pe_run (ok_law_drawn T) (hr.mono (by decide)) T.k_law_drawn T.g__law_drawn passL (pa_cons (pv 1) (pa_cons pe_int pa_nil)))))
      (pss_cons (ps_set (i := 4) sc_law.nd rfl (Or.inl rfl) (pe_op op_cat (pe_run (ok_law_rows T) (hr.mono (by decide)) T.k_law_rows T.g__law_rows passL (pa_cons (pv 1) (pa_cons (pv 3) (pa_cons pe_int pa_nil)))) (pe_lst (pa_cons (pe_tup (pa_cons (pe_run (ok_law_drawn T) (hr.mono (by decide)) T.k_law_drawn T.g__law_drawn passL (pa_cons (pv 1) (pa_cons pe_int pa_nil))) (pa_cons (pe_callTy (call_tupleK K) (by rfl) T.b_tuple (by decide +kernel) (pa_cons (pe_listRg rfl (by rfl) T.b_list (prg_1 (by rfl) T.b_range (pv 3))) pa_nil)) pa_nil))) pa_nil))))
      (pss_cons (ps_par (by rfl) sc_law.nd (i := 5) (j := 6) rfl rfl (by decide) rfl rfl (pa_cons (pe_run (ok_law_evening T) (hr.mono (by decide)) T.k_law_evening T.g__law_evening passL (pa_cons (pv 3) (pa_cons (pv 4) pa_nil))) (pa_cons (pe_lst pa_nil) pa_nil)) (by rfl))
      (pss_cons (ps_asg (pe_tup (pa_cons (StX.pe_makeR T.mk_MarkObserver (ok_MarkObserver_Dinit T) (hr.mono (by decide)) rfl T.g_MarkObserver passL (pa_cons (pv 5) pa_nil)) (pa_cons (pe_listRg rfl (by rfl) T.b_list (prg_1 (by rfl) T.b_range (pv 3))) pa_nil))) (pg_tupK K (n := 2) rfl (pgs_cons (pg_name (i := 7) sc_law.nd rfl (Or.inr rfl)) (pgs_cons (pg_name (i := 8) sc_law.nd rfl (Or.inl rfl)) pgs_nil))))
      (pss_cons (ps_set (i := 9) sc_law.nd rfl (Or.inl rfl) (pe_run (ok_law_drawn T) (hr.mono (by decide)) T.k_law_drawn T.g__law_drawn passL (pa_cons (pv 1) (pa_cons (pv 3) pa_nil))))
      (pss_cons (ps_for PassesOwn.never rfl (pi_range1 (by rfl) T.b_range (pa_cons (pe_run (ok_law_drawn T) (hr.mono (by decide)) T.k_law_drawn T.g__law_drawn passL (pa_cons (pv 1) (pa_cons pe_int pa_nil))) pa_nil)) (pg_name (i := 10) sc_law.nd rfl (Or.inl rfl)) (pss_cons (ps_set (i := 11) sc_law.nd rfl (Or.inr rfl) (pe_op op_add pe_int (pe_run (ok_law_drawn T) (hr.mono (by decide)) T.k_law_drawn T.g__law_drawn passL (pa_cons (pv 1) (pa_cons (pe_ix (ix_listK K) (pe_lst (pa_cons (pe_op op_mul pe_int (pe_callB (call_lenK K) (by rfl) T.b_len (by decide +kernel) (pa_cons (pv 4) pa_nil))) (pa_cons (pe_op op_pow pe_int pe_int) pa_nil))) (pe_op op_fdivW (pe_run (ok_law_drawn T) (hr.mono (by decide)) T.k_law_drawn T.g__law_drawn passL (pa_cons (pv 1) (pa_cons pe_int pa_nil))) pe_int) (fun _ _ => rfl)) pa_nil)))))
      (pss_cons (ps_asg (pe_tup (pa_cons (pe_run (ok_law_drawn T) (hr.mono (by decide)) T.k_law_drawn T.g__law_drawn passL (pa_cons (pv 1) (pa_cons (pv 3) pa_nil))) (pa_cons pe_dnewK pa_nil))) (pg_tupK K (n := 2) rfl (pgs_cons (pg_name (i := 12) sc_law.nd rfl (Or.inr rfl)) (pgs_cons (pg_name (i := 13) sc_law.nd rfl (Or.inr rfl)) pgs_nil))))
      (pss_cons (ps_for PassesOwn.never rfl (pi_range1 (by rfl) T.b_range (pa_cons (pv 3) pa_nil)) (pg_name (i := 14) sc_law.nd rfl (Or.inl rfl)) (pss_one (ps_dput hr.un1 (pv 13) (pv 14) (pe_ix (ix_listK K) (pe_run (ok_law_cents T) (hr.mono (by decide)) T.k_law_cents T.g__law_cents passL (pa_cons (pv 5) (pa_cons (pv 3) (pa_cons (pv 4) (pa_cons (pv 14) (pa_cons (pv 11) pa_nil)))))) (pv 12) (fun _ _ => rfl)) (by rfl))))
      (pss_cons (ps_set (i := 15) sc_law.nd rfl (Or.inr rfl) (pe_ifExp (pt_cmpR op_gt (pe_run (ok_law_drawn T) (hr.mono (by decide)) T.k_law_drawn T.g__law_drawn passL (pa_cons (pv 1) (pa_cons pe_int pa_nil))) pe_int (nomark _)) (pe_dget hr.un1 (pv 13) (pv 9) (fun _ _ => rfl)) (pe_op op_sub (pe_op op_add (pe_dget hr.un1 (pv 13) pe_int (fun _ _ => rfl)) (pe_run (ok_law_drawn T) (hr.mono (by decide)) T.k_law_drawn T.g__law_drawn passL (pa_cons (pv 1) (pa_cons pe_int pa_nil)))) pe_int)))
      (pss_cons (ps_setLc (i := 16) (own := [("_law_mark", 14)]) rfl sc_law.nd rfl rfl (sw_true rfl rfl rfl (by decide +kernel)) (pi_listK K (pv 8)) (blkOk_by (N := N_law) (sc := defScope s_law) (by decide +kernel)) (fun _ _ _ _ _ => (pg_name (i := 14) sc_law.nd rfl (by first | exact Or.inl rfl | exact Or.inr rfl))) (fun _ _ _ _ _ => (pts_one (pt_cmpR op_eq (pe_dget hr.un1 (pv 13) (pv 14) (fun _ _ => rfl)) (pv 15) (nomark _)))) (fun _ _ _ _ _ => (pv 14)))
      (pss_cons (ps_set (i := 17) sc_law.nd rfl (Or.inl rfl) (pe_runU (k := 11) (fun _ => rfl) (hr.mono (by decide)) T.k_law_outcome T.g__law_outcome (pa_cons (pe_lam0 (k := 9) TB.tb_law hcd (lmS_by (N := N_law) (sc := defScope s_law) (by decide +kernel)) (fun _ _ _ _ _ _ => rfl) (fun base1 A1 outer1 s1 H1 E1 f1 c1 hu hr => (pe_methR (pv 7) T.cl_MarkObserver T.m_MarkObserver_see (okx_MarkObserver_see T) (hr.mono (by decide)) (passes_call (takes_of rfl rfl rfl rfl) (fun _ _ _ _ h => h)) (pa_cons (pv 11) (pa_cons (pv 12) (pa_cons (pv 15) pa_nil)))))) pa_nil)))
      (pss_cons (ps_if (pt_cmpR (op_eqDK K hr.units) (pv 16) (pe_lst pa_nil) (nomark _)) (pss_one (ps_if (pt_cmpR (op_neDK K hr.units) (pv 17) (pe_tup (pa_cons pe_str pa_nil)) (nomark _)) (pss_one (ps_ret pe_bl)) pss_nil)) (pss_one (ps_if (pt_not (pt_val (pe_run (ok_law_same T) (hr.mono (by decide)) T.k_law_same T.g__law_same passL (pa_cons (pv 17) (pa_cons (pe_callB (call_lenK K) (by rfl) T.b_len (by decide +kernel) (pa_cons (pv 16) pa_nil)) pa_nil))))) (pss_one (ps_ret pe_bl)) (pss_one (ps_par (by rfl) sc_law.nd (i := 8) (j := 6) rfl rfl (by decide) rfl rfl (pa_cons (pv 16) (pa_cons (pe_op op_cat (pv 6) (pe_lst (pa_cons (pe_tup (pa_cons (pv 11) (pa_cons (pv 12) (pa_cons (pv 15) pa_nil)))) pa_nil))) pa_nil)) (by rfl))))))
      (pss_cons (ps_if (PW.pt (pw_or (pt_not (pt_val (pe_run (ok_law_same T) (hr.mono (by decide)) T.k_law_same T.g__law_same passL (pa_cons (pe_propR (pv 7) T.cl_MarkObserver T.p_MarkObserver_possible_marks (ok_MarkObserver_possible_marks T) (hr.mono (by decide)) (fun _ _ _ _ z => cx0 z)) (pa_cons (pe_callTy (call_tupleK K) (by rfl) T.b_tuple (by decide +kernel) (pa_cons (pv 8) pa_nil)) pa_nil))))) (pw_or1 (pt_not (pt_val (pe_run (ok_law_same T) (hr.mono (by decide)) T.k_law_same T.g__law_same passL (pa_cons (pe_propR (pv 7) T.cl_MarkObserver T.p_MarkObserver_records (ok_MarkObserver_records T) (hr.mono (by decide)) (fun _ _ _ _ z => cx0 z)) (pa_cons (pv 6) pa_nil)))))))) (pss_one (ps_ret pe_bl)) pss_nil)
      (pss_one (ps_expr (pe_bm PySem.F.plainAttrs_list PySem.F.slot_list_append PySem.F.type_list_append mt_append (pe_propR (pv 7) T.cl_MarkObserver T.p_MarkObserver_records (ok_MarkObserver_records T) (hr.mono (by decide)) (fun _ _ _ _ z => cx0 z)) (pa_cons pe_int pa_nil)))))))))))))
      (pss_cons (ps_set (i := 18) sc_law.nd rfl (Or.inl rfl) (pe_lst (pa_cons (pe_lam0 (k := 9) TB.tb_law hcd (lmS_by (N := N_law) (sc := defScope s_law) (by decide +kernel)) (fun _ _ _ _ _ _ => rfl) (fun base1 A1 outer1 s1 H1 E1 f1 c1 hu hr => (StX.pe_makeR T.mk_MarkObserver (okx_MarkObserver_Dinit T) (hr.mono (by decide)) rfl T.g_MarkObserver (passes_call (takes_of rfl rfl rfl rfl) (fun _ _ _ _ h => h)) (pa_cons (StX.pe_makeR T.mk_Evening (ok_Evening_Dinit T) (hr.mono (by decide)) rfl T.g_Evening passL (pa_cons (pv 3) pa_nil)) pa_nil)))) (pa_cons (pe_lam1 (k := 9) (y := "_law_a") TB.tb_law hcd (lmS_by (N := N_law) (sc := defScope s_law) (by decide +kernel)) (fun _ _ _ _ _ _ _ => ⟨_, rfl, fun _ => rfl⟩) pe_int (fun base1 A1 outer1 s1 H1 E1 f1 c1 hu hr => (pe_methR (pv 7) T.cl_MarkObserver T.m_MarkObserver_see (okx_MarkObserver_see T) (hr.mono (by decide)) (passes_call (takes_of rfl rfl rfl rfl) (fun _ _ _ _ h => h)) (pa_cons pe_int (pa_cons (pv 3) (pa_cons pe_int pa_nil)))))) pa_nil))))
      (pss_cons (ps_set (i := 18) sc_law.nd rfl (Or.inl rfl) (pe_op op_cat (pv 18) (pe_lst (pa_cons (pe_lam1 (k := 9) (y := "_law_b") TB.tb_law hcd (lmS_by (N := N_law) (sc := defScope s_law) (by decide +kernel)) (fun _ _ _ _ _ _ _ => ⟨_, rfl, fun _ => rfl⟩) pe_int (fun base1 A1 outer1 s1 H1 E1 f1 c1 hu hr => (pe_methR (pv 7) T.cl_MarkObserver T.m_MarkObserver_see (okx_MarkObserver_see T) (hr.mono (by decide)) (passes_call (takes_of rfl rfl rfl rfl) (fun _ _ _ _ h => h)) (pa_cons (pe_op op_add (pe_op op_pow pe_int pe_int) pe_int) (pa_cons pe_int (pa_cons pe_int pa_nil)))))) (pa_cons (pe_lam1 (k := 9) (y := "_law_c") TB.tb_law hcd (lmS_by (N := N_law) (sc := defScope s_law) (by decide +kernel)) (fun _ _ _ _ _ _ _ => ⟨_, rfl, fun _ => rfl⟩) pe_int (fun base1 A1 outer1 s1 H1 E1 f1 c1 hu hr => (pe_methR (pv 7) T.cl_MarkObserver T.m_MarkObserver_see (okx_MarkObserver_see T) (hr.mono (by decide)) (passes_call (takes_of rfl rfl rfl rfl) (fun _ _ _ _ h => h)) (pa_cons pe_int (pa_cons (pv 3) (pa_cons pe_int pa_nil)))))) pa_nil)))))
      (pss_cons (ps_set (i := 19) sc_law.nd rfl (Or.inl rfl) (pe_lst (pa_cons (pe_tup (pa_cons pe_str pa_nil)) (pa_cons (pe_tup (pa_cons pe_str pa_nil)) (pa_cons (pe_tup (pa_cons pe_str pa_nil)) (pa_cons (pe_tup (pa_cons pe_str pa_nil)) pa_nil))))))
      (pss_one (ps_if (pt_cmpR (op_neDK K hr.units) (pe_lcU (own := [("_law_work", 20)]) rfl sc_law.nd (pi_listK K (pv 18)) (blkOk_by (N := N_law) (sc := defScope s_law) (by decide +kernel)) (fun _ _ _ _ _ => (pg_name (i := 20) sc_law.nd rfl (by first | exact Or.inl rfl | exact Or.inr rfl))) (fun _ σ0 _ _ _ _ _ I0 hfp => (pe_runB (k := 11) (fun _ => rfl) I0 hfp (hr.mono (by decide)) T.k_law_outcome T.g__law_outcome (pa_cons (pv 20) pa_nil) rfl))) (pv 19) (nomark _)) (pss_one (ps_ret pe_bl)) pss_nil))))))))))))
      (pss_one (ps_ret pe_bl)))), fun ds O Post hR => ?_⟩
  obtain ⟨ns, rfl, hO, hp⟩ := hR
  walk_at "go"
  refine sd_seq (sd_asgP (evp_run (ds := [.scr ns]) (O1 := O) (by walk_at "ea") ⟨ns, rfl, fun st q0 hst hq0 => ?_⟩))
  walk_at "sl"
  have hne : A.tb_law ≠ st := fun z => by rw [z, hst] at hO; cases hO
  refine sd_seq (sd_for (ei_rngN (j := 3) (by walk_at "ea") (by omega)) (fun i δ' O' => ∃ q cs, DS.ok q ∧ List.length cs = 19 ∧ O' = setO O st q.enc ∧ δ' = some (.scr ns) :: some (.ref st) :: cs) ⟨q0, _, hq0, rfl, rfl, rfl⟩ (fun i d δ' O' hd hI => ?_) (fun δ' O' hI => ?_))
  · obtain ⟨q, cs, hq, hcs, rfl, rfl⟩ := hI
    match cs, hcs with
    | [c2, c3, c4, c5, c6, c7, c8, c9, c10, c11, c12, c13, c14, c15, c16, c17, c18, c19, c20], _ =>
    refine gd_name ?_
    walk_at "sl"
    obtain ⟨v, q1, hv0, hv1, hq1, dr⟩ := q.draw 7 (by omega) (by omega) hq
    refine sd_seq (sd_asg (d := .int (2 + v)) (O1 := setO O st q1.enc) (ev_op ev_int (dr setO_same (by walk_at "ea") setO_setO) (by walk_at "rr")) ?_)
    walk_at "sl"
    obtain ⟨n, hn⟩ : ∃ n, n = 2 + v := ⟨_, rfl⟩
    rw [← hn]
    have hn : 2 ≤ n ∧ n ≤ 8 := by omega
    clear dr
    refine sd_seq (sd_asgP (evp_opP (evp_run (ds := [.ref st, .int n, .int 5]) (O1 := setO O st q1.enc) (by walk_at "ea") ⟨st, n, 5, q1, rfl, hn, by omega, setO_same, hq1, fun as q2 hq2 hEa hla ham => ?_⟩)))
    rw [setO_setO]
    obtain ⟨am, q3, ha0, ha1, hq3, dr⟩ := q2.draw 50 (by omega) (by omega) hq2
    refine Ev.toP (d := .lst [encR ⟨am, rgI n⟩]) (O1 := setO O st q3.enc) (ev_lst (ea_cons (Ev.is (d := .tup [.int am, .tup (rng 0 n.toNat)]) (ev_tup (ea_cons (dr setO_same (by walk_at "ea") setO_setO) (ea_cons (ev_cb (ea_cons (ev_listRg (ev_var rfl) (by omega)) ea_nil) c_tupL) ea_nil)) (by simp)) (by rw [rgI_rng]; rfl)) ea_nil) (by simp)) (Exists.intro (.lst ((as ++ [(⟨am, rgI n⟩ : B)]).map encR)) (And.intro ?_ ?_))
    · rw [List.map_append]; exact r_cat (by rw [List.length_map]; simp; omega)
    walk_at "sl"
    clear dr
    obtain ⟨bs, hbs⟩ : ∃ bs, bs = as ++ [(⟨am, rgI n⟩ : B)] := ⟨_, rfl⟩
    rw [← hbs]
    have hE : EOk n bs := ⟨hn.1, hn.2, by rw [hbs]; simp; omega, fun b hb => by
      rw [hbs] at hb
      rcases List.mem_append.mp hb with z | z
      · exact hEa.2.2.2 b z
      · rw [List.mem_singleton] at z; subst z; exact all_ok hn ⟨ha0, ha1⟩⟩
    have hbne : bs ≠ [] := by rw [hbs]; simp
    have hbl : bs.length ≤ 6 := by rw [hbs]; simp; omega
    have hbl0 : 0 < bs.length := List.length_pos_iff.mpr hbne
    clear hEa ham
    refine sd_seq (sd_par (a := encE A n bs) (b := .lst []) (O1 := setO O st q3.enc) (ea_cons (ev_run (ds := [.int n, .lst (bs.map encR)]) (by walk_at "ea") ⟨n, bs, rfl, hE, rfl, rfl⟩) (ea_cons (ev_lst ea_nil (by simp)) ea_nil)) ?_)
    walk_at "sl"
    refine sd_seq (sd_asgG (evp_tup (eap_cons (evp_mk (ds := [encE A n bs]) (O1 := setO O st q3.enc) (by walk_at "ea") fun x hx => ⟨x, n, bs, rfl, setO_same, hE, hbne, fun p hpx hpn => ⟨rfl, ?_⟩⟩))))
    rw [setO_setO]
    rw [setO_ne hpx] at hpn
    have hxst : x ≠ st := fun z => by rw [z, setO_same] at hx; cases hx
    have hpst : p ≠ st := fun z => by rw [z, setO_same] at hpn; cases hpn
    have hOx : O x = none := by rw [setO_ne hxst] at hx; exact hx
    have hOp : O p = none := by rw [setO_ne hpst] at hpn; exact hpn
    have hxt : A.tb_law ≠ x := fun z => by rw [z, hOx] at hO; cases hO
    have hpt : A.tb_law ≠ p := fun z => by rw [z, hOp] at hO; cases hO
    obtain ⟨Z, hZ⟩ : ∃ Z : DS → List Int → List D → Ow, Z = fun (q : DS) l rs => setO (setO (setO O st q.enc) x (obsM A n bs l p)) p (.lst rs) := ⟨_, rfl⟩
    have hZx : ∀ q l rs, Z q l rs x = some (obsM A n bs l p) := fun q l rs => by rw [hZ]; show setO _ p _ x = _; rw [setO_ne hpx.symm]; exact setO_same
    have hZp : ∀ q l rs, Z q l rs p = some (.lst rs) := fun q l rs => by rw [hZ]; exact setO_same
    have hZst : ∀ q l rs, Z q l rs st = some q.enc := fun q l rs => by rw [hZ]; show setO _ p _ st = _; rw [setO_ne hpst.symm, setO_ne hxst.symm]; exact setO_same
    have hZt : ∀ q l rs, Z q l rs A.tb_law = some (tabM (("law" ++ ".<locals>." : Str) ++ "<lambda>")) := fun q l rs => by rw [hZ]; show setO _ p _ A.tb_law = _; rw [setO_ne hpt, setO_ne hxt, setO_ne hne]; exact hO
    have hZq : ∀ (q q' : DS) l rs, setO (Z q l rs) st q'.enc = Z q' l rs := fun q q' l rs => by
      rw [hZ]
      show setO (setO (setO (setO O st q.enc) x _) p _) st _ = _
      rw [setO_comm hpst, setO_comm hxst, setO_setO]
    have hZs : ∀ q l l' rs rs', setO (setO (Z q l rs) x (obsM A n bs l' p)) p (.lst rs') = Z q l' rs' := fun q l l' rs rs' => by
      rw [hZ]
      show setO (setO (setO (setO (setO O st q.enc) x _) p _) x _) p _ = _
      rw [setO_comm hpx, setO_setO, setO_setO]
    have hZ0 : setO (setO (setO O st q3.enc) x (obsM A n bs ((List.range n.toNat).map fun (k : Nat) => (k : Int)) p)) p (.lst []) = Z q3 (rgI n) [] := by rw [hZ]; rfl
    have hZsub : ∀ q l rs, OSub (setO O st q.enc) (Z q l rs) := fun q l rs => by
      rw [hZ]
      exact ((OSub.refl _).set (by rw [setO_ne hxst]; exact hOx)).set (by rw [setO_ne hpst]; exact hOp)
    rw [hZ0]
    refine EvA.toP (O1 := Z q3 (rgI n) []) (ea_cons (d := .lst ((rgI n).map D.int)) (Ev.is (ev_listRg (ev_var rfl) (by omega)) (by rw [rgI_rng])) ea_nil) ⟨by simp, gd_tup rfl (gds_cons (gd_name (gds_cons (gd_name (gds_nil ?_)))))⟩
    walk_at "sl"
    obtain ⟨hd, q4, hh0, hh1, hq4, dr⟩ := q3.draw n (by omega) (by omega) hq3
    refine sd_seq (sd_asg (d := .int hd) (O1 := Z q4 (rgI n) []) (dr (hZst _ _ _) (by walk_at "ea") (hZq _ _ _ _)) ?_)
    walk_at "sl"
    clear dr
    obtain ⟨tm, q5, ht0, ht1, hq5, dr⟩ := q4.draw 7 (by omega) (by omega) hq4
    refine sd_seq (sd_for (O1 := Z q5 (rgI n) []) (ei_rngN (j := tm) (ea_cons (dr (hZst _ _ _) (by walk_at "ea") (hZq _ _ _ _)) ea_nil) (by omega)) (fun i δ' O' => ∃ q l rs c10 c11 c12 c13 c14 c15 c16 c17, DS.ok q ∧ (∀ a ∈ l, 0 ≤ a ∧ a < n) ∧ List.length l ≤ 8 ∧ List.length rs ≤ i ∧ (∀ r ∈ rs, ∃ a b e : Int, r = .tup [.int a, .int b, .int e]) ∧ O' = Z q l rs ∧ δ' = [some (.scr ns), some (.ref st), some d, some (.int n), some (.lst (bs.map encR)), some (encE A n bs), some (.lst rs), some (.ref x), some (.lst (l.map D.int)), some (.int hd), c10, c11, c12, c13, c14, c15, c16, c17, c18, c19, c20]) ⟨q5, rgI n, [], _, _, _, _, _, _, _, _, hq5, ?_, ?_, Nat.le_refl _, (fun r hr => nomatch hr), rfl, rfl⟩ (fun i2 d2 δ2 O2 hd2 hI2 => ?_) (fun δ2 O2 hI2 => ?_))
    · intro a ha
      obtain ⟨k, hk, rfl⟩ := List.mem_map.mp ha
      have := List.mem_range.mp hk
      omega
    · simp [rgI]; omega
    · obtain ⟨q, l, rs, c10, c11, c12, c13, c14, c15, c16, c17, hq, hl, hl8, hrl, hrs, rfl, rfl⟩ := hI2
      have hi7 : i2 < 7 := by
        have := (List.getElem?_eq_some_iff.mp hd2).1
        simp at this
        omega
      clear dr
      refine gd_name ?_
      walk_at "sl"
      have e18 : (10 : Int) ^ (18 : Int).toNat = 1000000000000000000 := by decide
      have el : ((bs.map encR).length : Int) = (bs.length : Int) := by simp
      obtain ⟨v1, q1, a10, a11, hq1, dr1⟩ := q.draw 3 (by omega) (by omega) hq
      obtain ⟨lim, hlim0, hlim1, hat⟩ : ∃ lim : Int, 0 < lim ∧ lim ≤ 1000000000000000000 ∧ atI [D.int (3 * ((bs.map encR).length : Int)), D.int (10 ^ (18 : Int).toNat)] (v1 / 2) = some (.int lim) := by
        rw [el, e18]
        have : v1 / 2 = 0 ∨ v1 / 2 = 1 := by omega
        rcases this with e | e <;> rw [e]
        · exact ⟨3 * (bs.length : Int), by omega, by omega, atI0⟩
        · exact ⟨_, by omega, by omega, atI1⟩
      obtain ⟨nu, q2, a20, a21, hq2, dr2⟩ := q1.draw lim hlim0 (by omega) hq1
      refine sd_seq (sd_asg (d := .int (1 + nu)) (O1 := Z q2 l rs) (ev_op ev_int (dr2 (hZst _ _ _) (ea_cons (ev_var rfl) (ea_cons (ev_op (O1 := Z q l rs) (O2 := Z q1 l rs) (ev_lst (ea_cons (by walk_at "ev") (ea_cons (by walk_at "ev") ea_nil)) (by simp)) (ev_op (dr1 (hZst _ _ _) (by walk_at "ea") (hZq _ _ _ _)) ev_int (r_intC (cdivw (by omega) (by omega)))) (r_ixL hat)) ea_nil)) (hZq _ _ _ _)) (by walk_at "rr")) ?_)
      walk_at "sl"
      obtain ⟨num, hnum⟩ : ∃ num, num = 1 + nu := ⟨_, rfl⟩
      rw [← hnum]
      have hnum : 1 ≤ num ∧ num ≤ 1000000000000000000 := by omega
      obtain ⟨k, q3, hk0, hk1, hq3, dr3⟩ := q2.draw n (by omega) (by omega) hq2
      refine sd_seq (sd_asgG (evp_tup (eap_cons (Ev.toP (O1 := Z q3 l rs) (dr3 (hZst _ _ _) (by walk_at "ea") (hZq _ _ _ _)) (eap_cons (evp_dnew fun dd hdd => eap_nil ⟨by simp, gd_tup rfl (gds_cons (gd_name (gds_cons (gd_name (gds_nil ?_)))))⟩))))))
      walk_at "sl"
      clear dr1 dr2 dr3
      have hdst : dd ≠ st := fun z => by rw [z, hZst] at hdd; cases hdd
      have hdx : dd ≠ x := fun z => by rw [z, hZx] at hdd; cases hdd
      have hdp : dd ≠ p := fun z => by rw [z, hZp] at hdd; cases hdd
      obtain ⟨f, hf⟩ : ∃ f : Nat → D, f = fun (a : Nat) => D.int (ofA n bs (a : Int) (num - 1).toNat k.toNat) := ⟨_, rfl⟩
      refine sd_seq (sd_for (O1 := setO (Z q3 l rs) dd (dicM K [])) (ei_rngN (j := n) (by walk_at "ea") (by omega)) (fun j δ' O' => O' = setO (Z q3 l rs) dd (dicM K (kvR f j)) ∧ ∃ e14, δ' = [some (.scr ns), some (.ref st), some d, some (.int n), some (.lst (bs.map encR)), some (encE A n bs), some (.lst rs), some (.ref x), some (.lst (l.map D.int)), some (.int hd), some d2, some (.int num), some (.int k), some (.ref dd), e14, c15, c16, c17, c18, c19, c20]) ⟨rfl, _, rfl⟩ (fun j d3 δ' O' hd3 hI => ?_) (fun δ' O' hI => ?_))
      · obtain ⟨rfl, e14, rfl⟩ := hI
        have hjn : j < n.toNat := by
          have := (List.getElem?_eq_some_iff.mp hd3).1
          simpa using this
        rw [List.getElem?_map, List.getElem?_range hjn] at hd3
        cases hd3
        refine gd_name ?_
        walk_at "sl"
        have hin := ofA_in (m := (j : Int)) (num := (num - 1).toNat) hE hbne (by omega)
        refine sd_dput (i := (j : Int)) (d := f j) (O1 := setO (Z q3 l rs) dd (dicM K (kvR f j))) (O3 := setO (Z q3 l rs) dd (dicM K (kvR f j))) (ev_op (O1 := setO (Z q3 l rs) dd (dicM K (kvR f j))) (ev_run (ds := [encE A n bs, .int n, .lst (bs.map encR), .int (j : Int), .int num]) (by walk_at "ea") ⟨n, bs, (j : Int), num, rfl, hE, hbne, by omega, hnum, rfl, rfl⟩) (ev_var rfl) (r_ixL ?_)) (ev_var rfl) (ev_var rfl) setO_same (by rw [kvR_get, if_neg (Nat.lt_irrefl _)]) (by simp [kvR]; omega) ⟨?_, _, rfl⟩
        · rw [hf]
          refine atI_of (k := k.toNat) (by omega) ?_
          show _ = some (D.int (ofA n bs (j : Int) (num - 1).toNat k.toNat))
          unfold ofA
          generalize bs.getD ((num - 1).toNat % bs.length) ⟨0, []⟩ = bb
          rw [List.getElem?_map, List.getD_eq_getElem?_getD, List.getElem?_eq_getElem (by rw [payC_len]; omega)]
          rfl
        · rw [setO_setO, kvR_snoc]
      obtain ⟨rfl, e14, rfl⟩ := hI
      rw [List.length_map, List.length_range]
      obtain ⟨Y, hY⟩ : ∃ Y : DS → Ow, Y = fun (q : DS) => setO (Z q l rs) dd (dicM K (kvR f n.toNat)) := ⟨_, rfl⟩
      have hYd : ∀ q, Y q dd = some (dicM K (kvR f n.toNat)) := fun q => by rw [hY]; exact setO_same
      have hYst : ∀ q, Y q st = some q.enc := fun q => by rw [hY]; show setO _ dd _ st = _; rw [setO_ne hdst.symm]; exact hZst _ _ _
      have hYq : ∀ (q q' : DS), setO (Y q) st q'.enc = Y q' := fun q q' => by
        rw [hY]
        show setO (setO (Z q l rs) dd _) st _ = _
        rw [setO_comm hdst, hZq]
      have hY0 : setO (Z q3 l rs) dd (dicM K (kvR f n.toNat)) = Y q3 := by rw [hY]
      rw [hY0]
      have hget : ∀ {a : Int}, 0 ≤ a ∧ a < n → dgetD (kvR f n.toNat) (.inl a) = some (.int (ofA n bs a (num - 1).toNat k.toNat)) := fun {a} ha => by
        obtain ⟨b, rfl⟩ : ∃ b : Nat, a = (b : Int) := ⟨a.toNat, by omega⟩
        rw [kvR_get, if_pos (by omega), hf]
      obtain ⟨v4, q4, a40, a41, hq4, dr4⟩ := q3.draw 4 (by omega) (by omega) hq3
      obtain ⟨v5, q5, a50, a51, hq5, dr5⟩ := q4.draw 3 (by omega) (by omega) hq4
      refine sd_seq (sd_asgP (EvP.weak (P' := fun d' O' => ∃ (ct : Int) (q' : DS), d' = .int ct ∧ q'.ok ∧ O' = Y q') (evp_if (O1 := Y q4) (b := decide (v4 > 0)) (et_test (ev_op (dr4 (hYst _) (by walk_at "ea") (hYq _ _)) ev_int (by walk_at "rr"))) (fun _ => Ev.toP (ev_dget (ev_var rfl) (ev_var rfl) (hYd _) (hget ⟨hh0, hh1⟩)) ⟨_, q4, rfl, hq4, rfl⟩) (fun _ => Ev.toP (O1 := Y q5) (ev_op (ev_op (ev_dget (ev_var rfl) ev_int (hYd _) (hget (by omega))) (dr5 (hYst _) (by walk_at "ea") (hYq _ _)) r_int) ev_int r_int) ⟨_, q5, rfl, hq5, rfl⟩)) fun d' O' hh => ?_))
      clear dr4 dr5
      obtain ⟨ct, q6, rfl, hq6, rfl⟩ := hh
      walk_at "sl"
      refine sd_seq (sd_asg (d := .lst ((fewA n bs l (num - 1).toNat k.toNat ct).map D.int)) (O1 := Y q6) ?_ ?_)
      · unfold fewA
        refine ev_lc (items := l.map D.int) (ei_list (ev_var rfl)) (cp_filter l D.int D.int (fun a => [some (.scr ns), some (.ref st), some d, some (.int n), some (.lst (bs.map encR)), some (encE A n bs), some (.lst rs), some (.ref x), some (.lst (l.map D.int)), some (.int hd), some d2, some (.int num), some (.int k), some (.ref dd), some (.int a), some (.int ct), c16, c17, c18, c19, c20]) _ fun a ha => ⟨gc_name (by decide), ?_, fun _ => ev_var rfl⟩) (by simp; omega)
        exact et_test (ev_op (ev_dget (ev_var rfl) (ev_var rfl) (hYd _) (hget (hl a ha))) (ev_var rfl) (by walk_at "rr"))
      walk_at "sl"
      refine sd_forget (δ' := [some (.scr ns), some (.ref st), some d, some (.int n), some (.lst (bs.map encR)), some (encE A n bs), some (.lst rs), some (.ref x), some (.lst (l.map D.int)), some (.int hd), some d2, some (.int num), some (.int k), some (.ref dd), e14, some (.int ct), some (.lst ((fewA n bs l (num - 1).toNat k.toNat ct).map D.int)), c17, c18, c19, c20]) (O1 := Z q6 l rs) ?_ rfl (fun _ _ h => h) (by rw [hY]; exact (OSub.refl _).set (by have := hdd; rw [hZ] at this ⊢; show setO _ p _ dd = none; have this : setO _ p _ dd = none := this; rw [setO_ne hdp, setO_ne hdx, setO_ne hdst] at this ⊢; exact this))
      have hfl8 : (fewA n bs l (num - 1).toNat k.toNat ct).length ≤ 8 := Nat.le_trans (List.length_filter_le _ _) hl8
      have hfsub : ∀ a ∈ fewA n bs l (num - 1).toNat k.toNat ct, 0 ≤ a ∧ a < n := fun a ha => hl a (List.mem_filter.mp ha).1
      obtain ⟨fw, hfw⟩ : ∃ fw, fw = fewA n bs l (num - 1).toNat k.toNat ct := ⟨_, rfl⟩
      rw [← hfw] at hfl8 hfsub ⊢
      refine sd_seq (sd_asgP (EvP.weak (P' := fun d' O' => (fw ≠ [] ∧ d' = .int (fw.length : Nat) ∧ O' = Z q6 fw (rs ++ [.tup [.int num, .int k, .int ct]])) ∨ (fw = [] ∧ d' = .tup [.str "Contradiction"] ∧ O' = Z q6 l rs)) (evp_out (P := P) (w := w) T ⟨rfl, rfl, rfl, rfl⟩ rfl (hZt _ _ _) fun E' => ?_) fun d' O' hh => ?_))
      · refine evx_methO (p := x) (nm := ["evening", "left", "accepted"]) (es := [.int num, .int k, .int ct]) (O2 := Z q6 l rs) (fun _ _ _ _ h => h) (ev_var rfl) (hZx _ _ _) (by decide +kernel) (ea_cons (ev_var rfl) (ea_cons (ev_var rfl) (ea_cons (ev_var rfl) ea_nil))) ⟨x, p, n, bs, l, rs, num, k, ct, rfl, hZx _ _ _, hZp _ _ _, hpx.symm, hE, hbne, hl, hl8, by omega, fun z => absurd hnum z, fun _ z => absurd ⟨hk0, hk1⟩ z, fun _ _ => ⟨fun e => ?_, fun e => ?_⟩⟩
        · rw [← hfw] at e ⊢
          rw [hZs]
          exact .inl ⟨e, rfl, rfl⟩
        · rw [← hfw] at e
          exact .inl ⟨rfl, .inr ⟨e, rfl, rfl⟩⟩
      walk_at "sl"
      refine sd_seq (sd_weak (P' := ⟨fun δ' O' => ∃ l2 rs2 e17, (∀ a ∈ l2, 0 ≤ a ∧ a < n) ∧ List.length l2 ≤ 8 ∧ List.length rs2 ≤ i2 + 1 ∧ (∀ r ∈ rs2, ∃ a b e : Int, r = .tup [.int a, .int b, .int e]) ∧ O' = Z q6 l2 rs2 ∧ δ' = [some (.scr ns), some (.ref st), some d, some (.int n), some (.lst (bs.map encR)), some (encE A n bs), some (.lst rs2), some (.ref x), some (.lst (l2.map D.int)), some (.int hd), some d2, some (.int num), some (.int k), some (.ref dd), e14, some (.int ct), some (.lst (fw.map D.int)), e17, c18, c19, c20], fun _ _ => False, fun _ _ => False, fun _ _ => False⟩) ?_ (fun δ' O' hN => ?_) (fun _ _ z => z.elim) (fun _ _ z => z.elim) (fun _ _ z => z.elim))
      · have hPc : Pl 1 (.tup [.str "Contradiction"]) := .tup fun d hd => by rw [List.mem_singleton] at hd; subst hd; exact .str (by decide +kernel)
        rcases hh with ⟨hne, rfl, rfl⟩ | ⟨he, rfl, rfl⟩
        · refine sd_ifF (O1 := Z q6 fw (rs ++ [.tup [.int num, .int k, .int ct]])) (EvT.is (b := eqD (.lst (fw.map D.int)) (.lst [])) (by walk_at "et") (by rw [eqD_nilL]; cases fw with | nil => exact absurd rfl hne | cons a r => rfl)) ?_
          refine sd_ifF (O1 := Z q6 fw (rs ++ [.tup [.int num, .int k, .int ct]])) (et_not (b := true) (et_test (ev_run (ds := [.int (fw.length : Nat), .int (fw.length : Nat)]) (O1 := Z q6 fw (rs ++ [.tup [.int num, .int k, .int ct]])) (ea_cons (ev_var rfl) (ea_cons (Ev.is (d := .int ((fw.map D.int).length : Int)) (by walk_at "ev") (by simp)) ea_nil)) ⟨_, rfl, Sm.int, rfl, rfl⟩))) ?_
          refine sd_par (a := .lst (fw.map D.int)) (b := .lst (rs ++ [.tup [.int num, .int k, .int ct]])) (O1 := Z q6 fw (rs ++ [.tup [.int num, .int k, .int ct]])) (ea_cons (ev_var rfl) (ea_cons (ev_op (ev_var rfl) (by walk_at "ev") (r_cat (by simp; omega))) ea_nil)) ?_
          refine ⟨fw, _, _, hfsub, hfl8, by simp; omega, fun r hr => ?_, rfl, rfl⟩
          rcases List.mem_append.mp hr with z | z
          · exact hrs r z
          · rw [List.mem_singleton] at z; exact ⟨_, _, _, z⟩
        · refine sd_ifT (O1 := Z q6 l rs) (EvT.is (b := eqD (.lst (fw.map D.int)) (.lst [])) (by walk_at "et") (by rw [he]; rfl)) ?_
          refine sd_ifF (O1 := Z q6 l rs) (EvT.is (b := !eqD (.tup [.str "Contradiction"]) (.tup [.str "Contradiction"])) (et_test (ev_op (ev_var rfl) (ev_tup (ea_cons ev_str ea_nil) (by simp)) (r_neP hPc hPc (by decide) (by decide)))) (by decide +kernel)) (sd_next ⟨l, rs, _, hl, hl8, by omega, hrs, rfl, rfl⟩)
      obtain ⟨l2, rs2, e17, hl2, hl28, hrl2, hrs2, rfl, rfl⟩ := hN
      have hSr : Sm 2 (.lst rs2) := .lst (by omega) fun d hd => by
        obtain ⟨a, b, e, rfl⟩ := hrs2 d hd
        refine .tup (by simp) fun d hd => ?_
        rcases List.mem_cons.mp hd with rfl | hd
        · exact Sm.int
        rcases List.mem_cons.mp hd with rfl | hd
        · exact Sm.int
        · rw [List.mem_singleton] at hd; subst hd; exact Sm.int
      refine sd_seq (sd_ifF (O1 := Z q6 l2 rs2) (et_orF (O1 := Z q6 l2 rs2) (et_not (b := true) (et_test (ev_run (ds := [.tup (l2.map D.int), .tup (l2.map D.int)]) (O1 := Z q6 l2 rs2) (ea_cons (EvP.ev (evp_propO (p := x) (nm := ["evening", "left", "accepted"]) (ev_var rfl) (hZx _ _ _) ⟨x, p, n, bs, l2, rfl, hZx _ _ _, rfl, rfl⟩)) (ea_cons (ev_cb (by walk_at "ea") c_tupL) ea_nil)) ⟨_, rfl, Sm.ints (by omega), rfl, rfl⟩))) (et_not (b := true) (et_test (ev_run (ds := [.lst rs2, .lst rs2]) (O1 := Z q6 l2 rs2) (ea_cons (EvP.ev (evp_pub (evp_propO (p := x) (nm := ["evening", "left", "accepted"]) (ev_var rfl) (hZx _ _ _) ⟨x, p, n, bs, l2, rs2, rfl, hZx _ _ _, hZp _ _ _, fun y hy => ⟨y, rs2, rfl, setO_same, rfl, delO_setO hy⟩⟩))) (ea_cons (ev_var rfl) ea_nil)) ⟨_, rfl, hSr, rfl, rfl⟩)))) (sd_next ?_))
      refine sd_nxD (sd_appE (evp_propO (p := x) (nm := ["evening", "left", "accepted"]) (ev_var rfl) (hZx _ _ _) ⟨x, p, n, bs, l2, rs2, rfl, hZx _ _ _, hZp _ _ _, fun y hy => ⟨y, rs2, _, _, rfl, setO_same, ev_int, setO_same, by omega, Z q6 l2 rs2, ?_, q6, l2, rs2, _, _, _, _, _, _, _, _, hq6, hl2, hl28, hrl2, hrs2, rfl, rfl⟩⟩))
      rw [setO_setO]
      exact (OSub.refl _).set hy
    · obtain ⟨q, l, rs, c10, c11, c12, c13, c14, c15, c16, c17, hq, hl, hl8, hrl, hrs, rfl, rfl⟩ := hI2
      clear dr
      rw [List.length_map, List.length_range] at hrl
      have hE0 : EOk n [] := ⟨hn.1, hn.2, Nat.zero_le _, fun b hb => nomatch hb⟩
      refine sd_seq (sd_asg (O1 := Z q l rs) (ev_lams2 rfl rfl (hZt _ _ _)) ?_)
      walk_at "sl"
      refine sd_seq (sd_asg (O1 := Z q l rs) (ev_lamsCat (l := [_, _]) (m := [_, _]) (ev_var rfl) (ev_lams2 rfl rfl (hZt _ _ _)) (by simp)) ?_)
      walk_at "sl"
      refine sd_seq (sd_asg (d := .lst [.tup [.str "InvalidNumber"], .tup [.str "InvalidNumber"], .tup [.str "InvalidNumber"], .tup [.str "UnknownSeat"]]) (O1 := Z q l rs) (by walk_at "ev") ?_)
      walk_at "sl"
      have hPs : Pl 2 (.lst [.tup [.str "InvalidNumber"], .tup [.str "InvalidNumber"], .tup [.str "InvalidNumber"], .tup [.str "UnknownSeat"]]) := .lst fun d hd => by
        simp only [List.mem_cons, List.not_mem_nil, or_false] at hd
        rcases hd with rfl | rfl | rfl | rfl <;> exact .tup fun d hd => by rw [List.mem_singleton] at hd; subst hd; exact .str (by decide +kernel)
      have hsee : ∀ {δ : Sl} {E' : XK} {t : TA} {a b c : Int} {d0 : D}, δ[7]? = some (some (.ref x)) → EvA K t δ (Z q l rs) [.int a, .int b, .int c] (Z q l rs) → (¬ (1 ≤ a ∧ a ≤ 1000000000000000000) → .tup [.str "InvalidNumber"] = d0) → (1 ≤ a ∧ a ≤ 1000000000000000000 → ¬ (0 ≤ b ∧ b < n) ∧ .tup [.str "UnknownSeat"] = d0) → EvX K (fun cls d _ H => E' cls d H) (tMethR A.c_MarkObserver "see" (SpDX K (R_oseex A)) E' (tVar 7) t) (fun _ => xO A fun d' O' => d' = d0 ∧ O' = Z q l rs) δ (Z q l rs) (fun d' O' => d' = d0 ∧ O' = Z q l rs) := fun {δ E' t a b c d0} h7 hA h1 h2 =>
        evx_methO (p := x) (nm := ["evening", "left", "accepted"]) (es := [.int a, .int b, .int c]) (O2 := Z q l rs) (fun _ _ _ _ h => h) (ev_var h7) (hZx _ _ _) (by decide +kernel) hA ⟨x, p, n, bs, l, rs, a, b, c, rfl, hZx _ _ _, hZp _ _ _, hpx.symm, hE, hbne, hl, hl8, by omega, fun z => .inr (.inl ⟨rfl, h1 z, rfl⟩), fun z z2 => .inr (.inr ⟨rfl, (h2 z).2, rfl⟩), fun z z2 => absurd z2 (h2 z).1⟩
      refine sd_nxD (sd_ifF (O1 := Z q l rs) (EvT.is (b := !eqD (.lst [.tup [.str "InvalidNumber"], .tup [.str "InvalidNumber"], .tup [.str "InvalidNumber"], .tup [.str "UnknownSeat"]]) (.lst [.tup [.str "InvalidNumber"], .tup [.str "InvalidNumber"], .tup [.str "InvalidNumber"], .tup [.str "UnknownSeat"]])) (et_test (ev_op (O1 := Z q l rs) (ev_outsP (P := P) (w := w) (tes := [_, _, _, _]) T [.tup [.str "InvalidNumber"], .tup [.str "InvalidNumber"], .tup [.str "InvalidNumber"], .tup [.str "UnknownSeat"]] ⟨rfl, rfl, rfl, rfl⟩ rfl (Nat.lt_add_one 20) (by simp) (.cons (fun E' => ?_) (.cons (fun E' => ?_) (.cons (fun E' => ?_) (.cons (fun E' => ?_) .nil))))) (ev_var rfl) (r_neP hPs hPs (by decide) (by decide)))) (by decide +kernel)) (sd_next ⟨setO O st q.enc, hZsub _ _ _, q, _, hq, rfl, rfl, rfl⟩))
      · exact evx_mk (ds := [encE A n []]) (O1 := Z q l rs) (fun _ _ _ _ h => h) (ea_cons (ev_mk (ds := [.int n]) (O1 := Z q l rs) (by walk_at "ea") (mk_E hE0)) ea_nil) fun y hy => ⟨y, n, [], rfl, setO_same, hE0, fun z => absurd rfl z, fun _ => ⟨Z q l rs, (OSub.refl _).set hy, .inr (.inl ⟨rfl, rfl, rfl⟩)⟩⟩
      · exact hsee rfl (by walk_at "ea") (fun _ => rfl) fun z => absurd z.1 (by omega)
      · exact hsee rfl (by walk_at "ea") (fun _ => rfl) fun z => absurd z.2 (by decide)
      · exact hsee rfl (by walk_at "ea") (fun z => absurd ⟨by omega, by omega⟩ z) fun _ => ⟨fun z => absurd z.2 (by omega), rfl⟩
  · obtain ⟨q, cs, hq, hcs, rfl, rfl⟩ := hI
    refine sd_ret (O1 := setO O st q.enc) (by walk_at "ev") (hp _)
end
end Law

set_option Elab.async false
set_option linter.all false
set_option maxRecDepth 100000
set_option maxHeartbeats 4000000
namespace Law
open PySem PySem.Spec L2 DL
open PyProof.Rows hiding St
local macro_rules | `(tactic| walk_at "sl") => `(tactic| try dsimp only [startD, List.map, List.length_cons, List.length_nil, List.replicate, List.cons_append, List.nil_append, List.set_cons_zero, List.set_cons_succ, Nat.reduceSub, Nat.reduceAdd, wipeD])
local macro_rules | `(tactic| walk_at "go") => `(tactic| ((try dsimp only [cxOf, Cx.nox, Cx.wish, Cx.blk]); walk_at "sl"; walk_at "sl"))
local macro_rules | `(tactic| walk_at "own") => `(tactic| first | assumption | exact setO_same | (rw [setO_ne (by first | assumption | exact Ne.symm (by assumption))]; assumption) | (rw [setO_ne (by first | assumption | exact Ne.symm (by assumption))]; exact setO_same))
local macro_rules | `(tactic| walk_at "side") => `(tactic| first
  | assumption | rfl | exact flat_ints _ | exact atI0 | exact atI1 | exact atI2 | exact atI3 | decide | omega | (simp; done)
  | (refine cmodp ?_; omega) | (refine cdivw ?_ ?_ <;> omega) | (refine cmul_l ?_ ?_ <;> omega) | (refine cmul_r ?_ ?_ <;> omega) | (refine cpow ?_ ?_ ?_ <;> decide))
local macro_rules | `(tactic| walk_at "rr") => `(tactic| first
  | with_reducible exact r_int | with_reducible exact r_bl | with_reducible exact r_eqI | with_reducible exact r_neI | with_reducible exact r_eqB | with_reducible exact r_neB | with_reducible exact r_eqS | with_reducible exact r_neS
  | ((with_reducible apply r_intC); walk_at "side")
  | ((with_reducible apply r_ixL); walk_at "side") | ((with_reducible apply r_ixT); walk_at "side") | ((with_reducible apply r_ixS); walk_at "side") | ((with_reducible apply r_ixO); (focus walk_at "own"); (focus walk_at "side"))
  | ((with_reducible apply r_inT0) <;> walk_at "side") | ((with_reducible apply r_inL0) <;> walk_at "side") | ((with_reducible apply r_inT1) <;> walk_at "side") | ((with_reducible apply r_inL1) <;> walk_at "side")
  | ((with_reducible apply r_inO0); (focus walk_at "own"); (focus walk_at "side"); (focus walk_at "side")) | ((with_reducible apply r_inO1); (focus walk_at "own"); (focus walk_at "side"); (focus walk_at "side"))
  | ((with_reducible apply r_rep) <;> walk_at "side") | ((with_reducible apply r_cat) <;> walk_at "side")
  | ((with_reducible apply r_catA) <;> walk_at "side") | ((with_reducible apply r_catO); (focus walk_at "own"); (focus walk_at "side"))
  | ((with_reducible apply r_addS); (focus walk_at "side")) | with_reducible exact r_isN _ rfl | with_reducible exact r_notN _ rfl
  | ((with_reducible apply r_eqP); (focus walk_at "pl"); (focus walk_at "pl"); (focus decide); (focus decide)) | ((with_reducible apply r_neP); (focus walk_at "pl"); (focus walk_at "pl"); (focus decide); (focus decide)))
local macro_rules | `(tactic| walk_at "pl") => `(tactic| first | exact Pl.ints _ | exact Pl.intsL _ | exact Pl.nilT | exact Pl.nilL | exact Pl.int (n := 0) | assumption)
local macro_rules | `(tactic| walk_at "cc") => `(tactic| first
  | with_reducible exact c_lenL | with_reducible exact c_lenT | with_reducible exact c_lenS | ((with_reducible apply c_lenO); walk_at "own")
  | with_reducible exact c_listL | with_reducible exact c_listT | with_reducible exact c_tupL | with_reducible exact c_sum | with_reducible exact c_intB | with_reducible exact c_int1
  | with_reducible exact c_max2 | ((with_reducible apply c_strI); (focus walk_at "side")) | ((with_reducible apply c_lenStr); (focus walk_at "side"))
  | ((with_reducible apply c_isi); (focus rfl); (focus (first | decide +kernel | rfl))) | ((with_reducible apply c_isi2); (focus rfl); (focus (first | decide +kernel | rfl)); (focus (first | decide +kernel | rfl))))
local macro_rules | `(tactic| walk_at "ea") => `(tactic| first
  | with_reducible exact ea_nil
  | ((with_reducible apply ea_cons); (focus walk_at "ev"); (focus walk_at "ea"))
  | ((with_reducible apply ea_starT); (focus walk_at "ev"); (focus walk_at "ea")) | ((with_reducible apply ea_starL); (focus walk_at "ev"); (focus walk_at "ea")))
local macro_rules | `(tactic| walk_at "ev") => `(tactic| first
  | exact ev_var rfl | with_reducible exact ev_int | with_reducible exact ev_bl | with_reducible exact ev_str | with_reducible exact ev_non | with_reducible exact ev_ty | with_reducible exact ev_ref
  | ((with_reducible apply ev_op); (focus walk_at "ev"); (focus walk_at "ev"); (focus walk_at "rr"))
  | ((with_reducible apply ev_cb); (focus walk_at "ea"); (focus walk_at "cc"))
  | ((with_reducible apply ev_neg); (focus walk_at "ev"))
  | ((with_reducible apply ev_tup); (focus walk_at "ea"); (focus walk_at "side"))
  | ((with_reducible apply ev_lst); (focus walk_at "ea"); (focus walk_at "side"))
  | ((with_reducible apply ev_notV); (focus walk_at "ev"))
  | ((with_reducible apply ev_chain); (focus walk_at "ev"); (focus walk_at "ev"); (focus walk_at "rr"); (focus (intro _; walk_at "ev")); (focus (intro _; walk_at "rr")))
  | walk_at "evx")
local macro_rules | `(tactic| walk_at "et") => `(tactic| first
  | ((with_reducible apply et_test); walk_at "ev") | ((with_reducible apply et_B); walk_at "ev") | with_reducible exact et_yes
  | ((with_reducible apply et_not); walk_at "et")
  | ((with_reducible apply et_and); (focus walk_at "et"); (focus (intro _; walk_at "et")))
  | ((with_reducible apply et_or); (focus walk_at "et"); (focus (intro _; walk_at "et"))))
local macro_rules | `(tactic| walk_at "s1") => `(tactic| first
  | ((with_reducible apply sd_asg); (focus walk_at "ev"); walk_at "sl")
  | ((with_reducible apply sd_par); (focus walk_at "ea"); walk_at "sl")
  | ((with_reducible apply sd_setL); (focus walk_at "ev"); (focus walk_at "ev"); (focus walk_at "ev"); (focus walk_at "own"); (focus (first | exact ixN_of (k := 0) rfl (by simp) | exact ixN_of (k := 1) rfl (by simp) | exact ixN_of (k := 2) rfl (by simp) | exact ixN_of (k := 3) rfl (by simp) | assumption)); walk_at "sl")
  | ((with_reducible apply sd_app); (focus walk_at "ev"); (focus walk_at "own"); (focus walk_at "ev"); (focus walk_at "own"); (focus walk_at "side"); walk_at "sl")
  | ((with_reducible apply sd_ret); (focus walk_at "ev"))
  | with_reducible apply sd_next)
local macro_rules | `(tactic| walk_at "st") => `(tactic| first | ((with_reducible apply sd_seq); walk_at "s1") | walk_at "s1")
local macro_rules | `(tactic| walk_at "R") => `(tactic| first
  | exact ⟨_, rfl, rfl, rfl⟩ | exact ⟨_, _, rfl, rfl, rfl⟩ | exact ⟨_, _, _, rfl, rfl, rfl⟩ | exact ⟨_, _, _, _, rfl, rfl, rfl⟩
  | exact ⟨_, rfl, by assumption, rfl, rfl⟩ | exact ⟨_, _, rfl, by assumption, rfl, rfl⟩ | exact ⟨_, _, _, rfl, by assumption, rfl, rfl⟩ | exact ⟨_, _, _, _, rfl, by assumption, rfl, rfl⟩
  | exact ⟨_, _, rfl, by assumption, by assumption, rfl, rfl⟩ | exact ⟨_, _, _, rfl, by assumption, by assumption, rfl, rfl⟩ | exact ⟨_, _, _, _, rfl, by assumption, by assumption, rfl, rfl⟩)
local macro_rules | `(tactic| walk_at "evx") => `(tactic| first
  | ((with_reducible apply ev_run); (focus walk_at "ea"); walk_at "R")
  | ((with_reducible apply ev_propR); (focus walk_at "ev"); walk_at "R")
  | ((with_reducible apply ev_fld); (focus walk_at "ev"); (focus walk_at "cls"); (focus walk_at "cls"); (focus rfl))
  | ((with_reducible apply ev_ownIn0); (focus walk_at "ev"); (focus walk_at "ev"); walk_at "R")
  | ((with_reducible apply ev_slL); (focus walk_at "ev"); (focus walk_at "eo"); (focus walk_at "eo"))
  | ((with_reducible apply ev_slT); (focus walk_at "ev"); (focus walk_at "eo"); (focus walk_at "eo"))
  | ((with_reducible apply ev_cvalI); (focus walk_at "ev"); (focus walk_at "cls"); (focus walk_at "cls")))
local macro_rules | `(tactic| walk_at "eo") => `(tactic| first | with_reducible exact eo_none | ((with_reducible apply eo_some); walk_at "ev"))
set_option maxHeartbeats 0 in
theorem mkTx {K : PySem.W.Frag} {h : Heap} {mg : Str → Option Value} (X : K.In h) (G : h.Ns mainGlobals mg)
    {c_Shares c_Bill c_Evening c_Course c_MarkObserver c_Contradiction c_InvalidNumber c_UnknownSeat f_Bill_seats f_is_integer f_Evening_Dinit f_Evening_Dlen f_Evening_seat_count f_MarkObserver_Dinit f_MarkObserver_possible_marks f_MarkObserver_records f_Evening_bills f_Shares_Dinit f_Bill_Dcontains f_Bill_amount f_Bill_odd_cents f_payers f_pay f_played f_Course_Dinit f_Shares_Dadd f_no_shares f_Course_ring_shares f_Shares_Dmul f_Course_after f_Evening_Dgetitem f_MarkObserver_paid f_validate_seat f_MarkObserver_see f_law_paid f_validate_mark f_repeated f_law_cents f_law_drawn f_Evening_Dadd f_Bill_Dinit f_law_bill f_law_evening f_law_outcome f_law_rows f_law_same f_law_start f_law p_Bill_seats p_Evening_seat_count p_MarkObserver_possible_marks p_MarkObserver_records p_Evening_bills p_Bill_amount p_Bill_odd_cents : Addr}
    {oc_Bill_seats kV_Bill_seats dc_Bill_seats pm_Bill_seats cv_Bill_seats ct_Bill_seats oc_is_integer kV_is_integer dc_is_integer pm_is_integer cv_is_integer ct_is_integer oc_Evening_Dinit kV_Evening_Dinit dc_Evening_Dinit pm_Evening_Dinit cv_Evening_Dinit ct_Evening_Dinit oc_Evening_Dlen kV_Evening_Dlen dc_Evening_Dlen pm_Evening_Dlen cv_Evening_Dlen ct_Evening_Dlen oc_Evening_seat_count kV_Evening_seat_count dc_Evening_seat_count pm_Evening_seat_count cv_Evening_seat_count ct_Evening_seat_count oc_MarkObserver_Dinit kV_MarkObserver_Dinit dc_MarkObserver_Dinit pm_MarkObserver_Dinit cv_MarkObserver_Dinit ct_MarkObserver_Dinit oc_MarkObserver_possible_marks kV_MarkObserver_possible_marks dc_MarkObserver_possible_marks pm_MarkObserver_possible_marks cv_MarkObserver_possible_marks ct_MarkObserver_possible_marks oc_MarkObserver_records kV_MarkObserver_records dc_MarkObserver_records pm_MarkObserver_records cv_MarkObserver_records ct_MarkObserver_records oc_Evening_bills kV_Evening_bills dc_Evening_bills pm_Evening_bills cv_Evening_bills ct_Evening_bills oc_Shares_Dinit kV_Shares_Dinit dc_Shares_Dinit pm_Shares_Dinit cv_Shares_Dinit ct_Shares_Dinit oc_Bill_Dcontains kV_Bill_Dcontains dc_Bill_Dcontains pm_Bill_Dcontains cv_Bill_Dcontains ct_Bill_Dcontains oc_Bill_amount kV_Bill_amount dc_Bill_amount pm_Bill_amount cv_Bill_amount ct_Bill_amount oc_Bill_odd_cents kV_Bill_odd_cents dc_Bill_odd_cents pm_Bill_odd_cents cv_Bill_odd_cents ct_Bill_odd_cents oc_payers kV_payers dc_payers pm_payers cv_payers ct_payers oc_pay kV_pay dc_pay pm_pay cv_pay ct_pay oc_played kV_played dc_played pm_played cv_played ct_played oc_Course_Dinit kV_Course_Dinit dc_Course_Dinit pm_Course_Dinit cv_Course_Dinit ct_Course_Dinit oc_Shares_Dadd kV_Shares_Dadd dc_Shares_Dadd pm_Shares_Dadd cv_Shares_Dadd ct_Shares_Dadd oc_no_shares kV_no_shares dc_no_shares pm_no_shares cv_no_shares ct_no_shares oc_Course_ring_shares kV_Course_ring_shares dc_Course_ring_shares pm_Course_ring_shares cv_Course_ring_shares ct_Course_ring_shares oc_Shares_Dmul kV_Shares_Dmul dc_Shares_Dmul pm_Shares_Dmul cv_Shares_Dmul ct_Shares_Dmul oc_Course_after kV_Course_after dc_Course_after pm_Course_after cv_Course_after ct_Course_after oc_Evening_Dgetitem kV_Evening_Dgetitem dc_Evening_Dgetitem pm_Evening_Dgetitem cv_Evening_Dgetitem ct_Evening_Dgetitem oc_MarkObserver_paid kV_MarkObserver_paid dc_MarkObserver_paid pm_MarkObserver_paid cv_MarkObserver_paid ct_MarkObserver_paid oc_validate_seat kV_validate_seat dc_validate_seat pm_validate_seat cv_validate_seat ct_validate_seat oc_MarkObserver_see kV_MarkObserver_see dc_MarkObserver_see pm_MarkObserver_see cv_MarkObserver_see ct_MarkObserver_see oc_law_paid kV_law_paid dc_law_paid pm_law_paid cv_law_paid ct_law_paid oc_validate_mark kV_validate_mark dc_validate_mark pm_validate_mark cv_validate_mark ct_validate_mark oc_repeated kV_repeated dc_repeated pm_repeated cv_repeated ct_repeated oc_law_cents kV_law_cents dc_law_cents pm_law_cents cv_law_cents ct_law_cents oc_law_drawn kV_law_drawn dc_law_drawn pm_law_drawn cv_law_drawn ct_law_drawn oc_Evening_Dadd kV_Evening_Dadd dc_Evening_Dadd pm_Evening_Dadd cv_Evening_Dadd ct_Evening_Dadd oc_Bill_Dinit kV_Bill_Dinit dc_Bill_Dinit pm_Bill_Dinit cv_Bill_Dinit ct_Bill_Dinit oc_law_bill kV_law_bill dc_law_bill pm_law_bill cv_law_bill ct_law_bill oc_law_evening kV_law_evening dc_law_evening pm_law_evening cv_law_evening ct_law_evening oc_law_outcome kV_law_outcome dc_law_outcome pm_law_outcome cv_law_outcome ct_law_outcome oc_law_rows kV_law_rows dc_law_rows pm_law_rows cv_law_rows ct_law_rows oc_law_same kV_law_same dc_law_same pm_law_same cv_law_same ct_law_same oc_law_start kV_law_start dc_law_start pm_law_start cv_law_start ct_law_start oc_law kV_law dc_law pm_law ct_law : Value}
    {cc_law tb_law : Addr}
    {ce_law : Value}
    {co_law : Option Addr}
    {vv_law : Array Value}
    {cl_law : Array (Option Value)}
    {od_Bill_seats an_Bill_seats od_is_integer an_is_integer od_Evening_Dinit an_Evening_Dinit od_Evening_Dlen an_Evening_Dlen od_Evening_seat_count an_Evening_seat_count od_MarkObserver_Dinit an_MarkObserver_Dinit od_MarkObserver_possible_marks an_MarkObserver_possible_marks od_MarkObserver_records an_MarkObserver_records od_Evening_bills an_Evening_bills od_Shares_Dinit an_Shares_Dinit od_Bill_Dcontains an_Bill_Dcontains od_Bill_amount an_Bill_amount od_Bill_odd_cents an_Bill_odd_cents od_payers an_payers od_pay an_pay od_played an_played od_Course_Dinit an_Course_Dinit od_Shares_Dadd an_Shares_Dadd od_no_shares an_no_shares od_Course_ring_shares an_Course_ring_shares od_Shares_Dmul an_Shares_Dmul od_Course_after an_Course_after od_Evening_Dgetitem an_Evening_Dgetitem od_MarkObserver_paid an_MarkObserver_paid od_validate_seat an_validate_seat od_MarkObserver_see an_MarkObserver_see od_law_paid an_law_paid od_validate_mark an_validate_mark od_repeated an_repeated od_law_cents an_law_cents od_law_drawn an_law_drawn od_Evening_Dadd an_Evening_Dadd od_Bill_Dinit an_Bill_Dinit od_law_bill an_law_bill od_law_evening an_law_evening od_law_outcome an_law_outcome od_law_rows an_law_rows od_law_same an_law_same od_law_start an_law_start od_law an_law : Option Addr}
    {sl_Bill_seats sl_is_integer sl_Evening_Dinit sl_Evening_Dlen sl_Evening_seat_count sl_MarkObserver_Dinit sl_MarkObserver_possible_marks sl_MarkObserver_records sl_Evening_bills sl_Shares_Dinit sl_Bill_Dcontains sl_Bill_amount sl_Bill_odd_cents sl_payers sl_pay sl_played sl_Course_Dinit sl_Shares_Dadd sl_no_shares sl_Course_ring_shares sl_Shares_Dmul sl_Course_after sl_Evening_Dgetitem sl_MarkObserver_paid sl_validate_seat sl_MarkObserver_see sl_law_paid sl_validate_mark sl_repeated sl_law_cents sl_law_drawn sl_Evening_Dadd sl_Bill_Dinit sl_law_bill sl_law_evening sl_law_outcome sl_law_rows sl_law_same sl_law_start sl_law : Array (Option Value)}
    {t_MAX_CENTS t_MAX_TIMES u_Bill_MAX_SEATS u_Evening_MAX_BILLS : Tok}
    {rs_Bill_seats rs_Evening_seat_count rs_MarkObserver_possible_marks rs_MarkObserver_records rs_Evening_bills rs_Bill_amount rs_Bill_odd_cents : List Value}
    (ns_Shares : PySem.W.nsIn K mainGlobals "Shares" = some (some (.ref c_Shares)))
    (ns_Bill : PySem.W.nsIn K mainGlobals "Bill" = some (some (.ref c_Bill)))
    (ns_Evening : PySem.W.nsIn K mainGlobals "Evening" = some (some (.ref c_Evening)))
    (ns_Course : PySem.W.nsIn K mainGlobals "Course" = some (some (.ref c_Course)))
    (ns_MarkObserver : PySem.W.nsIn K mainGlobals "MarkObserver" = some (some (.ref c_MarkObserver)))
    (ns_is_integer : PySem.W.nsIn K mainGlobals "is_integer" = some (some (.ref f_is_integer)))
    (ns_payers : PySem.W.nsIn K mainGlobals "payers" = some (some (.ref f_payers)))
    (ns_pay : PySem.W.nsIn K mainGlobals "pay" = some (some (.ref f_pay)))
    (ns_played : PySem.W.nsIn K mainGlobals "played" = some (some (.ref f_played)))
    (ns_no_shares : PySem.W.nsIn K mainGlobals "no_shares" = some (some (.ref f_no_shares)))
    (ns_validate_seat : PySem.W.nsIn K mainGlobals "validate_seat" = some (some (.ref f_validate_seat)))
    (ns_law_paid : PySem.W.nsIn K mainGlobals "_law_paid" = some (some (.ref f_law_paid)))
    (ns_validate_mark : PySem.W.nsIn K mainGlobals "validate_mark" = some (some (.ref f_validate_mark)))
    (ns_repeated : PySem.W.nsIn K mainGlobals "repeated" = some (some (.ref f_repeated)))
    (ns_law_cents : PySem.W.nsIn K mainGlobals "_law_cents" = some (some (.ref f_law_cents)))
    (ns_law_drawn : PySem.W.nsIn K mainGlobals "_law_drawn" = some (some (.ref f_law_drawn)))
    (ns_law_bill : PySem.W.nsIn K mainGlobals "_law_bill" = some (some (.ref f_law_bill)))
    (ns_law_evening : PySem.W.nsIn K mainGlobals "_law_evening" = some (some (.ref f_law_evening)))
    (ns_law_outcome : PySem.W.nsIn K mainGlobals "_law_outcome" = some (some (.ref f_law_outcome)))
    (ns_law_rows : PySem.W.nsIn K mainGlobals "_law_rows" = some (some (.ref f_law_rows)))
    (ns_law_same : PySem.W.nsIn K mainGlobals "_law_same" = some (some (.ref f_law_same)))
    (ns_law_start : PySem.W.nsIn K mainGlobals "_law_start" = some (some (.ref f_law_start)))
    (ns_law : PySem.W.nsIn K mainGlobals "law" = some (some (.ref f_law)))
    (ns_Contradiction : PySem.W.nsIn K mainGlobals "Contradiction" = some (some (.ref c_Contradiction)))
    (xm_Contradiction : PySem.W.excIn K c_Contradiction [.type "ValueError", .type "Exception", .type "BaseException", .type "object"] "ValueError.__new__" = true)
    (xk_Contradiction : PySem.W.keepIn K (.ref c_Contradiction) = true)
    (xb_Contradiction : PySem.W.subIn K (.ref c_Contradiction) (.type "BaseException") = some true)
    (xt_Contradiction : PySem.W.typeIn K (.ref c_Contradiction) = some (.type "type"))
    (xi_Contradiction : PySem.W.isClsIn K c_Contradiction = true)
    (ns_InvalidNumber : PySem.W.nsIn K mainGlobals "InvalidNumber" = some (some (.ref c_InvalidNumber)))
    (xm_InvalidNumber : PySem.W.excIn K c_InvalidNumber [.type "ValueError", .type "Exception", .type "BaseException", .type "object"] "ValueError.__new__" = true)
    (xk_InvalidNumber : PySem.W.keepIn K (.ref c_InvalidNumber) = true)
    (xb_InvalidNumber : PySem.W.subIn K (.ref c_InvalidNumber) (.type "BaseException") = some true)
    (xt_InvalidNumber : PySem.W.typeIn K (.ref c_InvalidNumber) = some (.type "type"))
    (xi_InvalidNumber : PySem.W.isClsIn K c_InvalidNumber = true)
    (ns_UnknownSeat : PySem.W.nsIn K mainGlobals "UnknownSeat" = some (some (.ref c_UnknownSeat)))
    (xm_UnknownSeat : PySem.W.excIn K c_UnknownSeat [.type "ValueError", .type "Exception", .type "BaseException", .type "object"] "ValueError.__new__" = true)
    (xk_UnknownSeat : PySem.W.keepIn K (.ref c_UnknownSeat) = true)
    (xb_UnknownSeat : PySem.W.subIn K (.ref c_UnknownSeat) (.type "BaseException") = some true)
    (xt_UnknownSeat : PySem.W.typeIn K (.ref c_UnknownSeat) = some (.type "type"))
    (xi_UnknownSeat : PySem.W.isClsIn K c_UnknownSeat = true)
    (xs_Contradiction_Contradiction : PySem.W.subIn K (.ref c_Contradiction) (.ref c_Contradiction) = some true)
    (xs_Contradiction_InvalidNumber : PySem.W.subIn K (.ref c_Contradiction) (.ref c_InvalidNumber) = some false)
    (xs_Contradiction_UnknownSeat : PySem.W.subIn K (.ref c_Contradiction) (.ref c_UnknownSeat) = some false)
    (xs_InvalidNumber_Contradiction : PySem.W.subIn K (.ref c_InvalidNumber) (.ref c_Contradiction) = some false)
    (xs_InvalidNumber_InvalidNumber : PySem.W.subIn K (.ref c_InvalidNumber) (.ref c_InvalidNumber) = some true)
    (xs_InvalidNumber_UnknownSeat : PySem.W.subIn K (.ref c_InvalidNumber) (.ref c_UnknownSeat) = some false)
    (xs_UnknownSeat_Contradiction : PySem.W.subIn K (.ref c_UnknownSeat) (.ref c_Contradiction) = some false)
    (xs_UnknownSeat_InvalidNumber : PySem.W.subIn K (.ref c_UnknownSeat) (.ref c_InvalidNumber) = some false)
    (xs_UnknownSeat_UnknownSeat : PySem.W.subIn K (.ref c_UnknownSeat) (.ref c_UnknownSeat) = some true)
    (rd_Bill : PySem.W.readsIn K c_Bill (.type "type") = true)
    (ga_Bill : PySem.W.specialIn K (.ref c_Bill) "__getattribute__" = some (some (.builtin "type.__getattribute__")))
    (rd_Evening : PySem.W.readsIn K c_Evening (.type "type") = true)
    (ga_Evening : PySem.W.specialIn K (.ref c_Evening) "__getattribute__" = some (some (.builtin "type.__getattribute__")))
    (fi_Bill_seats : PySem.W.findIn K (.ref c_Bill) "seats" = some (some (.ref p_Bill_seats)))
    (pgt_Bill_seats : PySem.W.specialIn K (.ref p_Bill_seats) "__get__" = some (some (.builtin "property.__get__")))
    (ptk_Bill_seats : PySem.W.takesIn K (.ref p_Bill_seats) = some true)
    (prc_Bill_seats : PySem.W.recIn K p_Bill_seats "property" = some (.ref f_Bill_seats :: rs_Bill_seats))
    (l_Bill_seats : K.lookup f_Bill_seats = some ⟨oc_Bill_seats, od_Bill_seats, .func (PySem.W.fnOf "seats" "Bill.seats" (defArgs s_Bill_seats) (defBody s_Bill_seats) (defScope s_Bill_seats) .none kV_Bill_seats dc_Bill_seats pm_Bill_seats an_Bill_seats cv_Bill_seats ct_Bill_seats), sl_Bill_seats⟩)
    (cd_Bill_seats : PySem.W.codeIn K cv_Bill_seats "Bill.seats" = true)
    (kp_Bill_seats : PySem.W.keepIn K (.ref f_Bill_seats) = true)
    (l_is_integer : K.lookup f_is_integer = some ⟨oc_is_integer, od_is_integer, .func (PySem.W.fnOf "is_integer" "is_integer" (defArgs s_is_integer) (defBody s_is_integer) (defScope s_is_integer) .none kV_is_integer dc_is_integer pm_is_integer an_is_integer cv_is_integer ct_is_integer), sl_is_integer⟩)
    (cd_is_integer : PySem.W.codeIn K cv_is_integer "is_integer" = true)
    (kp_is_integer : PySem.W.keepIn K (.ref f_is_integer) = true)
    (fi_Evening_Dinit : PySem.W.findIn K (.ref c_Evening) "__init__" = some (some (.ref f_Evening_Dinit)))
    (l_Evening_Dinit : K.lookup f_Evening_Dinit = some ⟨oc_Evening_Dinit, od_Evening_Dinit, .func (PySem.W.fnOf "__init__" "Evening.__init__" (defArgs s_Evening_Dinit) (defBody s_Evening_Dinit) (defScope s_Evening_Dinit) .none kV_Evening_Dinit dc_Evening_Dinit pm_Evening_Dinit an_Evening_Dinit cv_Evening_Dinit ct_Evening_Dinit), sl_Evening_Dinit⟩)
    (cd_Evening_Dinit : PySem.W.codeIn K cv_Evening_Dinit "Evening.__init__" = true)
    (kp_Evening_Dinit : PySem.W.keepIn K (.ref f_Evening_Dinit) = true)
    (fn_Evening_Dinit : PySem.W.isFn K (.ref f_Evening_Dinit) = true)
    (fk_Evening_Dinit : PySem.W.fnIn K f_Evening_Dinit = true)
    (fi_Evening_Dlen : PySem.W.findIn K (.ref c_Evening) "__len__" = some (some (.ref f_Evening_Dlen)))
    (l_Evening_Dlen : K.lookup f_Evening_Dlen = some ⟨oc_Evening_Dlen, od_Evening_Dlen, .func (PySem.W.fnOf "__len__" "Evening.__len__" (defArgs s_Evening_Dlen) (defBody s_Evening_Dlen) (defScope s_Evening_Dlen) .none kV_Evening_Dlen dc_Evening_Dlen pm_Evening_Dlen an_Evening_Dlen cv_Evening_Dlen ct_Evening_Dlen), sl_Evening_Dlen⟩)
    (cd_Evening_Dlen : PySem.W.codeIn K cv_Evening_Dlen "Evening.__len__" = true)
    (kp_Evening_Dlen : PySem.W.keepIn K (.ref f_Evening_Dlen) = true)
    (fn_Evening_Dlen : PySem.W.isFn K (.ref f_Evening_Dlen) = true)
    (fk_Evening_Dlen : PySem.W.fnIn K f_Evening_Dlen = true)
    (fi_Evening_seat_count : PySem.W.findIn K (.ref c_Evening) "seat_count" = some (some (.ref p_Evening_seat_count)))
    (pgt_Evening_seat_count : PySem.W.specialIn K (.ref p_Evening_seat_count) "__get__" = some (some (.builtin "property.__get__")))
    (ptk_Evening_seat_count : PySem.W.takesIn K (.ref p_Evening_seat_count) = some true)
    (prc_Evening_seat_count : PySem.W.recIn K p_Evening_seat_count "property" = some (.ref f_Evening_seat_count :: rs_Evening_seat_count))
    (l_Evening_seat_count : K.lookup f_Evening_seat_count = some ⟨oc_Evening_seat_count, od_Evening_seat_count, .func (PySem.W.fnOf "seat_count" "Evening.seat_count" (defArgs s_Evening_seat_count) (defBody s_Evening_seat_count) (defScope s_Evening_seat_count) .none kV_Evening_seat_count dc_Evening_seat_count pm_Evening_seat_count an_Evening_seat_count cv_Evening_seat_count ct_Evening_seat_count), sl_Evening_seat_count⟩)
    (cd_Evening_seat_count : PySem.W.codeIn K cv_Evening_seat_count "Evening.seat_count" = true)
    (kp_Evening_seat_count : PySem.W.keepIn K (.ref f_Evening_seat_count) = true)
    (fi_MarkObserver_Dinit : PySem.W.findIn K (.ref c_MarkObserver) "__init__" = some (some (.ref f_MarkObserver_Dinit)))
    (l_MarkObserver_Dinit : K.lookup f_MarkObserver_Dinit = some ⟨oc_MarkObserver_Dinit, od_MarkObserver_Dinit, .func (PySem.W.fnOf "__init__" "MarkObserver.__init__" (defArgs s_MarkObserver_Dinit) (defBody s_MarkObserver_Dinit) (defScope s_MarkObserver_Dinit) .none kV_MarkObserver_Dinit dc_MarkObserver_Dinit pm_MarkObserver_Dinit an_MarkObserver_Dinit cv_MarkObserver_Dinit ct_MarkObserver_Dinit), sl_MarkObserver_Dinit⟩)
    (cd_MarkObserver_Dinit : PySem.W.codeIn K cv_MarkObserver_Dinit "MarkObserver.__init__" = true)
    (kp_MarkObserver_Dinit : PySem.W.keepIn K (.ref f_MarkObserver_Dinit) = true)
    (fn_MarkObserver_Dinit : PySem.W.isFn K (.ref f_MarkObserver_Dinit) = true)
    (fk_MarkObserver_Dinit : PySem.W.fnIn K f_MarkObserver_Dinit = true)
    (fi_MarkObserver_possible_marks : PySem.W.findIn K (.ref c_MarkObserver) "possible_marks" = some (some (.ref p_MarkObserver_possible_marks)))
    (pgt_MarkObserver_possible_marks : PySem.W.specialIn K (.ref p_MarkObserver_possible_marks) "__get__" = some (some (.builtin "property.__get__")))
    (ptk_MarkObserver_possible_marks : PySem.W.takesIn K (.ref p_MarkObserver_possible_marks) = some true)
    (prc_MarkObserver_possible_marks : PySem.W.recIn K p_MarkObserver_possible_marks "property" = some (.ref f_MarkObserver_possible_marks :: rs_MarkObserver_possible_marks))
    (l_MarkObserver_possible_marks : K.lookup f_MarkObserver_possible_marks = some ⟨oc_MarkObserver_possible_marks, od_MarkObserver_possible_marks, .func (PySem.W.fnOf "possible_marks" "MarkObserver.possible_marks" (defArgs s_MarkObserver_possible_marks) (defBody s_MarkObserver_possible_marks) (defScope s_MarkObserver_possible_marks) .none kV_MarkObserver_possible_marks dc_MarkObserver_possible_marks pm_MarkObserver_possible_marks an_MarkObserver_possible_marks cv_MarkObserver_possible_marks ct_MarkObserver_possible_marks), sl_MarkObserver_possible_marks⟩)
    (cd_MarkObserver_possible_marks : PySem.W.codeIn K cv_MarkObserver_possible_marks "MarkObserver.possible_marks" = true)
    (kp_MarkObserver_possible_marks : PySem.W.keepIn K (.ref f_MarkObserver_possible_marks) = true)
    (fi_MarkObserver_records : PySem.W.findIn K (.ref c_MarkObserver) "records" = some (some (.ref p_MarkObserver_records)))
    (pgt_MarkObserver_records : PySem.W.specialIn K (.ref p_MarkObserver_records) "__get__" = some (some (.builtin "property.__get__")))
    (ptk_MarkObserver_records : PySem.W.takesIn K (.ref p_MarkObserver_records) = some true)
    (prc_MarkObserver_records : PySem.W.recIn K p_MarkObserver_records "property" = some (.ref f_MarkObserver_records :: rs_MarkObserver_records))
    (l_MarkObserver_records : K.lookup f_MarkObserver_records = some ⟨oc_MarkObserver_records, od_MarkObserver_records, .func (PySem.W.fnOf "records" "MarkObserver.records" (defArgs s_MarkObserver_records) (defBody s_MarkObserver_records) (defScope s_MarkObserver_records) .none kV_MarkObserver_records dc_MarkObserver_records pm_MarkObserver_records an_MarkObserver_records cv_MarkObserver_records ct_MarkObserver_records), sl_MarkObserver_records⟩)
    (cd_MarkObserver_records : PySem.W.codeIn K cv_MarkObserver_records "MarkObserver.records" = true)
    (kp_MarkObserver_records : PySem.W.keepIn K (.ref f_MarkObserver_records) = true)
    (fi_Evening_bills : PySem.W.findIn K (.ref c_Evening) "bills" = some (some (.ref p_Evening_bills)))
    (pgt_Evening_bills : PySem.W.specialIn K (.ref p_Evening_bills) "__get__" = some (some (.builtin "property.__get__")))
    (ptk_Evening_bills : PySem.W.takesIn K (.ref p_Evening_bills) = some true)
    (prc_Evening_bills : PySem.W.recIn K p_Evening_bills "property" = some (.ref f_Evening_bills :: rs_Evening_bills))
    (l_Evening_bills : K.lookup f_Evening_bills = some ⟨oc_Evening_bills, od_Evening_bills, .func (PySem.W.fnOf "bills" "Evening.bills" (defArgs s_Evening_bills) (defBody s_Evening_bills) (defScope s_Evening_bills) .none kV_Evening_bills dc_Evening_bills pm_Evening_bills an_Evening_bills cv_Evening_bills ct_Evening_bills), sl_Evening_bills⟩)
    (cd_Evening_bills : PySem.W.codeIn K cv_Evening_bills "Evening.bills" = true)
    (kp_Evening_bills : PySem.W.keepIn K (.ref f_Evening_bills) = true)
    (fi_Shares_Dinit : PySem.W.findIn K (.ref c_Shares) "__init__" = some (some (.ref f_Shares_Dinit)))
    (l_Shares_Dinit : K.lookup f_Shares_Dinit = some ⟨oc_Shares_Dinit, od_Shares_Dinit, .func (PySem.W.fnOf "__init__" "Shares.__init__" (defArgs s_Shares_Dinit) (defBody s_Shares_Dinit) (defScope s_Shares_Dinit) .none kV_Shares_Dinit dc_Shares_Dinit pm_Shares_Dinit an_Shares_Dinit cv_Shares_Dinit ct_Shares_Dinit), sl_Shares_Dinit⟩)
    (cd_Shares_Dinit : PySem.W.codeIn K cv_Shares_Dinit "Shares.__init__" = true)
    (kp_Shares_Dinit : PySem.W.keepIn K (.ref f_Shares_Dinit) = true)
    (fn_Shares_Dinit : PySem.W.isFn K (.ref f_Shares_Dinit) = true)
    (fk_Shares_Dinit : PySem.W.fnIn K f_Shares_Dinit = true)
    (fi_Bill_Dcontains : PySem.W.findIn K (.ref c_Bill) "__contains__" = some (some (.ref f_Bill_Dcontains)))
    (l_Bill_Dcontains : K.lookup f_Bill_Dcontains = some ⟨oc_Bill_Dcontains, od_Bill_Dcontains, .func (PySem.W.fnOf "__contains__" "Bill.__contains__" (defArgs s_Bill_Dcontains) (defBody s_Bill_Dcontains) (defScope s_Bill_Dcontains) .none kV_Bill_Dcontains dc_Bill_Dcontains pm_Bill_Dcontains an_Bill_Dcontains cv_Bill_Dcontains ct_Bill_Dcontains), sl_Bill_Dcontains⟩)
    (cd_Bill_Dcontains : PySem.W.codeIn K cv_Bill_Dcontains "Bill.__contains__" = true)
    (kp_Bill_Dcontains : PySem.W.keepIn K (.ref f_Bill_Dcontains) = true)
    (fn_Bill_Dcontains : PySem.W.isFn K (.ref f_Bill_Dcontains) = true)
    (fk_Bill_Dcontains : PySem.W.fnIn K f_Bill_Dcontains = true)
    (fi_Bill_amount : PySem.W.findIn K (.ref c_Bill) "amount" = some (some (.ref p_Bill_amount)))
    (pgt_Bill_amount : PySem.W.specialIn K (.ref p_Bill_amount) "__get__" = some (some (.builtin "property.__get__")))
    (ptk_Bill_amount : PySem.W.takesIn K (.ref p_Bill_amount) = some true)
    (prc_Bill_amount : PySem.W.recIn K p_Bill_amount "property" = some (.ref f_Bill_amount :: rs_Bill_amount))
    (l_Bill_amount : K.lookup f_Bill_amount = some ⟨oc_Bill_amount, od_Bill_amount, .func (PySem.W.fnOf "amount" "Bill.amount" (defArgs s_Bill_amount) (defBody s_Bill_amount) (defScope s_Bill_amount) .none kV_Bill_amount dc_Bill_amount pm_Bill_amount an_Bill_amount cv_Bill_amount ct_Bill_amount), sl_Bill_amount⟩)
    (cd_Bill_amount : PySem.W.codeIn K cv_Bill_amount "Bill.amount" = true)
    (kp_Bill_amount : PySem.W.keepIn K (.ref f_Bill_amount) = true)
    (fi_Bill_odd_cents : PySem.W.findIn K (.ref c_Bill) "odd_cents" = some (some (.ref p_Bill_odd_cents)))
    (pgt_Bill_odd_cents : PySem.W.specialIn K (.ref p_Bill_odd_cents) "__get__" = some (some (.builtin "property.__get__")))
    (ptk_Bill_odd_cents : PySem.W.takesIn K (.ref p_Bill_odd_cents) = some true)
    (prc_Bill_odd_cents : PySem.W.recIn K p_Bill_odd_cents "property" = some (.ref f_Bill_odd_cents :: rs_Bill_odd_cents))
    (l_Bill_odd_cents : K.lookup f_Bill_odd_cents = some ⟨oc_Bill_odd_cents, od_Bill_odd_cents, .func (PySem.W.fnOf "odd_cents" "Bill.odd_cents" (defArgs s_Bill_odd_cents) (defBody s_Bill_odd_cents) (defScope s_Bill_odd_cents) .none kV_Bill_odd_cents dc_Bill_odd_cents pm_Bill_odd_cents an_Bill_odd_cents cv_Bill_odd_cents ct_Bill_odd_cents), sl_Bill_odd_cents⟩)
    (cd_Bill_odd_cents : PySem.W.codeIn K cv_Bill_odd_cents "Bill.odd_cents" = true)
    (kp_Bill_odd_cents : PySem.W.keepIn K (.ref f_Bill_odd_cents) = true)
    (l_payers : K.lookup f_payers = some ⟨oc_payers, od_payers, .func (PySem.W.fnOf "payers" "payers" (defArgs s_payers) (defBody s_payers) (defScope s_payers) .none kV_payers dc_payers pm_payers an_payers cv_payers ct_payers), sl_payers⟩)
    (cd_payers : PySem.W.codeIn K cv_payers "payers" = true)
    (kp_payers : PySem.W.keepIn K (.ref f_payers) = true)
    (l_pay : K.lookup f_pay = some ⟨oc_pay, od_pay, .func (PySem.W.fnOf "pay" "pay" (defArgs s_pay) (defBody s_pay) (defScope s_pay) .none kV_pay dc_pay pm_pay an_pay cv_pay ct_pay), sl_pay⟩)
    (cd_pay : PySem.W.codeIn K cv_pay "pay" = true)
    (kp_pay : PySem.W.keepIn K (.ref f_pay) = true)
    (l_played : K.lookup f_played = some ⟨oc_played, od_played, .func (PySem.W.fnOf "played" "played" (defArgs s_played) (defBody s_played) (defScope s_played) .none kV_played dc_played pm_played an_played cv_played ct_played), sl_played⟩)
    (cd_played : PySem.W.codeIn K cv_played "played" = true)
    (kp_played : PySem.W.keepIn K (.ref f_played) = true)
    (fi_Course_Dinit : PySem.W.findIn K (.ref c_Course) "__init__" = some (some (.ref f_Course_Dinit)))
    (l_Course_Dinit : K.lookup f_Course_Dinit = some ⟨oc_Course_Dinit, od_Course_Dinit, .func (PySem.W.fnOf "__init__" "Course.__init__" (defArgs s_Course_Dinit) (defBody s_Course_Dinit) (defScope s_Course_Dinit) .none kV_Course_Dinit dc_Course_Dinit pm_Course_Dinit an_Course_Dinit cv_Course_Dinit ct_Course_Dinit), sl_Course_Dinit⟩)
    (cd_Course_Dinit : PySem.W.codeIn K cv_Course_Dinit "Course.__init__" = true)
    (kp_Course_Dinit : PySem.W.keepIn K (.ref f_Course_Dinit) = true)
    (fn_Course_Dinit : PySem.W.isFn K (.ref f_Course_Dinit) = true)
    (fk_Course_Dinit : PySem.W.fnIn K f_Course_Dinit = true)
    (fi_Shares_Dadd : PySem.W.findIn K (.ref c_Shares) "__add__" = some (some (.ref f_Shares_Dadd)))
    (l_Shares_Dadd : K.lookup f_Shares_Dadd = some ⟨oc_Shares_Dadd, od_Shares_Dadd, .func (PySem.W.fnOf "__add__" "Shares.__add__" (defArgs s_Shares_Dadd) (defBody s_Shares_Dadd) (defScope s_Shares_Dadd) .none kV_Shares_Dadd dc_Shares_Dadd pm_Shares_Dadd an_Shares_Dadd cv_Shares_Dadd ct_Shares_Dadd), sl_Shares_Dadd⟩)
    (cd_Shares_Dadd : PySem.W.codeIn K cv_Shares_Dadd "Shares.__add__" = true)
    (kp_Shares_Dadd : PySem.W.keepIn K (.ref f_Shares_Dadd) = true)
    (fn_Shares_Dadd : PySem.W.isFn K (.ref f_Shares_Dadd) = true)
    (fk_Shares_Dadd : PySem.W.fnIn K f_Shares_Dadd = true)
    (l_no_shares : K.lookup f_no_shares = some ⟨oc_no_shares, od_no_shares, .func (PySem.W.fnOf "no_shares" "no_shares" (defArgs s_no_shares) (defBody s_no_shares) (defScope s_no_shares) .none kV_no_shares dc_no_shares pm_no_shares an_no_shares cv_no_shares ct_no_shares), sl_no_shares⟩)
    (cd_no_shares : PySem.W.codeIn K cv_no_shares "no_shares" = true)
    (kp_no_shares : PySem.W.keepIn K (.ref f_no_shares) = true)
    (fi_Course_ring_shares : PySem.W.findIn K (.ref c_Course) "ring_shares" = some (some (.ref f_Course_ring_shares)))
    (l_Course_ring_shares : K.lookup f_Course_ring_shares = some ⟨oc_Course_ring_shares, od_Course_ring_shares, .func (PySem.W.fnOf "ring_shares" "Course.ring_shares" (defArgs s_Course_ring_shares) (defBody s_Course_ring_shares) (defScope s_Course_ring_shares) .none kV_Course_ring_shares dc_Course_ring_shares pm_Course_ring_shares an_Course_ring_shares cv_Course_ring_shares ct_Course_ring_shares), sl_Course_ring_shares⟩)
    (cd_Course_ring_shares : PySem.W.codeIn K cv_Course_ring_shares "Course.ring_shares" = true)
    (kp_Course_ring_shares : PySem.W.keepIn K (.ref f_Course_ring_shares) = true)
    (fn_Course_ring_shares : PySem.W.isFn K (.ref f_Course_ring_shares) = true)
    (fk_Course_ring_shares : PySem.W.fnIn K f_Course_ring_shares = true)
    (fi_Shares_Dmul : PySem.W.findIn K (.ref c_Shares) "__mul__" = some (some (.ref f_Shares_Dmul)))
    (l_Shares_Dmul : K.lookup f_Shares_Dmul = some ⟨oc_Shares_Dmul, od_Shares_Dmul, .func (PySem.W.fnOf "__mul__" "Shares.__mul__" (defArgs s_Shares_Dmul) (defBody s_Shares_Dmul) (defScope s_Shares_Dmul) .none kV_Shares_Dmul dc_Shares_Dmul pm_Shares_Dmul an_Shares_Dmul cv_Shares_Dmul ct_Shares_Dmul), sl_Shares_Dmul⟩)
    (cd_Shares_Dmul : PySem.W.codeIn K cv_Shares_Dmul "Shares.__mul__" = true)
    (kp_Shares_Dmul : PySem.W.keepIn K (.ref f_Shares_Dmul) = true)
    (fn_Shares_Dmul : PySem.W.isFn K (.ref f_Shares_Dmul) = true)
    (fk_Shares_Dmul : PySem.W.fnIn K f_Shares_Dmul = true)
    (fi_Course_after : PySem.W.findIn K (.ref c_Course) "after" = some (some (.ref f_Course_after)))
    (l_Course_after : K.lookup f_Course_after = some ⟨oc_Course_after, od_Course_after, .func (PySem.W.fnOf "after" "Course.after" (defArgs s_Course_after) (defBody s_Course_after) (defScope s_Course_after) .none kV_Course_after dc_Course_after pm_Course_after an_Course_after cv_Course_after ct_Course_after), sl_Course_after⟩)
    (cd_Course_after : PySem.W.codeIn K cv_Course_after "Course.after" = true)
    (kp_Course_after : PySem.W.keepIn K (.ref f_Course_after) = true)
    (fn_Course_after : PySem.W.isFn K (.ref f_Course_after) = true)
    (fk_Course_after : PySem.W.fnIn K f_Course_after = true)
    (fi_Evening_Dgetitem : PySem.W.findIn K (.ref c_Evening) "__getitem__" = some (some (.ref f_Evening_Dgetitem)))
    (l_Evening_Dgetitem : K.lookup f_Evening_Dgetitem = some ⟨oc_Evening_Dgetitem, od_Evening_Dgetitem, .func (PySem.W.fnOf "__getitem__" "Evening.__getitem__" (defArgs s_Evening_Dgetitem) (defBody s_Evening_Dgetitem) (defScope s_Evening_Dgetitem) .none kV_Evening_Dgetitem dc_Evening_Dgetitem pm_Evening_Dgetitem an_Evening_Dgetitem cv_Evening_Dgetitem ct_Evening_Dgetitem), sl_Evening_Dgetitem⟩)
    (cd_Evening_Dgetitem : PySem.W.codeIn K cv_Evening_Dgetitem "Evening.__getitem__" = true)
    (kp_Evening_Dgetitem : PySem.W.keepIn K (.ref f_Evening_Dgetitem) = true)
    (fn_Evening_Dgetitem : PySem.W.isFn K (.ref f_Evening_Dgetitem) = true)
    (fk_Evening_Dgetitem : PySem.W.fnIn K f_Evening_Dgetitem = true)
    (fi_MarkObserver_paid : PySem.W.findIn K (.ref c_MarkObserver) "paid" = some (some (.ref f_MarkObserver_paid)))
    (l_MarkObserver_paid : K.lookup f_MarkObserver_paid = some ⟨oc_MarkObserver_paid, od_MarkObserver_paid, .func (PySem.W.fnOf "paid" "MarkObserver.paid" (defArgs s_MarkObserver_paid) (defBody s_MarkObserver_paid) (defScope s_MarkObserver_paid) .none kV_MarkObserver_paid dc_MarkObserver_paid pm_MarkObserver_paid an_MarkObserver_paid cv_MarkObserver_paid ct_MarkObserver_paid), sl_MarkObserver_paid⟩)
    (cd_MarkObserver_paid : PySem.W.codeIn K cv_MarkObserver_paid "MarkObserver.paid" = true)
    (kp_MarkObserver_paid : PySem.W.keepIn K (.ref f_MarkObserver_paid) = true)
    (fn_MarkObserver_paid : PySem.W.isFn K (.ref f_MarkObserver_paid) = true)
    (fk_MarkObserver_paid : PySem.W.fnIn K f_MarkObserver_paid = true)
    (l_validate_seat : K.lookup f_validate_seat = some ⟨oc_validate_seat, od_validate_seat, .func (PySem.W.fnOf "validate_seat" "validate_seat" (defArgs s_validate_seat) (defBody s_validate_seat) (defScope s_validate_seat) .none kV_validate_seat dc_validate_seat pm_validate_seat an_validate_seat cv_validate_seat ct_validate_seat), sl_validate_seat⟩)
    (cd_validate_seat : PySem.W.codeIn K cv_validate_seat "validate_seat" = true)
    (kp_validate_seat : PySem.W.keepIn K (.ref f_validate_seat) = true)
    (fi_MarkObserver_see : PySem.W.findIn K (.ref c_MarkObserver) "see" = some (some (.ref f_MarkObserver_see)))
    (l_MarkObserver_see : K.lookup f_MarkObserver_see = some ⟨oc_MarkObserver_see, od_MarkObserver_see, .func (PySem.W.fnOf "see" "MarkObserver.see" (defArgs s_MarkObserver_see) (defBody s_MarkObserver_see) (defScope s_MarkObserver_see) .none kV_MarkObserver_see dc_MarkObserver_see pm_MarkObserver_see an_MarkObserver_see cv_MarkObserver_see ct_MarkObserver_see), sl_MarkObserver_see⟩)
    (cd_MarkObserver_see : PySem.W.codeIn K cv_MarkObserver_see "MarkObserver.see" = true)
    (kp_MarkObserver_see : PySem.W.keepIn K (.ref f_MarkObserver_see) = true)
    (fn_MarkObserver_see : PySem.W.isFn K (.ref f_MarkObserver_see) = true)
    (fk_MarkObserver_see : PySem.W.fnIn K f_MarkObserver_see = true)
    (l_law_paid : K.lookup f_law_paid = some ⟨oc_law_paid, od_law_paid, .func (PySem.W.fnOf "_law_paid" "_law_paid" (defArgs s_law_paid) (defBody s_law_paid) (defScope s_law_paid) .none kV_law_paid dc_law_paid pm_law_paid an_law_paid cv_law_paid ct_law_paid), sl_law_paid⟩)
    (cd_law_paid : PySem.W.codeIn K cv_law_paid "_law_paid" = true)
    (kp_law_paid : PySem.W.keepIn K (.ref f_law_paid) = true)
    (l_validate_mark : K.lookup f_validate_mark = some ⟨oc_validate_mark, od_validate_mark, .func (PySem.W.fnOf "validate_mark" "validate_mark" (defArgs s_validate_mark) (defBody s_validate_mark) (defScope s_validate_mark) .none kV_validate_mark dc_validate_mark pm_validate_mark an_validate_mark cv_validate_mark ct_validate_mark), sl_validate_mark⟩)
    (cd_validate_mark : PySem.W.codeIn K cv_validate_mark "validate_mark" = true)
    (kp_validate_mark : PySem.W.keepIn K (.ref f_validate_mark) = true)
    (l_repeated : K.lookup f_repeated = some ⟨oc_repeated, od_repeated, .func (PySem.W.fnOf "repeated" "repeated" (defArgs s_repeated) (defBody s_repeated) (defScope s_repeated) .none kV_repeated dc_repeated pm_repeated an_repeated cv_repeated ct_repeated), sl_repeated⟩)
    (cd_repeated : PySem.W.codeIn K cv_repeated "repeated" = true)
    (kp_repeated : PySem.W.keepIn K (.ref f_repeated) = true)
    (l_law_cents : K.lookup f_law_cents = some ⟨oc_law_cents, od_law_cents, .func (PySem.W.fnOf "_law_cents" "_law_cents" (defArgs s_law_cents) (defBody s_law_cents) (defScope s_law_cents) .none kV_law_cents dc_law_cents pm_law_cents an_law_cents cv_law_cents ct_law_cents), sl_law_cents⟩)
    (cd_law_cents : PySem.W.codeIn K cv_law_cents "_law_cents" = true)
    (kp_law_cents : PySem.W.keepIn K (.ref f_law_cents) = true)
    (l_law_drawn : K.lookup f_law_drawn = some ⟨oc_law_drawn, od_law_drawn, .func (PySem.W.fnOf "_law_drawn" "_law_drawn" (defArgs s_law_drawn) (defBody s_law_drawn) (defScope s_law_drawn) .none kV_law_drawn dc_law_drawn pm_law_drawn an_law_drawn cv_law_drawn ct_law_drawn), sl_law_drawn⟩)
    (cd_law_drawn : PySem.W.codeIn K cv_law_drawn "_law_drawn" = true)
    (kp_law_drawn : PySem.W.keepIn K (.ref f_law_drawn) = true)
    (fi_Evening_Dadd : PySem.W.findIn K (.ref c_Evening) "__add__" = some (some (.ref f_Evening_Dadd)))
    (l_Evening_Dadd : K.lookup f_Evening_Dadd = some ⟨oc_Evening_Dadd, od_Evening_Dadd, .func (PySem.W.fnOf "__add__" "Evening.__add__" (defArgs s_Evening_Dadd) (defBody s_Evening_Dadd) (defScope s_Evening_Dadd) .none kV_Evening_Dadd dc_Evening_Dadd pm_Evening_Dadd an_Evening_Dadd cv_Evening_Dadd ct_Evening_Dadd), sl_Evening_Dadd⟩)
    (cd_Evening_Dadd : PySem.W.codeIn K cv_Evening_Dadd "Evening.__add__" = true)
    (kp_Evening_Dadd : PySem.W.keepIn K (.ref f_Evening_Dadd) = true)
    (fn_Evening_Dadd : PySem.W.isFn K (.ref f_Evening_Dadd) = true)
    (fk_Evening_Dadd : PySem.W.fnIn K f_Evening_Dadd = true)
    (fi_Bill_Dinit : PySem.W.findIn K (.ref c_Bill) "__init__" = some (some (.ref f_Bill_Dinit)))
    (l_Bill_Dinit : K.lookup f_Bill_Dinit = some ⟨oc_Bill_Dinit, od_Bill_Dinit, .func (PySem.W.fnOf "__init__" "Bill.__init__" (defArgs s_Bill_Dinit) (defBody s_Bill_Dinit) (defScope s_Bill_Dinit) .none kV_Bill_Dinit dc_Bill_Dinit pm_Bill_Dinit an_Bill_Dinit cv_Bill_Dinit ct_Bill_Dinit), sl_Bill_Dinit⟩)
    (cd_Bill_Dinit : PySem.W.codeIn K cv_Bill_Dinit "Bill.__init__" = true)
    (kp_Bill_Dinit : PySem.W.keepIn K (.ref f_Bill_Dinit) = true)
    (fn_Bill_Dinit : PySem.W.isFn K (.ref f_Bill_Dinit) = true)
    (fk_Bill_Dinit : PySem.W.fnIn K f_Bill_Dinit = true)
    (l_law_bill : K.lookup f_law_bill = some ⟨oc_law_bill, od_law_bill, .func (PySem.W.fnOf "_law_bill" "_law_bill" (defArgs s_law_bill) (defBody s_law_bill) (defScope s_law_bill) .none kV_law_bill dc_law_bill pm_law_bill an_law_bill cv_law_bill ct_law_bill), sl_law_bill⟩)
    (cd_law_bill : PySem.W.codeIn K cv_law_bill "_law_bill" = true)
    (kp_law_bill : PySem.W.keepIn K (.ref f_law_bill) = true)
    (l_law_evening : K.lookup f_law_evening = some ⟨oc_law_evening, od_law_evening, .func (PySem.W.fnOf "_law_evening" "_law_evening" (defArgs s_law_evening) (defBody s_law_evening) (defScope s_law_evening) .none kV_law_evening dc_law_evening pm_law_evening an_law_evening cv_law_evening ct_law_evening), sl_law_evening⟩)
    (cd_law_evening : PySem.W.codeIn K cv_law_evening "_law_evening" = true)
    (kp_law_evening : PySem.W.keepIn K (.ref f_law_evening) = true)
    (l_law_outcome : K.lookup f_law_outcome = some ⟨oc_law_outcome, od_law_outcome, .func (PySem.W.fnOf "_law_outcome" "_law_outcome" (defArgs s_law_outcome) (defBody s_law_outcome) (defScope s_law_outcome) .none kV_law_outcome dc_law_outcome pm_law_outcome an_law_outcome cv_law_outcome ct_law_outcome), sl_law_outcome⟩)
    (cd_law_outcome : PySem.W.codeIn K cv_law_outcome "_law_outcome" = true)
    (kp_law_outcome : PySem.W.keepIn K (.ref f_law_outcome) = true)
    (l_law_rows : K.lookup f_law_rows = some ⟨oc_law_rows, od_law_rows, .func (PySem.W.fnOf "_law_rows" "_law_rows" (defArgs s_law_rows) (defBody s_law_rows) (defScope s_law_rows) .none kV_law_rows dc_law_rows pm_law_rows an_law_rows cv_law_rows ct_law_rows), sl_law_rows⟩)
    (cd_law_rows : PySem.W.codeIn K cv_law_rows "_law_rows" = true)
    (kp_law_rows : PySem.W.keepIn K (.ref f_law_rows) = true)
    (l_law_same : K.lookup f_law_same = some ⟨oc_law_same, od_law_same, .func (PySem.W.fnOf "_law_same" "_law_same" (defArgs s_law_same) (defBody s_law_same) (defScope s_law_same) .none kV_law_same dc_law_same pm_law_same an_law_same cv_law_same ct_law_same), sl_law_same⟩)
    (cd_law_same : PySem.W.codeIn K cv_law_same "_law_same" = true)
    (kp_law_same : PySem.W.keepIn K (.ref f_law_same) = true)
    (l_law_start : K.lookup f_law_start = some ⟨oc_law_start, od_law_start, .func (PySem.W.fnOf "_law_start" "_law_start" (defArgs s_law_start) (defBody s_law_start) (defScope s_law_start) .none kV_law_start dc_law_start pm_law_start an_law_start cv_law_start ct_law_start), sl_law_start⟩)
    (cd_law_start : PySem.W.codeIn K cv_law_start "_law_start" = true)
    (kp_law_start : PySem.W.keepIn K (.ref f_law_start) = true)
    (l_law : K.lookup f_law = some ⟨oc_law, od_law, .func (PySem.W.fnOf "law" "law" (defArgs s_law) (defBody s_law) (defScope s_law) .none kV_law dc_law pm_law an_law (.ref cc_law) ct_law), sl_law⟩)
    (cd_law : PySem.W.codeIn K (.ref cc_law) "law" = true)
    (lc_law : K.lookup cc_law = some ⟨ce_law, co_law, .fields vv_law, cl_law⟩)
    (vc_law : vv_law[11]? = some (.ref tb_law))
    (nt_law : K.lookup tb_law = none)
    (kp_law : PySem.W.keepIn K (.ref f_law) = true)
    (ns_MAX_CENTS : PySem.W.nsIn K mainGlobals "MAX_CENTS" = some (some (.int 1000000000000 t_MAX_CENTS)))
    (ns_MAX_TIMES : PySem.W.nsIn K mainGlobals "MAX_TIMES" = some (some (.int 1000000000000000000 t_MAX_TIMES)))
    (nb_bool : PySem.W.nsIn K mainGlobals "bool" = some none)
    (nb_enumerate : PySem.W.nsIn K mainGlobals "enumerate" = some none)
    (nb_int : PySem.W.nsIn K mainGlobals "int" = some none)
    (nb_isinstance : PySem.W.nsIn K mainGlobals "isinstance" = some none)
    (nb_len : PySem.W.nsIn K mainGlobals "len" = some none)
    (nb_list : PySem.W.nsIn K mainGlobals "list" = some none)
    (nb_max : PySem.W.nsIn K mainGlobals "max" = some none)
    (nb_range : PySem.W.nsIn K mainGlobals "range" = some none)
    (nb_tuple : PySem.W.nsIn K mainGlobals "tuple" = some none)
    (nb_zip : PySem.W.nsIn K mainGlobals "zip" = some none)
    (pg_Shares : PySem.W.plainGet K c_Shares Str.empty = true)
    (hd_Shares : PySem.W.hasDictIn K c_Shares = true)
    (po_Shares : PySem.W.plainOver K c_Shares = true)
    (sa_Shares : PySem.W.findIn K (.ref c_Shares) "__setattr__" = some (some (.builtin "object.__setattr__")))
    (mkk_Shares : PySem.W.makesIn K c_Shares = true)
    (kc_Shares : PySem.W.keepIn K (.ref c_Shares) = true)
    (na_Shares_amounts : PySem.W.findIn K (.ref c_Shares) "amounts" = some none)
    (sf_Shares : PySem.W.selfFirst K c_Shares = true)
    (pg_Bill : PySem.W.plainGet K c_Bill Str.empty = true)
    (hd_Bill : PySem.W.hasDictIn K c_Bill = true)
    (po_Bill : PySem.W.plainOver K c_Bill = true)
    (sa_Bill : PySem.W.findIn K (.ref c_Bill) "__setattr__" = some (some (.builtin "object.__setattr__")))
    (mkk_Bill : PySem.W.makesIn K c_Bill = true)
    (kc_Bill : PySem.W.keepIn K (.ref c_Bill) = true)
    (na_Bill_total : PySem.W.findIn K (.ref c_Bill) "total" = some none)
    (na_Bill_there : PySem.W.findIn K (.ref c_Bill) "there" = some none)
    (cv_Bill_MAX_SEATS : PySem.W.findCls K (.ref c_Bill) (.type "type") "MAX_SEATS" = some (.val (.int 8 u_Bill_MAX_SEATS)))
    (sf_Bill : PySem.W.selfFirst K c_Bill = true)
    (pg_Evening : PySem.W.plainGet K c_Evening Str.empty = true)
    (hd_Evening : PySem.W.hasDictIn K c_Evening = true)
    (po_Evening : PySem.W.plainOver K c_Evening = true)
    (sa_Evening : PySem.W.findIn K (.ref c_Evening) "__setattr__" = some (some (.builtin "object.__setattr__")))
    (mkk_Evening : PySem.W.makesIn K c_Evening = true)
    (kc_Evening : PySem.W.keepIn K (.ref c_Evening) = true)
    (na_Evening_size : PySem.W.findIn K (.ref c_Evening) "size" = some none)
    (na_Evening_parts : PySem.W.findIn K (.ref c_Evening) "parts" = some none)
    (cv_Evening_MAX_BILLS : PySem.W.findCls K (.ref c_Evening) (.type "type") "MAX_BILLS" = some (.val (.int 30 u_Evening_MAX_BILLS)))
    (sf_Evening : PySem.W.selfFirst K c_Evening = true)
    (pg_Course : PySem.W.plainGet K c_Course Str.empty = true)
    (hd_Course : PySem.W.hasDictIn K c_Course = true)
    (po_Course : PySem.W.plainOver K c_Course = true)
    (sa_Course : PySem.W.findIn K (.ref c_Course) "__setattr__" = some (some (.builtin "object.__setattr__")))
    (mkk_Course : PySem.W.makesIn K c_Course = true)
    (kc_Course : PySem.W.keepIn K (.ref c_Course) = true)
    (na_Course_marks : PySem.W.findIn K (.ref c_Course) "marks" = some none)
    (na_Course_rows : PySem.W.findIn K (.ref c_Course) "rows" = some none)
    (na_Course_ring : PySem.W.findIn K (.ref c_Course) "ring" = some none)
    (na_Course_evening : PySem.W.findIn K (.ref c_Course) "evening" = some none)
    (sf_Course : PySem.W.selfFirst K c_Course = true)
    (pg_MarkObserver : PySem.W.plainGet K c_MarkObserver Str.empty = true)
    (hd_MarkObserver : PySem.W.hasDictIn K c_MarkObserver = true)
    (po_MarkObserver : PySem.W.plainOver K c_MarkObserver = true)
    (sa_MarkObserver : PySem.W.findIn K (.ref c_MarkObserver) "__setattr__" = some (some (.builtin "object.__setattr__")))
    (mkk_MarkObserver : PySem.W.makesIn K c_MarkObserver = true)
    (kc_MarkObserver : PySem.W.keepIn K (.ref c_MarkObserver) = true)
    (na_MarkObserver_evening : PySem.W.findIn K (.ref c_MarkObserver) "evening" = some none)
    (na_MarkObserver_left : PySem.W.findIn K (.ref c_MarkObserver) "left" = some none)
    (na_MarkObserver_accepted : PySem.W.findIn K (.ref c_MarkObserver) "accepted" = some none)
    (sf_MarkObserver : PySem.W.selfFirst K c_MarkObserver = true)
    (dr_Shares_Dmul : PySem.W.findIn K (.ref c_Shares) "__rmul__" = some none)
    (i1_mul : PySem.W.findIn K (.type "int") "__mul__" = some (some (.builtin "int.__mul__")))
    (i2_mul : PySem.W.findIn K (.type "int") "__rmul__" = some (some (.builtin "int.__rmul__")))
    (si_Shares : PySem.W.subIn K (.type "int") (.ref c_Shares) = some false)
    : Tx K mg ⟨c_Shares, c_Bill, c_Evening, c_Course, c_MarkObserver, c_Contradiction, c_InvalidNumber, c_UnknownSeat, .type "type", .type "type", f_Bill_seats, f_is_integer, f_Evening_Dinit, f_Evening_Dlen, f_Evening_seat_count, f_MarkObserver_Dinit, f_MarkObserver_possible_marks, f_MarkObserver_records, f_Evening_bills, f_Shares_Dinit, f_Bill_Dcontains, f_Bill_amount, f_Bill_odd_cents, f_payers, f_pay, f_played, f_Course_Dinit, f_Shares_Dadd, f_no_shares, f_Course_ring_shares, f_Shares_Dmul, f_Course_after, f_Evening_Dgetitem, f_MarkObserver_paid, f_validate_seat, f_MarkObserver_see, f_law_paid, f_validate_mark, f_repeated, f_law_cents, f_law_drawn, f_Evening_Dadd, f_Bill_Dinit, f_law_bill, f_law_evening, f_law_outcome, f_law_rows, f_law_same, f_law_start, f_law, cc_law, tb_law, p_Bill_seats, p_Evening_seat_count, p_MarkObserver_possible_marks, p_MarkObserver_records, p_Evening_bills, p_Bill_amount, p_Bill_odd_cents, t_MAX_CENTS, t_MAX_TIMES, u_Bill_MAX_SEATS, u_Evening_MAX_BILLS⟩ where
  F_Bill_seats := ⟨_, fun_mk (st := s_Bill_seats) l_Bill_seats cd_Bill_seats kp_Bill_seats, (fun_mk (st := s_Bill_seats) l_Bill_seats cd_Bill_seats kp_Bill_seats).binds fun _ _ _ _ _ _ us hl => match us, hl with | [_], _ => rfl⟩
  F_is_integer := ⟨_, fun_mk (st := s_is_integer) l_is_integer cd_is_integer kp_is_integer, (fun_mk (st := s_is_integer) l_is_integer cd_is_integer kp_is_integer).binds fun _ _ _ _ _ _ us hl => match us, hl with | [_], _ => rfl⟩
  k_is_integer := kp_is_integer
  g_is_integer := PySem.W.mg_of X G ns_is_integer
  F_Evening_Dinit := ⟨_, fun_mk (st := s_Evening_Dinit) l_Evening_Dinit cd_Evening_Dinit kp_Evening_Dinit, StX.bind_star2 (B := fun us => bindArgs _ ⟨us, []⟩) (fun _ _ => rfl) (fun _ _ _ _ => rfl)⟩
  F_Evening_Dlen := ⟨_, fun_mk (st := s_Evening_Dlen) l_Evening_Dlen cd_Evening_Dlen kp_Evening_Dlen, (fun_mk (st := s_Evening_Dlen) l_Evening_Dlen cd_Evening_Dlen kp_Evening_Dlen).binds fun _ _ _ _ _ _ us hl => match us, hl with | [_], _ => rfl⟩
  F_Evening_seat_count := ⟨_, fun_mk (st := s_Evening_seat_count) l_Evening_seat_count cd_Evening_seat_count kp_Evening_seat_count, (fun_mk (st := s_Evening_seat_count) l_Evening_seat_count cd_Evening_seat_count kp_Evening_seat_count).binds fun _ _ _ _ _ _ us hl => match us, hl with | [_], _ => rfl⟩
  F_MarkObserver_Dinit := ⟨_, fun_mk (st := s_MarkObserver_Dinit) l_MarkObserver_Dinit cd_MarkObserver_Dinit kp_MarkObserver_Dinit, (fun_mk (st := s_MarkObserver_Dinit) l_MarkObserver_Dinit cd_MarkObserver_Dinit kp_MarkObserver_Dinit).binds fun _ _ _ _ _ _ us hl => match us, hl with | [_, _], _ => rfl⟩
  F_MarkObserver_possible_marks := ⟨_, fun_mk (st := s_MarkObserver_possible_marks) l_MarkObserver_possible_marks cd_MarkObserver_possible_marks kp_MarkObserver_possible_marks, (fun_mk (st := s_MarkObserver_possible_marks) l_MarkObserver_possible_marks cd_MarkObserver_possible_marks kp_MarkObserver_possible_marks).binds fun _ _ _ _ _ _ us hl => match us, hl with | [_], _ => rfl⟩
  F_MarkObserver_records := ⟨_, fun_mk (st := s_MarkObserver_records) l_MarkObserver_records cd_MarkObserver_records kp_MarkObserver_records, (fun_mk (st := s_MarkObserver_records) l_MarkObserver_records cd_MarkObserver_records kp_MarkObserver_records).binds fun _ _ _ _ _ _ us hl => match us, hl with | [_], _ => rfl⟩
  F_Evening_bills := ⟨_, fun_mk (st := s_Evening_bills) l_Evening_bills cd_Evening_bills kp_Evening_bills, (fun_mk (st := s_Evening_bills) l_Evening_bills cd_Evening_bills kp_Evening_bills).binds fun _ _ _ _ _ _ us hl => match us, hl with | [_], _ => rfl⟩
  F_Shares_Dinit := ⟨_, fun_mk (st := s_Shares_Dinit) l_Shares_Dinit cd_Shares_Dinit kp_Shares_Dinit, StX.bind_star1 (B := fun us => bindArgs _ ⟨us, []⟩) (fun _ => rfl) (fun _ _ _ => rfl)⟩
  F_Bill_Dcontains := ⟨_, fun_mk (st := s_Bill_Dcontains) l_Bill_Dcontains cd_Bill_Dcontains kp_Bill_Dcontains, (fun_mk (st := s_Bill_Dcontains) l_Bill_Dcontains cd_Bill_Dcontains kp_Bill_Dcontains).binds fun _ _ _ _ _ _ us hl => match us, hl with | [_, _], _ => rfl⟩
  F_Bill_amount := ⟨_, fun_mk (st := s_Bill_amount) l_Bill_amount cd_Bill_amount kp_Bill_amount, (fun_mk (st := s_Bill_amount) l_Bill_amount cd_Bill_amount kp_Bill_amount).binds fun _ _ _ _ _ _ us hl => match us, hl with | [_], _ => rfl⟩
  F_Bill_odd_cents := ⟨_, fun_mk (st := s_Bill_odd_cents) l_Bill_odd_cents cd_Bill_odd_cents kp_Bill_odd_cents, (fun_mk (st := s_Bill_odd_cents) l_Bill_odd_cents cd_Bill_odd_cents kp_Bill_odd_cents).binds fun _ _ _ _ _ _ us hl => match us, hl with | [_], _ => rfl⟩
  F_payers := ⟨_, fun_mk (st := s_payers) l_payers cd_payers kp_payers, (fun_mk (st := s_payers) l_payers cd_payers kp_payers).binds fun _ _ _ _ _ _ us hl => match us, hl with | [_, _], _ => rfl⟩
  k_payers := kp_payers
  g_payers := PySem.W.mg_of X G ns_payers
  F_pay := ⟨_, fun_mk (st := s_pay) l_pay cd_pay kp_pay, (fun_mk (st := s_pay) l_pay cd_pay kp_pay).binds fun _ _ _ _ _ _ us hl => match us, hl with | [_, _, _], _ => rfl⟩
  k_pay := kp_pay
  g_pay := PySem.W.mg_of X G ns_pay
  F_played := ⟨_, fun_mk (st := s_played) l_played cd_played kp_played, (fun_mk (st := s_played) l_played cd_played kp_played).binds fun _ _ _ _ _ _ us hl => match us, hl with | [_, _], _ => rfl⟩
  k_played := kp_played
  g_played := PySem.W.mg_of X G ns_played
  F_Course_Dinit := ⟨_, fun_mk (st := s_Course_Dinit) l_Course_Dinit cd_Course_Dinit kp_Course_Dinit, (fun_mk (st := s_Course_Dinit) l_Course_Dinit cd_Course_Dinit kp_Course_Dinit).binds fun _ _ _ _ _ _ us hl => match us, hl with | [_, _, _], _ => rfl⟩
  F_Shares_Dadd := ⟨_, fun_mk (st := s_Shares_Dadd) l_Shares_Dadd cd_Shares_Dadd kp_Shares_Dadd, (fun_mk (st := s_Shares_Dadd) l_Shares_Dadd cd_Shares_Dadd kp_Shares_Dadd).binds fun _ _ _ _ _ _ us hl => match us, hl with | [_, _], _ => rfl⟩
  F_no_shares := ⟨_, fun_mk (st := s_no_shares) l_no_shares cd_no_shares kp_no_shares, (fun_mk (st := s_no_shares) l_no_shares cd_no_shares kp_no_shares).binds fun _ _ _ _ _ _ us hl => match us, hl with | [_], _ => rfl⟩
  k_no_shares := kp_no_shares
  g_no_shares := PySem.W.mg_of X G ns_no_shares
  F_Course_ring_shares := ⟨_, fun_mk (st := s_Course_ring_shares) l_Course_ring_shares cd_Course_ring_shares kp_Course_ring_shares, (fun_mk (st := s_Course_ring_shares) l_Course_ring_shares cd_Course_ring_shares kp_Course_ring_shares).binds fun _ _ _ _ _ _ us hl => match us, hl with | [_], _ => rfl⟩
  F_Shares_Dmul := ⟨_, fun_mk (st := s_Shares_Dmul) l_Shares_Dmul cd_Shares_Dmul kp_Shares_Dmul, (fun_mk (st := s_Shares_Dmul) l_Shares_Dmul cd_Shares_Dmul kp_Shares_Dmul).binds fun _ _ _ _ _ _ us hl => match us, hl with | [_, _], _ => rfl⟩
  F_Course_after := ⟨_, fun_mk (st := s_Course_after) l_Course_after cd_Course_after kp_Course_after, (fun_mk (st := s_Course_after) l_Course_after cd_Course_after kp_Course_after).binds fun _ _ _ _ _ _ us hl => match us, hl with | [_, _], _ => rfl⟩
  F_Evening_Dgetitem := ⟨_, fun_mk (st := s_Evening_Dgetitem) l_Evening_Dgetitem cd_Evening_Dgetitem kp_Evening_Dgetitem, (fun_mk (st := s_Evening_Dgetitem) l_Evening_Dgetitem cd_Evening_Dgetitem kp_Evening_Dgetitem).binds fun _ _ _ _ _ _ us hl => match us, hl with | [_, _], _ => rfl⟩
  F_MarkObserver_paid := ⟨_, fun_mk (st := s_MarkObserver_paid) l_MarkObserver_paid cd_MarkObserver_paid kp_MarkObserver_paid, (fun_mk (st := s_MarkObserver_paid) l_MarkObserver_paid cd_MarkObserver_paid kp_MarkObserver_paid).binds fun _ _ _ _ _ _ us hl => match us, hl with | [_, _, _, _], _ => rfl⟩
  F_validate_seat := ⟨_, fun_mk (st := s_validate_seat) l_validate_seat cd_validate_seat kp_validate_seat, (fun_mk (st := s_validate_seat) l_validate_seat cd_validate_seat kp_validate_seat).binds fun _ _ _ _ _ _ us hl => match us, hl with | [_, _], _ => rfl⟩
  k_validate_seat := kp_validate_seat
  g_validate_seat := PySem.W.mg_of X G ns_validate_seat
  F_MarkObserver_see := ⟨_, fun_mk (st := s_MarkObserver_see) l_MarkObserver_see cd_MarkObserver_see kp_MarkObserver_see, (fun_mk (st := s_MarkObserver_see) l_MarkObserver_see cd_MarkObserver_see kp_MarkObserver_see).binds fun _ _ _ _ _ _ us hl => match us, hl with | [_, _, _, _], _ => rfl⟩
  F_law_paid := ⟨_, fun_mk (st := s_law_paid) l_law_paid cd_law_paid kp_law_paid, (fun_mk (st := s_law_paid) l_law_paid cd_law_paid kp_law_paid).binds fun _ _ _ _ _ _ us hl => match us, hl with | [_, _, _], _ => rfl⟩
  k_law_paid := kp_law_paid
  g__law_paid := PySem.W.mg_of X G ns_law_paid
  F_validate_mark := ⟨_, fun_mk (st := s_validate_mark) l_validate_mark cd_validate_mark kp_validate_mark, (fun_mk (st := s_validate_mark) l_validate_mark cd_validate_mark kp_validate_mark).binds fun _ _ _ _ _ _ us hl => match us, hl with | [_, _], _ => rfl⟩
  k_validate_mark := kp_validate_mark
  g_validate_mark := PySem.W.mg_of X G ns_validate_mark
  F_repeated := ⟨_, fun_mk (st := s_repeated) l_repeated cd_repeated kp_repeated, (fun_mk (st := s_repeated) l_repeated cd_repeated kp_repeated).binds fun _ _ _ _ _ _ us hl => match us, hl with | [_, _, _], _ => rfl⟩
  k_repeated := kp_repeated
  g_repeated := PySem.W.mg_of X G ns_repeated
  F_law_cents := ⟨_, fun_mk (st := s_law_cents) l_law_cents cd_law_cents kp_law_cents, (fun_mk (st := s_law_cents) l_law_cents cd_law_cents kp_law_cents).binds fun _ _ _ _ _ _ us hl => match us, hl with | [_, _, _, _, _], _ => rfl⟩
  k_law_cents := kp_law_cents
  g__law_cents := PySem.W.mg_of X G ns_law_cents
  F_law_drawn := ⟨_, fun_mk (st := s_law_drawn) l_law_drawn cd_law_drawn kp_law_drawn, (fun_mk (st := s_law_drawn) l_law_drawn cd_law_drawn kp_law_drawn).binds fun _ _ _ _ _ _ us hl => match us, hl with | [_, _], _ => rfl⟩
  k_law_drawn := kp_law_drawn
  g__law_drawn := PySem.W.mg_of X G ns_law_drawn
  F_Evening_Dadd := ⟨_, fun_mk (st := s_Evening_Dadd) l_Evening_Dadd cd_Evening_Dadd kp_Evening_Dadd, (fun_mk (st := s_Evening_Dadd) l_Evening_Dadd cd_Evening_Dadd kp_Evening_Dadd).binds fun _ _ _ _ _ _ us hl => match us, hl with | [_, _], _ => rfl⟩
  F_Bill_Dinit := ⟨_, fun_mk (st := s_Bill_Dinit) l_Bill_Dinit cd_Bill_Dinit kp_Bill_Dinit, StX.bind_star2 (B := fun us => bindArgs _ ⟨us, []⟩) (fun _ _ => rfl) (fun _ _ _ _ => rfl)⟩
  F_law_bill := ⟨_, fun_mk (st := s_law_bill) l_law_bill cd_law_bill kp_law_bill, (fun_mk (st := s_law_bill) l_law_bill cd_law_bill kp_law_bill).binds fun _ _ _ _ _ _ us hl => match us, hl with | [_], _ => rfl⟩
  k_law_bill := kp_law_bill
  g__law_bill := PySem.W.mg_of X G ns_law_bill
  F_law_evening := ⟨_, fun_mk (st := s_law_evening) l_law_evening cd_law_evening kp_law_evening, (fun_mk (st := s_law_evening) l_law_evening cd_law_evening kp_law_evening).binds fun _ _ _ _ _ _ us hl => match us, hl with | [_, _], _ => rfl⟩
  k_law_evening := kp_law_evening
  g__law_evening := PySem.W.mg_of X G ns_law_evening
  F_law_outcome := ⟨_, fun_mk (st := s_law_outcome) l_law_outcome cd_law_outcome kp_law_outcome, (fun_mk (st := s_law_outcome) l_law_outcome cd_law_outcome kp_law_outcome).binds fun _ _ _ _ _ _ us hl => match us, hl with | [_], _ => rfl⟩
  k_law_outcome := kp_law_outcome
  g__law_outcome := PySem.W.mg_of X G ns_law_outcome
  F_law_rows := ⟨_, fun_mk (st := s_law_rows) l_law_rows cd_law_rows kp_law_rows, (fun_mk (st := s_law_rows) l_law_rows cd_law_rows kp_law_rows).binds fun _ _ _ _ _ _ us hl => match us, hl with | [_, _, _], _ => rfl⟩
  k_law_rows := kp_law_rows
  g__law_rows := PySem.W.mg_of X G ns_law_rows
  F_law_same := ⟨_, fun_mk (st := s_law_same) l_law_same cd_law_same kp_law_same, (fun_mk (st := s_law_same) l_law_same cd_law_same kp_law_same).binds fun _ _ _ _ _ _ us hl => match us, hl with | [_, _], _ => rfl⟩
  k_law_same := kp_law_same
  g__law_same := PySem.W.mg_of X G ns_law_same
  F_law_start := ⟨_, fun_mk (st := s_law_start) l_law_start cd_law_start kp_law_start, (fun_mk (st := s_law_start) l_law_start cd_law_start kp_law_start).binds fun _ _ _ _ _ _ us hl => match us, hl with | [_], _ => rfl⟩
  k_law_start := kp_law_start
  g__law_start := PySem.W.mg_of X G ns_law_start
  F_law := ⟨_, fun_mk (st := s_law) l_law cd_law kp_law, (fun_mk (st := s_law) l_law cd_law kp_law).binds fun _ _ _ _ _ _ us hl => match us, hl with | [_], _ => rfl, rfl⟩
  g_Bill := PySem.W.mg_of X G ns_Bill
  g_Course := PySem.W.mg_of X G ns_Course
  g_Evening := PySem.W.mg_of X G ns_Evening
  g_MAX_CENTS := PySem.W.mg_of X G ns_MAX_CENTS
  g_MAX_TIMES := PySem.W.mg_of X G ns_MAX_TIMES
  g_MarkObserver := PySem.W.mg_of X G ns_MarkObserver
  g_Shares := PySem.W.mg_of X G ns_Shares
  g_Contradiction := PySem.W.mg_of X G ns_Contradiction
  xc_Contradiction := ⟨xm_Contradiction, xk_Contradiction, xb_Contradiction, xt_Contradiction⟩
  g_InvalidNumber := PySem.W.mg_of X G ns_InvalidNumber
  xc_InvalidNumber := ⟨xm_InvalidNumber, xk_InvalidNumber, xb_InvalidNumber, xt_InvalidNumber⟩
  g_UnknownSeat := PySem.W.mg_of X G ns_UnknownSeat
  xc_UnknownSeat := ⟨xm_UnknownSeat, xk_UnknownSeat, xb_UnknownSeat, xt_UnknownSeat⟩
  xe_Contradiction_Contradiction := exm_sub xb_Contradiction xi_Contradiction xt_Contradiction xs_Contradiction_Contradiction
  xe_Contradiction_InvalidNumber := exm_sub xb_InvalidNumber xi_InvalidNumber xt_InvalidNumber xs_Contradiction_InvalidNumber
  xe_Contradiction_UnknownSeat := exm_sub xb_UnknownSeat xi_UnknownSeat xt_UnknownSeat xs_Contradiction_UnknownSeat
  xe_InvalidNumber_Contradiction := exm_sub xb_Contradiction xi_Contradiction xt_Contradiction xs_InvalidNumber_Contradiction
  xe_InvalidNumber_InvalidNumber := exm_sub xb_InvalidNumber xi_InvalidNumber xt_InvalidNumber xs_InvalidNumber_InvalidNumber
  xe_InvalidNumber_UnknownSeat := exm_sub xb_UnknownSeat xi_UnknownSeat xt_UnknownSeat xs_InvalidNumber_UnknownSeat
  xe_UnknownSeat_Contradiction := exm_sub xb_Contradiction xi_Contradiction xt_Contradiction xs_UnknownSeat_Contradiction
  xe_UnknownSeat_InvalidNumber := exm_sub xb_InvalidNumber xi_InvalidNumber xt_InvalidNumber xs_UnknownSeat_InvalidNumber
  xe_UnknownSeat_UnknownSeat := exm_sub xb_UnknownSeat xi_UnknownSeat xt_UnknownSeat xs_UnknownSeat_UnknownSeat
  b_bool := PySem.W.mg_none_of X G nb_bool
  b_enumerate := PySem.W.mg_none_of X G nb_enumerate
  b_int := PySem.W.mg_none_of X G nb_int
  b_isinstance := PySem.W.mg_none_of X G nb_isinstance
  b_len := PySem.W.mg_none_of X G nb_len
  b_list := PySem.W.mg_none_of X G nb_list
  b_max := PySem.W.mg_none_of X G nb_max
  b_range := PySem.W.mg_none_of X G nb_range
  b_tuple := PySem.W.mg_none_of X G nb_tuple
  b_zip := PySem.W.mg_none_of X G nb_zip
  cl_Shares := ⟨pg_Shares, hd_Shares, po_Shares, sa_Shares⟩
  mk_Shares := ⟨mkk_Shares, fi_Shares_Dinit, fn_Shares_Dinit, kc_Shares⟩
  na_Shares_amounts := na_Shares_amounts
  sf_Shares := sf_Shares
  cl_Bill := ⟨pg_Bill, hd_Bill, po_Bill, sa_Bill⟩
  mk_Bill := ⟨mkk_Bill, fi_Bill_Dinit, fn_Bill_Dinit, kc_Bill⟩
  na_Bill_total := na_Bill_total
  na_Bill_there := na_Bill_there
  cr_Bill := ⟨rd_Bill, ga_Bill⟩
  cv_Bill_MAX_SEATS := ⟨cv_Bill_MAX_SEATS, ⟨_, rfl⟩⟩
  sf_Bill := sf_Bill
  cl_Evening := ⟨pg_Evening, hd_Evening, po_Evening, sa_Evening⟩
  mk_Evening := ⟨mkk_Evening, fi_Evening_Dinit, fn_Evening_Dinit, kc_Evening⟩
  na_Evening_size := na_Evening_size
  na_Evening_parts := na_Evening_parts
  cr_Evening := ⟨rd_Evening, ga_Evening⟩
  cv_Evening_MAX_BILLS := ⟨cv_Evening_MAX_BILLS, ⟨_, rfl⟩⟩
  sf_Evening := sf_Evening
  cl_Course := ⟨pg_Course, hd_Course, po_Course, sa_Course⟩
  mk_Course := ⟨mkk_Course, fi_Course_Dinit, fn_Course_Dinit, kc_Course⟩
  na_Course_marks := na_Course_marks
  na_Course_rows := na_Course_rows
  na_Course_ring := na_Course_ring
  na_Course_evening := na_Course_evening
  sf_Course := sf_Course
  cl_MarkObserver := ⟨pg_MarkObserver, hd_MarkObserver, po_MarkObserver, sa_MarkObserver⟩
  mk_MarkObserver := ⟨mkk_MarkObserver, fi_MarkObserver_Dinit, fn_MarkObserver_Dinit, kc_MarkObserver⟩
  na_MarkObserver_evening := na_MarkObserver_evening
  na_MarkObserver_left := na_MarkObserver_left
  na_MarkObserver_accepted := na_MarkObserver_accepted
  sf_MarkObserver := sf_MarkObserver
  dr_Shares_Dmul := dr_Shares_Dmul
  i1_mul := i1_mul
  i2_mul := i2_mul
  si_Shares := si_Shares
  p_Bill_seats := ⟨fi_Bill_seats, pgt_Bill_seats, ptk_Bill_seats, ⟨_, prc_Bill_seats⟩⟩
  d_Evening_Dlen := fi_Evening_Dlen
  df_Evening_Dlen := fn_Evening_Dlen
  dk_Evening_Dlen := fk_Evening_Dlen
  p_Evening_seat_count := ⟨fi_Evening_seat_count, pgt_Evening_seat_count, ptk_Evening_seat_count, ⟨_, prc_Evening_seat_count⟩⟩
  p_MarkObserver_possible_marks := ⟨fi_MarkObserver_possible_marks, pgt_MarkObserver_possible_marks, ptk_MarkObserver_possible_marks, ⟨_, prc_MarkObserver_possible_marks⟩⟩
  p_MarkObserver_records := ⟨fi_MarkObserver_records, pgt_MarkObserver_records, ptk_MarkObserver_records, ⟨_, prc_MarkObserver_records⟩⟩
  p_Evening_bills := ⟨fi_Evening_bills, pgt_Evening_bills, ptk_Evening_bills, ⟨_, prc_Evening_bills⟩⟩
  d_Bill_Dcontains := fi_Bill_Dcontains
  df_Bill_Dcontains := fn_Bill_Dcontains
  dk_Bill_Dcontains := fk_Bill_Dcontains
  p_Bill_amount := ⟨fi_Bill_amount, pgt_Bill_amount, ptk_Bill_amount, ⟨_, prc_Bill_amount⟩⟩
  p_Bill_odd_cents := ⟨fi_Bill_odd_cents, pgt_Bill_odd_cents, ptk_Bill_odd_cents, ⟨_, prc_Bill_odd_cents⟩⟩
  d_Shares_Dadd := fi_Shares_Dadd
  df_Shares_Dadd := fn_Shares_Dadd
  dk_Shares_Dadd := fk_Shares_Dadd
  m_Course_ring_shares := ⟨fi_Course_ring_shares, fn_Course_ring_shares, kp_Course_ring_shares⟩
  d_Shares_Dmul := fi_Shares_Dmul
  df_Shares_Dmul := fn_Shares_Dmul
  dk_Shares_Dmul := fk_Shares_Dmul
  m_Course_after := ⟨fi_Course_after, fn_Course_after, kp_Course_after⟩
  d_Evening_Dgetitem := fi_Evening_Dgetitem
  df_Evening_Dgetitem := fn_Evening_Dgetitem
  dk_Evening_Dgetitem := fk_Evening_Dgetitem
  m_MarkObserver_paid := ⟨fi_MarkObserver_paid, fn_MarkObserver_paid, kp_MarkObserver_paid⟩
  m_MarkObserver_see := ⟨fi_MarkObserver_see, fn_MarkObserver_see, kp_MarkObserver_see⟩
  d_Evening_Dadd := fi_Evening_Dadd
  df_Evening_Dadd := fn_Evening_Dadd
  dk_Evening_Dadd := fk_Evening_Dadd
set_option maxHeartbeats 0 in
theorem fin {l : PySem.W.OpenLaw} {rq : Str → Bool} {w : World} {K : PySem.W.Frag} {h : Heap} {mg : Str → Option Value} {fa : Addr} (X : K.In h) (G : h.Ns mainGlobals mg) (hmg : mg "law" = some (.ref fa))
    (tabs : ∀ (y : Str) (c P : Addr), rq y = true → PySem.W.tabIn K y = some (c, P) → PySem.W.CodeHd h c P ∧ h.get? P = some { cls := .none, data := .fields #[] })
    (rc_law : rq "law" = true)
    {c_Shares c_Bill c_Evening c_Course c_MarkObserver c_Contradiction c_InvalidNumber c_UnknownSeat f_Bill_seats f_is_integer f_Evening_Dinit f_Evening_Dlen f_Evening_seat_count f_MarkObserver_Dinit f_MarkObserver_possible_marks f_MarkObserver_records f_Evening_bills f_Shares_Dinit f_Bill_Dcontains f_Bill_amount f_Bill_odd_cents f_payers f_pay f_played f_Course_Dinit f_Shares_Dadd f_no_shares f_Course_ring_shares f_Shares_Dmul f_Course_after f_Evening_Dgetitem f_MarkObserver_paid f_validate_seat f_MarkObserver_see f_law_paid f_validate_mark f_repeated f_law_cents f_law_drawn f_Evening_Dadd f_Bill_Dinit f_law_bill f_law_evening f_law_outcome f_law_rows f_law_same f_law_start f_law p_Bill_seats p_Evening_seat_count p_MarkObserver_possible_marks p_MarkObserver_records p_Evening_bills p_Bill_amount p_Bill_odd_cents : Addr}
    {oc_Bill_seats kV_Bill_seats dc_Bill_seats pm_Bill_seats cv_Bill_seats ct_Bill_seats oc_is_integer kV_is_integer dc_is_integer pm_is_integer cv_is_integer ct_is_integer oc_Evening_Dinit kV_Evening_Dinit dc_Evening_Dinit pm_Evening_Dinit cv_Evening_Dinit ct_Evening_Dinit oc_Evening_Dlen kV_Evening_Dlen dc_Evening_Dlen pm_Evening_Dlen cv_Evening_Dlen ct_Evening_Dlen oc_Evening_seat_count kV_Evening_seat_count dc_Evening_seat_count pm_Evening_seat_count cv_Evening_seat_count ct_Evening_seat_count oc_MarkObserver_Dinit kV_MarkObserver_Dinit dc_MarkObserver_Dinit pm_MarkObserver_Dinit cv_MarkObserver_Dinit ct_MarkObserver_Dinit oc_MarkObserver_possible_marks kV_MarkObserver_possible_marks dc_MarkObserver_possible_marks pm_MarkObserver_possible_marks cv_MarkObserver_possible_marks ct_MarkObserver_possible_marks oc_MarkObserver_records kV_MarkObserver_records dc_MarkObserver_records pm_MarkObserver_records cv_MarkObserver_records ct_MarkObserver_records oc_Evening_bills kV_Evening_bills dc_Evening_bills pm_Evening_bills cv_Evening_bills ct_Evening_bills oc_Shares_Dinit kV_Shares_Dinit dc_Shares_Dinit pm_Shares_Dinit cv_Shares_Dinit ct_Shares_Dinit oc_Bill_Dcontains kV_Bill_Dcontains dc_Bill_Dcontains pm_Bill_Dcontains cv_Bill_Dcontains ct_Bill_Dcontains oc_Bill_amount kV_Bill_amount dc_Bill_amount pm_Bill_amount cv_Bill_amount ct_Bill_amount oc_Bill_odd_cents kV_Bill_odd_cents dc_Bill_odd_cents pm_Bill_odd_cents cv_Bill_odd_cents ct_Bill_odd_cents oc_payers kV_payers dc_payers pm_payers cv_payers ct_payers oc_pay kV_pay dc_pay pm_pay cv_pay ct_pay oc_played kV_played dc_played pm_played cv_played ct_played oc_Course_Dinit kV_Course_Dinit dc_Course_Dinit pm_Course_Dinit cv_Course_Dinit ct_Course_Dinit oc_Shares_Dadd kV_Shares_Dadd dc_Shares_Dadd pm_Shares_Dadd cv_Shares_Dadd ct_Shares_Dadd oc_no_shares kV_no_shares dc_no_shares pm_no_shares cv_no_shares ct_no_shares oc_Course_ring_shares kV_Course_ring_shares dc_Course_ring_shares pm_Course_ring_shares cv_Course_ring_shares ct_Course_ring_shares oc_Shares_Dmul kV_Shares_Dmul dc_Shares_Dmul pm_Shares_Dmul cv_Shares_Dmul ct_Shares_Dmul oc_Course_after kV_Course_after dc_Course_after pm_Course_after cv_Course_after ct_Course_after oc_Evening_Dgetitem kV_Evening_Dgetitem dc_Evening_Dgetitem pm_Evening_Dgetitem cv_Evening_Dgetitem ct_Evening_Dgetitem oc_MarkObserver_paid kV_MarkObserver_paid dc_MarkObserver_paid pm_MarkObserver_paid cv_MarkObserver_paid ct_MarkObserver_paid oc_validate_seat kV_validate_seat dc_validate_seat pm_validate_seat cv_validate_seat ct_validate_seat oc_MarkObserver_see kV_MarkObserver_see dc_MarkObserver_see pm_MarkObserver_see cv_MarkObserver_see ct_MarkObserver_see oc_law_paid kV_law_paid dc_law_paid pm_law_paid cv_law_paid ct_law_paid oc_validate_mark kV_validate_mark dc_validate_mark pm_validate_mark cv_validate_mark ct_validate_mark oc_repeated kV_repeated dc_repeated pm_repeated cv_repeated ct_repeated oc_law_cents kV_law_cents dc_law_cents pm_law_cents cv_law_cents ct_law_cents oc_law_drawn kV_law_drawn dc_law_drawn pm_law_drawn cv_law_drawn ct_law_drawn oc_Evening_Dadd kV_Evening_Dadd dc_Evening_Dadd pm_Evening_Dadd cv_Evening_Dadd ct_Evening_Dadd oc_Bill_Dinit kV_Bill_Dinit dc_Bill_Dinit pm_Bill_Dinit cv_Bill_Dinit ct_Bill_Dinit oc_law_bill kV_law_bill dc_law_bill pm_law_bill cv_law_bill ct_law_bill oc_law_evening kV_law_evening dc_law_evening pm_law_evening cv_law_evening ct_law_evening oc_law_outcome kV_law_outcome dc_law_outcome pm_law_outcome cv_law_outcome ct_law_outcome oc_law_rows kV_law_rows dc_law_rows pm_law_rows cv_law_rows ct_law_rows oc_law_same kV_law_same dc_law_same pm_law_same cv_law_same ct_law_same oc_law_start kV_law_start dc_law_start pm_law_start cv_law_start ct_law_start oc_law kV_law dc_law pm_law ct_law : Value}
    {cc_law tb_law : Addr}
    {ce_law : Value}
    {co_law : Option Addr}
    {vv_law : Array Value}
    {cl_law : Array (Option Value)}
    {od_Bill_seats an_Bill_seats od_is_integer an_is_integer od_Evening_Dinit an_Evening_Dinit od_Evening_Dlen an_Evening_Dlen od_Evening_seat_count an_Evening_seat_count od_MarkObserver_Dinit an_MarkObserver_Dinit od_MarkObserver_possible_marks an_MarkObserver_possible_marks od_MarkObserver_records an_MarkObserver_records od_Evening_bills an_Evening_bills od_Shares_Dinit an_Shares_Dinit od_Bill_Dcontains an_Bill_Dcontains od_Bill_amount an_Bill_amount od_Bill_odd_cents an_Bill_odd_cents od_payers an_payers od_pay an_pay od_played an_played od_Course_Dinit an_Course_Dinit od_Shares_Dadd an_Shares_Dadd od_no_shares an_no_shares od_Course_ring_shares an_Course_ring_shares od_Shares_Dmul an_Shares_Dmul od_Course_after an_Course_after od_Evening_Dgetitem an_Evening_Dgetitem od_MarkObserver_paid an_MarkObserver_paid od_validate_seat an_validate_seat od_MarkObserver_see an_MarkObserver_see od_law_paid an_law_paid od_validate_mark an_validate_mark od_repeated an_repeated od_law_cents an_law_cents od_law_drawn an_law_drawn od_Evening_Dadd an_Evening_Dadd od_Bill_Dinit an_Bill_Dinit od_law_bill an_law_bill od_law_evening an_law_evening od_law_outcome an_law_outcome od_law_rows an_law_rows od_law_same an_law_same od_law_start an_law_start od_law an_law : Option Addr}
    {sl_Bill_seats sl_is_integer sl_Evening_Dinit sl_Evening_Dlen sl_Evening_seat_count sl_MarkObserver_Dinit sl_MarkObserver_possible_marks sl_MarkObserver_records sl_Evening_bills sl_Shares_Dinit sl_Bill_Dcontains sl_Bill_amount sl_Bill_odd_cents sl_payers sl_pay sl_played sl_Course_Dinit sl_Shares_Dadd sl_no_shares sl_Course_ring_shares sl_Shares_Dmul sl_Course_after sl_Evening_Dgetitem sl_MarkObserver_paid sl_validate_seat sl_MarkObserver_see sl_law_paid sl_validate_mark sl_repeated sl_law_cents sl_law_drawn sl_Evening_Dadd sl_Bill_Dinit sl_law_bill sl_law_evening sl_law_outcome sl_law_rows sl_law_same sl_law_start sl_law : Array (Option Value)}
    {t_MAX_CENTS t_MAX_TIMES u_Bill_MAX_SEATS u_Evening_MAX_BILLS : Tok}
    {rs_Bill_seats rs_Evening_seat_count rs_MarkObserver_possible_marks rs_MarkObserver_records rs_Evening_bills rs_Bill_amount rs_Bill_odd_cents : List Value}
    (ns_Shares : PySem.W.nsIn K mainGlobals "Shares" = some (some (.ref c_Shares)))
    (ns_Bill : PySem.W.nsIn K mainGlobals "Bill" = some (some (.ref c_Bill)))
    (ns_Evening : PySem.W.nsIn K mainGlobals "Evening" = some (some (.ref c_Evening)))
    (ns_Course : PySem.W.nsIn K mainGlobals "Course" = some (some (.ref c_Course)))
    (ns_MarkObserver : PySem.W.nsIn K mainGlobals "MarkObserver" = some (some (.ref c_MarkObserver)))
    (ns_is_integer : PySem.W.nsIn K mainGlobals "is_integer" = some (some (.ref f_is_integer)))
    (ns_payers : PySem.W.nsIn K mainGlobals "payers" = some (some (.ref f_payers)))
    (ns_pay : PySem.W.nsIn K mainGlobals "pay" = some (some (.ref f_pay)))
    (ns_played : PySem.W.nsIn K mainGlobals "played" = some (some (.ref f_played)))
    (ns_no_shares : PySem.W.nsIn K mainGlobals "no_shares" = some (some (.ref f_no_shares)))
    (ns_validate_seat : PySem.W.nsIn K mainGlobals "validate_seat" = some (some (.ref f_validate_seat)))
    (ns_law_paid : PySem.W.nsIn K mainGlobals "_law_paid" = some (some (.ref f_law_paid)))
    (ns_validate_mark : PySem.W.nsIn K mainGlobals "validate_mark" = some (some (.ref f_validate_mark)))
    (ns_repeated : PySem.W.nsIn K mainGlobals "repeated" = some (some (.ref f_repeated)))
    (ns_law_cents : PySem.W.nsIn K mainGlobals "_law_cents" = some (some (.ref f_law_cents)))
    (ns_law_drawn : PySem.W.nsIn K mainGlobals "_law_drawn" = some (some (.ref f_law_drawn)))
    (ns_law_bill : PySem.W.nsIn K mainGlobals "_law_bill" = some (some (.ref f_law_bill)))
    (ns_law_evening : PySem.W.nsIn K mainGlobals "_law_evening" = some (some (.ref f_law_evening)))
    (ns_law_outcome : PySem.W.nsIn K mainGlobals "_law_outcome" = some (some (.ref f_law_outcome)))
    (ns_law_rows : PySem.W.nsIn K mainGlobals "_law_rows" = some (some (.ref f_law_rows)))
    (ns_law_same : PySem.W.nsIn K mainGlobals "_law_same" = some (some (.ref f_law_same)))
    (ns_law_start : PySem.W.nsIn K mainGlobals "_law_start" = some (some (.ref f_law_start)))
    (ns_law : PySem.W.nsIn K mainGlobals "law" = some (some (.ref f_law)))
    (ns_Contradiction : PySem.W.nsIn K mainGlobals "Contradiction" = some (some (.ref c_Contradiction)))
    (xm_Contradiction : PySem.W.excIn K c_Contradiction [.type "ValueError", .type "Exception", .type "BaseException", .type "object"] "ValueError.__new__" = true)
    (xk_Contradiction : PySem.W.keepIn K (.ref c_Contradiction) = true)
    (xb_Contradiction : PySem.W.subIn K (.ref c_Contradiction) (.type "BaseException") = some true)
    (xt_Contradiction : PySem.W.typeIn K (.ref c_Contradiction) = some (.type "type"))
    (xi_Contradiction : PySem.W.isClsIn K c_Contradiction = true)
    (ns_InvalidNumber : PySem.W.nsIn K mainGlobals "InvalidNumber" = some (some (.ref c_InvalidNumber)))
    (xm_InvalidNumber : PySem.W.excIn K c_InvalidNumber [.type "ValueError", .type "Exception", .type "BaseException", .type "object"] "ValueError.__new__" = true)
    (xk_InvalidNumber : PySem.W.keepIn K (.ref c_InvalidNumber) = true)
    (xb_InvalidNumber : PySem.W.subIn K (.ref c_InvalidNumber) (.type "BaseException") = some true)
    (xt_InvalidNumber : PySem.W.typeIn K (.ref c_InvalidNumber) = some (.type "type"))
    (xi_InvalidNumber : PySem.W.isClsIn K c_InvalidNumber = true)
    (ns_UnknownSeat : PySem.W.nsIn K mainGlobals "UnknownSeat" = some (some (.ref c_UnknownSeat)))
    (xm_UnknownSeat : PySem.W.excIn K c_UnknownSeat [.type "ValueError", .type "Exception", .type "BaseException", .type "object"] "ValueError.__new__" = true)
    (xk_UnknownSeat : PySem.W.keepIn K (.ref c_UnknownSeat) = true)
    (xb_UnknownSeat : PySem.W.subIn K (.ref c_UnknownSeat) (.type "BaseException") = some true)
    (xt_UnknownSeat : PySem.W.typeIn K (.ref c_UnknownSeat) = some (.type "type"))
    (xi_UnknownSeat : PySem.W.isClsIn K c_UnknownSeat = true)
    (xs_Contradiction_Contradiction : PySem.W.subIn K (.ref c_Contradiction) (.ref c_Contradiction) = some true)
    (xs_Contradiction_InvalidNumber : PySem.W.subIn K (.ref c_Contradiction) (.ref c_InvalidNumber) = some false)
    (xs_Contradiction_UnknownSeat : PySem.W.subIn K (.ref c_Contradiction) (.ref c_UnknownSeat) = some false)
    (xs_InvalidNumber_Contradiction : PySem.W.subIn K (.ref c_InvalidNumber) (.ref c_Contradiction) = some false)
    (xs_InvalidNumber_InvalidNumber : PySem.W.subIn K (.ref c_InvalidNumber) (.ref c_InvalidNumber) = some true)
    (xs_InvalidNumber_UnknownSeat : PySem.W.subIn K (.ref c_InvalidNumber) (.ref c_UnknownSeat) = some false)
    (xs_UnknownSeat_Contradiction : PySem.W.subIn K (.ref c_UnknownSeat) (.ref c_Contradiction) = some false)
    (xs_UnknownSeat_InvalidNumber : PySem.W.subIn K (.ref c_UnknownSeat) (.ref c_InvalidNumber) = some false)
    (xs_UnknownSeat_UnknownSeat : PySem.W.subIn K (.ref c_UnknownSeat) (.ref c_UnknownSeat) = some true)
    (rd_Bill : PySem.W.readsIn K c_Bill (.type "type") = true)
    (ga_Bill : PySem.W.specialIn K (.ref c_Bill) "__getattribute__" = some (some (.builtin "type.__getattribute__")))
    (rd_Evening : PySem.W.readsIn K c_Evening (.type "type") = true)
    (ga_Evening : PySem.W.specialIn K (.ref c_Evening) "__getattribute__" = some (some (.builtin "type.__getattribute__")))
    (fi_Bill_seats : PySem.W.findIn K (.ref c_Bill) "seats" = some (some (.ref p_Bill_seats)))
    (pgt_Bill_seats : PySem.W.specialIn K (.ref p_Bill_seats) "__get__" = some (some (.builtin "property.__get__")))
    (ptk_Bill_seats : PySem.W.takesIn K (.ref p_Bill_seats) = some true)
    (prc_Bill_seats : PySem.W.recIn K p_Bill_seats "property" = some (.ref f_Bill_seats :: rs_Bill_seats))
    (l_Bill_seats : K.lookup f_Bill_seats = some ⟨oc_Bill_seats, od_Bill_seats, .func (PySem.W.fnOf "seats" "Bill.seats" (defArgs s_Bill_seats) (defBody s_Bill_seats) (defScope s_Bill_seats) .none kV_Bill_seats dc_Bill_seats pm_Bill_seats an_Bill_seats cv_Bill_seats ct_Bill_seats), sl_Bill_seats⟩)
    (cd_Bill_seats : PySem.W.codeIn K cv_Bill_seats "Bill.seats" = true)
    (kp_Bill_seats : PySem.W.keepIn K (.ref f_Bill_seats) = true)
    (l_is_integer : K.lookup f_is_integer = some ⟨oc_is_integer, od_is_integer, .func (PySem.W.fnOf "is_integer" "is_integer" (defArgs s_is_integer) (defBody s_is_integer) (defScope s_is_integer) .none kV_is_integer dc_is_integer pm_is_integer an_is_integer cv_is_integer ct_is_integer), sl_is_integer⟩)
    (cd_is_integer : PySem.W.codeIn K cv_is_integer "is_integer" = true)
    (kp_is_integer : PySem.W.keepIn K (.ref f_is_integer) = true)
    (fi_Evening_Dinit : PySem.W.findIn K (.ref c_Evening) "__init__" = some (some (.ref f_Evening_Dinit)))
    (l_Evening_Dinit : K.lookup f_Evening_Dinit = some ⟨oc_Evening_Dinit, od_Evening_Dinit, .func (PySem.W.fnOf "__init__" "Evening.__init__" (defArgs s_Evening_Dinit) (defBody s_Evening_Dinit) (defScope s_Evening_Dinit) .none kV_Evening_Dinit dc_Evening_Dinit pm_Evening_Dinit an_Evening_Dinit cv_Evening_Dinit ct_Evening_Dinit), sl_Evening_Dinit⟩)
    (cd_Evening_Dinit : PySem.W.codeIn K cv_Evening_Dinit "Evening.__init__" = true)
    (kp_Evening_Dinit : PySem.W.keepIn K (.ref f_Evening_Dinit) = true)
    (fn_Evening_Dinit : PySem.W.isFn K (.ref f_Evening_Dinit) = true)
    (fk_Evening_Dinit : PySem.W.fnIn K f_Evening_Dinit = true)
    (fi_Evening_Dlen : PySem.W.findIn K (.ref c_Evening) "__len__" = some (some (.ref f_Evening_Dlen)))
    (l_Evening_Dlen : K.lookup f_Evening_Dlen = some ⟨oc_Evening_Dlen, od_Evening_Dlen, .func (PySem.W.fnOf "__len__" "Evening.__len__" (defArgs s_Evening_Dlen) (defBody s_Evening_Dlen) (defScope s_Evening_Dlen) .none kV_Evening_Dlen dc_Evening_Dlen pm_Evening_Dlen an_Evening_Dlen cv_Evening_Dlen ct_Evening_Dlen), sl_Evening_Dlen⟩)
    (cd_Evening_Dlen : PySem.W.codeIn K cv_Evening_Dlen "Evening.__len__" = true)
    (kp_Evening_Dlen : PySem.W.keepIn K (.ref f_Evening_Dlen) = true)
    (fn_Evening_Dlen : PySem.W.isFn K (.ref f_Evening_Dlen) = true)
    (fk_Evening_Dlen : PySem.W.fnIn K f_Evening_Dlen = true)
    (fi_Evening_seat_count : PySem.W.findIn K (.ref c_Evening) "seat_count" = some (some (.ref p_Evening_seat_count)))
    (pgt_Evening_seat_count : PySem.W.specialIn K (.ref p_Evening_seat_count) "__get__" = some (some (.builtin "property.__get__")))
    (ptk_Evening_seat_count : PySem.W.takesIn K (.ref p_Evening_seat_count) = some true)
    (prc_Evening_seat_count : PySem.W.recIn K p_Evening_seat_count "property" = some (.ref f_Evening_seat_count :: rs_Evening_seat_count))
    (l_Evening_seat_count : K.lookup f_Evening_seat_count = some ⟨oc_Evening_seat_count, od_Evening_seat_count, .func (PySem.W.fnOf "seat_count" "Evening.seat_count" (defArgs s_Evening_seat_count) (defBody s_Evening_seat_count) (defScope s_Evening_seat_count) .none kV_Evening_seat_count dc_Evening_seat_count pm_Evening_seat_count an_Evening_seat_count cv_Evening_seat_count ct_Evening_seat_count), sl_Evening_seat_count⟩)
    (cd_Evening_seat_count : PySem.W.codeIn K cv_Evening_seat_count "Evening.seat_count" = true)
    (kp_Evening_seat_count : PySem.W.keepIn K (.ref f_Evening_seat_count) = true)
    (fi_MarkObserver_Dinit : PySem.W.findIn K (.ref c_MarkObserver) "__init__" = some (some (.ref f_MarkObserver_Dinit)))
    (l_MarkObserver_Dinit : K.lookup f_MarkObserver_Dinit = some ⟨oc_MarkObserver_Dinit, od_MarkObserver_Dinit, .func (PySem.W.fnOf "__init__" "MarkObserver.__init__" (defArgs s_MarkObserver_Dinit) (defBody s_MarkObserver_Dinit) (defScope s_MarkObserver_Dinit) .none kV_MarkObserver_Dinit dc_MarkObserver_Dinit pm_MarkObserver_Dinit an_MarkObserver_Dinit cv_MarkObserver_Dinit ct_MarkObserver_Dinit), sl_MarkObserver_Dinit⟩)
    (cd_MarkObserver_Dinit : PySem.W.codeIn K cv_MarkObserver_Dinit "MarkObserver.__init__" = true)
    (kp_MarkObserver_Dinit : PySem.W.keepIn K (.ref f_MarkObserver_Dinit) = true)
    (fn_MarkObserver_Dinit : PySem.W.isFn K (.ref f_MarkObserver_Dinit) = true)
    (fk_MarkObserver_Dinit : PySem.W.fnIn K f_MarkObserver_Dinit = true)
    (fi_MarkObserver_possible_marks : PySem.W.findIn K (.ref c_MarkObserver) "possible_marks" = some (some (.ref p_MarkObserver_possible_marks)))
    (pgt_MarkObserver_possible_marks : PySem.W.specialIn K (.ref p_MarkObserver_possible_marks) "__get__" = some (some (.builtin "property.__get__")))
    (ptk_MarkObserver_possible_marks : PySem.W.takesIn K (.ref p_MarkObserver_possible_marks) = some true)
    (prc_MarkObserver_possible_marks : PySem.W.recIn K p_MarkObserver_possible_marks "property" = some (.ref f_MarkObserver_possible_marks :: rs_MarkObserver_possible_marks))
    (l_MarkObserver_possible_marks : K.lookup f_MarkObserver_possible_marks = some ⟨oc_MarkObserver_possible_marks, od_MarkObserver_possible_marks, .func (PySem.W.fnOf "possible_marks" "MarkObserver.possible_marks" (defArgs s_MarkObserver_possible_marks) (defBody s_MarkObserver_possible_marks) (defScope s_MarkObserver_possible_marks) .none kV_MarkObserver_possible_marks dc_MarkObserver_possible_marks pm_MarkObserver_possible_marks an_MarkObserver_possible_marks cv_MarkObserver_possible_marks ct_MarkObserver_possible_marks), sl_MarkObserver_possible_marks⟩)
    (cd_MarkObserver_possible_marks : PySem.W.codeIn K cv_MarkObserver_possible_marks "MarkObserver.possible_marks" = true)
    (kp_MarkObserver_possible_marks : PySem.W.keepIn K (.ref f_MarkObserver_possible_marks) = true)
    (fi_MarkObserver_records : PySem.W.findIn K (.ref c_MarkObserver) "records" = some (some (.ref p_MarkObserver_records)))
    (pgt_MarkObserver_records : PySem.W.specialIn K (.ref p_MarkObserver_records) "__get__" = some (some (.builtin "property.__get__")))
    (ptk_MarkObserver_records : PySem.W.takesIn K (.ref p_MarkObserver_records) = some true)
    (prc_MarkObserver_records : PySem.W.recIn K p_MarkObserver_records "property" = some (.ref f_MarkObserver_records :: rs_MarkObserver_records))
    (l_MarkObserver_records : K.lookup f_MarkObserver_records = some ⟨oc_MarkObserver_records, od_MarkObserver_records, .func (PySem.W.fnOf "records" "MarkObserver.records" (defArgs s_MarkObserver_records) (defBody s_MarkObserver_records) (defScope s_MarkObserver_records) .none kV_MarkObserver_records dc_MarkObserver_records pm_MarkObserver_records an_MarkObserver_records cv_MarkObserver_records ct_MarkObserver_records), sl_MarkObserver_records⟩)
    (cd_MarkObserver_records : PySem.W.codeIn K cv_MarkObserver_records "MarkObserver.records" = true)
    (kp_MarkObserver_records : PySem.W.keepIn K (.ref f_MarkObserver_records) = true)
    (fi_Evening_bills : PySem.W.findIn K (.ref c_Evening) "bills" = some (some (.ref p_Evening_bills)))
    (pgt_Evening_bills : PySem.W.specialIn K (.ref p_Evening_bills) "__get__" = some (some (.builtin "property.__get__")))
    (ptk_Evening_bills : PySem.W.takesIn K (.ref p_Evening_bills) = some true)
    (prc_Evening_bills : PySem.W.recIn K p_Evening_bills "property" = some (.ref f_Evening_bills :: rs_Evening_bills))
    (l_Evening_bills : K.lookup f_Evening_bills = some ⟨oc_Evening_bills, od_Evening_bills, .func (PySem.W.fnOf "bills" "Evening.bills" (defArgs s_Evening_bills) (defBody s_Evening_bills) (defScope s_Evening_bills) .none kV_Evening_bills dc_Evening_bills pm_Evening_bills an_Evening_bills cv_Evening_bills ct_Evening_bills), sl_Evening_bills⟩)
    (cd_Evening_bills : PySem.W.codeIn K cv_Evening_bills "Evening.bills" = true)
    (kp_Evening_bills : PySem.W.keepIn K (.ref f_Evening_bills) = true)
    (fi_Shares_Dinit : PySem.W.findIn K (.ref c_Shares) "__init__" = some (some (.ref f_Shares_Dinit)))
    (l_Shares_Dinit : K.lookup f_Shares_Dinit = some ⟨oc_Shares_Dinit, od_Shares_Dinit, .func (PySem.W.fnOf "__init__" "Shares.__init__" (defArgs s_Shares_Dinit) (defBody s_Shares_Dinit) (defScope s_Shares_Dinit) .none kV_Shares_Dinit dc_Shares_Dinit pm_Shares_Dinit an_Shares_Dinit cv_Shares_Dinit ct_Shares_Dinit), sl_Shares_Dinit⟩)
    (cd_Shares_Dinit : PySem.W.codeIn K cv_Shares_Dinit "Shares.__init__" = true)
    (kp_Shares_Dinit : PySem.W.keepIn K (.ref f_Shares_Dinit) = true)
    (fn_Shares_Dinit : PySem.W.isFn K (.ref f_Shares_Dinit) = true)
    (fk_Shares_Dinit : PySem.W.fnIn K f_Shares_Dinit = true)
    (fi_Bill_Dcontains : PySem.W.findIn K (.ref c_Bill) "__contains__" = some (some (.ref f_Bill_Dcontains)))
    (l_Bill_Dcontains : K.lookup f_Bill_Dcontains = some ⟨oc_Bill_Dcontains, od_Bill_Dcontains, .func (PySem.W.fnOf "__contains__" "Bill.__contains__" (defArgs s_Bill_Dcontains) (defBody s_Bill_Dcontains) (defScope s_Bill_Dcontains) .none kV_Bill_Dcontains dc_Bill_Dcontains pm_Bill_Dcontains an_Bill_Dcontains cv_Bill_Dcontains ct_Bill_Dcontains), sl_Bill_Dcontains⟩)
    (cd_Bill_Dcontains : PySem.W.codeIn K cv_Bill_Dcontains "Bill.__contains__" = true)
    (kp_Bill_Dcontains : PySem.W.keepIn K (.ref f_Bill_Dcontains) = true)
    (fn_Bill_Dcontains : PySem.W.isFn K (.ref f_Bill_Dcontains) = true)
    (fk_Bill_Dcontains : PySem.W.fnIn K f_Bill_Dcontains = true)
    (fi_Bill_amount : PySem.W.findIn K (.ref c_Bill) "amount" = some (some (.ref p_Bill_amount)))
    (pgt_Bill_amount : PySem.W.specialIn K (.ref p_Bill_amount) "__get__" = some (some (.builtin "property.__get__")))
    (ptk_Bill_amount : PySem.W.takesIn K (.ref p_Bill_amount) = some true)
    (prc_Bill_amount : PySem.W.recIn K p_Bill_amount "property" = some (.ref f_Bill_amount :: rs_Bill_amount))
    (l_Bill_amount : K.lookup f_Bill_amount = some ⟨oc_Bill_amount, od_Bill_amount, .func (PySem.W.fnOf "amount" "Bill.amount" (defArgs s_Bill_amount) (defBody s_Bill_amount) (defScope s_Bill_amount) .none kV_Bill_amount dc_Bill_amount pm_Bill_amount an_Bill_amount cv_Bill_amount ct_Bill_amount), sl_Bill_amount⟩)
    (cd_Bill_amount : PySem.W.codeIn K cv_Bill_amount "Bill.amount" = true)
    (kp_Bill_amount : PySem.W.keepIn K (.ref f_Bill_amount) = true)
    (fi_Bill_odd_cents : PySem.W.findIn K (.ref c_Bill) "odd_cents" = some (some (.ref p_Bill_odd_cents)))
    (pgt_Bill_odd_cents : PySem.W.specialIn K (.ref p_Bill_odd_cents) "__get__" = some (some (.builtin "property.__get__")))
    (ptk_Bill_odd_cents : PySem.W.takesIn K (.ref p_Bill_odd_cents) = some true)
    (prc_Bill_odd_cents : PySem.W.recIn K p_Bill_odd_cents "property" = some (.ref f_Bill_odd_cents :: rs_Bill_odd_cents))
    (l_Bill_odd_cents : K.lookup f_Bill_odd_cents = some ⟨oc_Bill_odd_cents, od_Bill_odd_cents, .func (PySem.W.fnOf "odd_cents" "Bill.odd_cents" (defArgs s_Bill_odd_cents) (defBody s_Bill_odd_cents) (defScope s_Bill_odd_cents) .none kV_Bill_odd_cents dc_Bill_odd_cents pm_Bill_odd_cents an_Bill_odd_cents cv_Bill_odd_cents ct_Bill_odd_cents), sl_Bill_odd_cents⟩)
    (cd_Bill_odd_cents : PySem.W.codeIn K cv_Bill_odd_cents "Bill.odd_cents" = true)
    (kp_Bill_odd_cents : PySem.W.keepIn K (.ref f_Bill_odd_cents) = true)
    (l_payers : K.lookup f_payers = some ⟨oc_payers, od_payers, .func (PySem.W.fnOf "payers" "payers" (defArgs s_payers) (defBody s_payers) (defScope s_payers) .none kV_payers dc_payers pm_payers an_payers cv_payers ct_payers), sl_payers⟩)
    (cd_payers : PySem.W.codeIn K cv_payers "payers" = true)
    (kp_payers : PySem.W.keepIn K (.ref f_payers) = true)
    (l_pay : K.lookup f_pay = some ⟨oc_pay, od_pay, .func (PySem.W.fnOf "pay" "pay" (defArgs s_pay) (defBody s_pay) (defScope s_pay) .none kV_pay dc_pay pm_pay an_pay cv_pay ct_pay), sl_pay⟩)
    (cd_pay : PySem.W.codeIn K cv_pay "pay" = true)
    (kp_pay : PySem.W.keepIn K (.ref f_pay) = true)
    (l_played : K.lookup f_played = some ⟨oc_played, od_played, .func (PySem.W.fnOf "played" "played" (defArgs s_played) (defBody s_played) (defScope s_played) .none kV_played dc_played pm_played an_played cv_played ct_played), sl_played⟩)
    (cd_played : PySem.W.codeIn K cv_played "played" = true)
    (kp_played : PySem.W.keepIn K (.ref f_played) = true)
    (fi_Course_Dinit : PySem.W.findIn K (.ref c_Course) "__init__" = some (some (.ref f_Course_Dinit)))
    (l_Course_Dinit : K.lookup f_Course_Dinit = some ⟨oc_Course_Dinit, od_Course_Dinit, .func (PySem.W.fnOf "__init__" "Course.__init__" (defArgs s_Course_Dinit) (defBody s_Course_Dinit) (defScope s_Course_Dinit) .none kV_Course_Dinit dc_Course_Dinit pm_Course_Dinit an_Course_Dinit cv_Course_Dinit ct_Course_Dinit), sl_Course_Dinit⟩)
    (cd_Course_Dinit : PySem.W.codeIn K cv_Course_Dinit "Course.__init__" = true)
    (kp_Course_Dinit : PySem.W.keepIn K (.ref f_Course_Dinit) = true)
    (fn_Course_Dinit : PySem.W.isFn K (.ref f_Course_Dinit) = true)
    (fk_Course_Dinit : PySem.W.fnIn K f_Course_Dinit = true)
    (fi_Shares_Dadd : PySem.W.findIn K (.ref c_Shares) "__add__" = some (some (.ref f_Shares_Dadd)))
    (l_Shares_Dadd : K.lookup f_Shares_Dadd = some ⟨oc_Shares_Dadd, od_Shares_Dadd, .func (PySem.W.fnOf "__add__" "Shares.__add__" (defArgs s_Shares_Dadd) (defBody s_Shares_Dadd) (defScope s_Shares_Dadd) .none kV_Shares_Dadd dc_Shares_Dadd pm_Shares_Dadd an_Shares_Dadd cv_Shares_Dadd ct_Shares_Dadd), sl_Shares_Dadd⟩)
    (cd_Shares_Dadd : PySem.W.codeIn K cv_Shares_Dadd "Shares.__add__" = true)
    (kp_Shares_Dadd : PySem.W.keepIn K (.ref f_Shares_Dadd) = true)
    (fn_Shares_Dadd : PySem.W.isFn K (.ref f_Shares_Dadd) = true)
    (fk_Shares_Dadd : PySem.W.fnIn K f_Shares_Dadd = true)
    (l_no_shares : K.lookup f_no_shares = some ⟨oc_no_shares, od_no_shares, .func (PySem.W.fnOf "no_shares" "no_shares" (defArgs s_no_shares) (defBody s_no_shares) (defScope s_no_shares) .none kV_no_shares dc_no_shares pm_no_shares an_no_shares cv_no_shares ct_no_shares), sl_no_shares⟩)
    (cd_no_shares : PySem.W.codeIn K cv_no_shares "no_shares" = true)
    (kp_no_shares : PySem.W.keepIn K (.ref f_no_shares) = true)
    (fi_Course_ring_shares : PySem.W.findIn K (.ref c_Course) "ring_shares" = some (some (.ref f_Course_ring_shares)))
    (l_Course_ring_shares : K.lookup f_Course_ring_shares = some ⟨oc_Course_ring_shares, od_Course_ring_shares, .func (PySem.W.fnOf "ring_shares" "Course.ring_shares" (defArgs s_Course_ring_shares) (defBody s_Course_ring_shares) (defScope s_Course_ring_shares) .none kV_Course_ring_shares dc_Course_ring_shares pm_Course_ring_shares an_Course_ring_shares cv_Course_ring_shares ct_Course_ring_shares), sl_Course_ring_shares⟩)
    (cd_Course_ring_shares : PySem.W.codeIn K cv_Course_ring_shares "Course.ring_shares" = true)
    (kp_Course_ring_shares : PySem.W.keepIn K (.ref f_Course_ring_shares) = true)
    (fn_Course_ring_shares : PySem.W.isFn K (.ref f_Course_ring_shares) = true)
    (fk_Course_ring_shares : PySem.W.fnIn K f_Course_ring_shares = true)
    (fi_Shares_Dmul : PySem.W.findIn K (.ref c_Shares) "__mul__" = some (some (.ref f_Shares_Dmul)))
    (l_Shares_Dmul : K.lookup f_Shares_Dmul = some ⟨oc_Shares_Dmul, od_Shares_Dmul, .func (PySem.W.fnOf "__mul__" "Shares.__mul__" (defArgs s_Shares_Dmul) (defBody s_Shares_Dmul) (defScope s_Shares_Dmul) .none kV_Shares_Dmul dc_Shares_Dmul pm_Shares_Dmul an_Shares_Dmul cv_Shares_Dmul ct_Shares_Dmul), sl_Shares_Dmul⟩)
    (cd_Shares_Dmul : PySem.W.codeIn K cv_Shares_Dmul "Shares.__mul__" = true)
    (kp_Shares_Dmul : PySem.W.keepIn K (.ref f_Shares_Dmul) = true)
    (fn_Shares_Dmul : PySem.W.isFn K (.ref f_Shares_Dmul) = true)
    (fk_Shares_Dmul : PySem.W.fnIn K f_Shares_Dmul = true)
    (fi_Course_after : PySem.W.findIn K (.ref c_Course) "after" = some (some (.ref f_Course_after)))
    (l_Course_after : K.lookup f_Course_after = some ⟨oc_Course_after, od_Course_after, .func (PySem.W.fnOf "after" "Course.after" (defArgs s_Course_after) (defBody s_Course_after) (defScope s_Course_after) .none kV_Course_after dc_Course_after pm_Course_after an_Course_after cv_Course_after ct_Course_after), sl_Course_after⟩)
    (cd_Course_after : PySem.W.codeIn K cv_Course_after "Course.after" = true)
    (kp_Course_after : PySem.W.keepIn K (.ref f_Course_after) = true)
    (fn_Course_after : PySem.W.isFn K (.ref f_Course_after) = true)
    (fk_Course_after : PySem.W.fnIn K f_Course_after = true)
    (fi_Evening_Dgetitem : PySem.W.findIn K (.ref c_Evening) "__getitem__" = some (some (.ref f_Evening_Dgetitem)))
    (l_Evening_Dgetitem : K.lookup f_Evening_Dgetitem = some ⟨oc_Evening_Dgetitem, od_Evening_Dgetitem, .func (PySem.W.fnOf "__getitem__" "Evening.__getitem__" (defArgs s_Evening_Dgetitem) (defBody s_Evening_Dgetitem) (defScope s_Evening_Dgetitem) .none kV_Evening_Dgetitem dc_Evening_Dgetitem pm_Evening_Dgetitem an_Evening_Dgetitem cv_Evening_Dgetitem ct_Evening_Dgetitem), sl_Evening_Dgetitem⟩)
    (cd_Evening_Dgetitem : PySem.W.codeIn K cv_Evening_Dgetitem "Evening.__getitem__" = true)
    (kp_Evening_Dgetitem : PySem.W.keepIn K (.ref f_Evening_Dgetitem) = true)
    (fn_Evening_Dgetitem : PySem.W.isFn K (.ref f_Evening_Dgetitem) = true)
    (fk_Evening_Dgetitem : PySem.W.fnIn K f_Evening_Dgetitem = true)
    (fi_MarkObserver_paid : PySem.W.findIn K (.ref c_MarkObserver) "paid" = some (some (.ref f_MarkObserver_paid)))
    (l_MarkObserver_paid : K.lookup f_MarkObserver_paid = some ⟨oc_MarkObserver_paid, od_MarkObserver_paid, .func (PySem.W.fnOf "paid" "MarkObserver.paid" (defArgs s_MarkObserver_paid) (defBody s_MarkObserver_paid) (defScope s_MarkObserver_paid) .none kV_MarkObserver_paid dc_MarkObserver_paid pm_MarkObserver_paid an_MarkObserver_paid cv_MarkObserver_paid ct_MarkObserver_paid), sl_MarkObserver_paid⟩)
    (cd_MarkObserver_paid : PySem.W.codeIn K cv_MarkObserver_paid "MarkObserver.paid" = true)
    (kp_MarkObserver_paid : PySem.W.keepIn K (.ref f_MarkObserver_paid) = true)
    (fn_MarkObserver_paid : PySem.W.isFn K (.ref f_MarkObserver_paid) = true)
    (fk_MarkObserver_paid : PySem.W.fnIn K f_MarkObserver_paid = true)
    (l_validate_seat : K.lookup f_validate_seat = some ⟨oc_validate_seat, od_validate_seat, .func (PySem.W.fnOf "validate_seat" "validate_seat" (defArgs s_validate_seat) (defBody s_validate_seat) (defScope s_validate_seat) .none kV_validate_seat dc_validate_seat pm_validate_seat an_validate_seat cv_validate_seat ct_validate_seat), sl_validate_seat⟩)
    (cd_validate_seat : PySem.W.codeIn K cv_validate_seat "validate_seat" = true)
    (kp_validate_seat : PySem.W.keepIn K (.ref f_validate_seat) = true)
    (fi_MarkObserver_see : PySem.W.findIn K (.ref c_MarkObserver) "see" = some (some (.ref f_MarkObserver_see)))
    (l_MarkObserver_see : K.lookup f_MarkObserver_see = some ⟨oc_MarkObserver_see, od_MarkObserver_see, .func (PySem.W.fnOf "see" "MarkObserver.see" (defArgs s_MarkObserver_see) (defBody s_MarkObserver_see) (defScope s_MarkObserver_see) .none kV_MarkObserver_see dc_MarkObserver_see pm_MarkObserver_see an_MarkObserver_see cv_MarkObserver_see ct_MarkObserver_see), sl_MarkObserver_see⟩)
    (cd_MarkObserver_see : PySem.W.codeIn K cv_MarkObserver_see "MarkObserver.see" = true)
    (kp_MarkObserver_see : PySem.W.keepIn K (.ref f_MarkObserver_see) = true)
    (fn_MarkObserver_see : PySem.W.isFn K (.ref f_MarkObserver_see) = true)
    (fk_MarkObserver_see : PySem.W.fnIn K f_MarkObserver_see = true)
    (l_law_paid : K.lookup f_law_paid = some ⟨oc_law_paid, od_law_paid, .func (PySem.W.fnOf "_law_paid" "_law_paid" (defArgs s_law_paid) (defBody s_law_paid) (defScope s_law_paid) .none kV_law_paid dc_law_paid pm_law_paid an_law_paid cv_law_paid ct_law_paid), sl_law_paid⟩)
    (cd_law_paid : PySem.W.codeIn K cv_law_paid "_law_paid" = true)
    (kp_law_paid : PySem.W.keepIn K (.ref f_law_paid) = true)
    (l_validate_mark : K.lookup f_validate_mark = some ⟨oc_validate_mark, od_validate_mark, .func (PySem.W.fnOf "validate_mark" "validate_mark" (defArgs s_validate_mark) (defBody s_validate_mark) (defScope s_validate_mark) .none kV_validate_mark dc_validate_mark pm_validate_mark an_validate_mark cv_validate_mark ct_validate_mark), sl_validate_mark⟩)
    (cd_validate_mark : PySem.W.codeIn K cv_validate_mark "validate_mark" = true)
    (kp_validate_mark : PySem.W.keepIn K (.ref f_validate_mark) = true)
    (l_repeated : K.lookup f_repeated = some ⟨oc_repeated, od_repeated, .func (PySem.W.fnOf "repeated" "repeated" (defArgs s_repeated) (defBody s_repeated) (defScope s_repeated) .none kV_repeated dc_repeated pm_repeated an_repeated cv_repeated ct_repeated), sl_repeated⟩)
    (cd_repeated : PySem.W.codeIn K cv_repeated "repeated" = true)
    (kp_repeated : PySem.W.keepIn K (.ref f_repeated) = true)
    (l_law_cents : K.lookup f_law_cents = some ⟨oc_law_cents, od_law_cents, .func (PySem.W.fnOf "_law_cents" "_law_cents" (defArgs s_law_cents) (defBody s_law_cents) (defScope s_law_cents) .none kV_law_cents dc_law_cents pm_law_cents an_law_cents cv_law_cents ct_law_cents), sl_law_cents⟩)
    (cd_law_cents : PySem.W.codeIn K cv_law_cents "_law_cents" = true)
    (kp_law_cents : PySem.W.keepIn K (.ref f_law_cents) = true)
    (l_law_drawn : K.lookup f_law_drawn = some ⟨oc_law_drawn, od_law_drawn, .func (PySem.W.fnOf "_law_drawn" "_law_drawn" (defArgs s_law_drawn) (defBody s_law_drawn) (defScope s_law_drawn) .none kV_law_drawn dc_law_drawn pm_law_drawn an_law_drawn cv_law_drawn ct_law_drawn), sl_law_drawn⟩)
    (cd_law_drawn : PySem.W.codeIn K cv_law_drawn "_law_drawn" = true)
    (kp_law_drawn : PySem.W.keepIn K (.ref f_law_drawn) = true)
    (fi_Evening_Dadd : PySem.W.findIn K (.ref c_Evening) "__add__" = some (some (.ref f_Evening_Dadd)))
    (l_Evening_Dadd : K.lookup f_Evening_Dadd = some ⟨oc_Evening_Dadd, od_Evening_Dadd, .func (PySem.W.fnOf "__add__" "Evening.__add__" (defArgs s_Evening_Dadd) (defBody s_Evening_Dadd) (defScope s_Evening_Dadd) .none kV_Evening_Dadd dc_Evening_Dadd pm_Evening_Dadd an_Evening_Dadd cv_Evening_Dadd ct_Evening_Dadd), sl_Evening_Dadd⟩)
    (cd_Evening_Dadd : PySem.W.codeIn K cv_Evening_Dadd "Evening.__add__" = true)
    (kp_Evening_Dadd : PySem.W.keepIn K (.ref f_Evening_Dadd) = true)
    (fn_Evening_Dadd : PySem.W.isFn K (.ref f_Evening_Dadd) = true)
    (fk_Evening_Dadd : PySem.W.fnIn K f_Evening_Dadd = true)
    (fi_Bill_Dinit : PySem.W.findIn K (.ref c_Bill) "__init__" = some (some (.ref f_Bill_Dinit)))
    (l_Bill_Dinit : K.lookup f_Bill_Dinit = some ⟨oc_Bill_Dinit, od_Bill_Dinit, .func (PySem.W.fnOf "__init__" "Bill.__init__" (defArgs s_Bill_Dinit) (defBody s_Bill_Dinit) (defScope s_Bill_Dinit) .none kV_Bill_Dinit dc_Bill_Dinit pm_Bill_Dinit an_Bill_Dinit cv_Bill_Dinit ct_Bill_Dinit), sl_Bill_Dinit⟩)
    (cd_Bill_Dinit : PySem.W.codeIn K cv_Bill_Dinit "Bill.__init__" = true)
    (kp_Bill_Dinit : PySem.W.keepIn K (.ref f_Bill_Dinit) = true)
    (fn_Bill_Dinit : PySem.W.isFn K (.ref f_Bill_Dinit) = true)
    (fk_Bill_Dinit : PySem.W.fnIn K f_Bill_Dinit = true)
    (l_law_bill : K.lookup f_law_bill = some ⟨oc_law_bill, od_law_bill, .func (PySem.W.fnOf "_law_bill" "_law_bill" (defArgs s_law_bill) (defBody s_law_bill) (defScope s_law_bill) .none kV_law_bill dc_law_bill pm_law_bill an_law_bill cv_law_bill ct_law_bill), sl_law_bill⟩)
    (cd_law_bill : PySem.W.codeIn K cv_law_bill "_law_bill" = true)
    (kp_law_bill : PySem.W.keepIn K (.ref f_law_bill) = true)
    (l_law_evening : K.lookup f_law_evening = some ⟨oc_law_evening, od_law_evening, .func (PySem.W.fnOf "_law_evening" "_law_evening" (defArgs s_law_evening) (defBody s_law_evening) (defScope s_law_evening) .none kV_law_evening dc_law_evening pm_law_evening an_law_evening cv_law_evening ct_law_evening), sl_law_evening⟩)
    (cd_law_evening : PySem.W.codeIn K cv_law_evening "_law_evening" = true)
    (kp_law_evening : PySem.W.keepIn K (.ref f_law_evening) = true)
    (l_law_outcome : K.lookup f_law_outcome = some ⟨oc_law_outcome, od_law_outcome, .func (PySem.W.fnOf "_law_outcome" "_law_outcome" (defArgs s_law_outcome) (defBody s_law_outcome) (defScope s_law_outcome) .none kV_law_outcome dc_law_outcome pm_law_outcome an_law_outcome cv_law_outcome ct_law_outcome), sl_law_outcome⟩)
    (cd_law_outcome : PySem.W.codeIn K cv_law_outcome "_law_outcome" = true)
    (kp_law_outcome : PySem.W.keepIn K (.ref f_law_outcome) = true)
    (l_law_rows : K.lookup f_law_rows = some ⟨oc_law_rows, od_law_rows, .func (PySem.W.fnOf "_law_rows" "_law_rows" (defArgs s_law_rows) (defBody s_law_rows) (defScope s_law_rows) .none kV_law_rows dc_law_rows pm_law_rows an_law_rows cv_law_rows ct_law_rows), sl_law_rows⟩)
    (cd_law_rows : PySem.W.codeIn K cv_law_rows "_law_rows" = true)
    (kp_law_rows : PySem.W.keepIn K (.ref f_law_rows) = true)
    (l_law_same : K.lookup f_law_same = some ⟨oc_law_same, od_law_same, .func (PySem.W.fnOf "_law_same" "_law_same" (defArgs s_law_same) (defBody s_law_same) (defScope s_law_same) .none kV_law_same dc_law_same pm_law_same an_law_same cv_law_same ct_law_same), sl_law_same⟩)
    (cd_law_same : PySem.W.codeIn K cv_law_same "_law_same" = true)
    (kp_law_same : PySem.W.keepIn K (.ref f_law_same) = true)
    (l_law_start : K.lookup f_law_start = some ⟨oc_law_start, od_law_start, .func (PySem.W.fnOf "_law_start" "_law_start" (defArgs s_law_start) (defBody s_law_start) (defScope s_law_start) .none kV_law_start dc_law_start pm_law_start an_law_start cv_law_start ct_law_start), sl_law_start⟩)
    (cd_law_start : PySem.W.codeIn K cv_law_start "_law_start" = true)
    (kp_law_start : PySem.W.keepIn K (.ref f_law_start) = true)
    (l_law : K.lookup f_law = some ⟨oc_law, od_law, .func (PySem.W.fnOf "law" "law" (defArgs s_law) (defBody s_law) (defScope s_law) .none kV_law dc_law pm_law an_law (.ref cc_law) ct_law), sl_law⟩)
    (cd_law : PySem.W.codeIn K (.ref cc_law) "law" = true)
    (lc_law : K.lookup cc_law = some ⟨ce_law, co_law, .fields vv_law, cl_law⟩)
    (vc_law : vv_law[11]? = some (.ref tb_law))
    (nt_law : K.lookup tb_law = none)
    (kp_law : PySem.W.keepIn K (.ref f_law) = true)
    (ns_MAX_CENTS : PySem.W.nsIn K mainGlobals "MAX_CENTS" = some (some (.int 1000000000000 t_MAX_CENTS)))
    (ns_MAX_TIMES : PySem.W.nsIn K mainGlobals "MAX_TIMES" = some (some (.int 1000000000000000000 t_MAX_TIMES)))
    (nb_bool : PySem.W.nsIn K mainGlobals "bool" = some none)
    (nb_enumerate : PySem.W.nsIn K mainGlobals "enumerate" = some none)
    (nb_int : PySem.W.nsIn K mainGlobals "int" = some none)
    (nb_isinstance : PySem.W.nsIn K mainGlobals "isinstance" = some none)
    (nb_len : PySem.W.nsIn K mainGlobals "len" = some none)
    (nb_list : PySem.W.nsIn K mainGlobals "list" = some none)
    (nb_max : PySem.W.nsIn K mainGlobals "max" = some none)
    (nb_range : PySem.W.nsIn K mainGlobals "range" = some none)
    (nb_tuple : PySem.W.nsIn K mainGlobals "tuple" = some none)
    (nb_zip : PySem.W.nsIn K mainGlobals "zip" = some none)
    (pg_Shares : PySem.W.plainGet K c_Shares Str.empty = true)
    (hd_Shares : PySem.W.hasDictIn K c_Shares = true)
    (po_Shares : PySem.W.plainOver K c_Shares = true)
    (sa_Shares : PySem.W.findIn K (.ref c_Shares) "__setattr__" = some (some (.builtin "object.__setattr__")))
    (mkk_Shares : PySem.W.makesIn K c_Shares = true)
    (kc_Shares : PySem.W.keepIn K (.ref c_Shares) = true)
    (na_Shares_amounts : PySem.W.findIn K (.ref c_Shares) "amounts" = some none)
    (sf_Shares : PySem.W.selfFirst K c_Shares = true)
    (pg_Bill : PySem.W.plainGet K c_Bill Str.empty = true)
    (hd_Bill : PySem.W.hasDictIn K c_Bill = true)
    (po_Bill : PySem.W.plainOver K c_Bill = true)
    (sa_Bill : PySem.W.findIn K (.ref c_Bill) "__setattr__" = some (some (.builtin "object.__setattr__")))
    (mkk_Bill : PySem.W.makesIn K c_Bill = true)
    (kc_Bill : PySem.W.keepIn K (.ref c_Bill) = true)
    (na_Bill_total : PySem.W.findIn K (.ref c_Bill) "total" = some none)
    (na_Bill_there : PySem.W.findIn K (.ref c_Bill) "there" = some none)
    (cv_Bill_MAX_SEATS : PySem.W.findCls K (.ref c_Bill) (.type "type") "MAX_SEATS" = some (.val (.int 8 u_Bill_MAX_SEATS)))
    (sf_Bill : PySem.W.selfFirst K c_Bill = true)
    (pg_Evening : PySem.W.plainGet K c_Evening Str.empty = true)
    (hd_Evening : PySem.W.hasDictIn K c_Evening = true)
    (po_Evening : PySem.W.plainOver K c_Evening = true)
    (sa_Evening : PySem.W.findIn K (.ref c_Evening) "__setattr__" = some (some (.builtin "object.__setattr__")))
    (mkk_Evening : PySem.W.makesIn K c_Evening = true)
    (kc_Evening : PySem.W.keepIn K (.ref c_Evening) = true)
    (na_Evening_size : PySem.W.findIn K (.ref c_Evening) "size" = some none)
    (na_Evening_parts : PySem.W.findIn K (.ref c_Evening) "parts" = some none)
    (cv_Evening_MAX_BILLS : PySem.W.findCls K (.ref c_Evening) (.type "type") "MAX_BILLS" = some (.val (.int 30 u_Evening_MAX_BILLS)))
    (sf_Evening : PySem.W.selfFirst K c_Evening = true)
    (pg_Course : PySem.W.plainGet K c_Course Str.empty = true)
    (hd_Course : PySem.W.hasDictIn K c_Course = true)
    (po_Course : PySem.W.plainOver K c_Course = true)
    (sa_Course : PySem.W.findIn K (.ref c_Course) "__setattr__" = some (some (.builtin "object.__setattr__")))
    (mkk_Course : PySem.W.makesIn K c_Course = true)
    (kc_Course : PySem.W.keepIn K (.ref c_Course) = true)
    (na_Course_marks : PySem.W.findIn K (.ref c_Course) "marks" = some none)
    (na_Course_rows : PySem.W.findIn K (.ref c_Course) "rows" = some none)
    (na_Course_ring : PySem.W.findIn K (.ref c_Course) "ring" = some none)
    (na_Course_evening : PySem.W.findIn K (.ref c_Course) "evening" = some none)
    (sf_Course : PySem.W.selfFirst K c_Course = true)
    (pg_MarkObserver : PySem.W.plainGet K c_MarkObserver Str.empty = true)
    (hd_MarkObserver : PySem.W.hasDictIn K c_MarkObserver = true)
    (po_MarkObserver : PySem.W.plainOver K c_MarkObserver = true)
    (sa_MarkObserver : PySem.W.findIn K (.ref c_MarkObserver) "__setattr__" = some (some (.builtin "object.__setattr__")))
    (mkk_MarkObserver : PySem.W.makesIn K c_MarkObserver = true)
    (kc_MarkObserver : PySem.W.keepIn K (.ref c_MarkObserver) = true)
    (na_MarkObserver_evening : PySem.W.findIn K (.ref c_MarkObserver) "evening" = some none)
    (na_MarkObserver_left : PySem.W.findIn K (.ref c_MarkObserver) "left" = some none)
    (na_MarkObserver_accepted : PySem.W.findIn K (.ref c_MarkObserver) "accepted" = some none)
    (sf_MarkObserver : PySem.W.selfFirst K c_MarkObserver = true)
    (dr_Shares_Dmul : PySem.W.findIn K (.ref c_Shares) "__rmul__" = some none)
    (i1_mul : PySem.W.findIn K (.type "int") "__mul__" = some (some (.builtin "int.__mul__")))
    (i2_mul : PySem.W.findIn K (.type "int") "__rmul__" = some (some (.builtin "int.__rmul__")))
    (si_Shares : PySem.W.subIn K (.type "int") (.ref c_Shares) = some false)
    : LamX.LawAtS l w K (L2.CX l.prog w) 12 63 "_law_script" mg fa h := by
  have T := mkTx X G ns_Shares ns_Bill ns_Evening ns_Course ns_MarkObserver ns_is_integer ns_payers ns_pay ns_played ns_no_shares ns_validate_seat ns_law_paid ns_validate_mark ns_repeated ns_law_cents ns_law_drawn ns_law_bill ns_law_evening ns_law_outcome ns_law_rows ns_law_same ns_law_start ns_law ns_Contradiction xm_Contradiction xk_Contradiction xb_Contradiction xt_Contradiction xi_Contradiction ns_InvalidNumber xm_InvalidNumber xk_InvalidNumber xb_InvalidNumber xt_InvalidNumber xi_InvalidNumber ns_UnknownSeat xm_UnknownSeat xk_UnknownSeat xb_UnknownSeat xt_UnknownSeat xi_UnknownSeat xs_Contradiction_Contradiction xs_Contradiction_InvalidNumber xs_Contradiction_UnknownSeat xs_InvalidNumber_Contradiction xs_InvalidNumber_InvalidNumber xs_InvalidNumber_UnknownSeat xs_UnknownSeat_Contradiction xs_UnknownSeat_InvalidNumber xs_UnknownSeat_UnknownSeat rd_Bill ga_Bill rd_Evening ga_Evening fi_Bill_seats pgt_Bill_seats ptk_Bill_seats prc_Bill_seats l_Bill_seats cd_Bill_seats kp_Bill_seats l_is_integer cd_is_integer kp_is_integer fi_Evening_Dinit l_Evening_Dinit cd_Evening_Dinit kp_Evening_Dinit fn_Evening_Dinit fk_Evening_Dinit fi_Evening_Dlen l_Evening_Dlen cd_Evening_Dlen kp_Evening_Dlen fn_Evening_Dlen fk_Evening_Dlen fi_Evening_seat_count pgt_Evening_seat_count ptk_Evening_seat_count prc_Evening_seat_count l_Evening_seat_count cd_Evening_seat_count kp_Evening_seat_count fi_MarkObserver_Dinit l_MarkObserver_Dinit cd_MarkObserver_Dinit kp_MarkObserver_Dinit fn_MarkObserver_Dinit fk_MarkObserver_Dinit fi_MarkObserver_possible_marks pgt_MarkObserver_possible_marks ptk_MarkObserver_possible_marks prc_MarkObserver_possible_marks l_MarkObserver_possible_marks cd_MarkObserver_possible_marks kp_MarkObserver_possible_marks fi_MarkObserver_records pgt_MarkObserver_records ptk_MarkObserver_records prc_MarkObserver_records l_MarkObserver_records cd_MarkObserver_records kp_MarkObserver_records fi_Evening_bills pgt_Evening_bills ptk_Evening_bills prc_Evening_bills l_Evening_bills cd_Evening_bills kp_Evening_bills fi_Shares_Dinit l_Shares_Dinit cd_Shares_Dinit kp_Shares_Dinit fn_Shares_Dinit fk_Shares_Dinit fi_Bill_Dcontains l_Bill_Dcontains cd_Bill_Dcontains kp_Bill_Dcontains fn_Bill_Dcontains fk_Bill_Dcontains fi_Bill_amount pgt_Bill_amount ptk_Bill_amount prc_Bill_amount l_Bill_amount cd_Bill_amount kp_Bill_amount fi_Bill_odd_cents pgt_Bill_odd_cents ptk_Bill_odd_cents prc_Bill_odd_cents l_Bill_odd_cents cd_Bill_odd_cents kp_Bill_odd_cents l_payers cd_payers kp_payers l_pay cd_pay kp_pay l_played cd_played kp_played fi_Course_Dinit l_Course_Dinit cd_Course_Dinit kp_Course_Dinit fn_Course_Dinit fk_Course_Dinit fi_Shares_Dadd l_Shares_Dadd cd_Shares_Dadd kp_Shares_Dadd fn_Shares_Dadd fk_Shares_Dadd l_no_shares cd_no_shares kp_no_shares fi_Course_ring_shares l_Course_ring_shares cd_Course_ring_shares kp_Course_ring_shares fn_Course_ring_shares fk_Course_ring_shares fi_Shares_Dmul l_Shares_Dmul cd_Shares_Dmul kp_Shares_Dmul fn_Shares_Dmul fk_Shares_Dmul fi_Course_after l_Course_after cd_Course_after kp_Course_after fn_Course_after fk_Course_after fi_Evening_Dgetitem l_Evening_Dgetitem cd_Evening_Dgetitem kp_Evening_Dgetitem fn_Evening_Dgetitem fk_Evening_Dgetitem fi_MarkObserver_paid l_MarkObserver_paid cd_MarkObserver_paid kp_MarkObserver_paid fn_MarkObserver_paid fk_MarkObserver_paid l_validate_seat cd_validate_seat kp_validate_seat fi_MarkObserver_see l_MarkObserver_see cd_MarkObserver_see kp_MarkObserver_see fn_MarkObserver_see fk_MarkObserver_see l_law_paid cd_law_paid kp_law_paid l_validate_mark cd_validate_mark kp_validate_mark l_repeated cd_repeated kp_repeated l_law_cents cd_law_cents kp_law_cents l_law_drawn cd_law_drawn kp_law_drawn fi_Evening_Dadd l_Evening_Dadd cd_Evening_Dadd kp_Evening_Dadd fn_Evening_Dadd fk_Evening_Dadd fi_Bill_Dinit l_Bill_Dinit cd_Bill_Dinit kp_Bill_Dinit fn_Bill_Dinit fk_Bill_Dinit l_law_bill cd_law_bill kp_law_bill l_law_evening cd_law_evening kp_law_evening l_law_outcome cd_law_outcome kp_law_outcome l_law_rows cd_law_rows kp_law_rows l_law_same cd_law_same kp_law_same l_law_start cd_law_start kp_law_start l_law cd_law lc_law vc_law nt_law kp_law ns_MAX_CENTS ns_MAX_TIMES nb_bool nb_enumerate nb_int nb_isinstance nb_len nb_list nb_max nb_range nb_tuple nb_zip pg_Shares hd_Shares po_Shares sa_Shares mkk_Shares kc_Shares na_Shares_amounts sf_Shares pg_Bill hd_Bill po_Bill sa_Bill mkk_Bill kc_Bill na_Bill_total na_Bill_there cv_Bill_MAX_SEATS sf_Bill pg_Evening hd_Evening po_Evening sa_Evening mkk_Evening kc_Evening na_Evening_size na_Evening_parts cv_Evening_MAX_BILLS sf_Evening pg_Course hd_Course po_Course sa_Course mkk_Course kc_Course na_Course_marks na_Course_rows na_Course_ring na_Course_evening sf_Course pg_MarkObserver hd_MarkObserver po_MarkObserver sa_MarkObserver mkk_MarkObserver kc_MarkObserver na_MarkObserver_evening na_MarkObserver_left na_MarkObserver_accepted sf_MarkObserver dr_Shares_Dmul i1_mul i2_mul si_Shares
  have e := hmg.symm.trans (PySem.W.mg_of X G ns_law)
  cases e
  have hs_law := tabs "law" _ _ rc_law (DL.tab_mk ns_law l_law rfl lc_law vc_law)
  exact ⟨_, [(cc_law, tb_law)], SpD K (R_lawT _), fun p hp => by simp only [List.mem_cons, List.not_mem_nil, or_false] at hp; rcases hp with rfl; exact hs_law.2, fun p hp => by simp only [List.mem_cons, List.not_mem_nil, or_false] at hp; rcases hp with rfl; exact nt_law, fun p hp => by simp only [List.mem_cons, List.not_mem_nil, or_false] at hp; rcases hp with rfl; exact hs_law.1, fun s v => .of_eq rfl, fun H a ns hl _ hT hS => law_spT hl (fun p hp => hT p hp) hS, fun base _ _ hB => ok_law T ⟨hB _ (List.mem_cons_self ..)⟩ (fun_mk (st := s_law) l_law cd_law kp_law) rfl⟩
end Law
open PySem PySem.W PyProof.Rows
set_option maxRecDepth 100000 in
set_option maxHeartbeats 0 in
theorem PySem.Challenge.cw_oddcents_k09_observers_by_search_holds : PySem.Challenge.rw_oddcents_k09_observers_by_search.Holds := by
  w_on; o_law; k_head; (case hw => w_witness2)
  k_fill
  refine DL.walk_ofTabs (l := PySem.Challenge.rw_oddcents_k09_observers_by_search) (n := 63) (k := 12) (x := "_law_script") (CX := fun w => L2.CX (PySem.Challenge.rw_oddcents_k09_observers_by_search).prog w) rfl (by decide) rfl ⟨rfl, by decide, by decide⟩ (fun w h Y => PySem.W.km_in_of Y) ?F (fun _ _ _ _ _ z => DL.cx0 z)
  case F =>
    intro w mg fa h KX G hmg tabs
    refine' Law.fin KX G hmg tabs ?rc_law ?ns_Shares ?ns_Bill ?ns_Evening ?ns_Course ?ns_MarkObserver ?ns_is_integer ?ns_payers ?ns_pay ?ns_played ?ns_no_shares ?ns_validate_seat ?ns_law_paid ?ns_validate_mark ?ns_repeated ?ns_law_cents ?ns_law_drawn ?ns_law_bill ?ns_law_evening ?ns_law_outcome ?ns_law_rows ?ns_law_same ?ns_law_start ?ns_law ?ns_Contradiction ?xm_Contradiction ?xk_Contradiction ?xb_Contradiction ?xt_Contradiction ?xi_Contradiction ?ns_InvalidNumber ?xm_InvalidNumber ?xk_InvalidNumber ?xb_InvalidNumber ?xt_InvalidNumber ?xi_InvalidNumber ?ns_UnknownSeat ?xm_UnknownSeat ?xk_UnknownSeat ?xb_UnknownSeat ?xt_UnknownSeat ?xi_UnknownSeat ?xs_Contradiction_Contradiction ?xs_Contradiction_InvalidNumber ?xs_Contradiction_UnknownSeat ?xs_InvalidNumber_Contradiction ?xs_InvalidNumber_InvalidNumber ?xs_InvalidNumber_UnknownSeat ?xs_UnknownSeat_Contradiction ?xs_UnknownSeat_InvalidNumber ?xs_UnknownSeat_UnknownSeat ?rd_Bill ?ga_Bill ?rd_Evening ?ga_Evening ?fi_Bill_seats ?pgt_Bill_seats ?ptk_Bill_seats ?prc_Bill_seats ?l_Bill_seats ?cd_Bill_seats ?kp_Bill_seats ?l_is_integer ?cd_is_integer ?kp_is_integer ?fi_Evening_Dinit ?l_Evening_Dinit ?cd_Evening_Dinit ?kp_Evening_Dinit ?fn_Evening_Dinit ?fk_Evening_Dinit ?fi_Evening_Dlen ?l_Evening_Dlen ?cd_Evening_Dlen ?kp_Evening_Dlen ?fn_Evening_Dlen ?fk_Evening_Dlen ?fi_Evening_seat_count ?pgt_Evening_seat_count ?ptk_Evening_seat_count ?prc_Evening_seat_count ?l_Evening_seat_count ?cd_Evening_seat_count ?kp_Evening_seat_count ?fi_MarkObserver_Dinit ?l_MarkObserver_Dinit ?cd_MarkObserver_Dinit ?kp_MarkObserver_Dinit ?fn_MarkObserver_Dinit ?fk_MarkObserver_Dinit ?fi_MarkObserver_possible_marks ?pgt_MarkObserver_possible_marks ?ptk_MarkObserver_possible_marks ?prc_MarkObserver_possible_marks ?l_MarkObserver_possible_marks ?cd_MarkObserver_possible_marks ?kp_MarkObserver_possible_marks ?fi_MarkObserver_records ?pgt_MarkObserver_records ?ptk_MarkObserver_records ?prc_MarkObserver_records ?l_MarkObserver_records ?cd_MarkObserver_records ?kp_MarkObserver_records ?fi_Evening_bills ?pgt_Evening_bills ?ptk_Evening_bills ?prc_Evening_bills ?l_Evening_bills ?cd_Evening_bills ?kp_Evening_bills ?fi_Shares_Dinit ?l_Shares_Dinit ?cd_Shares_Dinit ?kp_Shares_Dinit ?fn_Shares_Dinit ?fk_Shares_Dinit ?fi_Bill_Dcontains ?l_Bill_Dcontains ?cd_Bill_Dcontains ?kp_Bill_Dcontains ?fn_Bill_Dcontains ?fk_Bill_Dcontains ?fi_Bill_amount ?pgt_Bill_amount ?ptk_Bill_amount ?prc_Bill_amount ?l_Bill_amount ?cd_Bill_amount ?kp_Bill_amount ?fi_Bill_odd_cents ?pgt_Bill_odd_cents ?ptk_Bill_odd_cents ?prc_Bill_odd_cents ?l_Bill_odd_cents ?cd_Bill_odd_cents ?kp_Bill_odd_cents ?l_payers ?cd_payers ?kp_payers ?l_pay ?cd_pay ?kp_pay ?l_played ?cd_played ?kp_played ?fi_Course_Dinit ?l_Course_Dinit ?cd_Course_Dinit ?kp_Course_Dinit ?fn_Course_Dinit ?fk_Course_Dinit ?fi_Shares_Dadd ?l_Shares_Dadd ?cd_Shares_Dadd ?kp_Shares_Dadd ?fn_Shares_Dadd ?fk_Shares_Dadd ?l_no_shares ?cd_no_shares ?kp_no_shares ?fi_Course_ring_shares ?l_Course_ring_shares ?cd_Course_ring_shares ?kp_Course_ring_shares ?fn_Course_ring_shares ?fk_Course_ring_shares ?fi_Shares_Dmul ?l_Shares_Dmul ?cd_Shares_Dmul ?kp_Shares_Dmul ?fn_Shares_Dmul ?fk_Shares_Dmul ?fi_Course_after ?l_Course_after ?cd_Course_after ?kp_Course_after ?fn_Course_after ?fk_Course_after ?fi_Evening_Dgetitem ?l_Evening_Dgetitem ?cd_Evening_Dgetitem ?kp_Evening_Dgetitem ?fn_Evening_Dgetitem ?fk_Evening_Dgetitem ?fi_MarkObserver_paid ?l_MarkObserver_paid ?cd_MarkObserver_paid ?kp_MarkObserver_paid ?fn_MarkObserver_paid ?fk_MarkObserver_paid ?l_validate_seat ?cd_validate_seat ?kp_validate_seat ?fi_MarkObserver_see ?l_MarkObserver_see ?cd_MarkObserver_see ?kp_MarkObserver_see ?fn_MarkObserver_see ?fk_MarkObserver_see ?l_law_paid ?cd_law_paid ?kp_law_paid ?l_validate_mark ?cd_validate_mark ?kp_validate_mark ?l_repeated ?cd_repeated ?kp_repeated ?l_law_cents ?cd_law_cents ?kp_law_cents ?l_law_drawn ?cd_law_drawn ?kp_law_drawn ?fi_Evening_Dadd ?l_Evening_Dadd ?cd_Evening_Dadd ?kp_Evening_Dadd ?fn_Evening_Dadd ?fk_Evening_Dadd ?fi_Bill_Dinit ?l_Bill_Dinit ?cd_Bill_Dinit ?kp_Bill_Dinit ?fn_Bill_Dinit ?fk_Bill_Dinit ?l_law_bill ?cd_law_bill ?kp_law_bill ?l_law_evening ?cd_law_evening ?kp_law_evening ?l_law_outcome ?cd_law_outcome ?kp_law_outcome ?l_law_rows ?cd_law_rows ?kp_law_rows ?l_law_same ?cd_law_same ?kp_law_same ?l_law_start ?cd_law_start ?kp_law_start ?l_law ?cd_law ?lc_law ?vc_law ?nt_law ?kp_law ?ns_MAX_CENTS ?ns_MAX_TIMES ?nb_bool ?nb_enumerate ?nb_int ?nb_isinstance ?nb_len ?nb_list ?nb_max ?nb_range ?nb_tuple ?nb_zip ?pg_Shares ?hd_Shares ?po_Shares ?sa_Shares ?mkk_Shares ?kc_Shares ?na_Shares_amounts ?sf_Shares ?pg_Bill ?hd_Bill ?po_Bill ?sa_Bill ?mkk_Bill ?kc_Bill ?na_Bill_total ?na_Bill_there ?cv_Bill_MAX_SEATS ?sf_Bill ?pg_Evening ?hd_Evening ?po_Evening ?sa_Evening ?mkk_Evening ?kc_Evening ?na_Evening_size ?na_Evening_parts ?cv_Evening_MAX_BILLS ?sf_Evening ?pg_Course ?hd_Course ?po_Course ?sa_Course ?mkk_Course ?kc_Course ?na_Course_marks ?na_Course_rows ?na_Course_ring ?na_Course_evening ?sf_Course ?pg_MarkObserver ?hd_MarkObserver ?po_MarkObserver ?sa_MarkObserver ?mkk_MarkObserver ?kc_MarkObserver ?na_MarkObserver_evening ?na_MarkObserver_left ?na_MarkObserver_accepted ?sf_MarkObserver ?dr_Shares_Dmul ?i1_mul ?i2_mul ?si_Shares
    case rc_law => first | rfl | decide +kernel
    case ns_Shares => k_is
    case ns_Bill => k_is
    case ns_Evening => k_is
    case ns_Course => k_is
    case ns_MarkObserver => k_is
    case ns_is_integer => k_is
    case ns_payers => k_is
    case ns_pay => k_is
    case ns_played => k_is
    case ns_no_shares => k_is
    case ns_validate_seat => k_is
    case ns_law_paid => k_is
    case ns_validate_mark => k_is
    case ns_repeated => k_is
    case ns_law_cents => k_is
    case ns_law_drawn => k_is
    case ns_law_bill => k_is
    case ns_law_evening => k_is
    case ns_law_outcome => k_is
    case ns_law_rows => k_is
    case ns_law_same => k_is
    case ns_law_start => k_is
    case ns_law => k_is
    case ns_Contradiction => k_is
    case xm_Contradiction => k_exc
    case xk_Contradiction => k_is
    case xb_Contradiction => k_is
    case xt_Contradiction => k_is
    case xi_Contradiction => k_is
    case ns_InvalidNumber => k_is
    case xm_InvalidNumber => k_exc
    case xk_InvalidNumber => k_is
    case xb_InvalidNumber => k_is
    case xt_InvalidNumber => k_is
    case xi_InvalidNumber => k_is
    case ns_UnknownSeat => k_is
    case xm_UnknownSeat => k_exc
    case xk_UnknownSeat => k_is
    case xb_UnknownSeat => k_is
    case xt_UnknownSeat => k_is
    case xi_UnknownSeat => k_is
    case xs_Contradiction_Contradiction => first | k_is | rfl
    case xs_Contradiction_InvalidNumber => first | k_is | rfl
    case xs_Contradiction_UnknownSeat => first | k_is | rfl
    case xs_InvalidNumber_Contradiction => first | k_is | rfl
    case xs_InvalidNumber_InvalidNumber => first | k_is | rfl
    case xs_InvalidNumber_UnknownSeat => first | k_is | rfl
    case xs_UnknownSeat_Contradiction => first | k_is | rfl
    case xs_UnknownSeat_InvalidNumber => first | k_is | rfl
    case xs_UnknownSeat_UnknownSeat => first | k_is | rfl
    case rd_Bill => k_is
    case ga_Bill => k_is
    case rd_Evening => k_is
    case ga_Evening => k_is
    case fi_Bill_seats => k_is
    case pgt_Bill_seats => k_is
    case ptk_Bill_seats => k_is
    case prc_Bill_seats => k_is
    case l_Bill_seats => k_is
    case cd_Bill_seats => k_is
    case kp_Bill_seats => k_is
    case l_is_integer => k_is
    case cd_is_integer => k_is
    case kp_is_integer => k_is
    case fi_Evening_Dinit => k_is
    case l_Evening_Dinit => k_is
    case cd_Evening_Dinit => k_is
    case kp_Evening_Dinit => k_is
    case fn_Evening_Dinit => k_is
    case fk_Evening_Dinit => k_is
    case fi_Evening_Dlen => k_is
    case l_Evening_Dlen => k_is
    case cd_Evening_Dlen => k_is
    case kp_Evening_Dlen => k_is
    case fn_Evening_Dlen => k_is
    case fk_Evening_Dlen => k_is
    case fi_Evening_seat_count => k_is
    case pgt_Evening_seat_count => k_is
    case ptk_Evening_seat_count => k_is
    case prc_Evening_seat_count => k_is
    case l_Evening_seat_count => k_is
    case cd_Evening_seat_count => k_is
    case kp_Evening_seat_count => k_is
    case fi_MarkObserver_Dinit => k_is
    case l_MarkObserver_Dinit => k_is
    case cd_MarkObserver_Dinit => k_is
    case kp_MarkObserver_Dinit => k_is
    case fn_MarkObserver_Dinit => k_is
    case fk_MarkObserver_Dinit => k_is
    case fi_MarkObserver_possible_marks => k_is
    case pgt_MarkObserver_possible_marks => k_is
    case ptk_MarkObserver_possible_marks => k_is
    case prc_MarkObserver_possible_marks => k_is
    case l_MarkObserver_possible_marks => k_is
    case cd_MarkObserver_possible_marks => k_is
    case kp_MarkObserver_possible_marks => k_is
    case fi_MarkObserver_records => k_is
    case pgt_MarkObserver_records => k_is
    case ptk_MarkObserver_records => k_is
    case prc_MarkObserver_records => k_is
    case l_MarkObserver_records => k_is
    case cd_MarkObserver_records => k_is
    case kp_MarkObserver_records => k_is
    case fi_Evening_bills => k_is
    case pgt_Evening_bills => k_is
    case ptk_Evening_bills => k_is
    case prc_Evening_bills => k_is
    case l_Evening_bills => k_is
    case cd_Evening_bills => k_is
    case kp_Evening_bills => k_is
    case fi_Shares_Dinit => k_is
    case l_Shares_Dinit => k_is
    case cd_Shares_Dinit => k_is
    case kp_Shares_Dinit => k_is
    case fn_Shares_Dinit => k_is
    case fk_Shares_Dinit => k_is
    case fi_Bill_Dcontains => k_is
    case l_Bill_Dcontains => k_is
    case cd_Bill_Dcontains => k_is
    case kp_Bill_Dcontains => k_is
    case fn_Bill_Dcontains => k_is
    case fk_Bill_Dcontains => k_is
    case fi_Bill_amount => k_is
    case pgt_Bill_amount => k_is
    case ptk_Bill_amount => k_is
    case prc_Bill_amount => k_is
    case l_Bill_amount => k_is
    case cd_Bill_amount => k_is
    case kp_Bill_amount => k_is
    case fi_Bill_odd_cents => k_is
    case pgt_Bill_odd_cents => k_is
    case ptk_Bill_odd_cents => k_is
    case prc_Bill_odd_cents => k_is
    case l_Bill_odd_cents => k_is
    case cd_Bill_odd_cents => k_is
    case kp_Bill_odd_cents => k_is
    case l_payers => k_is
    case cd_payers => k_is
    case kp_payers => k_is
    case l_pay => k_is
    case cd_pay => k_is
    case kp_pay => k_is
    case l_played => k_is
    case cd_played => k_is
    case kp_played => k_is
    case fi_Course_Dinit => k_is
    case l_Course_Dinit => k_is
    case cd_Course_Dinit => k_is
    case kp_Course_Dinit => k_is
    case fn_Course_Dinit => k_is
    case fk_Course_Dinit => k_is
    case fi_Shares_Dadd => k_is
    case l_Shares_Dadd => k_is
    case cd_Shares_Dadd => k_is
    case kp_Shares_Dadd => k_is
    case fn_Shares_Dadd => k_is
    case fk_Shares_Dadd => k_is
    case l_no_shares => k_is
    case cd_no_shares => k_is
    case kp_no_shares => k_is
    case fi_Course_ring_shares => k_is
    case l_Course_ring_shares => k_is
    case cd_Course_ring_shares => k_is
    case kp_Course_ring_shares => k_is
    case fn_Course_ring_shares => k_is
    case fk_Course_ring_shares => k_is
    case fi_Shares_Dmul => k_is
    case l_Shares_Dmul => k_is
    case cd_Shares_Dmul => k_is
    case kp_Shares_Dmul => k_is
    case fn_Shares_Dmul => k_is
    case fk_Shares_Dmul => k_is
    case fi_Course_after => k_is
    case l_Course_after => k_is
    case cd_Course_after => k_is
    case kp_Course_after => k_is
    case fn_Course_after => k_is
    case fk_Course_after => k_is
    case fi_Evening_Dgetitem => k_is
    case l_Evening_Dgetitem => k_is
    case cd_Evening_Dgetitem => k_is
    case kp_Evening_Dgetitem => k_is
    case fn_Evening_Dgetitem => k_is
    case fk_Evening_Dgetitem => k_is
    case fi_MarkObserver_paid => k_is
    case l_MarkObserver_paid => k_is
    case cd_MarkObserver_paid => k_is
    case kp_MarkObserver_paid => k_is
    case fn_MarkObserver_paid => k_is
    case fk_MarkObserver_paid => k_is
    case l_validate_seat => k_is
    case cd_validate_seat => k_is
    case kp_validate_seat => k_is
    case fi_MarkObserver_see => k_is
    case l_MarkObserver_see => k_is
    case cd_MarkObserver_see => k_is
    case kp_MarkObserver_see => k_is
    case fn_MarkObserver_see => k_is
    case fk_MarkObserver_see => k_is
    case l_law_paid => k_is
    case cd_law_paid => k_is
    case kp_law_paid => k_is
    case l_validate_mark => k_is
    case cd_validate_mark => k_is
    case kp_validate_mark => k_is
    case l_repeated => k_is
    case cd_repeated => k_is
    case kp_repeated => k_is
    case l_law_cents => k_is
    case cd_law_cents => k_is
    case kp_law_cents => k_is
    case l_law_drawn => k_is
    case cd_law_drawn => k_is
    case kp_law_drawn => k_is
    case fi_Evening_Dadd => k_is
    case l_Evening_Dadd => k_is
    case cd_Evening_Dadd => k_is
    case kp_Evening_Dadd => k_is
    case fn_Evening_Dadd => k_is
    case fk_Evening_Dadd => k_is
    case fi_Bill_Dinit => k_is
    case l_Bill_Dinit => k_is
    case cd_Bill_Dinit => k_is
    case kp_Bill_Dinit => k_is
    case fn_Bill_Dinit => k_is
    case fk_Bill_Dinit => k_is
    case l_law_bill => k_is
    case cd_law_bill => k_is
    case kp_law_bill => k_is
    case l_law_evening => k_is
    case cd_law_evening => k_is
    case kp_law_evening => k_is
    case l_law_outcome => k_is
    case cd_law_outcome => k_is
    case kp_law_outcome => k_is
    case l_law_rows => k_is
    case cd_law_rows => k_is
    case kp_law_rows => k_is
    case l_law_same => k_is
    case cd_law_same => k_is
    case kp_law_same => k_is
    case l_law_start => k_is
    case cd_law_start => k_is
    case kp_law_start => k_is
    case l_law => k_is
    case cd_law => k_is
    case lc_law => k_is
    case vc_law => rfl
    case nt_law => exact DL.lk_none rfl
    case kp_law => k_is
    case ns_MAX_CENTS => k_is
    case ns_MAX_TIMES => k_is
    case nb_bool => k_is
    case nb_enumerate => k_is
    case nb_int => k_is
    case nb_isinstance => k_is
    case nb_len => k_is
    case nb_list => k_is
    case nb_max => k_is
    case nb_range => k_is
    case nb_tuple => k_is
    case nb_zip => k_is
    case pg_Shares => k_is
    case hd_Shares => k_is
    case po_Shares => k_is
    case sa_Shares => k_is
    case mkk_Shares => k_is
    case kc_Shares => k_is
    case na_Shares_amounts => k_is
    case sf_Shares => k_is
    case pg_Bill => k_is
    case hd_Bill => k_is
    case po_Bill => k_is
    case sa_Bill => k_is
    case mkk_Bill => k_is
    case kc_Bill => k_is
    case na_Bill_total => k_is
    case na_Bill_there => k_is
    case cv_Bill_MAX_SEATS => k_is
    case sf_Bill => k_is
    case pg_Evening => k_is
    case hd_Evening => k_is
    case po_Evening => k_is
    case sa_Evening => k_is
    case mkk_Evening => k_is
    case kc_Evening => k_is
    case na_Evening_size => k_is
    case na_Evening_parts => k_is
    case cv_Evening_MAX_BILLS => k_is
    case sf_Evening => k_is
    case pg_Course => k_is
    case hd_Course => k_is
    case po_Course => k_is
    case sa_Course => k_is
    case mkk_Course => k_is
    case kc_Course => k_is
    case na_Course_marks => k_is
    case na_Course_rows => k_is
    case na_Course_ring => k_is
    case na_Course_evening => k_is
    case sf_Course => k_is
    case pg_MarkObserver => k_is
    case hd_MarkObserver => k_is
    case po_MarkObserver => k_is
    case sa_MarkObserver => k_is
    case mkk_MarkObserver => k_is
    case kc_MarkObserver => k_is
    case na_MarkObserver_evening => k_is
    case na_MarkObserver_left => k_is
    case na_MarkObserver_accepted => k_is
    case sf_MarkObserver => k_is
    case dr_Shares_Dmul => k_is
    case i1_mul => k_is
    case i2_mul => k_is
    case si_Shares => k_is

