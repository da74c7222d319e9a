import PyProof.Rows.All
import Wide.All
import OpenK.AllK
import Wide.FinOn
import KE.KStateDown
import KE.KExcSuper
import HandS.ForMost
import HandS.ForExc
import HandS.Head2
import HandS.HeadHook4
import HandS.HeadEnd
import HandS.CallSlots
import HandS.TupAny
import HandS.TupMul
import HandS.Flow
import HandS.Style
import HandS.Conv
import HandS.Zip
import HandS.IsInst
import HandS.ExcIs
import HandS.ExcField
import HandS.ExcInit
import HandS.HotCalls
import HandS.NestedK
import HandS.OwnEq
import HandS.Property
import HandS.ClsMeth
import HandS.Star
import HandS.SortInts
import HandS.SortKw
import HandS.Strs
import HandS.SetKeys
import HandS.Deep
import KE.DatumOrd
import KE.GoesEnum
import HandS.SetFor
import PyProof.AutoSeq1
import KE.KOpsOwn
import HandS.SortRule
import PyProof.FactsLen
import PySem.Challenge.RW_strengthofnews_k56_differences_compared
set_option Elab.async false
set_option linter.all false
set_option maxRecDepth 100000
section
set_option Elab.async false
set_option linter.all false
set_option maxRecDepth 100000
/-! The data layer: what a program's values are as trees, and rules that follow a text over them. -/
namespace DL
open PySem PySem.Spec L2
open PyProof.Rows hiding St

/-- a value as a tree -/
inductive D where
  | non | bl (b : Bool) | int (i : Int) | str (s : Str)
  | tup (xs : List D) | lst (xs : List D)
  | obj (c : Str) (ns : List Str) (vs : List D)
  | exc (c : Str) (ns : List Str) (vs : List D)
  | dct (ks : List D) (vs : List D)
  | scr (ns : List Int)
  deriving Inhabited

/-- an answer: a thing, an own exception with its fields, or a way that is not followed -/
inductive R (α : Type) where
  | ok (a : α) | er (c : Str) (ns : List Str) (ds : List D) | bad
def R.bd {α β : Type} : R α → (α → R β) → R β
  | .ok a, f => f a
  | .er c n d, _ => .er c n d
  | .bad, _ => .bad
@[simp] theorem bd_ok {α β : Type} (a : α) (f : α → R β) : R.bd (.ok a) f = f a := id rfl
@[simp] theorem bd_er {α β : Type} (c : Str) (n : List Str) (d : List D) (f : α → R β) : R.bd (.er c n d) f = .er c n d := id rfl
@[simp] theorem bd_bad {α β : Type} (f : α → R β) : R.bd (.bad : R α) f = .bad := id rfl

/-- the exception at hand in a suite's callee: where it lies, its dict, its class -/
abbrev Px := Option (Addr × Option Addr × Str)

section
variable (K : PySem.W.Frag) (px : Px) (S : Addr → Prop) (H : Hp)
mutual
/-- the value v is the tree d in H; every list and instance in it lies where S allows -/
def Rep : D → V → Prop
  | .non, v => v = .non
  | .bl b, v => v = .bl b
  | .int i, v => v = .int i
  | .str s, v => v = .str s
  | .tup ds, v => ∃ a vs, v = .ref a ∧ SqT K H a vs ∧ vs.length ≤ sizeLine ∧ Reps ds vs
  | .lst ds, v => ∃ a vs, v = .ref a ∧ H a = some (.lst vs) ∧ S a ∧ vs.length ≤ sizeLine ∧ Reps ds vs
  | .obj c ns ds, v => ∃ a dx fvs, v = .ref a ∧ H a = some (.ins (He.ga K c) dx (ns.zip fvs)) ∧ S a ∧ ns.length = fvs.length ∧ Reps ds fvs
  | .exc c ns ds, v => ∃ a dd, px = some (a, dd, c) ∧ v = .ref a ∧ ((ns = [] ∧ dd = none) ∨ ∃ dx fvs, dd = some dx ∧ H dx = some (.xd (ns.zip fvs)) ∧ ns.length = fvs.length ∧ Reps ds fvs)
  | .dct _ _, _ => False
  | .scr ns, v => ∃ a, v = .ref a ∧ ((∃ o, H a = some (.frz o (.lst (ns.map V.int)))) ∨ SqL K (fun _ => none) a (ns.map V.int))
def Reps : List D → List V → Prop
  | [], vs => vs = []
  | d :: ds, vs => ∃ v r, vs = v :: r ∧ Rep d v ∧ Reps ds r
end
end

section
variable {K : PySem.W.Frag} {px : Px} {S S' : Addr → Prop} {H H' : Hp}
theorem sqt_same {a : Addr} {xs : List V} (e : Same H H') (h : SqT K H a xs) : SqT K H' a xs := by
  rcases h with (h | ⟨o, h⟩) | h
  · exact .inl (.inl (e _ _ h))
  · exact .inl (.inr ⟨o, e _ _ h⟩)
  · exact .inr h
mutual
theorem Rep.mono (e : Same H H') (s : ∀ a, S a → S' a) : ∀ (d : D) (v : V), Rep K px S H d v → Rep K px S' H' d v
  | .non, _, h => h
  | .bl _, _, h => h
  | .int _, _, h => h
  | .str _, _, h => h
  | .tup ds, _, ⟨a, vs, e1, h1, h2, h3⟩ => ⟨a, vs, e1, sqt_same e h1, h2, Reps.mono e s ds vs h3⟩
  | .lst ds, _, ⟨a, vs, e1, h1, h2, h3, h4⟩ => ⟨a, vs, e1, e _ _ h1, s a h2, h3, Reps.mono e s ds vs h4⟩
  | .obj _ _ ds, _, ⟨a, dx, fvs, e1, h1, h2, h3, h4⟩ => ⟨a, dx, fvs, e1, e _ _ h1, s a h2, h3, Reps.mono e s ds fvs h4⟩
  | .exc _ _ ds, _, ⟨a, dd, e1, e2, h⟩ => ⟨a, dd, e1, e2, h.imp id fun ⟨dx, fvs, e3, h1, h2, h3⟩ => ⟨dx, fvs, e3, e _ _ h1, h2, Reps.mono e s ds fvs h3⟩⟩
  | .dct _ _, _, h => h
  | .scr _, _, ⟨a, e1, h⟩ => ⟨a, e1, h.imp (fun ⟨o, h⟩ => ⟨o, e _ _ h⟩) id⟩
theorem Reps.mono (e : Same H H') (s : ∀ a, S a → S' a) : ∀ (ds : List D) (vs : List V), Reps K px S H ds vs → Reps K px S' H' ds vs
  | [], _, h => h
  | d :: ds, _, ⟨v, r, e1, h1, h2⟩ => ⟨v, r, e1, Rep.mono e s d v h1, Reps.mono e s ds r h2⟩
end
theorem Reps.length : ∀ {ds : List D} {vs : List V}, Reps K px S H ds vs → ds.length = vs.length
  | [], _, h => by
    have h : _ = _ := h
    rw [h] <;> rfl
  | d :: ds, _, ⟨v, r, e1, h1, h2⟩ => by
    rw [e1, List.length_cons, List.length_cons, Reps.length h2]
theorem Reps.get : ∀ {ds : List D} {vs : List V} {i : Nat} {d : D}, Reps K px S H ds vs → ds[i]? = some d → ∃ v, vs[i]? = some v ∧ Rep K px S H d v
  | [], _, _, _, _, e => by simp at e
  | _ :: _, _, 0, _, ⟨v, r, e1, h1, h2⟩, e => by
    simp at e
    subst e e1
    exact ⟨v, rfl, h1⟩
  | _ :: ds, _, i + 1, d, ⟨v, r, e1, h1, h2⟩, e => by
    subst e1
    obtain ⟨w, q1, q2⟩ := Reps.get (i := i) h2 (by simpa using e)
    exact ⟨w, by simpa using q1, q2⟩
theorem Reps.getV : ∀ {ds : List D} {vs : List V} {i : Nat} {v : V}, Reps K px S H ds vs → vs[i]? = some v → ∃ d, ds[i]? = some d ∧ Rep K px S H d v
  | [], _, _, _, h, e => by
    have h : _ = _ := h
    rw [h] at e
    simp at e
  | _ :: _, _, 0, _, ⟨v, r, e1, h1, h2⟩, e => by
    subst e1
    simp at e
    subst e
    exact ⟨_, rfl, h1⟩
  | _ :: ds, _, i + 1, d, ⟨v, r, e1, h1, h2⟩, e => by
    subst e1
    obtain ⟨w, q1, q2⟩ := Reps.getV (i := i) h2 (by simpa using e)
    exact ⟨w, by simpa using q1, q2⟩
theorem Reps.append : ∀ {ds es : List D} {vs ws : List V}, Reps K px S H ds vs → Reps K px S H es ws → Reps K px S H (ds ++ es) (vs ++ ws)
  | [], _, _, _, h, q => by
    have h : _ = _ := h
    rw [h]
    exact q
  | _ :: _, _, _, _, ⟨v, r, e1, h1, h2⟩, q => by
    subst e1
    exact ⟨v, r ++ _, rfl, h1, Reps.append h2 q⟩
theorem Reps.one {d : D} {v : V} (h : Rep K px S H d v) : Reps K px S H [d] [v] := ⟨v, [], rfl, h, rfl⟩
theorem Reps.cons {d : D} {v : V} {ds : List D} {vs : List V} (h : Rep K px S H d v) (q : Reps K px S H ds vs) : Reps K px S H (d :: ds) (v :: vs) := ⟨v, vs, rfl, h, q⟩
theorem Reps.nil : Reps K px S H [] [] := rfl
theorem Reps.take : ∀ {ds : List D} {vs : List V} (n : Nat), Reps K px S H ds vs → Reps K px S H (ds.take n) (vs.take n)
  | _, _, 0, _ => by simp only [List.take_zero]; rfl
  | [], _, n + 1, h => by
    have h : _ = _ := h
    rw [h] <;> rfl
  | _ :: _, _, n + 1, ⟨v, r, e1, h1, h2⟩ => by
    subst e1
    exact ⟨v, r.take n, rfl, h1, Reps.take n h2⟩
theorem Reps.drop : ∀ {ds : List D} {vs : List V} (n : Nat), Reps K px S H ds vs → Reps K px S H (ds.drop n) (vs.drop n)
  | _, _, 0, h => h
  | [], _, n + 1, h => by
    have h : _ = _ := h
    rw [h] <;> rfl
  | _ :: _, _, n + 1, ⟨v, r, e1, h1, h2⟩ => by
    subst e1
    exact Reps.drop n h2
theorem Reps.set : ∀ {ds : List D} {vs : List V} {d : D} {v : V} (i : Nat), Rep K px S H d v → Reps K px S H ds vs → Reps K px S H (ds.set i d) (vs.set i v)
  | [], _, _, _, _, _, h => by
    have h : _ = _ := h
    rw [h] <;> rfl
  | _ :: _, _, _, _, 0, q, ⟨v, r, e1, h1, h2⟩ => by
    subst e1
    exact ⟨_, r, rfl, q, h2⟩
  | _ :: _, _, _, _, i + 1, q, ⟨v, r, e1, h1, h2⟩ => by
    subst e1
    exact ⟨v, r.set i _, rfl, h1, Reps.set i q h2⟩
theorem Reps.reverse : ∀ {ds : List D} {vs : List V}, Reps K px S H ds vs → Reps K px S H ds.reverse vs.reverse
  | [], _, h => by
    have h : _ = _ := h
    rw [h] <;> rfl
  | _ :: _, _, ⟨v, r, e1, h1, h2⟩ => by
    subst e1
    rw [List.reverse_cons, List.reverse_cons]
    exact Reps.append (Reps.reverse h2) (Reps.one h1)
theorem Reps.split : ∀ {ds es : List D} {vs : List V}, Reps K px S H (ds ++ es) vs → ∃ as bs, vs = as ++ bs ∧ Reps K px S H ds as ∧ Reps K px S H es bs
  | [], _, vs, h => ⟨[], vs, rfl, rfl, h⟩
  | d :: ds, es, _, ⟨v, r, e1, h1, h2⟩ => by
    obtain ⟨as, bs, e2, q1, q2⟩ := Reps.split (ds := ds) (es := es) h2
    subst e1 e2
    exact ⟨v :: as, bs, rfl, ⟨v, as, rfl, h1, q1⟩, q2⟩
end

/-! ### what no list, no instance is in -/
mutual
def noL : D → Bool
  | .tup ds => noLs ds
  | .lst _ => false
  | .obj _ _ ds => noLs ds
  | .exc _ _ _ => false
  | .dct _ _ => false
  | _ => true
def noLs : List D → Bool
  | [] => true
  | d :: ds => noL d && noLs ds
end
section
variable {K : PySem.W.Frag} {px : Px} {S S' : Addr → Prop} {H H' : Hp}
mutual
/-- where no list is in, the lists' places are free -/
theorem Rep.noL (s : ∀ a, S a → (∀ xs, H a ≠ some (.lst xs)) → S' a) : ∀ (d : D) (v : V), noL d = true → Rep K px S H d v → Rep K px S' H d v
  | .non, _, _, h => h
  | .bl _, _, _, h => h
  | .int _, _, _, h => h
  | .str _, _, _, h => h
  | .tup ds, _, q, ⟨a, vs, e1, h1, h2, h3⟩ => ⟨a, vs, e1, h1, h2, Reps.noL s ds vs (by simpa [DL.noL] using q) h3⟩
  | .lst ds, _, q, _ => by simp [DL.noL] at q
  | .obj _ _ ds, _, q, ⟨a, dx, fvs, e1, h1, h2, h3, h4⟩ => ⟨a, dx, fvs, e1, h1, s a h2 (fun xs z => by rw [h1] at z; cases z), h3, Reps.noL s ds fvs (by simpa [DL.noL] using q) h4⟩
  | .exc _ _ ds, _, q, _ => by simp [DL.noL] at q
  | .dct _ _, _, _, h => h.elim
  | .scr _, _, _, h => h
theorem Reps.noL (s : ∀ a, S a → (∀ xs, H a ≠ some (.lst xs)) → S' a) : ∀ (ds : List D) (vs : List V), noLs ds = true → Reps K px S H ds vs → Reps K px S' H ds vs
  | [], _, _, h => h
  | d :: ds, _, q, ⟨v, r, e1, h1, h2⟩ => by
    have q : (DL.noL d && noLs ds) = true := by simpa [noLs] using q
    rw [Bool.and_eq_true] at q
    exact ⟨v, r, e1, Rep.noL s d v q.1 h1, Reps.noL s ds r q.2 h2⟩
end
mutual
/-- a list that lies where S does not allow is changed -/
theorem Rep.upd {l : Addr} {xs : List V} {o : HO} (hl : H l = some (.lst xs)) (ns : ¬ S l) : ∀ (d : D) (v : V), Rep K px S H d v → Rep K px S (upd H l o) d v
  | .non, _, h => h
  | .bl _, _, h => h
  | .int _, _, h => h
  | .str _, _, h => h
  | .tup ds, _, ⟨a, vs, e1, h1, h2, h3⟩ => ⟨a, vs, e1, by
      rcases h1 with (h | ⟨o, h⟩) | h
      · exact .inl (.inl (by rw [upd_ne (ne_of h hl (by intro z; cases z))]; exact h))
      · exact .inl (.inr ⟨o, by rw [upd_ne (ne_of h hl (by intro z; cases z))]; exact h⟩)
      · exact .inr h, h2, Reps.upd hl ns ds vs h3⟩
  | .lst ds, _, ⟨a, vs, e1, h1, h2, h3, h4⟩ => ⟨a, vs, e1, by
      have ne : a ≠ l := fun z => ns (z ▸ h2)
      rw [upd_ne ne]
      exact h1, h2, h3, Reps.upd hl ns ds vs h4⟩
  | .obj _ _ ds, _, ⟨a, dx, fvs, e1, h1, h2, h3, h4⟩ => ⟨a, dx, fvs, e1, by rw [upd_ne (ne_of h1 hl (by intro z; cases z))]; exact h1, h2, h3, Reps.upd hl ns ds fvs h4⟩
  | .exc _ _ ds, _, ⟨a, dd, e1, e2, h⟩ => ⟨a, dd, e1, e2, h.imp id fun ⟨dx, fvs, e3, h1, h2, h3⟩ => ⟨dx, fvs, e3, by rw [upd_ne (ne_of h1 hl (by intro z; cases z))]; exact h1, h2, Reps.upd hl ns ds fvs h3⟩⟩
  | .dct _ _, _, h => h
  | .scr _, _, ⟨a, e1, h⟩ => ⟨a, e1, h.imp (fun ⟨o, h⟩ => ⟨o, by rw [upd_ne (ne_of h hl (by intro z; cases z))]; exact h⟩) id⟩
theorem Reps.upd {l : Addr} {xs : List V} {o : HO} (hl : H l = some (.lst xs)) (ns : ¬ S l) : ∀ (ds : List D) (vs : List V), Reps K px S H ds vs → Reps K px S (upd H l o) ds vs
  | [], _, h => h
  | d :: ds, _, ⟨v, r, e1, h1, h2⟩ => ⟨v, r, e1, Rep.upd hl ns d v h1, Reps.upd hl ns ds r h2⟩
end
mutual
/-- an instance that lies where S does not allow is changed -/
theorem Rep.updO {l C dx : Addr} {fs : List (Str × V)} {o : HO} (hl : H l = some (.ins C dx fs)) (ns : ¬ S l) : ∀ (d : D) (v : V), Rep K px S H d v → Rep K px S (L2.upd H l o) d v
  | .non, _, h => h
  | .bl _, _, h => h
  | .int _, _, h => h
  | .str _, _, h => h
  | .tup ds, _, ⟨a, vs, e1, h1, h2, h3⟩ => ⟨a, vs, e1, by
      rcases h1 with (h | ⟨o, h⟩) | h
      · exact .inl (.inl (by rw [upd_ne (ne_of h hl (by intro z; cases z))]; exact h))
      · exact .inl (.inr ⟨o, by rw [upd_ne (ne_of h hl (by intro z; cases z))]; exact h⟩)
      · exact .inr h, h2, Reps.updO hl ns ds vs h3⟩
  | .lst ds, _, ⟨a, vs, e1, h1, h2, h3, h4⟩ => ⟨a, vs, e1, by
      have ne : a ≠ l := fun z => ns (z ▸ h2)
      rw [upd_ne ne]
      exact h1, h2, h3, Reps.updO hl ns ds vs h4⟩
  | .obj _ _ ds, _, ⟨a, dx, fvs, e1, h1, h2, h3, h4⟩ => ⟨a, dx, fvs, e1, by rw [upd_ne (fun (z : a = l) => ns (z ▸ h2))]; exact h1, h2, h3, Reps.updO hl ns ds fvs h4⟩
  | .exc _ _ ds, _, ⟨a, dd, e1, e2, h⟩ => ⟨a, dd, e1, e2, h.imp id fun ⟨dx, fvs, e3, h1, h2, h3⟩ => ⟨dx, fvs, e3, by rw [upd_ne (ne_of h1 hl (by intro z; cases z))]; exact h1, h2, Reps.updO hl ns ds fvs h3⟩⟩
  | .dct _ _, _, h => h
  | .scr _, _, ⟨a, e1, h⟩ => ⟨a, e1, h.imp (fun ⟨o, h⟩ => ⟨o, by rw [upd_ne (ne_of h hl (by intro z; cases z))]; exact h⟩) id⟩
theorem Reps.updO {l C dx : Addr} {fs : List (Str × V)} {o : HO} (hl : H l = some (.ins C dx fs)) (ns : ¬ S l) : ∀ (ds : List D) (vs : List V), Reps K px S H ds vs → Reps K px S (L2.upd H l o) ds vs
  | [], _, h => h
  | d :: ds, _, ⟨v, r, e1, h1, h2⟩ => ⟨v, r, e1, Rep.updO hl ns d v h1, Reps.updO hl ns ds r h2⟩
end
end
/-- where S allows, or new since H -/
def Fr (S : Addr → Prop) (H : Hp) : Addr → Prop := fun a => S a ∨ H a = none
/-! ### what is tracked -/
section
variable {K : PySem.W.Frag} {px : Px} {S S' : Addr → Prop} {H : Hp}
mutual
theorem Rep.trk (s : ∀ a, S a → H a ≠ none → S' a) : ∀ (d : D) (v : V), Rep K px S H d v → Rep K px S' H d v
  | .non, _, h => h
  | .bl _, _, h => h
  | .int _, _, h => h
  | .str _, _, h => h
  | .tup ds, _, ⟨a, vs, e1, h1, h2, h3⟩ => ⟨a, vs, e1, h1, h2, Reps.trk s ds vs h3⟩
  | .lst ds, _, ⟨a, vs, e1, h1, h2, h3, h4⟩ => ⟨a, vs, e1, h1, s a h2 (by rw [h1]; exact fun z => by cases z), h3, Reps.trk s ds vs h4⟩
  | .obj _ _ ds, _, ⟨a, dx, fvs, e1, h1, h2, h3, h4⟩ => ⟨a, dx, fvs, e1, h1, s a h2 (by rw [h1]; exact fun z => by cases z), h3, Reps.trk s ds fvs h4⟩
  | .exc _ _ ds, _, ⟨a, dd, e1, e2, h⟩ => ⟨a, dd, e1, e2, h.imp id fun ⟨dx, fvs, e3, h1, h2, h3⟩ => ⟨dx, fvs, e3, h1, h2, Reps.trk s ds fvs h3⟩⟩
  | .dct _ _, _, h => h
  | .scr _, _, h => h
theorem Reps.trk (s : ∀ a, S a → H a ≠ none → S' a) : ∀ (ds : List D) (vs : List V), Reps K px S H ds vs → Reps K px S' H ds vs
  | [], _, h => h
  | d :: ds, _, ⟨v, r, e1, h1, h2⟩ => ⟨v, r, e1, Rep.trk s d v h1, Reps.trk s ds r h2⟩
end
theorem Rep.trkN {p : Addr} (h : H p = none) (d : D) (v : V) (r : Rep K px S H d v) : Rep K px (fun b => Fr S H b ∧ b ≠ p) H d v := Rep.trk (fun a h1 h2 => ⟨.inl h1, fun z => h2 (by rw [z]; exact h)⟩) d v r
theorem Reps.trkN {p : Addr} (h : H p = none) (d : List D) (v : List V) (r : Reps K px S H d v) : Reps K px (fun b => Fr S H b ∧ b ≠ p) H d v := Reps.trk (fun a h1 h2 => ⟨.inl h1, fun z => h2 (by rw [z]; exact h)⟩) d v r
end
end DL

end
section
set_option Elab.async false
set_option linter.all false
set_option maxRecDepth 100000
namespace DL
open PySem PySem.Spec L2
open PyProof.Rows hiding St

/-! ### readings of expressions -/
abbrev EnvD := List (Option D)
/-- what an expression is worth, by the names' trees -/
abbrev EM := EnvD → R D
abbrev EMs := EnvD → R (List D)
/-- the names' slots hold these trees -/
structure RepV (K : PySem.W.Frag) (px : Px) (S : Addr → Prop) (H : Hp) (σ : St) (e : EnvD) : Prop where
  len : σ.length = e.length
  at_ : ∀ (i : Nat) (d : D), e[i]? = some (some d) → ∃ v, σ[i]? = some (some v) ∧ Rep K px S H d v
theorem RepV.mono {K : PySem.W.Frag} {px : Px} {S S' : Addr → Prop} {H H' : Hp} {σ : St} {e : EnvD} (r : RepV K px S H σ e) (h : Same H H') (s : ∀ a, S a → S' a) : RepV K px S' H' σ e :=
  ⟨r.len, fun i d q => let ⟨v, h1, h2⟩ := r.at_ i d q; ⟨v, h1, h2.mono h s⟩⟩
/-- the exception's dict dd holds these fields -/
def ExF (K : PySem.W.Frag) (px : Px) (S : Addr → Prop) (H : Hp) (ns : List Str) (ds : List D) (dd : Option Addr) : Prop :=
  (ns = [] ∧ dd = none) ∨ ∃ dx fvs, dd = some dx ∧ H dx = some (.xd (ns.zip fvs)) ∧ ns.length = fvs.length ∧ Reps K px S H ds fvs
theorem ExF.mono {K : PySem.W.Frag} {px : Px} {S S' : Addr → Prop} {H H' : Hp} {ns : List Str} {ds : List D} {dd : Option Addr} (x : ExF K px S H ns ds dd) (h : Same H H') (s : ∀ a, S a → S' a) : ExF K px S' H' ns ds dd :=
  x.imp id fun ⟨dx, fvs, e3, h1, h2, h3⟩ => ⟨dx, fvs, e3, h _ _ h1, h2, Reps.mono h s ds fvs h3⟩
section
variable (K : PySem.W.Frag) (px : Px) (W : WX) (S : Addr → Prop) (σ : St) (H : Hp)
/-- what is wanted behind an expression of that worth -/
def Post (r : R D) (Q : VK) : Prop := match r with
  | .ok d => ∀ v H', Same H H' → Rep K px (Fr S H) H' d v → Q v H'
  | .er c ns ds => ∀ dd H', Same H H' → ExF K px (Fr S H) H' ns ds dd → W (.ref (He.ga K c)) dd σ H'
  | .bad => False
def Posts (r : R (List D)) (Q : List V → Hp → Prop) : Prop := match r with
  | .ok ds => ∀ vs H', Same H H' → Reps K px (Fr S H) H' ds vs → Q vs H'
  | .er c ns ds => ∀ dd H', Same H H' → ExF K px (Fr S H) H' ns ds dd → W (.ref (He.ga K c)) dd σ H'
  | .bad => False
def PostB (r : R Bool) (Q : Bool → Hp → Prop) : Prop := match r with
  | .ok b => ∀ H', Same H H' → Q b H'
  | .er c ns ds => ∀ dd H', Same H H' → ExF K px (Fr S H) H' ns ds dd → W (.ref (He.ga K c)) dd σ H'
  | .bad => False
end
def tD (K : PySem.W.Frag) (px : Px) (W : WX) (m : EM) : TE := fun σ H Q => ∃ S e, RepV K px S H σ e ∧ Post K px W S σ H (m e) Q
def tDs (K : PySem.W.Frag) (px : Px) (W : WX) (m : EMs) : TA := fun σ H Q => ∃ S e, RepV K px S H σ e ∧ Posts K px W S σ H (m e) Q
def tDB (K : PySem.W.Frag) (px : Px) (W : WX) (m : EnvD → R Bool) : TT := fun σ H Q => ∃ S e, RepV K px S H σ e ∧ PostB K px W S σ H (m e) Q

/-- the expression is worth m -/
abbrev DE (X : Cx) (px : Px) (W : WX) (e : Expr) (m : EM) : Prop := PE X e (tD X.K px W m)
abbrev DA (X : Cx) (px : Px) (W : WX) (es : List Expr) (m : EMs) : Prop := PA X es (tDs X.K px W m)
abbrev DT (X : Cx) (px : Px) (W : WX) (e : Expr) (m : EnvD → R Bool) : Prop := PT X e (tDB X.K px W m)

theorem PE.imp {X : Cx} {e : Expr} {t t' : TE} (h : PE X e t) (i : ∀ σ H Q, t' σ H Q → t σ H Q) : PE X e t' := ⟨fun pins s σ H Q I q => h.run pins s σ H Q I (i σ H Q q)⟩
theorem PT.imp {X : Cx} {e : Expr} {t t' : TT} (h : PT X e t) (i : ∀ σ H Q, t' σ H Q → t σ H Q) : PT X e t' := ⟨fun pins s σ H Q I q => h.run pins s σ H Q I (i σ H Q q)⟩
theorem PA.imp {X : Cx} {e : List Expr} {t t' : TA} (h : PA X e t) (i : ∀ σ H Q, t' σ H Q → t σ H Q) : PA X e t' := ⟨fun pos pins s σ H Q I q => h.run pos pins s σ H Q I (i σ H Q q)⟩
theorem PS.imp {X : Cx} {e : Stmt} {t t' : TS} (h : PS X e t) (i : ∀ D σ H, t' D σ H → t D σ H) : PS X e t' := ⟨fun pins s σ H D I q => h.run pins s σ H D I (i D σ H q)⟩
theorem PSs.imp {X : Cx} {e : List Stmt} {t t' : TS} (h : PSs X e t) (i : ∀ D σ H, t' D σ H → t D σ H) : PSs X e t' := ⟨fun pins s σ H D I q => h.run pins s σ H D I (i D σ H q)⟩

section
variable {K : PySem.W.Frag} {px : Px} {W : WX} {S S' : Addr → Prop} {σ : St} {H H' : Hp}
theorem Fr.self {a : Addr} (h : S a) : Fr S H a := .inl h
theorem Fr.back {a : Addr} (e : Same H H') (h : Fr (Fr S H) H' a) : Fr S H a := by
  rcases h with h | h
  · exact h
  · exact .inr (e.free h)
theorem Fr.up {a : Addr} (s : ∀ a, S a → S' a) (h : Fr S H a) : Fr S' H a := h.imp (s a) id
/-- the same wants, told from a later heap -/
theorem Post.later {r : R D} {Q : VK} (e : Same H H') (h : Post K px W S σ H r Q) : Post K px W (Fr S H) σ H' r Q := by
  cases r with
  | ok d => exact fun v H2 e2 r => h v H2 (e.trans e2) (r.mono (Same.refl _) fun a => Fr.back e)
  | er c ns ds => exact fun dd H2 e2 r => h dd H2 (e.trans e2) (r.mono (Same.refl _) fun a => Fr.back e)
  | bad => exact h
theorem Posts.later {r : R (List D)} {Q : List V → Hp → Prop} (e : Same H H') (h : Posts K px W S σ H r Q) : Posts K px W (Fr S H) σ H' r Q := by
  cases r with
  | ok d => exact fun v H2 e2 r => h v H2 (e.trans e2) (Reps.mono (Same.refl _) (fun a => Fr.back e) _ _ r)
  | er c ns ds => exact fun dd H2 e2 r => h dd H2 (e.trans e2) (r.mono (Same.refl _) fun a => Fr.back e)
  | bad => exact h
theorem PostB.later {r : R Bool} {Q : Bool → Hp → Prop} (e : Same H H') (h : PostB K px W S σ H r Q) : PostB K px W (Fr S H) σ H' r Q := by
  cases r with
  | ok d => exact fun H2 e2 => h H2 (e.trans e2)
  | er c ns ds => exact fun dd H2 e2 r => h dd H2 (e.trans e2) (r.mono (Same.refl _) fun a => Fr.back e)
  | bad => exact h
/-- first a, then what hangs on it -/
theorem Post.bd {r : R D} {f : D → R D} {Q : VK} (h : Post K px W S σ H (r.bd f) Q) : Post K px W S σ H r fun v H' => ∃ d, r = .ok d ∧ Same H H' ∧ Rep K px (Fr S H) H' d v ∧ Post K px W (Fr S H) σ H' (f d) Q := by
  cases r with
  | ok d => exact fun v H2 e2 r => ⟨d, rfl, e2, r, Post.later e2 h⟩
  | er c ns ds => exact h
  | bad => exact h
theorem Post.bdS {r : R D} {f : D → R (List D)} {Q : List V → Hp → Prop} (h : Posts K px W S σ H (r.bd f) Q) : Post K px W S σ H r fun v H' => ∃ d, r = .ok d ∧ Same H H' ∧ Rep K px (Fr S H) H' d v ∧ Posts K px W (Fr S H) σ H' (f d) Q := by
  cases r with
  | ok d => exact fun v H2 e2 r => ⟨d, rfl, e2, r, Posts.later e2 h⟩
  | er c ns ds => exact h
  | bad => exact h
theorem Post.bdB {r : R D} {f : D → R Bool} {Q : Bool → Hp → Prop} (h : PostB K px W S σ H (r.bd f) Q) : Post K px W S σ H r fun v H' => ∃ d, r = .ok d ∧ Same H H' ∧ Rep K px (Fr S H) H' d v ∧ PostB K px W (Fr S H) σ H' (f d) Q := by
  cases r with
  | ok d => exact fun v H2 e2 r => ⟨d, rfl, e2, r, PostB.later e2 h⟩
  | er c ns ds => exact h
  | bad => exact h
theorem Posts.bd {r : R (List D)} {f : List D → R D} {Q : VK} (h : Post K px W S σ H (r.bd f) Q) : Posts K px W S σ H r fun v H' => ∃ d, r = .ok d ∧ Same H H' ∧ Reps K px (Fr S H) H' d v ∧ Post K px W (Fr S H) σ H' (f d) Q := by
  cases r with
  | ok d => exact fun v H2 e2 r => ⟨d, rfl, e2, r, Post.later e2 h⟩
  | er c ns ds => exact h
  | bad => exact h
theorem Posts.bdS {r : R (List D)} {f : List D → R (List D)} {Q : List V → Hp → Prop} (h : Posts K px W S σ H (r.bd f) Q) : Posts K px W S σ H r fun v H' => ∃ d, r = .ok d ∧ Same H H' ∧ Reps K px (Fr S H) H' d v ∧ Posts K px W (Fr S H) σ H' (f d) Q := by
  cases r with
  | ok d => exact fun v H2 e2 r => ⟨d, rfl, e2, r, Posts.later e2 h⟩
  | er c ns ds => exact h
  | bad => exact h
theorem PostB.bd {r : R Bool} {f : Bool → R D} {Q : VK} (h : Post K px W S σ H (r.bd f) Q) : PostB K px W S σ H r fun b H' => r = .ok b ∧ Same H H' ∧ Post K px W (Fr S H) σ H' (f b) Q := by
  cases r with
  | ok d => exact fun H2 e2 => ⟨rfl, e2, Post.later e2 h⟩
  | er c ns ds => exact h
  | bad => exact h
theorem PostB.bdB {r : R Bool} {f : Bool → R Bool} {Q : Bool → Hp → Prop} (h : PostB K px W S σ H (r.bd f) Q) : PostB K px W S σ H r fun b H' => r = .ok b ∧ Same H H' ∧ PostB K px W (Fr S H) σ H' (f b) Q := by
  cases r with
  | ok d => exact fun H2 e2 => ⟨rfl, e2, PostB.later e2 h⟩
  | er c ns ds => exact h
  | bad => exact h
/-- what is wanted may be weakened -/
theorem Post.imp {r : R D} {Q Q' : VK} (h : Post K px W S σ H r Q) (i : ∀ v H', Q v H' → Q' v H') : Post K px W S σ H r Q' := by
  cases r with
  | ok d => exact fun v H2 e2 r => i _ _ (h v H2 e2 r)
  | er c ns ds => exact h
  | bad => exact h
theorem Posts.imp {r : R (List D)} {Q Q' : List V → Hp → Prop} (h : Posts K px W S σ H r Q) (i : ∀ v H', Q v H' → Q' v H') : Posts K px W S σ H r Q' := by
  cases r with
  | ok d => exact fun v H2 e2 r => i _ _ (h v H2 e2 r)
  | er c ns ds => exact h
  | bad => exact h
theorem PostB.imp {r : R Bool} {Q Q' : Bool → Hp → Prop} (h : PostB K px W S σ H r Q) (i : ∀ v H', Q v H' → Q' v H') : PostB K px W S σ H r Q' := by
  cases r with
  | ok d => exact fun H2 e2 => i _ _ (h H2 e2)
  | er c ns ds => exact h
  | bad => exact h
/-- a worth that is at hand -/
theorem Post.ret {d : D} {Q : VK} {v : V} (h : Post K px W S σ H (.ok d) Q) (r : Rep K px S H d v) : Q v H := h v H (Same.refl _) (r.mono (Same.refl _) fun _ => Fr.self)
end

/-! ### names, constants -/
def mV (i : Nat) : EM := fun e => match e[i]? with
  | some (some d) => .ok d
  | _ => .bad
def mC (d : D) : EM := fun _ => .ok d
section
variable {X : Cx} {px : Px} {W : WX} {pos : Pos}
theorem e_v (i : Nat) {x : Str} (hN : X.N[i]? = some x := by rfl) (hv : Vis X.env.scope x := by first | exact Or.inl rfl | exact Or.inr (Or.inl rfl) | exact Or.inr (Or.inr rfl)) (hd : (x == ("__debug__" : Str)) = false := by decide)
    (hcd : (x == ("__classdict__" : Str)) = false := by decide) : DE X px W (.Name x pos) (mV i) := by
  refine PE.imp (pe_var hN hv hd hcd) fun σ H Q h => ?_
  obtain ⟨S, e, r, q⟩ := h
  unfold mV at q
  split at q
  · rename_i d hd
    obtain ⟨v, h1, h2⟩ := r.at_ i d hd
    exact ⟨v, h1, q.ret h2⟩
  · exact q.elim
/-- a constant's value lies nowhere -/
theorem e_c {e : Expr} {d : D} {v : V} (h : PE X e (tC v)) (r : ∀ H : Hp, Rep X.K px (fun _ => False) H d v) : DE X px W e (mC d) := by
  refine PE.imp h fun σ H Q h => ?_
  obtain ⟨S, e, _, q⟩ := h
  exact Post.ret q ((r H).mono (Same.refl _) fun _ z => z.elim)
theorem e_int {i : Int} {j} : DE X px W (.Constant (.int i) j pos) (mC (.int i)) := e_c pe_int fun _ => rfl
theorem e_bl {b : Bool} {j} : DE X px W (.Constant (.bool b) j pos) (mC (.bl b)) := e_c pe_bl fun _ => rfl
theorem e_non {j} : DE X px W (.Constant .none j pos) (mC .non) := e_c pe_non fun _ => rfl
theorem e_str {x : Str} {j} : DE X px W (.Constant (.str x) j pos) (mC (.str x)) := e_c pe_str fun _ => rfl
theorem e_glI {x : Str} {i : Int} (hg : Gl X x) (hm : ∃ t, X.mg x = some (.int i t)) (hd : (x == ("__debug__" : Str)) = false := by decide) : DE X px W (.Name x pos) (mC (.int i)) := by
  obtain ⟨t, hm⟩ := hm
  exact e_c (v := .int i) (pe_glob hg hm ⟨t, rfl⟩ hd) fun _ => rfl
theorem e_glS {x z : Str} (hg : Gl X x) (hm : ∃ t, X.mg x = some (.str z t)) (hd : (x == ("__debug__" : Str)) = false := by decide) : DE X px W (.Name x pos) (mC (.str z)) := by
  obtain ⟨t, hm⟩ := hm
  exact e_c (v := .str z) (pe_glob hg hm ⟨t, rfl⟩ hd) fun _ => rfl
/-- a tuple of the module's top -/
theorem e_glT {x : Str} {ds : List D} {vs : List V} (hg : Gl X x) (hm : X.mg x = some (.ref (He.ga X.K x))) (hs : ∀ H : Hp, SqT X.K H (He.ga X.K x) vs) (hr : ∀ H : Hp, Reps X.K px (fun _ => False) H ds vs) (hl : vs.length ≤ sizeLine) (hd : (x == ("__debug__" : Str)) = false := by decide) :
    DE X px W (.Name x pos) (mC (.tup ds)) :=
  e_c (v := .ref (He.ga X.K x)) (pe_glob hg hm rfl hd) fun H => ⟨_, vs, rfl, hs H, hl, hr H⟩

/-! ### two values -/
def m2 (f : D → D → R D) (a b : EM) : EM := fun e => (a e).bd fun x => (b e).bd fun y => f x y
def m1 (f : D → R D) (a : EM) : EM := fun e => (a e).bd f
def mB2 (f : D → D → R Bool) (a b : EM) : EnvD → R Bool := fun e => (a e).bd fun x => (b e).bd fun y => f x y
/-- a rule by values serves f -/
def Serves2 (X : Cx) (px : Px) (r : R2) (f : D → D → R D) : Prop := ∀ (W : WX) (S : Addr → Prop) (σ : St) (H : Hp) (x y : D) (v u : V) (Q : VK), Rep X.K px S H x v → Rep X.K px S H y u → Post X.K px W S σ H (f x y) Q → r v u H Q
theorem e_op {a b : Expr} {op : Operator} {r : R2} {f : D → D → R D} {ma mb : EM} (ho : OpR X (binaryOp op) r) (hf : Serves2 X px r f) (ha : DE X px W a ma) (hb : DE X px W b mb) : DE X px W (.BinOp a op b pos) (m2 f ma mb) := by
  refine PE.imp (pe_op ho ha hb) fun σ H Q h => ?_
  obtain ⟨S, e, r, q⟩ := h
  refine ⟨S, e, r, (Post.bd q).imp fun v H1 ⟨d, _, e1, r1, q1⟩ => ?_⟩
  refine ⟨Fr S H, e, r.mono e1 fun _ => Fr.self, (Post.bd q1).imp fun u H2 ⟨d2, _, e2, r2, q2⟩ => ?_⟩
  exact hf W _ σ H2 _ _ _ _ _ (r1.mono e2 fun _ => Fr.self) r2 q2
theorem e_cmp {a b : Expr} {op : CmpOp} {r : R2} {f : D → D → R D} {ma mb : EM} (ho : OpR X (compareOp op) r) (hf : Serves2 X px r f) (ha : DE X px W a ma) (hb : DE X px W b mb) (hm : behindInMarks op b = false) : DE X px W (.Compare a [op] [b] pos) (m2 f ma mb) := by
  refine PE.imp (pe_cmpR ho ha hb hm) fun σ H Q h => ?_
  obtain ⟨S, e, r, q⟩ := h
  refine ⟨S, e, r, (Post.bd q).imp fun v H1 ⟨d, _, e1, r1, q1⟩ => ?_⟩
  refine ⟨Fr S H, e, r.mono e1 fun _ => Fr.self, (Post.bd q1).imp fun u H2 ⟨d2, _, e2, r2, q2⟩ => ?_⟩
  exact hf W _ σ H2 _ _ _ _ _ (r1.mono e2 fun _ => Fr.self) r2 q2
theorem e_ix {a b : Expr} {r : R2} {f : D → D → R D} {ma mb : EM} (ho : IxR X r) (hf : Serves2 X px r f) (ha : DE X px W a ma) (hb : DE X px W b mb) (hs : PlainIx b) : DE X px W (.Subscript a b pos) (m2 f ma mb) := by
  refine PE.imp (pe_ix ho ha hb hs) fun σ H Q h => ?_
  obtain ⟨S, e, r, q⟩ := h
  refine ⟨S, e, r, (Post.bd q).imp fun v H1 ⟨d, _, e1, r1, q1⟩ => ?_⟩
  refine ⟨Fr S H, e, r.mono e1 fun _ => Fr.self, (Post.bd q1).imp fun u H2 ⟨d2, _, e2, r2, q2⟩ => ?_⟩
  exact hf W _ σ H2 _ _ _ _ _ (r1.mono e2 fun _ => Fr.self) r2 q2
def Serves1 (X : Cx) (px : Px) (r : V → Hp → VK → Prop) (f : D → R D) : Prop := ∀ (W : WX) (S : Addr → Prop) (σ : St) (H : Hp) (x : D) (v : V) (Q : VK), Rep X.K px S H x v → Post X.K px W S σ H (f x) Q → r v H Q
theorem e_un {a : Expr} {op : UnaryOp} {r : V → Hp → VK → Prop} {f : D → R D} {ma : EM} (ho : UnR X (unaryOp op) r) (hf : Serves1 X px r f) (ha : DE X px W a ma) : DE X px W (.UnaryOp op a pos) (m1 f ma) := by
  refine PE.imp (pe_un ho ha) fun σ H Q h => ?_
  obtain ⟨S, e, r, q⟩ := h
  refine ⟨S, e, r, (Post.bd q).imp fun v H1 ⟨d, _, e1, r1, q1⟩ => ?_⟩
  exact hf W _ σ H1 _ _ _ r1 q1
/-! ### arguments -/
def mNil : EMs := fun _ => .ok []
def mCons (a : EM) (r : EMs) : EMs := fun e => (a e).bd fun x => (r e).bd fun xs => .ok (x :: xs)
theorem a_nil : DA X px W [] mNil := by
  refine PA.imp pa_nil fun σ H Q h => ?_
  obtain ⟨S, e, r, q⟩ := h
  exact q [] H (Same.refl _) rfl
theorem a_cons {a : Expr} {es : List Expr} {ma : EM} {mr : EMs} (ha : DE X px W a ma) (hr : DA X px W es mr) (hs : starEach (a :: es) X.env = (false, eval a X.env) :: starEach es X.env := by rfl) : DA X px W (a :: es) (mCons ma mr) := by
  refine PA.imp (pa_cons ha hr hs) fun σ H Q h => ?_
  obtain ⟨S, e, r, q⟩ := h
  refine ⟨S, e, r, (Post.bdS q).imp fun v H1 ⟨d, _, e1, r1, q1⟩ => ?_⟩
  refine ⟨Fr S H, e, r.mono e1 fun _ => Fr.self, (Posts.bdS q1).imp fun us H2 ⟨d2, _, e2, r2, q2⟩ => ?_⟩
  exact q2 _ _ (Same.refl _) (Reps.mono (Same.refl _) (fun _ => Fr.self) _ _ (Reps.cons (r1.mono e2 fun _ => Fr.self) r2))
/-- a built-in by its values -/
def ServesA (X : Cx) (px : Px) (r : List V → Hp → VK → Prop) (f : List D → R D) : Prop := ∀ (W : WX) (S : Addr → Prop) (σ : St) (H : Hp) (xs : List D) (vs : List V) (Q : VK), Reps X.K px S H xs vs → Post X.K px W S σ H (f xs) Q → r vs H Q
def mA (f : List D → R D) (a : EMs) : EM := fun e => (a e).bd f
theorem e_bi {x : Str} {p : Pos} {a : Expr} {es : List Expr} {id : String} {r : List V → Hp → VK → Prop} {f : List D → R D} {m : EMs} (hc : CallR X (.builtin id) r) (hf : ServesA X px r f) (hg : Gl X x) (hm : X.mg x = none) (hv : bootBuiltins x = some (.builtin id)) (ha : DA X px W (a :: es) m)
    (hn : x ≠ "__name__" := by decide) (hdb : (x == ("__debug__" : Str)) = false := by decide) (he : starEach (a :: es) X.env = (false, eval a X.env) :: starEach es X.env := by rfl) (hpl : (backTo pos (starEach es X.env)).any (·.1) = false := by rfl) :
    DE X px W (.Call (.Name x p) (a :: es) [] pos) (mA f m) := by
  refine PE.imp (pe_callB hc hg hm hv ha hn hdb he hpl) fun σ H Q h => ?_
  obtain ⟨S, e, r, q⟩ := h
  exact ⟨S, e, r, (Posts.bd q).imp fun vs H1 ⟨d, _, e1, r1, q1⟩ => hf W _ σ H1 _ _ _ r1 q1⟩
theorem e_ty {x : Str} {p : Pos} {a : Expr} {es : List Expr} {T : String} {r : List V → Hp → VK → Prop} {f : List D → R D} {m : EMs} (hc : CallR X (.type T) r) (hf : ServesA X px r f) (hg : Gl X x) (hm : X.mg x = none) (hv : bootBuiltins x = some (.type T)) (ha : DA X px W (a :: es) m)
    (hn : x ≠ "__name__" := by decide) (hdb : (x == ("__debug__" : Str)) = false := by decide) (he : starEach (a :: es) X.env = (false, eval a X.env) :: starEach es X.env := by rfl) (hpl : (backTo pos (starEach es X.env)).any (·.1) = false := by rfl) :
    DE X px W (.Call (.Name x p) (a :: es) [] pos) (mA f m) := by
  refine PE.imp (pe_callTy hc hg hm hv ha hn hdb he hpl) fun σ H Q h => ?_
  obtain ⟨S, e, r, q⟩ := h
  exact ⟨S, e, r, (Posts.bd q).imp fun vs H1 ⟨d, _, e1, r1, q1⟩ => hf W _ σ H1 _ _ _ r1 q1⟩
/-! ### displays -/
theorem Same.new {H : Hp} {p : Addr} {o : HO} (h : H p = none) : Same H (L2.upd H p o) := fun b u e => by rw [upd_ne (ne_of_none e h)]; exact e
def dTup (ds : List D) : R D := if ds.length ≤ 16777216 then .ok (.tup ds) else .bad
def dLst (ds : List D) : R D := if ds.length ≤ 16777216 then .ok (.lst ds) else .bad
theorem rep_tup {K : PySem.W.Frag} {S : Addr → Prop} {H : Hp} {p : Addr} {ds : List D} {vs : List V} (hp : H p = none) (hl : vs.length ≤ sizeLine) (r : Reps K px S H ds vs) : Rep K px (Fr S H) (L2.upd H p (.tup vs)) (.tup ds) (.ref p) :=
  ⟨p, vs, rfl, SqT.of upd_same, hl, Reps.mono (Same.new hp) (fun _ => Fr.self) _ _ r⟩
theorem rep_lst {K : PySem.W.Frag} {S : Addr → Prop} {H : Hp} {p : Addr} {ds : List D} {vs : List V} (hp : H p = none) (hl : vs.length ≤ sizeLine) (r : Reps K px S H ds vs) : Rep K px (Fr S H) (L2.upd H p (.lst vs)) (.lst ds) (.ref p) :=
  ⟨p, vs, rfl, upd_same, .inr hp, hl, Reps.mono (Same.new hp) (fun _ => Fr.self) _ _ r⟩
theorem e_tup {es : List Expr} {k} {m : EMs} (h : DA X px W es m) : DE X px W (.Tuple es k pos) (mA dTup m) := by
  refine PE.imp (pe_tup h) fun σ H Q h => ?_
  obtain ⟨S, e, r, q⟩ := h
  refine ⟨S, e, r, (Posts.bd q).imp fun vs H1 ⟨d, _, e1, r1, q1⟩ => ?_⟩
  unfold dTup at q1
  split at q1
  · rename_i hl
    have hl : vs.length ≤ sizeLine := by rw [← r1.length]; exact hl
    exact ⟨hl, fun p hp => q1 _ _ (Same.new hp) (rep_tup hp hl r1)⟩
  · exact q1.elim
theorem e_lst {es : List Expr} {m : EMs} (h : DA X px W es m) : DE X px W (.List es pos) (mA dLst m) := by
  refine PE.imp (pe_lst h) fun σ H Q h => ?_
  obtain ⟨S, e, r, q⟩ := h
  refine ⟨S, e, r, (Posts.bd q).imp fun vs H1 ⟨d, _, e1, r1, q1⟩ => ?_⟩
  unfold dLst at q1
  split at q1
  · rename_i hl
    have hl : vs.length ≤ sizeLine := by rw [← r1.length]; exact hl
    exact ⟨hl, fun p hp => q1 _ _ (Same.new hp) (rep_lst hp hl r1)⟩
  · exact q1.elim
/-! ### lists that are new -/
/-- as Post, and a list is new -/
def PostF (K : PySem.W.Frag) (px : Px) (W : WX) (S : Addr → Prop) (σ : St) (H : Hp) (r : R D) (Q : VK) : Prop := match r with
  | .ok (.lst ds) => ∀ a vs H', Same H H' → H a = none → H' a = some (.lst vs) → vs.length ≤ sizeLine → Reps K px (fun b => Fr S H b ∧ b ≠ a) H' ds vs → Q (.ref a) H'
  | r => Post K px W S σ H r Q
theorem Post.nw {K : PySem.W.Frag} {S : Addr → Prop} {σ : St} {H : Hp} {r : R D} {Q : VK} (h : Post K px W S σ H r Q) : PostF K px W S σ H r Q := by
  unfold PostF
  split
  · exact fun a vs H' e n ha hl r => h _ _ e ⟨a, vs, rfl, ha, .inr n, hl, Reps.mono (Same.refl _) (fun _ z => z.1) _ _ r⟩
  · exact h
theorem PostF.later {K : PySem.W.Frag} {S : Addr → Prop} {σ : St} {H H' : Hp} {r : R D} {Q : VK} (e : Same H H') (h : PostF K px W S σ H r Q) : PostF K px W (Fr S H) σ H' r Q := by
  cases r with
  | ok d =>
    cases d with
    | lst ds => exact fun a vs H2 e2 n ha hl r => h a vs H2 (e.trans e2) (e.free n) ha hl (Reps.mono (Same.refl _) (fun b z => ⟨Fr.back e z.1, z.2⟩) _ _ r)
    | _ => exact Post.later (W := W) (σ := σ) (r := .ok _) e h
  | er c ns ds => exact Post.later (W := W) (σ := σ) (r := .er c ns ds) (Q := Q) e h
  | bad => exact h
theorem Post.bdF {K : PySem.W.Frag} {S : Addr → Prop} {σ : St} {H : Hp} {r : R D} {f : D → R D} {Q : VK} (h : PostF K px W S σ H (r.bd f) Q) : Post K px W S σ H r fun v H' => ∃ d, r = .ok d ∧ Same H H' ∧ Rep K px (Fr S H) H' d v ∧ PostF K px W (Fr S H) σ H' (f d) Q := by
  cases r with
  | ok d => exact fun v H2 e2 r => ⟨d, rfl, e2, r, PostF.later e2 h⟩
  | er c ns ds => exact h
  | bad => exact h
theorem Posts.bdF {K : PySem.W.Frag} {S : Addr → Prop} {σ : St} {H : Hp} {r : R (List D)} {f : List D → R D} {Q : VK} (h : PostF K px W S σ H (r.bd f) Q) : Posts K px W S σ H r fun v H' => ∃ d, r = .ok d ∧ Same H H' ∧ Reps K px (Fr S H) H' d v ∧ PostF K px W (Fr S H) σ H' (f d) Q := by
  cases r with
  | ok d => exact fun v H2 e2 r => ⟨d, rfl, e2, r, PostF.later e2 h⟩
  | er c ns ds => exact h
  | bad => exact h
def tF (K : PySem.W.Frag) (px : Px) (W : WX) (m : EM) : TE := fun σ H Q => ∃ S e, RepV K px S H σ e ∧ PostF K px W S σ H (m e) Q
/-- the expression is worth m; if that is a list it is new -/
abbrev DF (X : Cx) (px : Px) (W : WX) (e : Expr) (m : EM) : Prop := PE X e (tF X.K px W m)
theorem DF.de {e : Expr} {m : EM} (h : DF X px W e m) : DE X px W e m := PE.imp h fun σ H Q ⟨S, e, r, q⟩ => ⟨S, e, r, q.nw⟩
/-- a list at a new place -/
theorem PostF.new {K : PySem.W.Frag} {S : Addr → Prop} {σ : St} {H : Hp} {p : Addr} {ds : List D} {vs : List V} {Q : VK} (h : PostF K px W S σ H (.ok (.lst ds)) Q) (hp : H p = none) (hl : vs.length ≤ sizeLine) (r : Reps K px S H ds vs) : Q (.ref p) (L2.upd H p (.lst vs)) :=
  h p vs _ (Same.new hp) hp upd_same hl (Reps.mono (Same.new hp) (fun _ z => z) _ _ (Reps.trkN hp _ _ r))
theorem f_lst {es : List Expr} {m : EMs} (h : DA X px W es m) : DF X px W (.List es pos) (mA dLst m) := by
  refine PE.imp (pe_lst h) fun σ H Q h => ?_
  obtain ⟨S, e, r, q⟩ := h
  refine ⟨S, e, r, (Posts.bdF q).imp fun vs H1 ⟨d, _, e1, r1, q1⟩ => ?_⟩
  unfold dLst at q1
  split at q1
  · rename_i hl
    have hl : vs.length ≤ sizeLine := by rw [← r1.length]; exact hl
    exact ⟨hl, fun p hp => q1.new hp hl r1⟩
  · exact (show False from q1).elim
/-- a rule by values serves f with new lists -/
def Serves2F (X : Cx) (px : Px) (r : R2) (f : D → D → R D) : Prop := ∀ (W : WX) (S : Addr → Prop) (σ : St) (H : Hp) (x y : D) (v u : V) (Q : VK), Rep X.K px S H x v → Rep X.K px S H y u → PostF X.K px W S σ H (f x y) Q → r v u H Q
def ServesAF (X : Cx) (px : Px) (r : List V → Hp → VK → Prop) (f : List D → R D) : Prop := ∀ (W : WX) (S : Addr → Prop) (σ : St) (H : Hp) (xs : List D) (vs : List V) (Q : VK), Reps X.K px S H xs vs → PostF X.K px W S σ H (f xs) Q → r vs H Q
theorem Serves2F.sv {r : R2} {f : D → D → R D} (h : Serves2F X px r f) : Serves2 X px r f := fun W S σ H x y v u Q rx ry q => h W S σ H x y v u Q rx ry q.nw
theorem ServesAF.sv {r : List V → Hp → VK → Prop} {f : List D → R D} (h : ServesAF X px r f) : ServesA X px r f := fun W S σ H x v Q rx q => h W S σ H x v Q rx q.nw
theorem f_op {a b : Expr} {op : Operator} {r : R2} {f : D → D → R D} {ma mb : EM} (ho : OpR X (binaryOp op) r) (hf : Serves2F X px r f) (ha : DE X px W a ma) (hb : DE X px W b mb) : DF X px W (.BinOp a op b pos) (m2 f ma mb) := by
  refine PE.imp (pe_op ho ha hb) fun σ H Q h => ?_
  obtain ⟨S, e, r, q⟩ := h
  refine ⟨S, e, r, (Post.bdF q).imp fun v H1 ⟨d, _, e1, r1, q1⟩ => ?_⟩
  refine ⟨Fr S H, e, r.mono e1 fun _ => Fr.self, (Post.bdF q1).imp fun u H2 ⟨d2, _, e2, r2, q2⟩ => ?_⟩
  exact hf W _ σ H2 _ _ _ _ _ (r1.mono e2 fun _ => Fr.self) r2 q2
theorem f_ty {x : Str} {p : Pos} {a : Expr} {es : List Expr} {T : String} {r : List V → Hp → VK → Prop} {f : List D → R D} {m : EMs} (hc : CallR X (.type T) r) (hf : ServesAF X px r f) (hg : Gl X x) (hm : X.mg x = none) (hv : bootBuiltins x = some (.type T)) (ha : DA X px W (a :: es) m)
    (hn : x ≠ "__name__" := by decide) (hdb : (x == ("__debug__" : Str)) = false := by decide) (he : starEach (a :: es) X.env = (false, eval a X.env) :: starEach es X.env := by rfl) (hpl : (backTo pos (starEach es X.env)).any (·.1) = false := by rfl) :
    DF X px W (.Call (.Name x p) (a :: es) [] pos) (mA f m) := by
  refine PE.imp (pe_callTy hc hg hm hv ha hn hdb he hpl) fun σ H Q h => ?_
  obtain ⟨S, e, r, q⟩ := h
  exact ⟨S, e, r, (Posts.bdF q).imp fun vs H1 ⟨d, _, e1, r1, q1⟩ => hf W _ σ H1 _ _ _ r1 q1⟩
/-! ### tests -/
def mOkB (m : EnvD → R Bool) : EM := fun e => (m e).bd fun b => .ok (.bl b)
/-- the truth of a tree -/
def dTru : D → R Bool
  | .non => .ok false
  | .bl b => .ok b
  | .int i => .ok (i != 0)
  | .tup ds => .ok (!ds.isEmpty)
  | .lst ds => .ok (!ds.isEmpty)
  | _ => .bad
def mT (m : EM) : EnvD → R Bool := fun e => (m e).bd dTru
theorem isEmpty_reps {K : PySem.W.Frag} {S : Addr → Prop} {H : Hp} {ds : List D} {vs : List V} (r : Reps K px S H ds vs) : vs.isEmpty = ds.isEmpty := by
  have := r.length
  cases ds <;> cases vs <;> simp_all
theorem t_of {a : Expr} {m : EM} (h : DE X px W a m) (he : ∀ whole, isTrue a X.env whole = (do let v ← whole; standAt a.pos; holding [v] (truthy v)) := by intro _; rfl) : DT X px W a (mT m) := by
  refine PT.imp (pt_truth h he) fun σ H Q h => ?_
  obtain ⟨S, e, r, q⟩ := h
  refine ⟨S, e, r, (Post.bdB q).imp fun v H1 ⟨d, _, e1, r1, q1⟩ => ?_⟩
  cases d with
  | non =>
    cases (show v = .non from r1)
    exact ⟨false, rfl, q1 _ (Same.refl _)⟩
  | bl b =>
    cases (show v = .bl b from r1)
    exact ⟨b, rfl, q1 _ (Same.refl _)⟩
  | int i =>
    cases (show v = .int i from r1)
    exact ⟨i != 0, rfl, q1 _ (Same.refl _)⟩
  | str s => exact (show False from q1).elim
  | tup ds =>
    obtain ⟨a, vs, rfl, h1, h2, h3⟩ := r1
    exact ⟨!vs.isEmpty, .inr (.inl ⟨vs, h1, rfl⟩), by rw [isEmpty_reps h3]; exact q1 _ (Same.refl _)⟩
  | lst ds =>
    obtain ⟨a, vs, rfl, h1, _, h2, h3⟩ := r1
    exact ⟨!vs.isEmpty, .inl ⟨vs, SqL.of h1, rfl⟩, by rw [isEmpty_reps h3]; exact q1 _ (Same.refl _)⟩
  | obj c ns ds => exact (show False from q1).elim
  | exc c ns ds => exact (show False from q1).elim
  | dct ks ds => exact (show False from q1).elim
  | scr ds => exact (show False from q1).elim
def mAnd (a b : EnvD → R Bool) : EnvD → R Bool := fun e => (a e).bd fun x => if x = true then b e else .ok false
def mOr (a b : EnvD → R Bool) : EnvD → R Bool := fun e => (a e).bd fun x => if x = true then .ok true else b e
def mNot (a : EnvD → R Bool) : EnvD → R Bool := fun e => (a e).bd fun x => .ok (!x)
theorem t_not {a : Expr} {m : EnvD → R Bool} (h : DT X px W a m) : DT X px W (.UnaryOp .Not a pos) (mNot m) := by
  refine PT.imp (pt_not h) fun σ H Q h => ?_
  obtain ⟨S, e, r, q⟩ := h
  exact ⟨S, e, r, (PostB.bdB q).imp fun b H1 ⟨_, e1, q1⟩ => q1 _ (Same.refl _)⟩
end
end DL

end
section
set_option Elab.async false
set_option linter.all false
set_option maxRecDepth 100000
namespace DL
open PySem PySem.Spec L2
open PyProof.Rows hiding St
variable {X : Cx} {px : Px}

theorem rep_int {K : PySem.W.Frag} {S : Addr → Prop} {H : Hp} {i : Int} : Rep K px S H (.int i) (.int i) := rfl
theorem rep_bl {K : PySem.W.Frag} {S : Addr → Prop} {H : Hp} {i : Bool} : Rep K px S H (.bl i) (.bl i) := rfl
theorem rep_str {K : PySem.W.Frag} {S : Addr → Prop} {H : Hp} {i : Str} : Rep K px S H (.str i) (.str i) := rfl
theorem rep_non {K : PySem.W.Frag} {S : Addr → Prop} {H : Hp} : Rep K px S H .non .non := rfl
theorem Post.retI {K : PySem.W.Frag} {W : WX} {S : Addr → Prop} {σ : St} {H : Hp} {d : D} {Q : VK} {v : V} (h : Post K px W S σ H (.ok d) Q) (r : Rep K px S H d v) : Q v H := Post.ret h r

/-! ### arithmetic -/
def rAddAll (K : PySem.W.Frag) : R2 := fun x y H Q => (rI0 fun i j => .int (i + j)) x y H Q ∨ (∃ i j, x = .str i ∧ y = .str j ∧ i.length + j.length ≤ sizeLine ∧ Q (.str (i ++ j)) H) ∨ rCatA K x y H Q ∨ rCat x y H Q
theorem op_addAll : OpR X (binaryOp .Add) (rAddAll X.K) := op_add.or (op_add_str.or (op_catA.or op_cat))
def dAdd : D → D → R D
  | .int i, .int j => .ok (.int (i + j))
  | .str i, .str j => if i.length + j.length ≤ 16777216 then .ok (.str (i ++ j)) else .bad
  | .tup a, .tup b => if a.length + b.length ≤ 16777216 then .ok (.tup (a ++ b)) else .bad
  | .lst a, .lst b => if a.length + b.length ≤ 16777216 then .ok (.lst (a ++ b)) else .bad
  | _, _ => .bad
theorem sv_addF : Serves2F X px (rAddAll X.K) dAdd := by
  intro W S σ H x y v u Q rx ry q
  cases x with
  | int i =>
    cases y with
    | int j =>
      cases (show v = .int i from rx)
      cases (show u = .int j from ry)
      exact .inl ⟨i, j, rfl, rfl, (show Post X.K px W S σ H (.ok _) Q from q).ret rfl⟩
    | _ => exact (show False from q).elim
  | str i =>
    cases y with
    | str j =>
      cases (show v = .str i from rx)
      cases (show u = .str j from ry)
      simp only [dAdd] at q
      split at q
      · rename_i hl
        exact .inr (.inl ⟨i, j, rfl, rfl, hl, (show Post X.K px W S σ H (.ok _) Q from q).ret rfl⟩)
      · exact q.elim
    | _ => exact (show False from q).elim
  | tup ds =>
    cases y with
    | tup es =>
      obtain ⟨a, vs, rfl, h1, h2, h3⟩ := rx
      obtain ⟨b, ws, rfl, k1, k2, k3⟩ := ry
      simp only [dAdd] at q
      split at q
      · rename_i hl
        rw [h3.length, k3.length] at hl
        refine .inr (.inr (.inl ⟨a, b, vs, ws, rfl, rfl, h1, k1, hl, fun e => ?_, fun e e2 => ?_, fun e e2 p hp => ?_⟩))
        · subst e
          have e : ds = [] := List.length_eq_zero_iff.mp h3.length
          subst e
          exact (show Post X.K px W S σ H (.ok _) Q from q).ret ⟨b, ws, rfl, k1, k2, k3⟩
        · subst e2
          have e : es = [] := List.length_eq_zero_iff.mp k3.length
          subst e
          rw [List.append_nil] at q
          exact (show Post X.K px W S σ H (.ok _) Q from q).ret ⟨a, vs, rfl, h1, h2, h3⟩
        · exact (show Post X.K px W S σ H (.ok (.tup _)) Q from q) _ _ (Same.new hp) (rep_tup hp (by rw [List.length_append]; exact hl) (h3.append k3))
      · exact q.elim
    | _ => exact (show False from q).elim
  | lst ds =>
    cases y with
    | lst es =>
      obtain ⟨a, vs, rfl, h1, _, h2, h3⟩ := rx
      obtain ⟨b, ws, rfl, k1, _, k2, k3⟩ := ry
      simp only [dAdd] at q
      split at q
      · rename_i hl
        rw [h3.length, k3.length] at hl
        exact .inr (.inr (.inr ⟨a, b, vs, ws, rfl, rfl, h1, k1, hl, fun p hp => q.new hp (by rw [List.length_append]; exact hl) (h3.append k3)⟩))
      · exact q.elim
    | _ => exact (show False from q).elim
  | _ => cases y <;> exact (show False from q).elim
theorem sv_add : Serves2 X px (rAddAll X.K) dAdd := sv_addF.sv
/-- two ints, always -/
def dII (f : Int → Int → Int) : D → D → R D
  | .int i, .int j => .ok (.int (f i j))
  | _, _ => .bad
/-- two ints, where c -/
def dIC (c : Int → Int → Bool) (f : Int → Int → Int) : D → D → R D
  | .int i, .int j => if c i j = true then .ok (.int (f i j)) else .bad
  | _, _ => .bad
/-- two ints compared -/
def dIB (f : Int → Int → Bool) : D → D → R D
  | .int i, .int j => .ok (.bl (f i j))
  | _, _ => .bad
theorem sv_II {f : Int → Int → Int} : Serves2 X px (rI0 fun i j => .int (f i j)) (dII f) := by
  intro W S σ H x y v u Q rx ry q
  cases x with
  | int i =>
    cases y with
    | int j =>
      cases (show v = .int i from rx)
      cases (show u = .int j from ry)
      exact ⟨i, j, rfl, rfl, q.ret rfl⟩
    | _ => exact (show False from q).elim
  | _ => cases y <;> exact (show False from q).elim
theorem sv_IB {f : Int → Int → Bool} : Serves2 X px (rI0 fun i j => .bl (f i j)) (dIB f) := by
  intro W S σ H x y v u Q rx ry q
  cases x with
  | int i =>
    cases y with
    | int j =>
      cases (show v = .int i from rx)
      cases (show u = .int j from ry)
      exact ⟨i, j, rfl, rfl, q.ret rfl⟩
    | _ => exact (show False from q).elim
  | _ => cases y <;> exact (show False from q).elim
theorem sv_IC {C : Int → Int → Prop} {c : Int → Int → Bool} {f : Int → Int → Int} (hc : ∀ i j, c i j = true → C i j) : Serves2 X px (rI C fun i j => .int (f i j)) (dIC c f) := by
  intro W S σ H x y v u Q rx ry q
  cases x with
  | int i =>
    cases y with
    | int j =>
      cases (show v = .int i from rx)
      cases (show u = .int j from ry)
      simp only [dIC] at q
      split at q
      · rename_i h
        exact ⟨i, j, rfl, rfl, hc i j h, q.ret rfl⟩
      · exact q.elim
    | _ => exact (show False from q).elim
  | _ => cases y <;> exact (show False from q).elim
def dSub : D → D → R D := dII fun i j => i - j
theorem sv_sub : Serves2 X px (rI0 fun i j => .int (i - j)) dSub := sv_II
def cFd (i j : Int) : Bool := decide (j ≠ 0) && decide (j.natAbs < 1073741824)
def dFdiv : D → D → R D := dIC cFd fun i j => i.fdiv j
theorem sv_fdiv : Serves2 X px (rI CDivN fun i j => .int (i.fdiv j)) dFdiv := sv_IC fun i j h => by
  simp only [cFd, Bool.and_eq_true, decide_eq_true_eq] at h
  exact h
def dMod : D → D → R D := dIC (fun _ j => decide (j ≠ 0)) fun i j => i.fmod j
theorem sv_mod : Serves2 X px (rI (fun _ j => j ≠ 0) fun i j => .int (i.fmod j)) dMod := sv_IC fun i j h => of_decide_eq_true h
def cPw (i j : Int) : Bool := decide (0 ≤ j) && (decide (j ≤ 1000000) && decide (i.natAbs < 2 ^ 64))
def dPow : D → D → R D := dIC cPw fun i j => i ^ j.toNat
theorem sv_pow : Serves2 X px (rI CPow fun i j => .int (i ^ j.toNat)) dPow := sv_IC fun i j h => by
  simp only [cPw, Bool.and_eq_true, decide_eq_true_eq] at h
  exact h
def cMu (i j : Int) : Bool := (decide (-(2 ^ 64) < i) && decide (i < 2 ^ 64)) || (decide (-(2 ^ 64) < j) && decide (j < 2 ^ 64))
def rMulAll : R2 := fun x y H Q => rI CMul (fun i j => .int (i * j)) x y H Q ∨ rRep x y H Q
theorem op_mulAll : OpR X (binaryOp .Mult) rMulAll := op_mul.or op_rep
def dMul : D → D → R D
  | .int i, .int j => if cMu i j = true then .ok (.int (i * j)) else .bad
  | .lst ds, .int k => if k < 16777216 ∧ -16777216 < k ∧ ds.length * k.toNat ≤ 16777216 then .ok (.lst (List.replicate k.toNat ds).flatten) else .bad
  | _, _ => .bad
theorem reps_flat {K : PySem.W.Frag} {S : Addr → Prop} {H : Hp} {ds : List D} {vs : List V} (r : Reps K px S H ds vs) : ∀ n : Nat, Reps K px S H (List.replicate n ds).flatten (List.replicate n vs).flatten
  | 0 => rfl
  | n + 1 => by
    rw [List.replicate_succ, List.replicate_succ, List.flatten_cons, List.flatten_cons]
    exact r.append (reps_flat r n)
theorem len_flat {α : Type} (l : List α) : ∀ n : Nat, (List.replicate n l).flatten.length = l.length * n
  | 0 => by simp
  | n + 1 => by
    rw [List.replicate_succ, List.flatten_cons, List.length_append, len_flat l n, Nat.mul_succ]
    omega
theorem sv_mulF : Serves2F X px rMulAll dMul := by
  intro W S σ H x y v u Q rx ry q
  cases x with
  | int i =>
    cases y with
    | int j =>
      cases (show v = .int i from rx)
      cases (show u = .int j from ry)
      simp only [dMul] at q
      split at q
      · rename_i h
        simp only [cMu, Bool.or_eq_true, Bool.and_eq_true, decide_eq_true_eq] at h
        exact .inl ⟨i, j, rfl, rfl, h, (show Post X.K px W S σ H (.ok _) Q from q).ret rfl⟩
      · exact q.elim
    | _ => exact (show False from q).elim
  | lst ds =>
    cases y with
    | int k =>
      obtain ⟨a, vs, rfl, h1, h2, h3, h4⟩ := rx
      cases (show u = .int k from ry)
      simp only [dMul] at q
      split at q
      · rename_i h
        rw [h4.length] at h
        refine .inr ⟨a, k, vs, rfl, rfl, h1, by omega, by omega, h.2.2, fun p hp => ?_⟩
        exact q.new hp (by rw [len_flat]; exact h.2.2) (reps_flat h4 _)
      · exact q.elim
    | _ => exact (show False from q).elim
  | _ => cases y <;> exact (show False from q).elim
theorem sv_mul : Serves2 X px rMulAll dMul := sv_mulF.sv
def dNeg : D → R D
  | .int i => .ok (.int (-i))
  | _ => .bad
theorem sv_neg : Serves1 X px (rU fun i => .int (-i)) dNeg := by
  intro W S σ H x v Q rx q
  cases x with
  | int i =>
    cases (show v = .int i from rx)
    exact ⟨i, rfl, q.ret rfl⟩
  | _ => exact (show False from q).elim
/-! ### comparisons -/
def dLt : D → D → R D := dIB fun i j => decide (i < j)
def dLe : D → D → R D := dIB fun i j => decide (i ≤ j)
def dGt : D → D → R D := dIB fun i j => decide (j < i)
def dGe : D → D → R D := dIB fun i j => decide (j ≤ i)
theorem sv_lt : Serves2 X px (rI0 fun i j => .bl (decide (i < j))) dLt := sv_IB
theorem sv_le : Serves2 X px (rI0 fun i j => .bl (decide (i ≤ j))) dLe := sv_IB
theorem sv_gt : Serves2 X px (rI0 fun i j => .bl (decide (j < i))) dGt := sv_IB
theorem sv_ge : Serves2 X px (rI0 fun i j => .bl (decide (j ≤ i))) dGe := sv_IB
mutual
/-- plain data -/
def pyd : D → Option PyData
  | .non => some .none
  | .bl b => some (.bool b)
  | .int i => some (.int i)
  | .str s => some (.str s)
  | .tup ds => (pyds ds).map .tuple
  | .lst ds => (pyds ds).map .list
  | _ => none
def pyds : List D → Option (List PyData)
  | [] => some []
  | d :: ds => (pyd d).bind fun p => (pyds ds).map fun ps => p :: ps
end
section
variable {K : PySem.W.Frag} {S : Addr → Prop} {H : Hp}
mutual
theorem pyd_dp : ∀ (d : D) (v : V) (p : PyData), Rep K px S H d v → pyd d = some p → Dp K H v p
  | .non, v, p, r, e => by
    cases (show v = .non from r)
    cases e
    exact .non
  | .bl b, v, p, r, e => by
    cases (show v = .bl b from r)
    cases e
    exact .bl b
  | .int b, v, p, r, e => by
    cases (show v = .int b from r)
    cases e
    exact .int b
  | .str b, v, p, r, e => by
    cases (show v = .str b from r)
    cases e
    exact .str b
  | .tup ds, v, p, ⟨a, vs, e1, h1, h2, h3⟩, e => by
    subst e1
    simp only [pyd, Option.map_eq_some_iff] at e
    obtain ⟨ps, e2, rfl⟩ := e
    exact .tup h1 (pyds_dp ds vs ps h3 e2)
  | .lst ds, v, p, ⟨a, vs, e1, h1, _, h2, h3⟩, e => by
    subst e1
    simp only [pyd, Option.map_eq_some_iff] at e
    obtain ⟨ps, e2, rfl⟩ := e
    exact .lst (SqL.of h1) (pyds_dp ds vs ps h3 e2)
  | .obj _ _ _, _, _, _, e => by simp [pyd] at e
  | .exc _ _ _, _, _, _, e => by simp [pyd] at e
  | .dct _ _, _, _, _, e => by simp [pyd] at e
  | .scr _, _, _, _, e => by simp [pyd] at e
theorem pyds_dp : ∀ (ds : List D) (vs : List V) (ps : List PyData), Reps K px S H ds vs → pyds ds = some ps → DpAll K H vs ps
  | [], vs, ps, r, e => by
    cases (show vs = [] from r)
    simp only [pyds, Option.some.injEq] at e
    subst e
    exact .nil
  | d :: ds, vs, ps, ⟨v, w, e1, h1, h2⟩, e => by
    subst e1
    simp only [pyds, Option.bind_eq_some_iff, Option.map_eq_some_iff] at e
    obtain ⟨p, e2, qs, e3, rfl⟩ := e
    exact .cons (pyd_dp d v p h1 e2) (pyds_dp ds w qs h2 e3)
end
end
def dEqB (x y : D) : R Bool := match pyd x, pyd y with
  | some p, some q => if SeqAt.shaped p = true ∧ SeqAt.shaped q = true then .ok (PyData.eqv p q) else .bad
  | _, _ => .bad
def dEq (x y : D) : R D := (dEqB x y).bd fun b => .ok (.bl b)
def dNe (x y : D) : R D := (dEqB x y).bd fun b => .ok (.bl (!b))
theorem dEqB_ok {x y : D} {b : Bool} (h : dEqB x y = .ok b) : ∃ p q, pyd x = some p ∧ pyd y = some q ∧ SeqAt.shaped p = true ∧ SeqAt.shaped q = true ∧ b = PyData.eqv p q := by
  unfold dEqB at h
  split at h
  · rename_i p q e1 e2
    split at h
    · rename_i hs
      injection h with h
      exact ⟨p, q, e1, e2, hs.1, hs.2, h.symm⟩
    · cases h
  · cases h
theorem dEqB_no {x y : D} : (∃ b, dEqB x y = .ok b) ∨ dEqB x y = .bad := by
  unfold dEqB
  split
  · split
    · exact .inl ⟨_, rfl⟩
    · exact .inr rfl
  · exact .inr rfl
theorem sv_eq : Serves2 X px (rEqD X.K) dEq := by
  intro W S σ H x y v u Q rx ry q
  unfold dEq at q
  rcases dEqB_no (x := x) (y := y) with ⟨b, e⟩ | e
  · rw [e] at q
    obtain ⟨p, p2, e1, e2, s1, s2, rfl⟩ := dEqB_ok e
    exact ⟨p, p2, pyd_dp _ _ _ rx e1, pyd_dp _ _ _ ry e2, s1, s2, Post.ret (d := .bl _) q rfl⟩
  · rw [e] at q
    exact (show False from q).elim
theorem sv_ne : Serves2 X px (rNeD X.K) dNe := by
  intro W S σ H x y v u Q rx ry q
  unfold dNe at q
  rcases dEqB_no (x := x) (y := y) with ⟨b, e⟩ | e
  · rw [e] at q
    obtain ⟨p, p2, e1, e2, s1, s2, rfl⟩ := dEqB_ok e
    exact ⟨p, p2, pyd_dp _ _ _ rx e1, pyd_dp _ _ _ ry e2, s1, s2, Post.ret (d := .bl _) q rfl⟩
  · rw [e] at q
    exact (show False from q).elim
/-! ### is -/
def rIsA : R2 := fun x y H Q => ∃ b : Bool, y = .bl b ∧ Q (.bl (decide (x = .bl b))) H
theorem op_isA : OpR X (compareOp .Is) rIsA := by
  intro pins s σ H x y v u Q I rx ry h
  obtain ⟨b, rfl, q⟩ := h
  cases (show u = Value.bool b from ry)
  have pl : plainIs v (Value.bool b) = true := by
    have z := rx.abs
    cases v <;> first | rfl | cases z
  by_cases e : x = .bl b
  · subst e
    cases (show v = Value.bool b from rx)
    exact wpAny_is_self rfl ⟨.bl true, H, I, rfl, by simpa using q⟩
  · refine wpAny_is_other pl (fun z => e ?_) ⟨.bl false, H, I, rfl, by simpa [e] using q⟩
    subst z
    have e2 := RelV.abs rx
    exact (Option.some.inj e2).symm
def isB : D → Bool → Bool
  | .bl a, b => decide (a = b)
  | _, _ => false
def dIsB (b : Bool) : D → D → R D := fun x _ => .ok (.bl (isB x b))
theorem rep_isB {K : PySem.W.Frag} {S : Addr → Prop} {H : Hp} {x : D} {v : V} {b : Bool} (r : Rep K px S H x v) : decide (v = .bl b) = isB x b := by
  cases x with
  | non => cases (show v = .non from r); rfl
  | bl a =>
    cases (show v = .bl a from r)
    by_cases h : a = b <;> simp [isB, h]
  | int i => cases (show v = .int i from r); rfl
  | str i => cases (show v = .str i from r); rfl
  | tup ds => obtain ⟨a, vs, rfl, _⟩ := r; rfl
  | lst ds => obtain ⟨a, vs, rfl, _⟩ := r; rfl
  | obj c ns ds => obtain ⟨a, dx, vs, rfl, _⟩ := r; rfl
  | exc c ns ds => obtain ⟨a, dx, _, rfl, _⟩ := r; rfl
  | dct ks ds => exact r.elim
  | scr ns => obtain ⟨a, rfl, _⟩ := r; rfl
def isN : D → Bool
  | .non => true
  | _ => false
theorem rep_isN {K : PySem.W.Frag} {S : Addr → Prop} {H : Hp} {x : D} {v : V} (r : Rep K px S H x v) : decide (v = .non) = isN x := by
  cases x with
  | non => cases (show v = .non from r); rfl
  | bl a => cases (show v = .bl a from r); rfl
  | int i => cases (show v = .int i from r); rfl
  | str i => cases (show v = .str i from r); rfl
  | tup ds => obtain ⟨a, vs, rfl, _⟩ := r; rfl
  | lst ds => obtain ⟨a, vs, rfl, _⟩ := r; rfl
  | obj c ns ds => obtain ⟨a, dx, vs, rfl, _⟩ := r; rfl
  | exc c ns ds => obtain ⟨a, dx, _, rfl, _⟩ := r; rfl
  | dct ks ds => exact r.elim
  | scr ns => obtain ⟨a, rfl, _⟩ := r; rfl
def dIs : D → D → R D
  | x, .non => .ok (.bl (isN x))
  | x, .bl b => .ok (.bl (isB x b))
  | _, _ => .bad
def dIsNot : D → D → R D
  | x, .non => .ok (.bl (!isN x))
  | x, .bl b => .ok (.bl (!isB x b))
  | _, _ => .bad
theorem sv_is : Serves2 X px (fun x y H Q => (y = .non ∧ Q (.bl (decide (x = .non))) H) ∨ rIsA x y H Q) dIs := by
  intro W S σ H x y v u Q rx ry q
  cases y with
  | non =>
    cases (show u = .non from ry)
    refine .inl ⟨rfl, ?_⟩
    rw [rep_isN rx]
    have q : Post X.K px W S σ H (.ok (.bl (isN x))) Q := by cases x <;> exact q
    exact q.ret rfl
  | bl b =>
    cases (show u = .bl b from ry)
    refine .inr ⟨b, rfl, ?_⟩
    rw [rep_isB rx]
    have q : Post X.K px W S σ H (.ok (.bl (isB x b))) Q := by cases x <;> exact q
    exact q.ret rfl
  | _ => cases x <;> exact (show False from q).elim
theorem op_is : OpR X (compareOp .Is) (fun x y H Q => (y = .non ∧ Q (.bl (decide (x = .non))) H) ∨ rIsA x y H Q) := op_isN.or op_isA
def rNotA : R2 := fun x y H Q => ∃ b : Bool, y = .bl b ∧ Q (.bl (!decide (x = .bl b))) H
theorem op_isNotA : OpR X (compareOp .IsNot) rNotA := by
  intro pins s σ H x y v u Q I rx ry h
  obtain ⟨b, rfl, q⟩ := h
  cases (show u = Value.bool b from ry)
  have pl : plainIs v (Value.bool b) = true := by
    have z := rx.abs
    cases v <;> first | rfl | cases z
  by_cases e : x = .bl b
  · subst e
    cases (show v = Value.bool b from rx)
    exact wpAny_isNot_self rfl ⟨.bl false, H, I, rfl, by simpa using q⟩
  · refine wpAny_isNot_other pl (fun z => e ?_) ⟨.bl true, H, I, rfl, by simpa [e] using q⟩
    subst z
    have e2 := RelV.abs rx
    exact (Option.some.inj e2).symm
theorem op_isNotN : OpR X (compareOp .IsNot) (fun x y H Q => (y = .non ∧ Q (.bl (!decide (x = .non))) H) ∨ rNotA x y H Q) := op_notN.or op_isNotA
theorem sv_isNot : Serves2 X px (fun x y H Q => (y = .non ∧ Q (.bl (!decide (x = .non))) H) ∨ rNotA x y H Q) dIsNot := by
  intro W S σ H x y v u Q rx ry q
  cases y with
  | non =>
    cases (show u = .non from ry)
    refine .inl ⟨rfl, ?_⟩
    rw [rep_isN rx]
    have q : Post X.K px W S σ H (.ok (.bl (!isN x))) Q := by cases x <;> exact q
    exact q.ret rfl
  | bl b =>
    cases (show u = .bl b from ry)
    refine .inr ⟨b, rfl, ?_⟩
    rw [rep_isB rx]
    have q : Post X.K px W S σ H (.ok (.bl (!isB x b))) Q := by cases x <;> exact q
    exact q.ret rfl
  | _ => cases x <;> exact (show False from q).elim
/-! ### in -/
def flatD : D → Bool
  | .non => true
  | .bl _ => true
  | .int _ => true
  | .str _ => true
  | _ => false
def valD : D → V
  | .non => .non
  | .bl b => .bl b
  | .int i => .int i
  | .str s => .str s
  | _ => .non
theorem flat_rep {K : PySem.W.Frag} {S : Addr → Prop} {H : Hp} {x : D} {v : V} (f : flatD x = true) (r : Rep K px S H x v) : v = valD x ∧ flatV v = true := by
  cases x with
  | non => cases (show v = .non from r); exact ⟨rfl, rfl⟩
  | bl a => cases (show v = .bl a from r); exact ⟨rfl, rfl⟩
  | int i => cases (show v = .int i from r); exact ⟨rfl, rfl⟩
  | str i => cases (show v = .str i from r); exact ⟨rfl, rfl⟩
  | _ => exact absurd f Bool.false_ne_true
theorem flat_reps {K : PySem.W.Frag} {S : Addr → Prop} {H : Hp} : ∀ {xs : List D} {vs : List V}, xs.all flatD = true → Reps K px S H xs vs → vs = xs.map valD ∧ vs.all flatV = true
  | [], vs, _, r => by
    cases (show vs = [] from r)
    exact ⟨rfl, rfl⟩
  | x :: xs, vs, f, ⟨v, w, e1, h1, h2⟩ => by
    subst e1
    rw [List.all_cons, Bool.and_eq_true] at f
    obtain ⟨h3, h4⟩ := flat_rep f.1 h1
    obtain ⟨h5, h6⟩ := flat_reps f.2 h2
    exact ⟨by rw [List.map_cons, ← h3, ← h5], by rw [List.all_cons, h4, h6] <;> rfl⟩
def inD (x : D) (xs : List D) : Bool := xs.any fun y => eqV (valD y) (valD x)
theorem inD_eq (x : D) (xs : List D) : inV (valD x) (xs.map valD) = inD x xs := by
  unfold inV inD
  rw [List.any_map] <;> rfl
def dInB : D → D → R Bool
  | x, .tup ds => if flatD x = true ∧ ds.all flatD = true then .ok (inD x ds) else .bad
  | x, .lst ds => if flatD x = true ∧ ds.all flatD = true then .ok (inD x ds) else .bad
  | _, _ => .bad
def dIn (x y : D) : R D := (dInB x y).bd fun b => .ok (.bl b)
def dNotIn (x y : D) : R D := (dInB x y).bd fun b => .ok (.bl (!b))
theorem dInB_ok {x y : D} {b : Bool} (h : dInB x y = .ok b) : ∃ ds, (y = .tup ds ∨ y = .lst ds) ∧ flatD x = true ∧ ds.all flatD = true ∧ b = inD x ds := by
  cases y with
  | tup ds =>
    simp only [dInB] at h
    split at h
    · rename_i hf
      injection h with h
      exact ⟨ds, .inl rfl, hf.1, hf.2, h.symm⟩
    · cases h
  | lst ds =>
    simp only [dInB] at h
    split at h
    · rename_i hf
      injection h with h
      exact ⟨ds, .inr rfl, hf.1, hf.2, h.symm⟩
    · cases h
  | _ => simp [dInB] at h
theorem dInB_no (x y : D) : (∃ b, dInB x y = .ok b) ∨ dInB x y = .bad := by
  cases y with
  | tup ds =>
    simp only [dInB]
    split
    · exact .inl ⟨_, rfl⟩
    · exact .inr rfl
  | lst ds =>
    simp only [dInB]
    split
    · exact .inl ⟨_, rfl⟩
    · exact .inr rfl
  | _ => exact .inr rfl
theorem in_core {K : PySem.W.Frag} {S : Addr → Prop} {H : Hp} {x y : D} {v u : V} {ds : List D} (rx : Rep K px S H x v) (ry : Rep K px S H y u) (e : y = .tup ds ∨ y = .lst ds) (f : flatD x = true) (fs : ds.all flatD = true) :
    ∃ p xs, u = .ref p ∧ (SqL K H p xs ∨ SqT K H p xs) ∧ flatV v = true ∧ xs.all flatV = true ∧ inV v xs = inD x ds := by
  obtain ⟨e1, f1⟩ := flat_rep f rx
  rcases e with e | e
  · subst e
    obtain ⟨a, vs, rfl, h1, h2, h3⟩ := ry
    obtain ⟨e2, f2⟩ := flat_reps fs h3
    exact ⟨a, vs, rfl, .inr h1, f1, f2, by rw [e1, e2, inD_eq]⟩
  · subst e
    obtain ⟨a, vs, rfl, h1, _, h2, h3⟩ := ry
    obtain ⟨e2, f2⟩ := flat_reps fs h3
    exact ⟨a, vs, rfl, .inl (SqL.of h1), f1, f2, by rw [e1, e2, inD_eq]⟩
theorem sv_in : Serves2 X px (rIn X.K false) dIn := by
  intro W S σ H x y v u Q rx ry q
  unfold dIn at q
  rcases dInB_no x y with ⟨b, e⟩ | e
  · rw [e] at q
    obtain ⟨ds, h1, h2, h3, rfl⟩ := dInB_ok e
    obtain ⟨p, xs, k1, k2, k3, k4, k5⟩ := in_core rx ry h1 h2 h3
    exact ⟨p, xs, k1, k2, k3, k4, by rw [if_neg Bool.false_ne_true, k5]; exact Post.ret (d := .bl _) q rfl⟩
  · rw [e] at q
    exact (show False from q).elim
theorem sv_notIn : Serves2 X px (rIn X.K true) dNotIn := by
  intro W S σ H x y v u Q rx ry q
  unfold dNotIn at q
  rcases dInB_no x y with ⟨b, e⟩ | e
  · rw [e] at q
    obtain ⟨ds, h1, h2, h3, rfl⟩ := dInB_ok e
    obtain ⟨p, xs, k1, k2, k3, k4, k5⟩ := in_core rx ry h1 h2 h3
    exact ⟨p, xs, k1, k2, k3, k4, by rw [if_pos rfl, k5]; exact Post.ret (d := .bl _) q rfl⟩
  · rw [e] at q
    exact (show False from q).elim
/-! ### subscripts -/
def dIx : D → D → R D
  | .tup ds, .int i => (match atI ds i with
    | some d => .ok d
    | none => .bad)
  | .lst ds, .int i => (match atI ds i with
    | some d => .ok d
    | none => .bad)
  | .scr ns, .int i => (match atI ns i with
    | some n => .ok (.int n)
    | none => .bad)
  | .str z, .int i => (match atI z.cps.toList i with
    | some c => if z.length ≤ 16777216 then .ok (.str ⟨#[c]⟩) else .bad
    | none => .bad)
  | _, _ => .bad
theorem atI_reps {K : PySem.W.Frag} {S : Addr → Prop} {H : Hp} {ds : List D} {vs : List V} {i : Int} {d : D} (r : Reps K px S H ds vs) (e : atI ds i = some d) : ∃ v, atI vs i = some v ∧ Rep K px S H d v := by
  unfold atI at e ⊢
  rw [← r.length]
  cases h : ixN ds.length i with
  | none =>
    rw [h] at e
    cases e
  | some j =>
    rw [h] at e
    exact r.get e
theorem scr_seq {K : PySem.W.Frag} {H : Hp} {a : Addr} {ns : List Int} (h : (∃ o, H a = some (.frz o (.lst (ns.map V.int)))) ∨ SqL K (fun _ => none) a (ns.map V.int)) : SqL K H a (ns.map V.int) := by
  rcases h with ⟨o, h⟩ | (h | ⟨o, h⟩) | h
  · exact .inl (.inr ⟨o, h⟩)
  · cases h
  · cases h
  · exact .inr h
theorem sv_ix : Serves2 X px (rIx X.K) dIx := by
  intro W S σ H x y v u Q rx ry q
  cases x with
  | tup ds =>
    cases y with
    | int i =>
      obtain ⟨a, vs, rfl, h1, h2, h3⟩ := rx
      cases (show u = .int i from ry)
      simp only [dIx] at q
      split at q
      · rename_i d e
        obtain ⟨w, e2, r2⟩ := atI_reps h3 e
        exact .inr (.inl ⟨a, vs, i, w, rfl, rfl, h1, e2, q.ret r2⟩)
      · exact q.elim
    | _ => exact (show False from q).elim
  | lst ds =>
    cases y with
    | int i =>
      obtain ⟨a, vs, rfl, h1, _, h2, h3⟩ := rx
      cases (show u = .int i from ry)
      simp only [dIx] at q
      split at q
      · rename_i d e
        obtain ⟨w, e2, r2⟩ := atI_reps h3 e
        exact .inl ⟨a, vs, i, w, rfl, rfl, SqL.of h1, e2, q.ret r2⟩
      · exact q.elim
    | _ => exact (show False from q).elim
  | scr ns =>
    cases y with
    | int i =>
      obtain ⟨a, rfl, h1⟩ := rx
      cases (show u = .int i from ry)
      simp only [dIx] at q
      split at q
      · rename_i d e
        refine .inl ⟨a, _, i, .int d, rfl, rfl, scr_seq h1, ?_, Post.ret q rfl⟩
        unfold atI at e ⊢
        rw [List.length_map]
        cases h : ixN ns.length i with
        | none =>
          rw [h] at e
          cases e
        | some j =>
          rw [h] at e
          have e : ns[j]? = some d := e
          show (ns.map V.int)[j]? = some (.int d)
          rw [List.getElem?_map, e] <;> rfl
      · exact q.elim
    | _ => exact (show False from q).elim
  | str z =>
    cases y with
    | int i =>
      cases (show v = .str z from rx)
      cases (show u = .int i from ry)
      simp only [dIx] at q
      split at q
      · rename_i c e
        split at q
        · rename_i hl
          exact .inr (.inr ⟨z, i, c, rfl, rfl, hl, e, q.ret rfl⟩)
        · exact q.elim
      · exact q.elim
    | _ => exact (show False from q).elim
  | _ => cases y <;> exact (show False from q).elim
end DL

end
section
set_option Elab.async false
set_option linter.all false
set_option maxRecDepth 100000
namespace DL
open PySem PySem.Spec L2
open PyProof.Rows hiding St
variable {X : Cx} {px : Px} {W : WX} {pos : Pos}

/-! ### what a def is worth -/
theorem passN {X : Cx} : Passes (L2N.CX X.prog X.w) X E0 := fun _ _ _ _ _ _ _ h => by
  obtain ⟨_, _, _, _, _, _, _, _, _, _, _, _, z⟩ := h
  exact z.elim
/-- a def that changes nothing that it is given: n arguments, f what it is worth -/
def SpP (K : PySem.W.Frag) (n : Nat) (f : List D → R D) : Sp := fun vs H Q E => ∃ S ds, vs.length = n ∧ Reps K none S H ds vs ∧ Post K none (fun c dd _ H' => E c dd H') S [] H (f ds) Q
theorem SpP.len {K : PySem.W.Frag} {n : Nat} {f : List D → R D} {vs : List V} {H : Hp} {Q : VK} {E : XK} (h : SpP K n f vs H Q E) : vs.length = n := by
  obtain ⟨S, ds, h, _⟩ := h
  exact h
theorem post_sp {K : PySem.W.Frag} {W : WX} {S : Addr → Prop} {σ : St} {H : Hp} {r : R D} {Q : VK} (h : Post K none W S σ H r Q) : Post K none (fun c dd _ H' => WE W σ c dd H') S [] H r Q := by
  cases r <;> exact h
theorem posts_len {K : PySem.W.Frag} {W : WX} {S : Addr → Prop} {σ : St} {H : Hp} {r : R (List D)} {Q : List V → Hp → Prop} {n : Nat} (hn : ∀ ds, r = .ok ds → ds.length = n) (h : Posts K px W S σ H r Q) : Posts K px W S σ H r fun vs H' => vs.length = n ∧ Q vs H' := by
  cases r with
  | ok ds => exact fun vs H' e r => ⟨by rw [← r.length]; exact hn ds rfl, h vs H' e r⟩
  | er c ns ds => exact h
  | bad => exact h
/-- so many arguments -/
def CntA (n : Nat) (m : EMs) : Prop := ∀ e ds, m e = .ok ds → ds.length = n
theorem cnt_nil : CntA 0 mNil := fun e ds h => by
  injection h with h
  rw [← h] <;> rfl
theorem cnt_cons {n : Nat} {a : EM} {r : EMs} (h : CntA n r) : CntA (n + 1) (mCons a r) := fun e ds q => by
  unfold mCons at q
  cases ha : a e with
  | ok x =>
    rw [ha] at q
    cases hr : r e with
    | ok xs =>
      rw [hr] at q
      injection q with q
      rw [← q, List.length_cons, h e xs hr]
    | er c ns ds => rw [hr] at q; cases q
    | bad => rw [hr] at q; cases q
  | er c ns ds => rw [ha] at q; cases q
  | bad => rw [ha] at q; cases q
/-- a def that stands in the text: its address, its data, what it is worth -/
structure FnP (P : Program) (w : World) (K : PySem.W.Frag) (mg : Str → Option Value) (base : Heap) (k : Nat) (f : Addr) (n : Nat) (g : List D → R D) : Prop where
  ok : ∃ fd ps, FnOk P w K mg base (L2N.CX P w) k f fd ps (SpP K n g) ∧ Binds K fd ps []
  kp : PySem.W.keepIn K (.ref f) = true
theorem FnP.mono {P : Program} {w : World} {K : PySem.W.Frag} {mg : Str → Option Value} {base : Heap} {j k : Nat} {f : Addr} {n : Nat} {g : List D → R D} (F : FnP P w K mg base j f n g) (h : j ≤ k) : FnP P w K mg base k f n g := by
  obtain ⟨⟨fd, ps, F1, b⟩, kp⟩ := F
  exact ⟨⟨fd, ps, F1.mono h, b⟩, kp⟩
abbrev FnX (X : Cx) (k : Nat) (f : Addr) (n : Nat) (g : List D → R D) : Prop := FnP X.prog X.w X.K X.mg X.base k f n g
/-- f(a, ..) -/
theorem e_call {k n : Nat} {x : Str} {p : Pos} {a : Expr} {es : List Expr} {g : List D → R D} {m : EMs} (F : FnX X k (He.ga X.K x) n g) (hr : Room k X.A) (tk : L2N.Takes X W) (hg : Gl X x) (hm : X.mg x = some (.ref (He.ga X.K x))) (ha : DA X none W (a :: es) m) (hn : CntA n m)
    (hdb : (x == ("__debug__" : Str)) = false := by decide) (he : starEach (a :: es) X.env = (false, eval a X.env) :: starEach es X.env := by rfl) (hpl : (backTo pos (starEach es X.env)).any (·.1) = false := by rfl) :
    DE X none W (.Call (.Name x p) (a :: es) [] pos) (mA g m) := by
  obtain ⟨⟨fd, ps, F1, b⟩, kp⟩ := F
  refine PE.imp (pe_callS F1 hr hg hm kp b (fun σ => L2N.passAt tk σ) ha hdb he hpl) fun σ H Q h => ?_
  obtain ⟨S, e, r, q⟩ := h
  refine ⟨S, e, r, (posts_len (hn e) (Posts.bd q)).imp fun vs H1 ⟨hl, d, _, e1, r1, q1⟩ => ?_⟩
  exact ⟨_, d, hl, r1, post_sp q1⟩

/-! ### attributes -/
def dGet (f : Str) : List Str → List D → R D
  | n :: ns, d :: ds => if f = n then .ok d else dGet f ns ds
  | _, _ => .bad
def dFld (cs : List Str) (f : Str) : D → R D
  | .obj c ns ds => if c ∈ cs then dGet f ns ds else .bad
  | _ => .bad
theorem dGet_rep {K : PySem.W.Frag} {S : Addr → Prop} {H : Hp} {f : Str} : ∀ {ns : List Str} {ds : List D} {vs : List V} {d : D}, ns.length = vs.length → Reps K px S H ds vs → dGet f ns ds = .ok d → ∃ v, (ns.zip vs).lookup f = some v ∧ Rep K px S H d v
  | [], _, _, _, _, _, h => by simp [dGet] at h
  | _ :: _, [], _, _, _, _, h => by simp [dGet] at h
  | n :: ns, d :: ds, vs, d', hl, ⟨v, w, e1, h1, h2⟩, h => by
    subst e1
    simp only [dGet] at h
    rw [List.zip_cons_cons]
    by_cases e : f = n
    · rw [if_pos e] at h
      injection h with h
      subst h e
      exact ⟨v, by simp [List.lookup], h1⟩
    · rw [if_neg e] at h
      obtain ⟨u, k1, k2⟩ := dGet_rep (by simpa using hl) h2 h
      refine ⟨u, ?_, k2⟩
      have e' : (f == n) = false := by simpa using e
      simp only [List.lookup, e']
      exact k1
theorem dGet_cases (f : Str) : ∀ (ns : List Str) (ds : List D), (∃ d, dGet f ns ds = .ok d) ∨ dGet f ns ds = .bad
  | [], _ => .inr (by simp [dGet])
  | _ :: _, [] => .inr (by simp [dGet])
  | n :: ns, d :: ds => by
    simp only [dGet]
    by_cases e : f = n
    · rw [if_pos e]
      exact .inl ⟨d, rfl⟩
    · rw [if_neg e]
      exact dGet_cases f ns ds
/-- the classes whose instances may have the attribute -/
def FldOk (K : PySem.W.Frag) (cs : List Str) (f : Str) : Prop := ∀ c ∈ cs, Cls K (He.ga K c) ∧ NoAttr K (He.ga K c) f
theorem fld_nil {K : PySem.W.Frag} {f : Str} : FldOk K [] f := fun _ h => by cases h
theorem fld_cons {K : PySem.W.Frag} {f c : Str} {cs : List Str} (h1 : Cls K (He.ga K c)) (h2 : NoAttr K (He.ga K c) f) (h : FldOk K cs f) : FldOk K (c :: cs) f := fun x hx => by
  rcases List.mem_cons.mp hx with rfl | hx
  · exact ⟨h1, h2⟩
  · exact h x hx
theorem e_fld {e : Expr} {f : Str} {cs : List Str} {m : EM} (he : DE X px W e m) (hc : FldOk X.K cs f) (hb : attributeBase e f X.env (eval e X.env) = eval e X.env := by rfl) : DE X px W (.Attribute e f pos) (m1 (dFld cs f) m) := by
  refine PE.imp (pe_fld he hb) fun σ H Q h => ?_
  obtain ⟨S, e, r, q⟩ := h
  refine ⟨S, e, r, (Post.bd q).imp fun v H1 ⟨d, _, e1, r1, q1⟩ => ?_⟩
  cases d with
  | obj c ns ds =>
    obtain ⟨a, dx, fvs, rfl, h1, h2, h3, h4⟩ := r1
    simp only [dFld] at q1
    split at q1
    · rename_i hmem
      obtain ⟨k1, k2⟩ := hc c hmem
      rcases dGet_cases f ns ds with ⟨d, e⟩ | e
      · rw [e] at q1
        obtain ⟨v, l1, l2⟩ := dGet_rep h3 h4 e
        exact ⟨a, _, dx, _, v, rfl, h1, k1, k2, l1, Post.ret q1 l2⟩
      · rw [e] at q1
        exact (show False from q1).elim
    · exact (show False from q1).elim
  | _ => exact (show False from q1).elim

/-! ### methods -/
/-- a method of the class that c names -/
structure MethP (X : Cx) (k : Nat) (c m : Str) (n : Nat) (g : List D → R D) : Prop where
  cl : Cls X.K (He.ga X.K c)
  me : Meth X.K (He.ga X.K c) m (He.ma X.K (He.ga X.K c) m)
  fn : FnX X k (He.ma X.K (He.ga X.K c) m) n g
abbrev Alts := List (Str × (List D → R D))
/-- the method that the instance has -/
def dPick (m : Str) (alts : Alts) : D → Option (List D → R D)
  | .obj c ns _ => if m ∈ ns then none else alts.lookup c
  | _ => none
def AltsOk (X : Cx) (k : Nat) (m : Str) (n : Nat) (alts : Alts) : Prop := ∀ c g, alts.lookup c = some g → MethP X k c m n g
theorem alts_nil {k : Nat} {m : Str} {n : Nat} : AltsOk X k m n [] := fun _ _ h => by cases h
theorem alts_cons {k : Nat} {m c : Str} {n : Nat} {g : List D → R D} {alts : Alts} (h : MethP X k c m n g) (t : AltsOk X k m n alts) : AltsOk X k m n ((c, g) :: alts) := fun x f q => by
  by_cases e : x = c
  · subst e
    simp only [List.lookup, beq_self_eq_true] at q
    injection q with q
    subst q
    exact h
  · have e' : (x == c) = false := by simpa using e
    simp only [List.lookup, e'] at q
    exact t x f q
/-- o.m(a, ..) -/
def mMeth (m : Str) (alts : Alts) (o : EM) (a : EMs) : EM := fun e => (o e).bd fun x => match dPick m alts x with
  | some g => (a e).bd fun xs => g (x :: xs)
  | none => .bad
theorem lookup_zip_none {m : Str} : ∀ {ns : List Str} {vs : List V}, ¬ m ∈ ns → (ns.zip vs).lookup m = none
  | [], _, _ => by simp [List.lookup]
  | _ :: _, [], _ => by simp [List.lookup]
  | n :: ns, v :: vs, h => by
    rw [List.zip_cons_cons]
    have e : (m == n) = false := by
      have : ¬ m = n := fun z => h (z ▸ List.mem_cons_self)
      simpa using this
    simp only [List.lookup, e]
    exact lookup_zip_none fun z => h (List.mem_cons_of_mem _ z)
theorem dPick_obj {m : Str} {alts : Alts} {d : D} {g : List D → R D} (q : dPick m alts d = some g) : ∃ c ns ds, d = .obj c ns ds ∧ alts.lookup c = some g ∧ ¬ m ∈ ns := by
  cases d with
  | obj c ns ds =>
    simp only [dPick] at q
    by_cases hm : m ∈ ns
    · rw [if_pos hm] at q
      cases q
    · rw [if_neg hm] at q
      exact ⟨c, ns, ds, rfl, q, hm⟩
  | _ => cases q
section
variable {o a : Expr} {es : List Expr} {m : Str} {apos : Pos} {k n : Nat} {alts : Alts} {mo : EM} {ma : EMs}
theorem e_meth {pl : Sem Bool} (ho : DE X none W o mo) (hA : AltsOk X k m (n + 1) alts) (hr : Room k X.A) (tk : L2N.Takes X W) (ha : DA X none W (a :: es) ma) (hn : CntA n ma)
    (hst : starEach (a :: es) X.env = (false, eval a X.env) :: starEach es X.env := by rfl) (hpl : (backTo pos (starEach es X.env)).any (·.1) = false := by rfl)
    (ht : eval (.Call (.Attribute o m apos) (a :: es) [] pos) X.env = (do
      let ov ← eval o X.env
      standAt apos.atName
      let (f, first) ← holding [ov] (getMethod ov m pl)
      callWith pos f first (backTo pos (starEach (a :: es) X.env)) (backToKw pos (keywordEach [] X.env))) := by rfl) :
    DE X none W (.Call (.Attribute o m apos) (a :: es) [] pos) (mMeth m alts mo ma) := by
  refine ⟨fun pins s σ H Q I h => ?_⟩
  obtain ⟨S, e, r, q⟩ := h
  refine PySem.W.methodCall_KW (pl := pl) (thn (ho.run pins s σ H _ I ⟨S, e, r, Post.bd q⟩) fun u s1 hu => ?_) ht
  obtain ⟨x, H1, I1, rx, d, ed, e1, r1, q1⟩ := hu
  cases hp : dPick m alts d with
  | none =>
    simp only [hp] at q1
    exact (show False from q1).elim
  | some g =>
    simp only [hp] at q1
    obtain ⟨c, ns, ds, rfl, hg, hm⟩ := dPick_obj hp
    obtain ⟨ad, dx, fvs, rfl, h1, h2, h3, h4⟩ := id r1
    obtain rfl : u = Value.ref ad := rx
    have M := hA c g hg
    obtain ⟨⟨fd, ps, F1, b⟩, kp⟩ := M.fn
    refine getmeth_ok I1 h1 M.cl M.me (lookup_zip_none hm) ?_
    refine PySem.W.callWith_K (first := [.ref ad]) (h₀ := X.base) I1.ok.mod.kin M.me.kp (thn (ha.run pos pins s1 σ H1 _ I1 ⟨Fr S H, e, r.mono e1 fun _ => Fr.self, posts_len (hn e) (Posts.bd q1)⟩) fun us s2 hus => ?_) hst hpl
    obtain ⟨vs, H2, I2, rv, hl, xs, ex, e2, r2, q2⟩ := hus
    refine ⟨I2.kIn, run_fnS (E := WE W) (us := .ref ad :: us) (vs := .ref ad :: vs) F1 hr b (L2N.passAt tk σ) I2 (.cons rfl rv) ?_⟩
    exact ⟨_, D.obj c ns ds :: xs, by rw [List.length_cons, hl], Reps.cons (r1.mono e2 fun _ => Fr.self) r2, post_sp q2⟩
/-- o.m() -/
theorem e_meth0 {pl : Sem Bool} (ho : DE X none W o mo) (hA : AltsOk X k m 1 alts) (hr : Room k X.A) (tk : L2N.Takes X W)
    (ht : eval (.Call (.Attribute o m apos) [] [] pos) X.env = (do
      let ov ← eval o X.env
      standAt apos.atName
      let (f, first) ← holding [ov] (getMethod ov m pl)
      callWith pos f first (backTo pos (starEach [] X.env)) (backToKw pos (keywordEach [] X.env))) := by rfl) :
    DE X none W (.Call (.Attribute o m apos) [] [] pos) (mMeth m alts mo mNil) := by
  refine ⟨fun pins s σ H Q I h => ?_⟩
  obtain ⟨S, e, r, q⟩ := h
  refine PySem.W.methodCall_KW (pl := pl) (thn (ho.run pins s σ H _ I ⟨S, e, r, Post.bd q⟩) fun u s1 hu => ?_) ht
  obtain ⟨x, H1, I1, rx, d, ed, e1, r1, q1⟩ := hu
  cases hp : dPick m alts d with
  | none =>
    simp only [hp] at q1
    exact (show False from q1).elim
  | some g =>
    simp only [hp] at q1
    obtain ⟨c, ns, ds, rfl, hg, hm⟩ := dPick_obj hp
    obtain ⟨ad, dx, fvs, rfl, h1, h2, h3, h4⟩ := id r1
    obtain rfl : u = Value.ref ad := rx
    have M := hA c g hg
    obtain ⟨⟨fd, ps, F1, b⟩, kp⟩ := M.fn
    refine getmeth_ok I1 h1 M.cl M.me (lookup_zip_none hm) ?_
    refine PySem.W.callWith_K0 (first := [.ref ad]) I1.kIn M.me.kp (run_fnS (E := WE W) (us := [.ref ad]) (vs := [.ref ad]) F1 hr b (L2N.passAt tk σ) I1 (.cons rfl .nil) ?_)
    exact ⟨_, [D.obj c ns ds], rfl, Reps.one r1, post_sp (show Post X.K none W (Fr S H) σ H1 (g [D.obj c ns ds]) Q from q1)⟩
end
/-! ### properties -/
/-- a property of the class that c names; p where its record stands -/
structure PropP (X : Cx) (k : Nat) (c f : Str) (g : List D → R D) : Prop where
  cl : Cls X.K (He.ga X.K c)
  fn : ∃ p b, PropOf X.K (He.ga X.K c) f p b ∧ FnX X k b 1 g
def AltsP (X : Cx) (k : Nat) (f : Str) (alts : Alts) : Prop := ∀ c g, alts.lookup c = some g → PropP X k c f g
theorem altp_nil {k : Nat} {f : Str} : AltsP X k f [] := fun _ _ h => by cases h
theorem altp_cons {k : Nat} {f c : Str} {g : List D → R D} {alts : Alts} (h : PropP X k c f g) (t : AltsP X k f alts) : AltsP X k f ((c, g) :: alts) := fun x v q => by
  by_cases e : x = c
  · subst e
    simp only [List.lookup, beq_self_eq_true] at q
    injection q with q
    subst q
    exact h
  · have e' : (x == c) = false := by simpa using e
    simp only [List.lookup, e'] at q
    exact t x v q
/-- a worth that must not be an exception -/
def R.sure : R D → R D
  | .ok d => .ok d
  | _ => .bad
def dProp (alts : Alts) : D → R D
  | .obj c ns ds => (match alts.lookup c with
    | some g => (g [.obj c ns ds]).sure
    | none => .bad)
  | _ => .bad
theorem post_sure {K : PySem.W.Frag} {W : WX} {S : Addr → Prop} {σ : St} {H : Hp} {r : R D} {Q : VK} (h : Post K none W S σ H r.sure Q) : Post K none (fun _ _ _ _ => False) S [] H r Q := by
  cases r with
  | ok d => exact h
  | er c ns ds => exact (show False from h).elim
  | bad => exact h
theorem e_prop {e : Expr} {f : Str} {k : Nat} {alts : Alts} {m : EM} (he : DE X none W e m) (hA : AltsP X k f alts) (hr : Room (k + 1) X.A) (hb : attributeBase e f X.env (eval e X.env) = eval e X.env := by rfl) : DE X none W (.Attribute e f pos) (m1 (dProp alts) m) := by
  refine ⟨fun pins s σ H Q I h => ?_⟩
  obtain ⟨S, en, r, q⟩ := h
  refine attr_of hb (thn (he.run pins s σ H _ I ⟨S, en, r, Post.bd q⟩) fun u s1 hu => ?_)
  obtain ⟨x, H1, I1, rx, d, ed, e1, r1, q1⟩ := hu
  cases d with
  | obj c ns ds =>
    simp only [dProp] at q1
    cases ha : alts.lookup c with
    | none =>
      rw [ha] at q1
      exact (show False from q1).elim
    | some g =>
      rw [ha] at q1
      have M := hA c g ha
      obtain ⟨p, b, P1, ⟨⟨fd, ps, F1, bd⟩, kp⟩⟩ := M.fn
      obtain ⟨a, dx, fvs, rfl, h1, h2, h3, h4⟩ := id r1
      obtain rfl : u = Value.ref a := rx
      refine getprop_ok (dvs := []) (ds := []) I1 h1 M.cl P1 F1 hr bd .nil passN ⟨Fr S H, [D.obj c ns ds], rfl, Reps.one r1, ?_⟩
      exact post_sure (r := g [D.obj c ns ds]) q1
  | _ => exact (show False from q1).elim
/-! ### static methods -/
/-- C.m is a static method: its record at p, its def at g -/
structure CSta (K : PySem.W.Frag) (C : Addr) (mc : Value) (m : Str) (p g : Addr) : Prop where
  rd : PySem.W.readsIn K C mc = true
  ga : PySem.W.specialIn K (.ref C) "__getattribute__" = some (some (.builtin "type.__getattribute__"))
  at_ : PySem.W.findCls K (.ref C) mc m = some (.get (.builtin "staticmethod.__get__") (.ref p) .none (.ref C))
  rc : ∃ rest, PySem.W.recIn K p "staticmethod" = some (.ref g :: rest)
/-- the static method m of the class that c names -/
structure StatP (X : Cx) (k : Nat) (c m : Str) (n : Nat) (g : List D → R D) : Prop where
  fn : ∃ mc p b, CSta X.K (He.ga X.K c) mc m p b ∧ FnX X k b n g
theorem e_stat {pl : Sem Bool} {c m : Str} {cp apos : Pos} {a : Expr} {es : List Expr} {k n : Nat} {g : List D → R D} {ma : EMs} (M : StatP X k c m n g) (hr : Room k X.A) (tk : L2N.Takes X W) (hg : Gl X c) (hm : X.mg c = some (.ref (He.ga X.K c))) (ha : DA X none W (a :: es) ma) (hn : CntA n ma)
    (hdb : (c == ("__debug__" : Str)) = false := by decide)
    (hst : starEach (a :: es) X.env = (false, eval a X.env) :: starEach es X.env := by rfl) (hpl : (backTo pos (starEach es X.env)).any (·.1) = false := by rfl)
    (ht : eval (.Call (.Attribute (.Name c cp) m apos) (a :: es) [] pos) X.env = (do
      let ov ← eval (.Name c cp) X.env
      standAt apos.atName
      let (f, first) ← holding [ov] (getMethod ov m pl)
      callWith pos f first (backTo pos (starEach (a :: es) X.env)) (backToKw pos (keywordEach [] X.env))) := by rfl) :
    DE X none W (.Call (.Attribute (.Name c cp) m apos) (a :: es) [] pos) (mA g ma) := by
  refine ⟨fun pins s σ H Q I h => ?_⟩
  obtain ⟨S, e, r, q⟩ := h
  obtain ⟨mc, p, b, C1, ⟨⟨fd, ps, F1, bd⟩, kp⟩⟩ := M.fn
  obtain ⟨rest, rc⟩ := C1.rc
  refine PySem.W.methodCall_KW (pl := pl) (ld_glob I hg hm ?_ hdb) ht
  refine PySem.W.method_cls I.kIn C1.ga (PySem.W.cls_bind I.kIn C1.rd C1.at_ ?_)
  refine wpAny_call (PySem.W.sm_get (s := { s with toks := s.toks + 1 }) I.kIn rc (PySem.W.handed_on rfl ?_))
  have I1 : Inv X pins σ H { s with toks := s.toks + 1 } := I.tok _
  refine PySem.W.callWith_K (first := []) (h₀ := X.base) I1.ok.mod.kin kp (thn (ha.run pos pins _ σ H _ I1 ⟨S, e, r, posts_len (hn e) (Posts.bd q)⟩) fun us s2 hus => ?_) hst hpl
  obtain ⟨vs, H2, I2, rv, hl, xs, ex, e2, r2, q2⟩ := hus
  exact ⟨I2.kIn, run_fnS (E := WE W) F1 hr bd (L2N.passAt tk σ) I2 rv ⟨_, xs, hl, r2, post_sp q2⟩⟩
/-! ### a if t else b; and, or as tests and as values -/
def mIf (t : EnvD → R Bool) (a b : EM) : EM := fun e => (t e).bd fun x => if x = true then a e else b e
theorem e_if {t a b : Expr} {mt : EnvD → R Bool} {ma mb : EM} (ht : DT X px W t mt) (ha : DE X px W a ma) (hb : DE X px W b mb) : DE X px W (.IfExp t a b pos) (mIf mt ma mb) := by
  refine PE.imp (pe_ifExp ht ha hb) fun σ H Q h => ?_
  obtain ⟨S, e, r, q⟩ := h
  refine ⟨S, e, r, (PostB.bd q).imp fun x H1 ⟨_, e1, q1⟩ => ?_⟩
  cases x with
  | true => exact iteT ⟨Fr S H, e, r.mono e1 fun _ => Fr.self, q1⟩
  | false => exact iteF ⟨Fr S H, e, r.mono e1 fun _ => Fr.self, q1⟩
abbrev DW (X : Cx) (px : Px) (W : WX) (e : Expr) (m : EnvD → R Bool) : Prop := PW X e (tDB X.K px W m)
theorem PW.imp {X : Cx} {e : Expr} {t t' : TT} (h : PW X e t) (i : ∀ σ H Q, t' σ H Q → t σ H Q) : PW X e t' := ⟨fun wh pins s σ H Q I q => h.run wh pins s σ H Q I (i σ H Q q)⟩
theorem w_and1 {a : Expr} {m : EnvD → R Bool} (h : DT X px W a m) : DW X px W (.BoolOp .And [a] pos) m := pw_and1 h
theorem w_or1 {a : Expr} {m : EnvD → R Bool} (h : DT X px W a m) : DW X px W (.BoolOp .Or [a] pos) m := pw_or1 h
theorem w_and {a b : Expr} {rest : List Expr} {ma mb : EnvD → R Bool} (ha : DT X px W a ma) (hb : DW X px W (.BoolOp .And (b :: rest) pos) mb) : DW X px W (.BoolOp .And (a :: b :: rest) pos) (mAnd ma mb) := by
  refine PW.imp (pw_and ha hb) fun σ H Q h => ?_
  obtain ⟨S, e, r, q⟩ := h
  refine ⟨S, e, r, (PostB.bdB q).imp fun x H1 ⟨_, e1, q1⟩ => ?_⟩
  cases x with
  | true => exact iteT ⟨Fr S H, e, r.mono e1 fun _ => Fr.self, q1⟩
  | false => exact iteF (q1 _ (Same.refl _))
theorem w_or {a b : Expr} {rest : List Expr} {ma mb : EnvD → R Bool} (ha : DT X px W a ma) (hb : DW X px W (.BoolOp .Or (b :: rest) pos) mb) : DW X px W (.BoolOp .Or (a :: b :: rest) pos) (mOr ma mb) := by
  refine PW.imp (pw_or ha hb) fun σ H Q h => ?_
  obtain ⟨S, e, r, q⟩ := h
  refine ⟨S, e, r, (PostB.bdB q).imp fun x H1 ⟨_, e1, q1⟩ => ?_⟩
  cases x with
  | true => exact iteT (q1 _ (Same.refl _))
  | false => exact iteF ⟨Fr S H, e, r.mono e1 fun _ => Fr.self, q1⟩
theorem t_w {e : Expr} {m : EnvD → R Bool} (h : DW X px W e m) : DT X px W e m := h.pt
end DL

end
section
set_option Elab.async false
set_option linter.all false
set_option maxRecDepth 100000
namespace DL
open PySem PySem.Spec L2
open PyProof.Rows hiding St

/-! ### enumerate over a tuple -/
section
open PySem.W
set_option maxHeartbeats 1000000 in
theorem enumNew1 {v : Value} {o : Obj} {G : Heap → Prop} (B : Begins v o G) :
    Meets (Builtin.«enumerate.__new__» ⟨[.type "enumerate", v], []⟩) (fun _ R s => G s.heap ∧
      R (.ok (.ret (.ref (s.heap.push o).objs.size))) { s with heap := (s.heap.push o).push { cls := .type "enumerate", data := .fields #[.none, .bool false, .ref s.heap.objs.size, rawInt 0, .none, .none] } }) :=
  .of_wp fun prog w A R s hs => by
    obtain ⟨hp, gs, dr, tk, os⟩ := s
    obtain ⟨g1, hs⟩ := hs
    have hsub := sub_enumerate
    have q1 : ∀ {A2 : Around} {E : Value → Shared → Prop} {Q : Value → Shared → Prop}, Q (.ref hp.objs.size) ⟨hp.push o, gs, dr, tk, os⟩ →
        wpAny (model prog w) A2 (pyIter v) Q E ⟨hp, gs, dr, tk, os⟩ := fun q => B.iter prog w _ _ ⟨hp, gs, dr, tk, os⟩ _ g1 q
    wp_walk using q1
    refine wpAny_stack_any fun stk => wpAny_pure ?_
    split
    · rename_i cc _ _ _ _ _
      cases (cc == Value.type "enumerate")
      · wp_walk using q1
        exact ⟨_, rfl, hs⟩
      · wp_walk using q1
        exact ⟨_, rfl, hs⟩
    · wp_walk using q1
      exact ⟨_, rfl, hs⟩
theorem enumCall1 {prog : Program} {w : World} {A : Around} {E : Value → Shared → Prop} {s : Shared} {v : Value} {o : Obj} {G : Heap → Prop} {Q : Value → Shared → Prop} (B : Begins v o G) (g1 : G s.heap)
    (h : ∀ h', IsEnum h' (s.heap.objs.size + 1) s.heap.objs.size 0 .none → h'.get? s.heap.objs.size = some o →
      (∀ b o, s.heap.get? b = some o → h'.get? b = some o) → Q (.ref (s.heap.objs.size + 1)) { s with heap := h' }) :
    wpAny (model prog w) A (call (.type "enumerate") [v]) Q E s := by
  refine callType_new PySem.F.called_enumerate (by decide) (PySem.F.typeCall_enumerate_1 _) (PySem.F.newCall_enumerate_1 _) (fun ob => PySem.F.args_object_init_2 ob _)
    PySem.F.entry_enumerate_new (enumNew1 B) ⟨g1, ?_⟩
  have hz : (s.heap.push o).objs.size = s.heap.objs.size + 1 := Heap.size_push ..
  show _ ∧ _
  rw [hz]
  have he : IsEnum ((s.heap.push o).push { cls := .type "enumerate", data := .fields #[.none, .bool false, .ref s.heap.objs.size, rawInt 0, .none, .none] })
      (s.heap.objs.size + 1) s.heap.objs.size 0 .none := by
    have z := Heap.get?_push_size (s.heap.push o) (o := { cls := .type "enumerate", data := .fields #[.none, .bool false, .ref s.heap.objs.size, rawInt 0, .none, .none] }) rfl
    rw [hz] at z
    exact z
  exact ⟨⟨_, he, rfl⟩, h _ he (Heap.get?_push_of_some _ (Heap.get?_push_size _ B.free)) fun b u x => Heap.get?_push_of_some _ (Heap.get?_push_of_some _ x)⟩
end
/-- the tuple at a, each item in a new pair -/
def ItE (K : PySem.W.Frag) (a : Addr) : It :=
  ⟨fun i H => ∃ (xs : List V) (x : V), SqT K H a xs ∧ xs[i]? = some x,
    fun i H v H' => ∃ T x, v = .ref T ∧ H T = none ∧ H' = upd H T (.tup [.int (i : Nat), x]) ∧ ∀ xs, SqT K H a xs → xs[i]? = some x,
    fun i H => ∃ xs : List V, SqT K H a xs ∧ xs.length ≤ i⟩
theorem tup_ne_it {h : Heap} {t it : Addr} {i : Nat} {items : Array Value} (p : h.IsTuple t items) (q : h.IsTupleIter it t i) : t ≠ it := fun z => by
  obtain ⟨o, h1, h2, _⟩ := p
  obtain ⟨o2, k1, k2, _⟩ := q
  rw [z, k1] at h1
  cases h1
  rw [h2] at k2
  exact absurd k2 (by decide)
theorem tup_ne_en {h : Heap} {t e it : Addr} {i : Int} {old : Value} {items : Array Value} (p : h.IsTuple t items) (q : IsEnum h e it i old) : e ≠ t := fun z => by
  obtain ⟨o, h1, h2, _⟩ := p
  have q : h.get? e = some _ := q
  rw [z, h1] at q
  cases q
  exact absurd h2 (by simp)
theorem turn_enumT {P : Program} {w : World} {K : PySem.W.Frag} {elts : List Expr} {kk : Nat} {tpos : Pos} (a e it : Addr) :
    Turn P w K (.Tuple elts kk tpos) (ItE K a) [e, it] e (fun i h => (∃ old, IsEnum h e it ((i : Nat) : Int) old) ∧ h.IsTupleIter it a i ∧ e ≠ it) where
  mem := by simp
  obj := fun i h st b hb => by
    obtain ⟨⟨old, he⟩, ⟨o, ho, hc, hd⟩, _⟩ := st
    have z : b = e ∨ b = it := by simpa using hb
    rcases z with z | z
    · subst z
      exact ⟨_, he, fun v q => nomatch q⟩
    · subst z
      exact ⟨o, ho, fun v q => by rw [hd] at q; cases q⟩
  keep := fun i h h' st k => by
    obtain ⟨⟨old, he⟩, hi, hne⟩ := st
    exact ⟨⟨old, k e (by simp) _ he⟩, hi.at fun o q => k it (by simp) o q, hne⟩
  item := by
    intro X hP hw hK hc i pins s σ H E I hf st hg
    subst hP hw hK
    obtain ⟨⟨old, he⟩, hit, hne⟩ := st
    obtain ⟨xs, x, hq, hx⟩ := hg
    obtain ⟨its, rv, p, hz⟩ := I.tuple hq
    obtain ⟨u, hu, ru⟩ := rv.get hx
    have hel : e < s.heap.objs.size := Heap.lt_size he
    have hil : it < s.heap.objs.size := by
      obtain ⟨_, q, _⟩ := hit
      exact Heap.lt_size q
    have pt : s.heap.IsTuple a its.toArray := p
    have ha := tup_ne_it pt hit
    have hb := tup_ne_en pt he
    have hlt : i < its.toArray.size := by
      rw [List.size_toArray]
      exact (List.getElem?_eq_some_iff.mp hu).1
    refine wpAny_pyNext_enum_itemD (Draws.tuple (A := X.A.in1) (show X.A.in1.handled = none from I.ok.hd hc) it a ha its.toArray) he ⟨hit, pt⟩ hlt hne (by simp [hne, hb]) fun y h' tk hy ho hst hT hsz hk => ?_
    have hyu : y = u := by
      have z : its.toArray[i]? = some u := by simpa using hu
      rw [z] at hy
      exact (Option.some.inj hy).symm
    subst hyu
    refine ⟨_, rfl, wpAny_letOwnedTupleGo_enum (s := { s with heap := h', toks := tk + 1 }) ho fun h2 he2 sb => ?_⟩
    have hT2 : h2.get? s.heap.objs.size = some { cls := .type "tuple", data := .seq #[.int i tk, y] } := (sb.2 _ (Nat.ne_of_gt hel)).trans hT
    have new : ObjOk X.prog X.w (upd H s.heap.objs.size (.tup [.int (i : Nat), x])) h2 s.heap.objs.size (.tup [.int (i : Nat), x]) :=
      ⟨by show 2 ≤ sizeLine; decide, [.int i tk, y], .cons ⟨_, rfl⟩ (.cons ru .nil), ⟨_, hT2, rfl, _, rfl⟩⟩
    have I1 : Inv X pins σ (upd H s.heap.objs.size (.tup [.int (i : Nat), x])) { s with heap := h2, toks := tk + 1 } :=
      I.turnedNew (ch := [e, it]) (fun b ob hn q => (sb.2 b (fun z => hn (by simp [z]))).trans (hk b ob (fun z => hn (by simp [z])) (fun z => hn (by simp [z])) q)) hf (Nat.le_refl _) new
    refine ⟨.ref s.heap.objs.size, _, I1, rfl, ⟨_, x, rfl, I.hok.fresh (Nat.le_refl _), rfl, fun ys hy => by rw [I.tuple_inj hy hq]; exact hx⟩,
      ⟨⟨y, ?_⟩, hst.1.at fun o q => (sb.2 it (Ne.symm hne)).trans q, hne⟩, fun b hb => ?_⟩
    · have z : ((i + 1 : Nat) : Int) = (i : Int) + 1 := by omega
      rw [z]
      exact he2
    · have z : b < s.heap.objs.size := by
        have z : b = e ∨ b = it := by simpa using hb
        rcases z with z | z
        · rw [z]
          exact hel
        · rw [z]
          exact hil
      rw [upd_ne (Nat.ne_of_lt z)]
      exact (hf b hb).1
  done := by
    intro X hP hw hK hc i pins s σ H E I hf st hg
    subst hP hw hK
    obtain ⟨⟨old, he⟩, hit, hne⟩ := st
    obtain ⟨xs, hq, hx⟩ := hg
    obtain ⟨its, rv, p, hz⟩ := I.tuple hq
    obtain ⟨f0, f1, f2, f3, f4, f5⟩ := hf it (by simp)
    have hl := rv.length
    have pt : s.heap.IsTuple a its.toArray := p
    unfold pyNext
    have hT : s.TypeIs (.ref e) "enumerate" := ⟨_, he, rfl⟩
    refine wpAny_bind (wpAny_attempt (wpAny_callSpecial?_slot (name := Str.ofString "__next__") hT PySem.F.slot_enumerate_next
      (wpAny_call_entry PySem.F.slot_enumerate_next hT PySem.F.entry_enumerate_next ?_ (PySem.F.args_enumerate_next_1 _))))
    show wpAny _ _ (field (.ref e) 2 >>= _) _ _ _
    refine wpAny_bind (wpAny_field he rfl (x := .ref it) rfl ?_)
    refine wpAny_bind (wpAny_nextOf_tuple_end (I.ok.hd hc) hit pt (by simp; omega) fun h' y he' hx' => ?_)
    obtain ⟨o, ho, hcl⟩ := hx'
    refine wpAny_bind (wpAny_isInstance (T := "StopIteration") (b := true) ⟨o, ho, hcl⟩ isSubtype_stop ?_)
    exact wpAny_pure ⟨rfl, I.turned (t' := s.toks) (fun b o hb q => he' b o hb q) f0 f1 f3 f4 f5⟩
  self := fun A i s Q E st h => by
    obtain ⟨⟨_, he⟩, _⟩ := st
    exact wpAny_pyIter_enum he h
end DL

end
section
set_option Elab.async false
set_option linter.all false
set_option maxRecDepth 100000
namespace DL
open PySem PySem.Spec L2
open PyProof.Rows hiding St

/-! ### what a for, a comprehension walks -/
/-- J gives these items, while the sources stand -/
structure ItOk (K : PySem.W.Frag) (px : Px) (J : It) (items : List D) (sd : List D) (sv : List V) : Prop where
  stop : ∀ S i H, Reps K px S H sd sv → items.length ≤ i → J.stop i H
  go : ∀ S i H, Reps K px S H sd sv → i < items.length → J.go i H
  yld : ∀ S i H d, Reps K px S H sd sv → items[i]? = some d → ∀ x H', J.yld i H x H' → Same H H' ∧ Rep K px (Fr S H) H' d x
def PostI (K : PySem.W.Frag) (px : Px) (W : WX) (S : Addr → Prop) (σ : St) (H : Hp) (r : R (List D)) (Q : It → Hp → Prop) : Prop := match r with
  | .ok items => ∀ J H' sd sv, Same H H' → Reps K px (Fr S H) H' sd sv → ItOk K px J items sd sv → Q J H'
  | .er c ns ds => ∀ dd H', Same H H' → ExF K px (Fr S H) H' ns ds dd → W (.ref (He.ga K c)) dd σ H'
  | .bad => False
def tDI (K : PySem.W.Frag) (px : Px) (W : WX) (m : EnvD → R (List D)) : TI := fun σ H R => ∃ S e, RepV K px S H σ e ∧ PostI K px W S σ H (m e) R
abbrev DI (X : Cx) (px : Px) (W : WX) (tg iter : Expr) (m : EnvD → R (List D)) : Prop := PI X tg iter (tDI X.K px W m)
theorem PI.imp {X : Cx} {tg e : Expr} {t t' : TI} (h : PI X tg e t) (i : ∀ σ H Q, t' σ H Q → t σ H Q) : PI X tg e t' := ⟨fun pins s σ H Q I q => h.run pins s σ H Q I (i σ H Q q)⟩
section
variable {K : PySem.W.Frag} {px : Px} {W : WX} {S : Addr → Prop} {σ : St} {H : Hp}
theorem PostI.later {H' : Hp} {r : R (List D)} {Q : It → Hp → Prop} (e : Same H H') (h : PostI K px W S σ H r Q) : PostI K px W (Fr S H) σ H' r Q := by
  cases r with
  | ok items =>
    exact fun J H2 sd sv e2 r ok => h J H2 sd sv (e.trans e2) (Reps.mono (Same.refl _) (fun a => Fr.back e) _ _ r) ok
  | er c ns ds => exact fun dd H2 e2 r => h dd H2 (e.trans e2) (r.mono (Same.refl _) fun a => Fr.back e)
  | bad => exact h
theorem Post.bdI {r : R D} {f : D → R (List D)} {Q : It → Hp → Prop} (h : PostI K px W S σ H (r.bd f) Q) : Post K px W S σ H r fun v H' => ∃ d, r = .ok d ∧ Same H H' ∧ Rep K px (Fr S H) H' d v ∧ PostI K px W (Fr S H) σ H' (f d) Q := by
  cases r with
  | ok d => exact fun v H2 e2 r => ⟨d, rfl, e2, r, PostI.later e2 h⟩
  | er c ns ds => exact h
  | bad => exact h
theorem Posts.bdI {r : R (List D)} {f : List D → R (List D)} {Q : It → Hp → Prop} (h : PostI K px W S σ H (r.bd f) Q) : Posts K px W S σ H r fun v H' => ∃ d, r = .ok d ∧ Same H H' ∧ Reps K px (Fr S H) H' d v ∧ PostI K px W (Fr S H) σ H' (f d) Q := by
  cases r with
  | ok d => exact fun v H2 e2 r => ⟨d, rfl, e2, r, PostI.later e2 h⟩
  | er c ns ds => exact h
  | bad => exact h
end

/-- what a thing walked gives -/
def dItems : D → R (List D)
  | .tup ds => .ok ds
  | .lst ds => .ok ds
  | .scr ns => .ok (ns.map .int)
  | .str z => .ok (z.cps.toList.map fun c => .str ⟨#[c]⟩)
  | _ => .bad
section
variable {K : PySem.W.Frag} {px : Px} {S : Addr → Prop} {H : Hp}
theorem tup_of {ds : List D} {a : Addr} (r : Rep K px S H (.tup ds) (.ref a)) : ∃ vs, SqT K H a vs ∧ vs.length ≤ sizeLine ∧ Reps K px S H ds vs := by
  obtain ⟨b, vs, e, h⟩ := r
  cases e
  exact ⟨vs, h⟩
theorem lst_of {ds : List D} {a : Addr} (r : Rep K px S H (.lst ds) (.ref a)) : ∃ vs, H a = some (.lst vs) ∧ S a ∧ vs.length ≤ sizeLine ∧ Reps K px S H ds vs := by
  obtain ⟨b, vs, e, h⟩ := r
  cases e
  exact ⟨vs, h⟩
theorem scr_of {ns : List Int} {a : Addr} (r : Rep K px S H (.scr ns) (.ref a)) : SqL K H a (ns.map V.int) := by
  obtain ⟨b, e, h⟩ := r
  cases e
  exact scr_seq h
theorem reps1 {d : D} {v : V} (r : Reps K px S H [d] [v]) : Rep K px S H d v := by
  obtain ⟨u, w, e, h, _⟩ := r
  cases e
  exact h
theorem reps2 {d e : D} {v u : V} (r : Reps K px S H [d, e] [v, u]) : Rep K px S H d v ∧ Rep K px S H e u := by
  obtain ⟨x, w, e1, h1, y, z, e2, h2, _⟩ := r
  cases e1
  cases e2
  exact ⟨h1, h2⟩
theorem get_lt {α : Type} {l : List α} {i : Nat} (h : i < l.length) : ∃ x, l[i]? = some x := ⟨l[i], by simp [h]⟩
theorem itok_tup {ds : List D} {a : Addr} : ItOk K px (Itt K a) ds [.tup ds] [.ref a] where
  stop := fun S i H r h => by
    obtain ⟨vs, h1, h2, h3⟩ := tup_of (reps1 r)
    exact ⟨vs, h1, by rw [← h3.length]; exact h⟩
  go := fun S i H r h => by
    obtain ⟨vs, h1, h2, h3⟩ := tup_of (reps1 r)
    rw [h3.length] at h
    obtain ⟨x, e⟩ := get_lt h
    exact ⟨vs, x, h1, e⟩
  yld := fun S i H d r hd x H' y => by
    obtain ⟨vs, h1, h2, h3⟩ := tup_of (reps1 r)
    obtain ⟨rfl, q⟩ := y
    obtain ⟨v, e, r2⟩ := h3.get hd
    have e2 := q vs h1
    rw [e] at e2
    cases e2
    exact ⟨Same.refl _, r2.mono (Same.refl _) fun _ => Fr.self⟩
theorem itok_lst {ds : List D} {a : Addr} : ItOk K px (Itl K a) ds [.lst ds] [.ref a] where
  stop := fun S i H r h => by
    obtain ⟨vs, h1, _, h2, h3⟩ := lst_of (reps1 r)
    exact ⟨vs, SqL.of h1, by rw [← h3.length]; exact h⟩
  go := fun S i H r h => by
    obtain ⟨vs, h1, _, h2, h3⟩ := lst_of (reps1 r)
    rw [h3.length] at h
    obtain ⟨x, e⟩ := get_lt h
    exact ⟨vs, x, SqL.of h1, e⟩
  yld := fun S i H d r hd x H' y => by
    obtain ⟨vs, h1, _, h2, h3⟩ := lst_of (reps1 r)
    obtain ⟨rfl, q⟩ := y
    obtain ⟨v, e, r2⟩ := h3.get hd
    have e2 := q vs (SqL.of h1)
    rw [e] at e2
    cases e2
    exact ⟨Same.refl _, r2.mono (Same.refl _) fun _ => Fr.self⟩
theorem itok_scr {ns : List Int} {a : Addr} : ItOk K px (Itl K a) (ns.map .int) [.scr ns] [.ref a] where
  stop := fun S i H r h => ⟨_, scr_of (reps1 r), by rw [List.length_map] at h ⊢; exact h⟩
  go := fun S i H r h => by
    rw [List.length_map] at h
    obtain ⟨x, e⟩ := get_lt h
    exact ⟨_, .int x, scr_of (reps1 r), by rw [List.getElem?_map, e] <;> rfl⟩
  yld := fun S i H d r hd x H' y => by
    obtain ⟨rfl, q⟩ := y
    have e2 := q _ (scr_of (reps1 r))
    rw [List.getElem?_map] at e2 hd
    cases hn : ns[i]? with
    | none =>
      rw [hn] at hd
      cases hd
    | some n =>
      rw [hn] at hd e2
      cases hd
      cases e2
      exact ⟨Same.refl _, rfl⟩
theorem itok_str {z : Str} : ItOk K px (Its z) (z.cps.toList.map fun c => .str ⟨#[c]⟩) [] [] where
  stop := fun S i H r h => by
    rw [List.length_map, Array.length_toList] at h
    exact h
  go := fun S i H r h => by
    rw [List.length_map, Array.length_toList] at h
    exact h
  yld := fun S i H d r hd x H' y => by
    rw [List.getElem?_map, Array.getElem?_toList] at hd
    obtain ⟨rfl, c, hc, rfl⟩ := y
    rw [hc] at hd
    cases hd
    exact ⟨Same.refl _, rfl⟩
theorem itok_enumT {ds : List D} {a : Addr} : ItOk K px (ItE K a) (ds.zipIdx.map fun p => .tup [.int (p.2 : Nat), p.1]) [.tup ds] [.ref a] where
  stop := fun S i H r h => by
    obtain ⟨vs, h1, h2, h3⟩ := tup_of (reps1 r)
    rw [List.length_map, List.length_zipIdx] at h
    exact ⟨vs, h1, by rw [← h3.length]; exact h⟩
  go := fun S i H r h => by
    obtain ⟨vs, h1, h2, h3⟩ := tup_of (reps1 r)
    rw [List.length_map, List.length_zipIdx, h3.length] at h
    obtain ⟨x, e⟩ := get_lt h
    exact ⟨vs, x, h1, e⟩
  yld := fun S i H d r hd v H' y => by
    obtain ⟨vs, h1, h2, h3⟩ := tup_of (reps1 r)
    obtain ⟨T, x, rfl, hT, rfl, q⟩ := y
    rw [List.getElem?_map, List.getElem?_zipIdx] at hd
    cases hn : ds[i]? with
    | none =>
      rw [hn] at hd
      cases hd
    | some n =>
      rw [hn] at hd
      simp only [Option.map_some, Nat.zero_add, Option.some.injEq] at hd
      subst hd
      obtain ⟨u, e, r2⟩ := h3.get hn
      have e2 := q vs h1
      rw [e] at e2
      cases e2
      exact ⟨Same.new hT, rep_tup hT (show 2 ≤ sizeLine by decide) (Reps.cons rep_int (Reps.one r2))⟩
theorem itok_enumL {ds : List D} {a : Addr} : ItOk K px (Ite K a) (ds.zipIdx.map fun p => .tup [.int (p.2 : Nat), p.1]) [.lst ds] [.ref a] where
  stop := fun S i H r h => by
    obtain ⟨vs, h1, _, h2, h3⟩ := lst_of (reps1 r)
    rw [List.length_map, List.length_zipIdx] at h
    exact ⟨vs, SqL.of h1, by rw [← h3.length]; exact h⟩
  go := fun S i H r h => by
    obtain ⟨vs, h1, _, h2, h3⟩ := lst_of (reps1 r)
    rw [List.length_map, List.length_zipIdx, h3.length] at h
    obtain ⟨x, e⟩ := get_lt h
    exact ⟨vs, x, SqL.of h1, e⟩
  yld := fun S i H d r hd v H' y => by
    obtain ⟨vs, h1, _, h2, h3⟩ := lst_of (reps1 r)
    obtain ⟨T, x, rfl, hT, rfl, q⟩ := y
    rw [List.getElem?_map, List.getElem?_zipIdx] at hd
    cases hn : ds[i]? with
    | none =>
      rw [hn] at hd
      cases hd
    | some n =>
      rw [hn] at hd
      simp only [Option.map_some, Nat.zero_add, Option.some.injEq] at hd
      subst hd
      obtain ⟨u, e, r2⟩ := h3.get hn
      have e2 := q vs (SqL.of h1)
      rw [e] at e2
      cases e2
      exact ⟨Same.new hT, rep_tup hT (show 2 ≤ sizeLine by decide) (Reps.cons rep_int (Reps.one r2))⟩
theorem itok_rng {lo : Int} {n : Nat} : ItOk K px (Itr lo n) ((List.range n).map fun i => .int (lo + (i : Nat))) [] [] where
  stop := fun S i H r h => by
    rw [List.length_map, List.length_range] at h
    exact h
  go := fun S i H r h => by
    rw [List.length_map, List.length_range] at h
    exact h
  yld := fun S i H d r hd x H' y => by
    obtain ⟨rfl, rfl⟩ := y
    rw [List.getElem?_map] at hd
    cases hn : (List.range n)[i]? with
    | none =>
      rw [hn] at hd
      cases hd
    | some j =>
      rw [hn] at hd
      cases hd
      obtain ⟨h1, h2⟩ := List.getElem?_eq_some_iff.mp hn
      rw [List.getElem_range] at h2
      subst h2
      exact ⟨Same.refl _, rfl⟩
/-- pairs, as far as both go -/
def zipD : List D → List D → List D
  | a :: as, b :: bs => .tup [a, b] :: zipD as bs
  | _, _ => []
theorem zipD_len : ∀ {as bs : List D}, (zipD as bs).length = min as.length bs.length
  | [], _ => by simp [zipD]
  | _ :: _, [] => by simp [zipD]
  | a :: as, b :: bs => by
    rw [zipD, List.length_cons, List.length_cons, List.length_cons, zipD_len]
    omega
theorem zipD_get : ∀ {as bs : List D} {i : Nat} {d : D}, (zipD as bs)[i]? = some d → ∃ a b, as[i]? = some a ∧ bs[i]? = some b ∧ d = .tup [a, b]
  | [], _, _, _, h => by simp [zipD] at h
  | _ :: _, [], _, _, h => by simp [zipD] at h
  | a :: as, b :: bs, 0, d, h => by
    simp [zipD] at h
    exact ⟨a, b, rfl, rfl, h.symm⟩
  | a :: as, b :: bs, i + 1, d, h => by
    have h : (zipD as bs)[i]? = some d := by simpa [zipD] using h
    obtain ⟨x, y, h1, h2, h3⟩ := zipD_get h
    exact ⟨x, y, by simpa using h1, by simpa using h2, h3⟩
theorem itok_zipT {ds es : List D} {a b : Addr} : ItOk K px (RZ.ItzT K a b) (zipD ds es) [.tup ds, .tup es] [.ref a, .ref b] where
  stop := fun S i H r h => by
    obtain ⟨r1, r2⟩ := reps2 r
    obtain ⟨vs, h1, h2, h3⟩ := tup_of r1
    obtain ⟨ws, k1, k2, k3⟩ := tup_of r2
    rw [zipD_len, h3.length, k3.length] at h
    exact ⟨vs, ws, h1, k1, by omega⟩
  go := fun S i H r h => by
    obtain ⟨r1, r2⟩ := reps2 r
    obtain ⟨vs, h1, h2, h3⟩ := tup_of r1
    obtain ⟨ws, k1, k2, k3⟩ := tup_of r2
    rw [zipD_len, h3.length, k3.length] at h
    obtain ⟨x, ex⟩ := get_lt (l := vs) (i := i) (by omega)
    obtain ⟨y, ey⟩ := get_lt (l := ws) (i := i) (by omega)
    exact ⟨vs, ws, x, y, h1, k1, ex, ey⟩
  yld := fun S i H d r hd v H' y => by
    obtain ⟨r1, r2⟩ := reps2 r
    obtain ⟨vs, h1, h2, h3⟩ := tup_of r1
    obtain ⟨ws, k1, k2, k3⟩ := tup_of r2
    obtain ⟨T, x, z, rfl, hT, rfl, q1, q2⟩ := y
    obtain ⟨da, db, e1, e2, rfl⟩ := zipD_get hd
    obtain ⟨u, f1, g1⟩ := h3.get e1
    obtain ⟨w, f2, g2⟩ := k3.get e2
    have e3 := q1 vs h1
    rw [f1] at e3
    cases e3
    have e4 := q2 ws k1
    rw [f2] at e4
    cases e4
    exact ⟨Same.new hT, rep_tup hT (show 2 ≤ sizeLine by decide) (Reps.cons g1 (Reps.one g2))⟩
theorem itok_zipL {ds es : List D} {a b : Addr} : ItOk K px (Itz K a b) (zipD ds es) [.lst ds, .lst es] [.ref a, .ref b] where
  stop := fun S i H r h => by
    obtain ⟨r1, r2⟩ := reps2 r
    obtain ⟨vs, h1, _, h2, h3⟩ := lst_of r1
    obtain ⟨ws, k1, _, k2, k3⟩ := lst_of r2
    rw [zipD_len, h3.length, k3.length] at h
    exact ⟨vs, ws, SqL.of h1, SqL.of k1, by omega⟩
  go := fun S i H r h => by
    obtain ⟨r1, r2⟩ := reps2 r
    obtain ⟨vs, h1, _, h2, h3⟩ := lst_of r1
    obtain ⟨ws, k1, _, k2, k3⟩ := lst_of r2
    rw [zipD_len, h3.length, k3.length] at h
    obtain ⟨x, ex⟩ := get_lt (l := vs) (i := i) (by omega)
    obtain ⟨y, ey⟩ := get_lt (l := ws) (i := i) (by omega)
    exact ⟨vs, ws, x, y, SqL.of h1, SqL.of k1, ex, ey⟩
  yld := fun S i H d r hd v H' y => by
    obtain ⟨r1, r2⟩ := reps2 r
    obtain ⟨vs, h1, _, h2, h3⟩ := lst_of r1
    obtain ⟨ws, k1, _, k2, k3⟩ := lst_of r2
    obtain ⟨T, x, z, rfl, hT, rfl, q1, q2⟩ := y
    obtain ⟨da, db, e1, e2, rfl⟩ := zipD_get hd
    obtain ⟨u, f1, g1⟩ := h3.get e1
    obtain ⟨w, f2, g2⟩ := k3.get e2
    have e3 := q1 vs (SqL.of h1)
    rw [f1] at e3
    cases e3
    have e4 := q2 ws (SqL.of k1)
    rw [f2] at e4
    cases e4
    exact ⟨Same.new hT, rep_tup hT (show 2 ≤ sizeLine by decide) (Reps.cons g1 (Reps.one g2))⟩
end
/-! ### the rules -/
section
variable {X : Cx} {px : Px} {W : WX} {tg : Expr} {pos : Pos}
theorem fp_one {pins : List (Addr × Obj)} {σ : St} {H : Hp} {s : Shared} (I : Inv X pins σ H s) : ∀ b ∈ [s.heap.objs.size], FpOk X pins H b := fun b hb => by
  have e : b = s.heap.objs.size := by simpa using hb
  subst e
  exact I.fpOk (Nat.le_refl _) (I.hok.fresh (Nat.le_refl _))
theorem i_seq {l : Expr} {m : EM} (hl : DE X px W l m) : DI X px W tg l (fun e => (m e).bd dItems) := by
  refine ⟨fun pins s σ H R I h => ?_⟩
  obtain ⟨S, e, r, q⟩ := h
  refine thn (hl.run pins s σ H _ I ⟨S, e, r, Post.bdI q⟩) fun v s1 h1 => ?_
  obtain ⟨x, H1, I1, rv, d, _, e1, r1, q1⟩ := h1
  cases d with
  | tup ds =>
    obtain ⟨a, vs, rfl, h1, h2, h3⟩ := id r1
    obtain rfl : v = Value.ref a := rv
    obtain ⟨its, _, p, _⟩ := I1.tuple h1
    refine wpAny_pyIter_tuple (show s1.heap.IsTuple a its.toArray from p) ?_
    exact ⟨s1.heap.objs.size, [s1.heap.objs.size], _, _, H1, rfl, I1.kept (t' := s1.toks) fun b o e => Heap.get?_push_of_some _ e, turn_tuple a _, ⟨_, Heap.get?_push_size _ rfl, rfl, rfl⟩, fp_one I1,
      q1 _ H1 [.tup ds] [.ref a] (Same.refl _) (Reps.one (r1.mono (Same.refl _) fun _ => Fr.self)) itok_tup⟩
  | lst ds =>
    obtain ⟨a, vs, rfl, h1, _, h2, h3⟩ := id r1
    obtain rfl : v = Value.ref a := rv
    obtain ⟨its, _, p, _⟩ := I1.list (SqL.of h1)
    refine wpAny_pyIter_list p.isList ?_
    exact ⟨s1.heap.objs.size, [s1.heap.objs.size], _, _, H1, rfl, I1.kept (t' := s1.toks) fun b o e => Heap.get?_push_of_some _ e, turn_list a _, ⟨_, Heap.get?_push_size _ rfl, rfl, rfl⟩, fp_one I1,
      q1 _ H1 [.lst ds] [.ref a] (Same.refl _) (Reps.one (r1.mono (Same.refl _) fun _ => Fr.self)) itok_lst⟩
  | scr ns =>
    obtain ⟨a, rfl, h1⟩ := id r1
    obtain rfl : v = Value.ref a := rv
    obtain ⟨its, _, p, _⟩ := I1.list (scr_seq h1)
    refine wpAny_pyIter_list p.isList ?_
    exact ⟨s1.heap.objs.size, [s1.heap.objs.size], _, _, H1, rfl, I1.kept (t' := s1.toks) fun b o e => Heap.get?_push_of_some _ e, turn_list a _, ⟨_, Heap.get?_push_size _ rfl, rfl, rfl⟩, fp_one I1,
      q1 _ H1 [.scr ns] [.ref a] (Same.refl _) (Reps.one (r1.mono (Same.refl _) fun _ => Fr.self)) itok_scr⟩
  | str z =>
    obtain rfl : x = V.str z := r1
    obtain ⟨t, rfl⟩ := rv
    cases ha : z.cps.all (· < 128)
    · refine wpAny_pyIter_wide ha ?_
      exact ⟨s1.heap.objs.size, [s1.heap.objs.size], _, _, H1, rfl, I1.kept (t' := s1.toks) fun b o e => Heap.get?_push_of_some _ e, turn_str _ z t "str_iterator" (.inr rfl), ⟨_, Heap.get?_push_size _ rfl, rfl, rfl⟩, fp_one I1,
        q1 _ H1 [] [] (Same.refl _) rfl itok_str⟩
    · refine wpAny_pyIter_ascii ha ?_
      exact ⟨s1.heap.objs.size, [s1.heap.objs.size], _, _, H1, rfl, I1.kept (t' := s1.toks) fun b o e => Heap.get?_push_of_some _ e, turn_str _ z t "str_ascii_iterator" (.inl rfl), ⟨_, Heap.get?_push_size _ rfl, rfl, rfl⟩, fp_one I1,
        q1 _ H1 [] [] (Same.refl _) rfl itok_str⟩
  | _ => exact (show False from q1).elim
/-! ### range, enumerate, zip -/
def int1 : List D → Option Int
  | [.int j] => some j
  | _ => none
def int2 : List D → Option (Int × Int)
  | [.int i, .int j] => some (i, j)
  | _ => none
theorem int1_of {xs : List D} {j : Int} (h : int1 xs = some j) : xs = [.int j] := by
  unfold int1 at h
  split at h
  · injection h with h
    rw [h]
  · cases h
theorem int2_of {xs : List D} {p : Int × Int} (h : int2 xs = some p) : xs = [.int p.1, .int p.2] := by
  unfold int2 at h
  split at h
  · injection h with h
    rw [← h]
  · cases h
def rngD (i j : Int) : List D := (List.range (j - i).toNat).map fun k => .int (i + (k : Nat))
def dRange1 (xs : List D) : R (List D) := match int1 xs with
  | some j => if -(2 ^ 62) ≤ j ∧ j < 2 ^ 62 then .ok (rngD 0 j) else .bad
  | none => .bad
def dRange2 (xs : List D) : R (List D) := match int2 xs with
  | some p => if -(2 ^ 62) ≤ p.1 ∧ p.1 < 2 ^ 62 ∧ -(2 ^ 62) ≤ p.2 ∧ p.2 < 2 ^ 62 then .ok (rngD p.1 p.2) else .bad
  | none => .bad
theorem i_range1 {a : Expr} {m : EMs} {p : Pos} (hg : Gl X "range") (hm : X.mg "range" = none) (ha : DA X px W [a] m) (hs : starEach [a] X.env = [(false, eval a X.env)] := by rfl) : DI X px W tg (.Call (.Name "range" p) [a] [] pos) (fun e => (m e).bd dRange1) := by
  refine PI.imp (pi_range1 hg hm ha hs) fun σ H R h => ?_
  obtain ⟨S, e, r, q⟩ := h
  refine ⟨S, e, r, (Posts.bdI q).imp fun vs H1 ⟨d, _, e1, r1, q1⟩ => ?_⟩
  unfold dRange1 at q1
  split at q1
  · rename_i j hj
    rw [int1_of hj] at r1
    obtain ⟨v, w, rfl, k1, k2⟩ := r1
    cases (show v = .int j from k1)
    cases (show w = [] from k2)
    split at q1
    · rename_i hb
      refine ⟨j, rfl, hb.1, hb.2, q1 _ H1 [] [] (Same.refl _) rfl ?_⟩
      unfold rngD
      rw [Int.sub_zero]
      exact itok_rng
    · exact (show False from q1).elim
  · exact (show False from q1).elim
theorem i_range2 {a b : Expr} {m : EMs} {p : Pos} (hg : Gl X "range") (hm : X.mg "range" = none) (ha : DA X px W [a, b] m) (hs : starEach [a, b] X.env = [(false, eval a X.env), (false, eval b X.env)] := by rfl) (hs2 : starEach [b] X.env = [(false, eval b X.env)] := by rfl) :
    DI X px W tg (.Call (.Name "range" p) [a, b] [] pos) (fun e => (m e).bd dRange2) := by
  refine PI.imp (pi_range2 hg hm ha hs hs2) fun σ H R h => ?_
  obtain ⟨S, e, r, q⟩ := h
  refine ⟨S, e, r, (Posts.bdI q).imp fun vs H1 ⟨d, _, e1, r1, q1⟩ => ?_⟩
  unfold dRange2 at q1
  split at q1
  · rename_i j hj
    rw [int2_of hj] at r1
    obtain ⟨v, w, rfl, k1, u, z, rfl, k2, k3⟩ := r1
    cases (show v = .int j.1 from k1)
    cases (show u = .int j.2 from k2)
    cases (show z = [] from k3)
    split at q1
    · rename_i hb
      exact ⟨j.1, j.2, rfl, hb, q1 _ H1 [] [] (Same.refl _) rfl itok_rng⟩
    · exact (show False from q1).elim
  · exact (show False from q1).elim
def enD (ds : List D) : List D := ds.zipIdx.map fun p => .tup [.int (p.2 : Nat), p.1]
def dEnum : List D → R (List D)
  | [.tup ds] => .ok (enD ds)
  | [.lst ds] => .ok (enD ds)
  | _ => .bad
theorem dEnum_of {xs : List D} {r : List D} (h : dEnum xs = .ok r) : ∃ ds, r = enD ds ∧ (xs = [.tup ds] ∨ xs = [.lst ds]) := by
  unfold dEnum at h
  split at h
  · injection h with h
    exact ⟨_, h.symm, .inl rfl⟩
  · injection h with h
    exact ⟨_, h.symm, .inr rfl⟩
  · cases h
theorem dEnum_cases (xs : List D) : (∃ r, dEnum xs = .ok r) ∨ dEnum xs = .bad := by
  unfold dEnum
  split
  · exact .inl ⟨_, rfl⟩
  · exact .inl ⟨_, rfl⟩
  · exact .inr rfl
theorem i_enum {a : Expr} {m : EMs} {p tpos : Pos} {elts : List Expr} {kk : Nat} (hg : Gl X "enumerate") (hm : X.mg "enumerate" = none) (ha : DA X px W [a] m) (hs : starEach [a] X.env = [(false, eval a X.env)] := by rfl) :
    DI X px W (.Tuple elts kk tpos) (.Call (.Name "enumerate" p) [a] [] pos) (fun e => (m e).bd dEnum) := by
  refine ⟨fun pins s σ H R I h => ?_⟩
  obtain ⟨S, e, r, q⟩ := h
  refine Call_ (ld_blt I hg hm PyProof.Rows.boot_enumerate (PyProof.Rows.callWith_type1 (thn (ha.run pos pins s σ H _ I ⟨S, e, r, Posts.bdI q⟩) fun us s1 h1 => ?_) hs rfl))
  obtain ⟨vs, H1, I1, rv, d, _, e1, r1, q1⟩ := h1
  rcases dEnum_cases d with ⟨it, hi⟩ | hb
  · rw [hi] at q1
    obtain ⟨ds, rfl, hd⟩ := dEnum_of hi
    have fp2 : ∀ b ∈ [s1.heap.objs.size + 1, s1.heap.objs.size], FpOk X pins H1 b := fun b hb => by
      have z : b = s1.heap.objs.size + 1 ∨ b = s1.heap.objs.size := by simpa using hb
      have hle : s1.heap.objs.size ≤ b := by
        rcases z with z | z <;> (rw [z]; omega)
      exact I1.fpOk hle (I1.hok.fresh hle)
    rcases hd with rfl | rfl
    · obtain ⟨v, w, rfl, k1, k2⟩ := r1
      cases (show w = [] from k2)
      obtain ⟨u, rfl, ru⟩ := vals1 rv
      obtain ⟨a, ws, rfl, h1, h2, h3⟩ := id k1
      obtain rfl : u = Value.ref a := ru
      obtain ⟨its, _, pt, _⟩ := I1.tuple h1
      have pt2 : s1.heap.IsTuple a its.toArray := pt
      refine enumCall1 (begins_tuple a its.toArray) pt2 fun h' he hit hk => wpAny_pyIter_enum he ?_
      exact ⟨s1.heap.objs.size + 1, [s1.heap.objs.size + 1, s1.heap.objs.size], _, _, H1, rfl, I1.kept (t' := s1.toks) hk, turn_enumT a (s1.heap.objs.size + 1) s1.heap.objs.size,
        ⟨⟨.none, he⟩, ⟨_, hit, rfl, rfl⟩, Nat.succ_ne_self _⟩, fp2, q1 _ H1 [.tup ds] [.ref a] (Same.refl _) (Reps.one (k1.mono (Same.refl _) fun _ => Fr.self)) itok_enumT⟩
    · obtain ⟨v, w, rfl, k1, k2⟩ := r1
      cases (show w = [] from k2)
      obtain ⟨u, rfl, ru⟩ := vals1 rv
      obtain ⟨a, ws, rfl, h1, _, h2, h3⟩ := id k1
      obtain rfl : u = Value.ref a := ru
      obtain ⟨its, _, pt, _⟩ := I1.list (SqL.of h1)
      refine call_enumerate_list pt.isList fun h' he hit hsz hk => wpAny_pyIter_enum he ?_
      exact ⟨s1.heap.objs.size + 1, [s1.heap.objs.size + 1, s1.heap.objs.size], _, _, H1, rfl, I1.kept (t' := s1.toks) hk, turn_enum a (s1.heap.objs.size + 1) s1.heap.objs.size,
        ⟨⟨.none, he⟩, hit, Nat.succ_ne_self _⟩, fp2, q1 _ H1 [.lst ds] [.ref a] (Same.refl _) (Reps.one (k1.mono (Same.refl _) fun _ => Fr.self)) itok_enumL⟩
  · rw [hb] at q1
    exact (show False from q1).elim
def dZip : List D → R (List D)
  | [.tup a, .tup b] => .ok (zipD a b)
  | [.lst a, .lst b] => .ok (zipD a b)
  | _ => .bad
theorem dZip_of {xs : List D} {r : List D} (h : dZip xs = .ok r) : ∃ a b, r = zipD a b ∧ (xs = [.tup a, .tup b] ∨ xs = [.lst a, .lst b]) := by
  unfold dZip at h
  split at h
  · injection h with h
    exact ⟨_, _, h.symm, .inl rfl⟩
  · injection h with h
    exact ⟨_, _, h.symm, .inr rfl⟩
  · cases h
theorem dZip_cases (xs : List D) : (∃ r, dZip xs = .ok r) ∨ dZip xs = .bad := by
  unfold dZip
  split
  · exact .inl ⟨_, rfl⟩
  · exact .inl ⟨_, rfl⟩
  · exact .inr rfl
theorem i_zip {a b : Expr} {m : EMs} {p tpos : Pos} {elts : List Expr} {kk : Nat} (hg : Gl X "zip") (hm : X.mg "zip" = none) (ha : DA X px W [a, b] m)
    (hs : starEach [a, b] X.env = (false, eval a X.env) :: starEach [b] X.env := by rfl) (hpl : (backTo pos (starEach [b] X.env)).any (·.1) = false := by rfl) :
    DI X px W (.Tuple elts kk tpos) (.Call (.Name "zip" p) [a, b] [] pos) (fun e => (m e).bd dZip) := by
  refine PI.imp (RZ.pi_zipA hg hm ha hs hpl) fun σ H R h => ?_
  obtain ⟨S, e, r, q⟩ := h
  refine ⟨S, e, r, (Posts.bdI q).imp fun vs H1 ⟨d, _, e1, r1, q1⟩ => ?_⟩
  rcases dZip_cases d with ⟨it, hi⟩ | hb
  · rw [hi] at q1
    obtain ⟨ds, es, rfl, hd⟩ := dZip_of hi
    rcases hd with rfl | rfl
    · obtain ⟨v, w, rfl, k1, u, z, rfl, k2, k3⟩ := id r1
      cases (show z = [] from k3)
      obtain ⟨a, ws, rfl, h1, h2, h3⟩ := id k1
      obtain ⟨b, xs, rfl, l1, l2, l3⟩ := id k2
      exact ⟨a, b, ws, xs, rfl, .inr ⟨h1, l1, q1 _ H1 [.tup ds, .tup es] [.ref a, .ref b] (Same.refl _) (Reps.mono (Same.refl _) (fun _ => Fr.self) _ _ r1) itok_zipT⟩⟩
    · obtain ⟨v, w, rfl, k1, u, z, rfl, k2, k3⟩ := id r1
      cases (show z = [] from k3)
      obtain ⟨a, ws, rfl, h1, _, h2, h3⟩ := id k1
      obtain ⟨b, xs, rfl, l1, _, l2, l3⟩ := id k2
      exact ⟨a, b, ws, xs, rfl, .inl ⟨SqL.of h1, SqL.of l1, q1 _ H1 [.lst ds, .lst es] [.ref a, .ref b] (Same.refl _) (Reps.mono (Same.refl _) (fun _ => Fr.self) _ _ r1) itok_zipL⟩⟩
  · rw [hb] at q1
    exact (show False from q1).elim
end
end DL

end
section
set_option Elab.async false
set_option linter.all false
set_option maxRecDepth 100000
namespace DL
open PySem PySem.Spec L2
open PyProof.Rows hiding St

/-! ### targets -/
inductive Tg where
  | nm (i : Nat) | tp (l : List Tg)
mutual
/-- which slots get which trees -/
def flat : Tg → D → Option (List (Nat × D))
  | .nm i, d => some [(i, d)]
  | .tp l, .tup ds => flats l ds
  | .tp _, _ => none
def flats : List Tg → List D → Option (List (Nat × D))
  | [], [] => some []
  | t :: l, d :: ds => (flat t d).bind fun a => (flats l ds).map fun b => a ++ b
  | _, _ => none
end
mutual
def gOf (K : PySem.W.Frag) : Tg → TG
  | .nm i => gName i
  | .tp l => gTup K l.length (gsOf K l)
def gsOf (K : PySem.W.Frag) : List Tg → TGs
  | [] => gNil
  | t :: l => gCons (gOf K t) (gsOf K l)
end
mutual
def ixs : Tg → List Nat
  | .nm i => [i]
  | .tp l => ixss l
def ixss : List Tg → List Nat
  | [] => []
  | t :: l => ixs t ++ ixss l
end
abbrev DG (X : Cx) (tg : Expr) (T : Tg) : Prop := PG X tg (gOf X.K T)
abbrev DGs (X : Cx) (tgs : List Expr) (l : List Tg) : Prop := PGs X tgs (gsOf X.K l)
section
variable {X : Cx} {pos : Pos}
theorem g_nm (i : Nat) {x : Str} (hN : X.N.Nodup) (hi : X.N[i]? = some x := by rfl) (hx : Loc X.env.scope x := by first | exact Or.inl rfl | exact Or.inr rfl) (hf : X.fn x = true ∨ X.env.scope.names.lookup x = some .local := by first | exact .inl rfl | exact .inr rfl) :
    DG X (.Name x pos) (.nm i) := pg_name hN hi hx hf
theorem g_nil : DGs X [] [] := pgs_nil
theorem g_cons {e : Expr} {es : List Expr} {t : Tg} {l : List Tg} (h : DG X e t) (hs : DGs X es l) (hst : (assignEach (e :: es) X.env).map (·.2) = assign e X.env :: (assignEach es X.env).map (·.2) := by rfl) : DGs X (e :: es) (t :: l) := pgs_cons h hs hst
theorem g_tp {es : List Expr} {k : Nat} {l : List Tg} (hc : X.calm = true) (h : DGs X es l) (hn : (assignEach es X.env).length = l.length := by rfl) (hst : (assignEach es X.env).findIdx? (·.1) = none := by rfl) : DG X (.Tuple es k pos) (.tp l) := pg_tup hc h hn hst
end
abbrev setV (σ : St) (l : List (Nat × V)) : St := l.foldl (fun σ p => σ.set p.1 (some p.2)) σ
abbrev setE (e : EnvD) (l : List (Nat × D)) : EnvD := l.foldl (fun e p => e.set p.1 (some p.2)) e
/-- the values that go to the slots -/
structure Goes (K : PySem.W.Frag) (px : Px) (S : Addr → Prop) (H : Hp) (l : List (Nat × D)) (lv : List (Nat × V)) : Prop where
  ix : lv.map (·.1) = l.map (·.1)
  rp : Reps K px S H (l.map (·.2)) (lv.map (·.2))
section
variable {K : PySem.W.Frag} {px : Px} {S : Addr → Prop} {H : Hp}
mutual
theorem g_run : ∀ (T : Tg) (d : D) (v : V) (l : List (Nat × D)) (σ : St) (Q : St → Hp → Prop), Rep K px S H d v → flat T d = some l → (∀ lv, Goes K px S H l lv → Q (setV σ lv) H) → gOf K T v σ H Q
  | .nm i, d, v, l, σ, Q, r, e, h => by
    simp only [flat, Option.some.injEq] at e
    subst e
    simp only [gOf]
    exact h [(i, v)] ⟨rfl, Reps.one r⟩
  | .tp ts, .tup ds, v, l, σ, Q, ⟨a, vs, e1, h1, h2, h3⟩, e, h => by
    subst e1
    simp only [flat] at e
    simp only [gOf]
    have hl : ts.length = ds.length := flats_len e
    exact ⟨a, vs, rfl, h1, by rw [← h3.length, hl], gs_run ts ds vs l σ Q h3 e h⟩
  | .tp _, .non, _, _, _, _, _, e, _ => by simp [flat] at e
  | .tp _, .bl _, _, _, _, _, _, e, _ => by simp [flat] at e
  | .tp _, .int _, _, _, _, _, _, e, _ => by simp [flat] at e
  | .tp _, .str _, _, _, _, _, _, e, _ => by simp [flat] at e
  | .tp _, .lst _, _, _, _, _, _, e, _ => by simp [flat] at e
  | .tp _, .obj _ _ _, _, _, _, _, _, e, _ => by simp [flat] at e
  | .tp _, .exc _ _ _, _, _, _, _, _, e, _ => by simp [flat] at e
  | .tp _, .dct _ _, _, _, _, _, _, e, _ => by simp [flat] at e
  | .tp _, .scr _, _, _, _, _, _, e, _ => by simp [flat] at e
theorem gs_run : ∀ (ts : List Tg) (ds : List D) (vs : List V) (l : List (Nat × D)) (σ : St) (Q : St → Hp → Prop), Reps K px S H ds vs → flats ts ds = some l → (∀ lv, Goes K px S H l lv → Q (setV σ lv) H) → gsOf K ts vs σ H Q
  | [], [], vs, l, σ, Q, r, e, h => by
    simp only [flats, Option.some.injEq] at e
    subst e
    simp only [gsOf]
    exact ⟨r, h [] ⟨rfl, rfl⟩⟩
  | t :: ts, d :: ds, vs, l, σ, Q, ⟨v, w, e1, h1, h2⟩, e, h => by
    subst e1
    simp only [flats, Option.bind_eq_some_iff, Option.map_eq_some_iff] at e
    obtain ⟨la, ea, lb, eb, rfl⟩ := e
    simp only [gsOf]
    refine ⟨v, w, rfl, g_run t d v la σ _ h1 ea fun lv g => ?_⟩
    refine gs_run ts ds w lb _ Q h2 eb fun lw g2 => ?_
    have z := h (lv ++ lw) ⟨by rw [List.map_append, List.map_append, g.ix, g2.ix], by rw [List.map_append, List.map_append]; exact g.rp.append g2.rp⟩
    rw [setV, List.foldl_append] at z
    exact z
  | [], _ :: _, _, _, _, _, _, e, _ => by simp [flats] at e
  | _ :: _, [], _, _, _, _, _, e, _ => by simp [flats] at e
theorem flats_len : ∀ {ts : List Tg} {ds : List D} {l : List (Nat × D)}, flats ts ds = some l → ts.length = ds.length
  | [], [], _, _ => rfl
  | t :: ts, d :: ds, l, e => by
    simp only [flats, Option.bind_eq_some_iff, Option.map_eq_some_iff] at e
    obtain ⟨la, ea, lb, eb, _⟩ := e
    rw [List.length_cons, List.length_cons, flats_len eb]
  | [], _ :: _, _, e => by simp [flats] at e
  | _ :: _, [], _, e => by simp [flats] at e
end
mutual
theorem flat_ix : ∀ (T : Tg) (d : D) (l : List (Nat × D)), flat T d = some l → l.map (·.1) = ixs T
  | .nm i, d, l, e => by
    simp only [flat, Option.some.injEq] at e
    subst e
    simp [ixs]
  | .tp ts, .tup ds, l, e => by
    simp only [flat] at e
    simp only [ixs]
    exact flats_ix ts ds l e
  | .tp _, .non, _, e => by simp [flat] at e
  | .tp _, .bl _, _, e => by simp [flat] at e
  | .tp _, .int _, _, e => by simp [flat] at e
  | .tp _, .str _, _, e => by simp [flat] at e
  | .tp _, .lst _, _, e => by simp [flat] at e
  | .tp _, .obj _ _ _, _, e => by simp [flat] at e
  | .tp _, .exc _ _ _, _, e => by simp [flat] at e
  | .tp _, .dct _ _, _, e => by simp [flat] at e
  | .tp _, .scr _, _, e => by simp [flat] at e
theorem flats_ix : ∀ (ts : List Tg) (ds : List D) (l : List (Nat × D)), flats ts ds = some l → l.map (·.1) = ixss ts
  | [], [], l, e => by
    simp only [flats, Option.some.injEq] at e
    subst e
    simp [ixss]
  | t :: ts, d :: ds, l, e => by
    simp only [flats, Option.bind_eq_some_iff, Option.map_eq_some_iff] at e
    obtain ⟨la, ea, lb, eb, rfl⟩ := e
    rw [List.map_append, flat_ix t d la ea, flats_ix ts ds lb eb, ixss]
  | [], _ :: _, _, e => by simp [flats] at e
  | _ :: _, [], _, e => by simp [flats] at e
end
theorem repV_set {σ : St} {e : EnvD} {i : Nat} {d : D} {v : V} (r : RepV K px S H σ e) (h : Rep K px S H d v) : RepV K px S H (σ.set i (some v)) (e.set i (some d)) := by
  refine ⟨by rw [List.length_set, List.length_set]; exact r.len, fun j d' q => ?_⟩
  by_cases hj : i = j
  · subst hj
    by_cases hlt : i < e.length
    · rw [List.getElem?_set_self hlt] at q
      cases q
      exact ⟨v, by rw [List.getElem?_set_self (by rw [r.len]; exact hlt)], h⟩
    · rw [List.getElem?_eq_none (by simpa using hlt)] at q
      cases q
  · rw [List.getElem?_set_ne hj] at q
    obtain ⟨u, h1, h2⟩ := r.at_ j d' q
    exact ⟨u, by rw [List.getElem?_set_ne hj]; exact h1, h2⟩
theorem repV_goes : ∀ {l : List (Nat × D)} {lv : List (Nat × V)} {σ : St} {e : EnvD}, Goes K px S H l lv → RepV K px S H σ e → RepV K px S H (setV σ lv) (setE e l)
  | [], lv, σ, e, g, r => by
    have z : lv = [] := by
      have := g.ix
      simpa using this
    subst z
    exact r
  | (i, d) :: l, lv, σ, e, ⟨g1, g2⟩, r => by
    cases lv with
    | nil => simp at g1
    | cons p lv =>
      obtain ⟨j, v⟩ := p
      simp only [List.map_cons, List.cons.injEq] at g1
      obtain ⟨v', w, e1, h1, h2⟩ := g2
      simp only [List.map_cons, List.cons.injEq] at e1
      obtain ⟨e2, e3⟩ := e1
      subst e2
      obtain ⟨g3, g4⟩ := g1
      subst g3
      exact repV_goes (l := l) (lv := lv) ⟨g4, by rw [e3]; exact h2⟩ (repV_set r h1)
/-! ### a block's own names -/
def wipeD (e : EnvD) : List Nat → EnvD
  | [] => e
  | v :: vs => (wipeD e vs).set v none
theorem repV_wipe {σ : St} {e : EnvD} (r : RepV K px S H σ e) : ∀ vs : List Nat, RepV K px S H (wipe σ vs) (wipeD e vs)
  | [] => r
  | v :: vs => by
    have ih := repV_wipe r vs
    unfold wipe wipeD
    refine ⟨by rw [List.length_set, List.length_set]; exact ih.len, fun j d q => ?_⟩
    by_cases hj : v = j
    · subst hj
      by_cases hlt : v < (wipeD e vs).length
      · rw [List.getElem?_set_self hlt] at q
        cases q
      · rw [List.getElem?_eq_none (by simpa using hlt)] at q
        cases q
    · rw [List.getElem?_set_ne hj] at q
      obtain ⟨u, h1, h2⟩ := ih.at_ j d q
      exact ⟨u, by rw [List.getElem?_set_ne hj]; exact h1, h2⟩
end
theorem wipe_set {σ : St} {i : Nat} {x : Option V} : ∀ {vs : List Nat}, i ∈ vs → wipe (σ.set i x) vs = wipe σ vs
  | [], h => by cases h
  | v :: vs, h => by
    have com : ∀ ws : List Nat, wipe (σ.set i x) ws = (wipe σ ws).set i x ∨ wipe (σ.set i x) ws = wipe σ ws := fun ws => by
      induction ws with
      | nil => exact .inl rfl
      | cons w ws ih =>
        rcases ih with ih | ih
        · unfold wipe
          rw [ih]
          by_cases hw : i = w
          · subst hw
            right
            rw [List.set_set]
          · left
            rw [List.set_comm _ _ (Ne.symm (Ne.symm hw))]
        · right
          unfold wipe
          rw [ih]
    rcases List.mem_cons.mp h with rfl | h
    · unfold wipe
      rcases com vs with e | e
      · rw [e, List.set_set]
      · rw [e]
    · unfold wipe
      rw [wipe_set h]
theorem wipe_wipe {σ : St} (vs : List Nat) : wipe (wipe σ vs) vs = wipe σ vs := by
  have key : ∀ ws : List Nat, (∀ i ∈ ws, i ∈ vs) → wipe (wipe σ ws) vs = wipe σ vs := fun ws => by
    induction ws with
    | nil => intro _; rfl
    | cons w ws ih =>
      intro h
      show wipe ((wipe σ ws).set w none) vs = wipe σ vs
      rw [wipe_set (h w List.mem_cons_self), ih fun i hi => h i (List.mem_cons_of_mem _ hi)]
  exact key vs fun _ h => h
theorem wipe_setV {vs : List Nat} : ∀ {lv : List (Nat × V)} {σ : St}, (∀ i ∈ lv.map (·.1), i ∈ vs) → wipe (setV σ lv) vs = wipe σ vs
  | [], _, _ => rfl
  | p :: lv, σ, h => by
    show wipe (setV (σ.set p.1 (some p.2)) lv) vs = wipe σ vs
    rw [wipe_setV fun i hi => h i (List.mem_cons_of_mem _ hi), wipe_set (h p.1 List.mem_cons_self)]

/-! ### comprehensions -/
abbrev W0 : WX := fun _ _ _ _ => False
/-- the items, one after another -/
def compL (T : Tg) (mt : EnvD → R Bool) (me : EM) (e : EnvD) : List D → R (List D)
  | [] => .ok []
  | x :: xs => match flat T x with
    | some l => (mt (setE e l)).bd fun b => if b = true then (me (setE e l)).bd fun y => (compL T mt me e xs).bd fun ys => .ok (y :: ys) else compL T mt me e xs
    | none => .bad
def sureL : R (List D) → R (List D)
  | .ok d => .ok d
  | _ => .bad
def mLc (T : Tg) (vs : List Nat) (mi : EnvD → R (List D)) (mt : EnvD → R Bool) (me : EM) : EM := fun e => (mi e).bd fun items => if items.length ≤ 16777216 then (sureL (compL T mt me (wipeD e vs) items)).bd fun ys => .ok (.lst ys) else .bad
def mYes : EnvD → R Bool := fun _ => .ok true
section
variable {X : Cx} {px : Px} {W : WX} {pos : Pos}
abbrev DTs (X : Cx) (px : Px) (W : WX) (ifs : List Expr) (m : EnvD → R Bool) : Prop := PTs X ifs (tDB X.K px W m)
theorem ts_nil : DTs X px W [] mYes := ⟨fun pins s σ H Q I h => by
  obtain ⟨S, e, r, q⟩ := h
  exact pts_nil.run pins s σ H Q I (show Q true H from (show PostB X.K px W S σ H (.ok true) Q from q) H (Same.refl _))⟩
theorem ts_one {c : Expr} {m : EnvD → R Bool} (h : DT X px W c m) : DTs X px W [c] m := pts_one h
theorem compL_cons {T : Tg} {mt : EnvD → R Bool} {me : EM} {e : EnvD} {x : D} {xs : List D} {ys : List D} (h : compL T mt me e (x :: xs) = .ok ys) :
    ∃ l, flat T x = some l ∧ ((mt (setE e l) = .ok true ∧ ∃ y zs, me (setE e l) = .ok y ∧ compL T mt me e xs = .ok zs ∧ ys = y :: zs) ∨ (mt (setE e l) = .ok false ∧ compL T mt me e xs = .ok ys)) := by
  unfold compL at h
  split at h
  · rename_i l hl
    refine ⟨l, hl, ?_⟩
    cases hb : mt (setE e l) with
    | ok b =>
      rw [hb] at h
      cases b with
      | true =>
        refine .inl ⟨rfl, ?_⟩
        simp only [bd_ok, if_true] at h
        cases hy : me (setE e l) with
        | ok y =>
          rw [hy] at h
          cases hz : compL T mt me e xs with
          | ok zs =>
            rw [hz] at h
            injection h with h
            exact ⟨y, zs, rfl, rfl, h.symm⟩
          | er c ns ds => rw [hz] at h; cases h
          | bad => rw [hz] at h; cases h
        | er c ns ds => rw [hy] at h; cases h
        | bad => rw [hy] at h; cases h
      | false =>
        refine .inr ⟨rfl, ?_⟩
        simpa using h
    | er c ns ds => rw [hb] at h; cases h
    | bad => rw [hb] at h; cases h
  · cases h
theorem lc_t {K : PySem.W.Frag} {px : Px} {W : WX} {T : Tg} {mi : EnvD → R (List D)} {mt : EnvD → R Bool} {me : EM} {own : List (Str × Nat)} (hix : ∀ i ∈ ixs T, i ∈ own.map (·.2)) {σ : St} {H : Hp} {Q : VK} (h : tF K px W (mLc T (own.map (·.2)) mi mt me) σ H Q) :
    tLc (tDI K px W mi) (gOf K T) (tDB K px W0 mt) (tD K px W0 me) (own.map (·.2)) σ H Q := by
  obtain ⟨S, e, r, q⟩ := h
  refine ⟨S, e, r, ?_⟩
  unfold mLc at q
  cases hm : mi e with
  | er c ns ds =>
    rw [hm] at q
    exact q
  | bad =>
    rw [hm] at q
    exact q.elim
  | ok items =>
    rw [hm] at q
    intro J H1 sd sv e1 rs iok A hA
    have hA0 : H A = none := e1.free hA
    simp only [bd_ok] at q
    by_cases hlen : items.length ≤ 16777216
    · rw [if_pos hlen] at q
      cases hr : compL T mt me (wipeD e (own.map (·.2))) items with
      | er c ns ds =>
        rw [hr] at q
        exact (show False from q).elim
      | bad =>
        rw [hr] at q
        exact (show False from q).elim
      | ok ys =>
        rw [hr] at q
        have q : PostF K px W S σ H (.ok (.lst ys)) Q := q
        -- where the parts may lie
        let S2 : Addr → Prop := fun a => Fr S H a ∧ a ≠ A
        have rs2 : Reps K px S2 H1 sd sv := Reps.trk (fun a h1 h2 => ⟨h1, fun z => h2 (by rw [z]; exact hA)⟩) _ _ rs
        have re2 : RepV K px S2 H1 σ e := ⟨r.len, fun i d qd => by
          obtain ⟨v, h1, h2⟩ := r.at_ i d qd
          exact ⟨v, h1, Rep.trk (fun a h1 h2 => ⟨h1, fun z => h2 (by rw [z]; exact hA)⟩) _ _ (h2.mono e1 fun a => Fr.self)⟩⟩
        have rw2 := repV_wipe re2 (own.map (·.2))
        refine ⟨fun i m H' => m = items.length - i ∧ i ≤ items.length ∧ Same H1 H' ∧ ∃ acc done rest, H' A = some (.lst acc) ∧ Reps K px S2 H' done acc ∧ acc.length ≤ i ∧
          compL T mt me (wipeD e (own.map (·.2))) (items.drop i) = .ok rest ∧ ys = done ++ rest, ⟨_, rfl, Nat.zero_le _, Same.new hA, [], [], ys, upd_same, rfl, Nat.le_refl _, hr, rfl⟩, ?_⟩
        rintro i m H' ⟨rfl, hi', sm, acc, done, rest, hD, hR, hl, hrest, rfl⟩
        by_cases hlt : i < items.length
        · have rsH : Reps K px S2 H' sd sv := Reps.mono sm (fun a h => h) _ _ rs2
          refine .inr ⟨iok.go S2 i H' rsH hlt, fun H3 => items.length - (i + 1) < items.length - i ∧ Same H1 H3 ∧ ∃ acc done2 rest2, H3 A = some (.lst acc) ∧ Reps K px S2 H3 done2 acc ∧ acc.length ≤ i + 1 ∧
            compL T mt me (wipeD e (own.map (·.2))) (items.drop (i + 1)) = .ok rest2 ∧ done ++ rest = done2 ++ rest2, fun H3 ⟨h1, h2, h3⟩ => ⟨_, h1, rfl, hlt, h2, h3⟩, fun x H3 y => ?_⟩
          have hget : items[i]? = some items[i] := by simp [hlt]
          have hdrop : items.drop i = items[i] :: items.drop (i + 1) := List.drop_eq_getElem_cons hlt
          rw [hdrop] at hrest
          obtain ⟨l, hfl, hcase⟩ := compL_cons hrest
          obtain ⟨s3, rx⟩ := iok.yld S2 i H' items[i] rsH hget x H3 y
          have hD3 : H3 A = some (.lst acc) := s3 _ _ hD
          have rx : Rep K px S2 H3 items[i] x := Rep.trk (fun a h1 h2 => by
            rcases h1 with h1 | h1
            · exact h1
            · refine ⟨.inr ?_, fun z => by rw [z, hD] at h1; cases h1⟩
              exact e1.free (sm.free h1)) _ _ rx
          refine g_run T items[i] x l _ _ rx hfl fun lv gl => ?_
          have hix2 : ∀ j ∈ lv.map (·.1), j ∈ own.map (·.2) := fun j hj => by
            rw [gl.ix, flat_ix T _ l hfl] at hj
            exact hix j hj
          refine ⟨by rw [wipe_setV hix2, wipe_wipe], ?_⟩
          have rv3 : RepV K px S2 H3 (setV (wipe σ (own.map (·.2))) lv) (setE (wipeD e (own.map (·.2))) l) := repV_goes gl (rw2.mono (sm.trans s3) fun _ h => h)
          rcases hcase with ⟨hb, y2, zs, hy, hz, rfl⟩ | ⟨hb, hz⟩
          · refine ⟨S2, _, rv3, ?_⟩
            rw [hb]
            intro H4 s4
            refine iteT ⟨S2, _, rv3.mono s4 fun _ h => h, ?_⟩
            rw [hy]
            intro v H5 s5 r5
            have hD5 : H5 A = some (.lst acc) := s5 _ _ (s4 _ _ hD3)
            refine ⟨acc, hD5, by show acc.length < 16777216; omega, by omega, ?_, acc ++ [v], done ++ [y2], zs, upd_same, ?_, by rw [List.length_append]; exact Nat.succ_le_succ hl, hz, by simp⟩
            · exact fun b o hb => by
                have nb : b ≠ A := fun z => by rw [z, hA] at hb; cases hb
                rw [upd_ne nb]
                exact s5 _ _ (s4 _ _ (s3 _ _ (sm _ _ hb)))
            · have nS : ¬ S2 A := fun z => z.2 rfl
              refine Reps.append ?_ (Reps.one ?_)
              · exact Reps.upd hD5 nS _ _ (Reps.mono (s3.trans (s4.trans s5)) (fun _ h => h) _ _ hR)
              · refine Rep.upd hD5 nS _ _ (Rep.trk (fun a h1 h2 => ?_) _ _ r5)
                rcases h1 with h1 | h1
                · exact h1
                · refine ⟨.inr (e1.free (sm.free (s3.free (s4.free h1)))), fun z => ?_⟩
                  rw [z] at h1
                  rw [s4 _ _ hD3] at h1
                  cases h1
          · refine ⟨S2, _, rv3, ?_⟩
            rw [hb]
            intro H4 s4
            exact iteF ⟨by omega, (sm.trans s3).trans s4, acc, done, rest, s4 _ _ hD3, Reps.mono (s3.trans s4) (fun _ h => h) _ _ hR, Nat.le_succ_of_le hl, hz, rfl⟩
        · have he : i = items.length := by omega
          subst he
          rw [List.drop_length] at hrest
          simp only [compL, R.ok.injEq] at hrest
          subst hrest
          rw [List.append_nil] at q
          refine .inl ⟨iok.stop S2 _ H' (Reps.mono sm (fun a h => h) _ _ rs2) (Nat.le_refl _), ?_⟩
          exact q A acc _ (e1.trans sm) hA0 hD (Nat.le_trans hl hlen) hR
    · rw [if_neg hlen] at q
      exact (show False from q).elim
theorem f_lc {T : Tg} {mi : EnvD → R (List D)} {mt : EnvD → R Bool} {me : EM} {elt tg iter : Expr} {ifs : List Expr} {scope : Scope} {own : List (Str × Nat)} (hc : X.calm = true) (hN : X.N.Nodup) (hi : DI X px W tg iter mi) (ok : BlkOk X.N X.env.scope scope own)
    (hix : ∀ i ∈ ixs T, i ∈ own.map (·.2))
    (hg : ∀ (s : Shared) (H : Hp) (C : Addr) (cl : List (Str × Addr)) (fp : List Addr), PG (X.blk s H scope (compEnvC scope cl C X.env) fp) tg (gOf X.K T))
    (ht : ∀ (s : Shared) (H : Hp) (C : Addr) (cl : List (Str × Addr)) (fp : List Addr), PTs (X.blk s H scope (compEnvC scope cl C X.env) fp) ifs (tDB X.K px W0 mt))
    (he : ∀ (s : Shared) (H : Hp) (C : Addr) (cl : List (Str × Addr)) (fp : List Addr), PE (X.blk s H scope (compEnvC scope cl C X.env) fp) elt (tD X.K px W0 me))
    (hs : ∀ x, foldedSetIterable iter X.env x = pure x := by intro _; rfl) : DF X px W (.ListComp elt [⟨tg, iter, ifs, 0⟩] scope pos) (mLc T (own.map (·.2)) mi mt me) := by
  exact PE.imp (pe_lc hc hN hi ok hg ht he hs) fun σ H Q h => lc_t hix h
/-- x = [.. for ..], the test and the parts as f_lc has them -/
theorem a_lc {i : Nat} {y : Str} {py spos : Pos} {T : Tg} {mi : EnvD → R (List D)} {mt : EnvD → R Bool} {me : EM} {elt tg iter : Expr} {ifs : List Expr} {scope : Scope} {own : List (Str × Nat)} (hc : X.calm = true) (hN : X.N.Nodup) (hy : X.N[i]? = some y) (hyl : X.env.scope.names.lookup y = some .local)
    (hsw : swapsWith (.ListComp elt [⟨tg, iter, ifs, 0⟩] scope pos) (some (.Name y py)) spos.line X.env = pure true) (hi : DI X px W tg iter mi) (ok : BlkOk X.N X.env.scope scope own) (hix : ∀ i ∈ ixs T, i ∈ own.map (·.2))
    (hg : ∀ (s : Shared) (H : Hp) (C : Addr) (cl : List (Str × Addr)) (fp : List Addr), PG (X.blk s H scope (compEnvC scope cl C X.env) fp) tg (gOf X.K T))
    (ht : ∀ (s : Shared) (H : Hp) (C : Addr) (cl : List (Str × Addr)) (fp : List Addr), PTs (X.blk s H scope (compEnvC scope cl C X.env) fp) ifs (tDB X.K px W0 mt))
    (he : ∀ (s : Shared) (H : Hp) (C : Addr) (cl : List (Str × Addr)) (fp : List Addr), PE (X.blk s H scope (compEnvC scope cl C X.env) fp) elt (tD X.K px W0 me))
    (hs : ∀ x, foldedSetIterable iter X.env x = pure x := by intro _; rfl) : PS X (.Assign [.Name y py] (.ListComp elt [⟨tg, iter, ifs, 0⟩] scope pos) spos) (tAsg (tF X.K px W (mLc T (own.map (·.2)) mi mt me)) (gName i)) :=
  PS.imp (ps_setLc hc hN hy hyl hsw hi ok hg ht he hs) fun D σ H h => lc_t hix h
end
end DL

end
section
set_option Elab.async false
set_option linter.all false
set_option maxRecDepth 100000
namespace DL
open PySem PySem.Spec L2
open PyProof.Rows hiding St
variable {X : Cx} {px : Px} {W : WX} {pos : Pos}

/-! ### one argument -/
def one1 (f : D → R D) : List D → R D
  | [d] => f d
  | _ => .bad
theorem one1_of {K : PySem.W.Frag} {S : Addr → Prop} {σ : St} {H : Hp} {f : D → R D} {xs : List D} {vs : List V} {Q : VK} (r : Reps K px S H xs vs) (q : Post K px W S σ H (one1 f xs) Q) : ∃ d v, xs = [d] ∧ vs = [v] ∧ Rep K px S H d v ∧ Post K px W S σ H (f d) Q := by
  unfold one1 at q
  split at q
  · obtain ⟨v, w, rfl, h1, h2⟩ := r
    cases (show w = [] from h2)
    exact ⟨_, v, rfl, rfl, h1, q⟩
  · exact q.elim
theorem one1_ofF {K : PySem.W.Frag} {S : Addr → Prop} {σ : St} {H : Hp} {f : D → R D} {xs : List D} {vs : List V} {Q : VK} (r : Reps K px S H xs vs) (q : PostF K px W S σ H (one1 f xs) Q) : ∃ d v, xs = [d] ∧ vs = [v] ∧ Rep K px S H d v ∧ PostF K px W S σ H (f d) Q := by
  unfold one1 at q
  split at q
  · obtain ⟨v, w, rfl, h1, h2⟩ := r
    cases (show w = [] from h2)
    exact ⟨_, v, rfl, rfl, h1, q⟩
  · exact q.elim
def two2 (f : D → D → R D) : List D → R D
  | [d, e] => f d e
  | _ => .bad
theorem two2_of {K : PySem.W.Frag} {S : Addr → Prop} {σ : St} {H : Hp} {f : D → D → R D} {xs : List D} {vs : List V} {Q : VK} (r : Reps K px S H xs vs) (q : Post K px W S σ H (two2 f xs) Q) : ∃ d e v u, xs = [d, e] ∧ vs = [v, u] ∧ Rep K px S H d v ∧ Rep K px S H e u ∧ Post K px W S σ H (f d e) Q := by
  unfold two2 at q
  split at q
  · obtain ⟨v, w, rfl, h1, u, z, rfl, h2, h3⟩ := r
    cases (show z = [] from h3)
    exact ⟨_, _, v, u, rfl, rfl, h1, h2, q⟩
  · exact q.elim
/-! ### len -/
def dLen : D → R D
  | .tup ds => .ok (.int (ds.length : Nat))
  | .lst ds => .ok (.int (ds.length : Nat))
  | .scr ns => .ok (.int (ns.length : Nat))
  | .str z => if z.length ≤ 16777216 then .ok (.int (z.length : Nat)) else .bad
  | _ => .bad
def rLenA (K : PySem.W.Frag) : List V → Hp → VK → Prop := fun xs H Q => (∃ p ys, xs = [.ref p] ∧ (SqL K H p ys ∨ SqT K H p ys) ∧ Q (.int ys.length) H) ∨ (∃ z, xs = [.str z] ∧ z.length ≤ sizeLine ∧ Q (.int z.length) H)
theorem call_lenA : CallR X (.builtin "len") (rLenA X.K) := call_len_seq.or call_len_str
theorem sv_len : ServesA X px (rLenA X.K) (one1 dLen) := by
  intro W S σ H xs vs Q r q
  obtain ⟨d, v, rfl, rfl, r1, q1⟩ := one1_of r q
  cases d with
  | tup ds =>
    obtain ⟨a, ws, rfl, h1, h2, h3⟩ := r1
    exact .inl ⟨a, ws, rfl, .inr h1, by rw [← h3.length]; exact Post.ret q1 rfl⟩
  | lst ds =>
    obtain ⟨a, ws, rfl, h1, _, h2, h3⟩ := r1
    exact .inl ⟨a, ws, rfl, .inl (SqL.of h1), by rw [← h3.length]; exact Post.ret q1 rfl⟩
  | scr ns =>
    obtain ⟨a, rfl, h1⟩ := r1
    refine .inl ⟨a, _, rfl, .inl (scr_seq h1), ?_⟩
    rw [List.length_map]
    exact Post.ret q1 rfl
  | str z =>
    cases (show v = .str z from r1)
    simp only [dLen] at q1
    split at q1
    · rename_i hl
      exact .inr ⟨z, rfl, hl, Post.ret q1 rfl⟩
    · exact q1.elim
  | _ => exact (show False from q1).elim
/-! ### abs, int -/
def dAbs : D → R D
  | .int i => .ok (.int (if i < 0 then -i else i))
  | _ => .bad
theorem sv_abs : ServesA X px (fun xs H Q => ∃ i, xs = [.int i] ∧ Q (.int (if i < 0 then -i else i)) H) (one1 dAbs) := by
  intro W S σ H xs vs Q r q
  obtain ⟨d, v, rfl, rfl, r1, q1⟩ := one1_of r q
  cases d with
  | int i =>
    cases (show v = .int i from r1)
    exact ⟨i, rfl, Post.ret q1 rfl⟩
  | _ => exact (show False from q1).elim
def dInt : D → R D
  | .int i => .ok (.int i)
  | .bl k => .ok (.int (if k then 1 else 0))
  | _ => .bad
theorem sv_int : ServesA X px (fun xs H Q => (∃ i, xs = [.int i] ∧ Q (.int i) H) ∨ ∃ k, xs = [.bl k] ∧ Q (.int (if k then 1 else 0)) H) (one1 dInt) := by
  intro W S σ H xs vs Q r q
  obtain ⟨d, v, rfl, rfl, r1, q1⟩ := one1_of r q
  cases d with
  | int i =>
    cases (show v = .int i from r1)
    exact .inl ⟨i, rfl, Post.ret q1 rfl⟩
  | bl i =>
    cases (show v = .bl i from r1)
    exact .inr ⟨i, rfl, Post.ret q1 rfl⟩
  | _ => exact (show False from q1).elim
/-! ### tuple, list -/
def dTuple : D → R D
  | .tup ds => .ok (.tup ds)
  | .lst ds => .ok (.tup ds)
  | _ => .bad
theorem sv_tuple : ServesA X px (fun xs H Q => ∃ p ys, xs = [.ref p] ∧ ((SqL X.K H p ys ∧ ∀ l, H l = none → Q (.ref l) (upd H l (.tup ys))) ∨ (SqT X.K H p ys ∧ Q (.ref p) H))) (one1 dTuple) := by
  intro W S σ H xs vs Q r q
  obtain ⟨d, v, rfl, rfl, r1, q1⟩ := one1_of r q
  cases d with
  | tup ds =>
    obtain ⟨a, ws, rfl, h1, h2, h3⟩ := id r1
    exact ⟨a, ws, rfl, .inr ⟨h1, Post.ret q1 r1⟩⟩
  | lst ds =>
    obtain ⟨a, ws, rfl, h1, _, h2, h3⟩ := r1
    exact ⟨a, ws, rfl, .inl ⟨SqL.of h1, fun l hl => q1 _ _ (Same.new hl) (rep_tup hl h2 h3)⟩⟩
  | _ => exact (show False from q1).elim
def dList : D → R D
  | .tup ds => .ok (.lst ds)
  | .lst ds => .ok (.lst ds)
  | _ => .bad
theorem sv_listF : ServesAF X px (fun xs H Q => ∃ p ys, xs = [.ref p] ∧ (SqL X.K H p ys ∨ SqT X.K H p ys) ∧ ∀ l, H l = none → Q (.ref l) (upd H l (.lst ys))) (one1 dList) := by
  intro W S σ H xs vs Q r q
  obtain ⟨d, v, rfl, rfl, r1, q1⟩ := one1_ofF r q
  cases d with
  | tup ds =>
    obtain ⟨a, ws, rfl, h1, h2, h3⟩ := r1
    exact ⟨a, ws, rfl, .inr h1, fun l hl => q1.new hl h2 h3⟩
  | lst ds =>
    obtain ⟨a, ws, rfl, h1, _, h2, h3⟩ := r1
    exact ⟨a, ws, rfl, .inl (SqL.of h1), fun l hl => q1.new hl h2 h3⟩
  | _ => exact (show False from q1).elim
theorem sv_list : ServesA X px (fun xs H Q => ∃ p ys, xs = [.ref p] ∧ (SqL X.K H p ys ∨ SqT X.K H p ys) ∧ ∀ l, H l = none → Q (.ref l) (upd H l (.lst ys))) (one1 dList) := sv_listF.sv
/-- tuple(range(n)) -/
def dTupRg : List D → R D := fun xs => (dRange1 xs).bd fun ds => if ds.length ≤ 16777216 then .ok (.tup ds) else .bad
theorem rgV_reps {K : PySem.W.Frag} {S : Addr → Prop} {H : Hp} (a b : Int) : Reps K px S H (rngD a b) (rgV a b) := by
  unfold rngD rgV
  generalize List.range (b - a).toNat = l
  induction l with
  | nil => exact rfl
  | cons x l ih => exact ⟨_, _, rfl, rfl, ih⟩
theorem e_tupRg {a : Expr} {m : EM} {p p2 pos2 : Pos} (hc : X.calm = true) (hg : Gl X "range") (hm : X.mg "range" = none) (hg2 : Gl X "tuple") (hm2 : X.mg "tuple" = none) (ha : DE X px W a m)
    (na : starEach [a] X.env = (false, eval a X.env) :: starEach [] X.env := by rfl) (nb : starEach [Expr.Call (.Name "range" p2) [a] [] pos2] X.env = (false, eval (.Call (.Name "range" p2) [a] [] pos2) X.env) :: starEach [] X.env := by rfl) :
    DE X px W (.Call (.Name "tuple" p) [.Call (.Name "range" p2) [a] [] pos2] [] pos) (mA dTupRg (mCons m mNil)) := by
  refine PE.imp (pe_tupRg hc hg2 hm2 (prg_1 hg hm ha na) nb) fun σ H Q h => ?_
  obtain ⟨S, e, r, q⟩ := h
  refine ⟨S, e, r, ?_⟩
  unfold mA mCons mNil at q
  cases hd : m e with
  | er c ns ds =>
    rw [hd] at q
    exact q
  | bad =>
    rw [hd] at q
    exact q
  | ok d =>
    rw [hd] at q
    intro v H1 e1 r1
    have q : Post X.K px W S σ H (dTupRg [d]) Q := q
    unfold dTupRg dRange1 at q
    cases d with
    | int n =>
      cases (show v = .int n from r1)
      simp only [int1] at q
      by_cases hn : -(2 ^ 62) ≤ n ∧ n < 2 ^ 62
      · rw [if_pos hn] at q
        simp only [bd_ok] at q
        split at q
        · rename_i hl
          have hl2 : (n - 0).toNat ≤ 2 ^ 24 := by
            have z : (rngD 0 n).length = (n - 0).toNat := by simp [rngD]
            rw [z] at hl
            exact hl
          refine ⟨n, rfl, ⟨by decide, by decide, hn.1, hn.2, hl2⟩, fun l hl3 => ?_⟩
          refine q _ _ (e1.trans (Same.new hl3)) ?_
          refine Rep.mono (Same.refl _) ?_ _ _ (rep_tup (S := Fr S H) hl3 (by rw [rgV_length]; exact hl2) (rgV_reps 0 n))
          exact fun a z => Fr.back e1 z
        · exact (show False from q).elim
      · rw [if_neg hn] at q
        exact (show False from q).elim
    | _ => exact (show False from q).elim
/-! ### min, max, sum, any, all, sorted -/
def intsD : List D → Option (List Int)
  | [] => some []
  | .int i :: ds => (intsD ds).map fun is => i :: is
  | _ => none
def boolsD : List D → Option (List Bool)
  | [] => some []
  | .bl i :: ds => (boolsD ds).map fun is => i :: is
  | _ => none
theorem ints_of : ∀ {ds : List D} {is : List Int}, intsD ds = some is → ds = is.map .int
  | [], is, h => by
    simp only [intsD, Option.some.injEq] at h
    subst h
    rfl
  | .int i :: ds, is, h => by
    simp only [intsD, Option.map_eq_some_iff] at h
    obtain ⟨js, e, rfl⟩ := h
    rw [ints_of e] <;> rfl
  | .non :: _, _, h => by simp [intsD] at h
  | .bl _ :: _, _, h => by simp [intsD] at h
  | .str _ :: _, _, h => by simp [intsD] at h
  | .tup _ :: _, _, h => by simp [intsD] at h
  | .lst _ :: _, _, h => by simp [intsD] at h
  | .obj _ _ _ :: _, _, h => by simp [intsD] at h
  | .exc _ _ _ :: _, _, h => by simp [intsD] at h
  | .dct _ _ :: _, _, h => by simp [intsD] at h
  | .scr _ :: _, _, h => by simp [intsD] at h
theorem bools_of : ∀ {ds : List D} {is : List Bool}, boolsD ds = some is → ds = is.map .bl
  | [], is, h => by
    simp only [boolsD, Option.some.injEq] at h
    subst h
    rfl
  | .bl i :: ds, is, h => by
    simp only [boolsD, Option.map_eq_some_iff] at h
    obtain ⟨js, e, rfl⟩ := h
    rw [bools_of e] <;> rfl
  | .non :: _, _, h => by simp [boolsD] at h
  | .int _ :: _, _, h => by simp [boolsD] at h
  | .str _ :: _, _, h => by simp [boolsD] at h
  | .tup _ :: _, _, h => by simp [boolsD] at h
  | .lst _ :: _, _, h => by simp [boolsD] at h
  | .obj _ _ _ :: _, _, h => by simp [boolsD] at h
  | .exc _ _ _ :: _, _, h => by simp [boolsD] at h
  | .dct _ _ :: _, _, h => by simp [boolsD] at h
  | .scr _ :: _, _, h => by simp [boolsD] at h
theorem reps_intsV {K : PySem.W.Frag} {S : Addr → Prop} {H : Hp} : ∀ {is : List Int} {vs : List V}, Reps K px S H (is.map .int) vs → vs = is.map V.int
  | [], vs, r => r
  | i :: is, vs, ⟨v, w, e, h1, h2⟩ => by
    subst e
    cases (show v = .int i from h1)
    rw [reps_intsV h2] <;> rfl
theorem reps_boolsV {K : PySem.W.Frag} {S : Addr → Prop} {H : Hp} : ∀ {is : List Bool} {vs : List V}, Reps K px S H (is.map .bl) vs → vs = is.map V.bl
  | [], vs, r => r
  | i :: is, vs, ⟨v, w, e, h1, h2⟩ => by
    subst e
    cases (show v = .bl i from h1)
    rw [reps_boolsV h2] <;> rfl
/-- the least, the greatest of x :: xs -/
def minI (x : Int) (xs : List Int) : Int := xs.foldl (fun a y => if y < a then y else a) x
def maxI (x : Int) (xs : List Int) : Int := xs.foldl (fun a y => if a < y then y else a) x
theorem minI_eq (x : Int) (xs : List Int) : PySem.W.minOf x xs = minI x xs := by
  unfold PySem.W.minOf minI
  congr 1
  funext a y
  show (if decide (y < a) = true then y else a) = _
  by_cases h : y < a <;> simp [h]
theorem maxI_eq (x : Int) (xs : List Int) : PySem.W.maxOf x xs = maxI x xs := by
  unfold PySem.W.maxOf maxI
  congr 1
  funext a y
  show (if decide (a < y) = true then y else a) = _
  by_cases h : a < y <;> simp [h]
def itemsOf : D → Option (List D)
  | .tup ds => some ds
  | .lst ds => some ds
  | _ => none
theorem holdAll_ints {h : Heap} : ∀ {is : List Int} {us : List Value}, Vals (is.map V.int) us → PySem.W.HoldAll h us is := fun {is us} r => by
  have key : ∀ (is : List Int) (us : List Value), Vals (is.map V.int) us → ReadsAll h us (is.map PyData.int) [] := fun is => by
    induction is with
    | nil =>
      intro us r
      cases r
      exact .nil
    | cons i is ih =>
      intro us r
      rw [List.map_cons] at r
      cases r with
      | cons r1 r2 =>
        obtain ⟨t, rfl⟩ := r1
        exact .cons (as := []) (bs := []) (.int i t) (ih _ r2)
  exact ⟨[], key is us r⟩
def rMinS (K : PySem.W.Frag) (f : Int → List Int → Int) : List V → Hp → VK → Prop := fun xs H Q => ∃ a n ns, xs = [.ref a] ∧ (SqL K H a ((n :: ns).map V.int) ∨ SqT K H a ((n :: ns).map V.int)) ∧ Q (.int (f n ns)) H
theorem int_at {is : List Int} {us : List Value} {i : Nat} {v : Value} (r : Vals (is.map V.int) us) (e : us.toArray[i]? = some v) : ∃ n t, v = .int n t := by
  have e2 : us[i]? = some v := by simpa using e
  have hl := r.length
  rw [List.length_map] at hl
  have hi : i < is.length := by
    rw [hl]
    exact (List.getElem?_eq_some_iff.mp e2).1
  obtain ⟨u, h1, h2⟩ := r.get (i := i) (x := .int is[i]) (by simp [hi])
  rw [e2] at h1
  cases h1
  obtain ⟨t, rfl⟩ := h2
  exact ⟨_, t, rfl⟩
theorem call_minS (hc : X.calm = true) (hu : X.A.units + 64 < cLine) : CallR X (.builtin "min") (rMinS X.K minI) := by
  intro pins s σ H xs us Q I r h
  obtain ⟨a, n, ns, rfl, hq, q⟩ := h
  obtain ⟨u, rfl, ru⟩ := vals1 r
  obtain rfl : u = Value.ref a := ru
  have hu2 : X.A.units + 1 + PySem.W.Datum.depth Int < cLine := by
    show X.A.units + 1 + 0 < cLine
    omega
  have fin : ∀ (its : List Value), Vals ((n :: ns).map V.int) its → ∀ (i : Nat) v h' tk, its.toArray[i]? = some v → PySem.W.Holds h' v (PySem.W.minOf n ns) → (∀ b o, s.heap.get? b = some o → h'.get? b = some o) → EP X pins σ Q v { s with heap := h', toks := tk } := fun its rv i v h' tk e hh hk => by
    obtain ⟨k, t, rfl⟩ := int_at rv e
    obtain ⟨as, rd⟩ := hh
    have ek : k = PySem.W.minOf n ns := by
      cases rd with
      | int => rfl
    rw [minI_eq] at ek
    subst ek
    exact ⟨.int _, H, I.kept (t' := tk) hk, ⟨t, rfl⟩, q⟩
  rcases hq with hq | hq
  · obtain ⟨its, rv, p, _⟩ := I.list hq
    exact PySem.W.min_list_datum (α := Int) (I.ok.hd hc) p.isList (holdAll_ints rv) hu2 (fin its rv)
  · obtain ⟨its, rv, p, _⟩ := I.tuple hq
    exact PySem.W.min_tuple_datum (α := Int) (I.ok.hd hc) (show s.heap.IsTuple a its.toArray from p) (holdAll_ints rv) hu2 (fin its rv)
theorem call_maxS (hc : X.calm = true) (hu : X.A.units + 64 < cLine) : CallR X (.builtin "max") (rMinS X.K maxI) := by
  intro pins s σ H xs us Q I r h
  obtain ⟨a, n, ns, rfl, hq, q⟩ := h
  obtain ⟨u, rfl, ru⟩ := vals1 r
  obtain rfl : u = Value.ref a := ru
  have hu2 : X.A.units + 1 + PySem.W.Datum.depth Int < cLine := by
    show X.A.units + 1 + 0 < cLine
    omega
  have fin : ∀ (its : List Value), Vals ((n :: ns).map V.int) its → ∀ (i : Nat) v h' tk, its.toArray[i]? = some v → PySem.W.Holds h' v (PySem.W.maxOf n ns) → (∀ b o, s.heap.get? b = some o → h'.get? b = some o) → EP X pins σ Q v { s with heap := h', toks := tk } := fun its rv i v h' tk e hh hk => by
    obtain ⟨k, t, rfl⟩ := int_at rv e
    obtain ⟨as, rd⟩ := hh
    have ek : k = PySem.W.maxOf n ns := by
      cases rd with
      | int => rfl
    rw [maxI_eq] at ek
    subst ek
    exact ⟨.int _, H, I.kept (t' := tk) hk, ⟨t, rfl⟩, q⟩
  rcases hq with hq | hq
  · obtain ⟨its, rv, p, _⟩ := I.list hq
    exact PySem.W.max_list_datum (α := Int) (I.ok.hd hc) p.isList (holdAll_ints rv) hu2 (fin its rv)
  · obtain ⟨its, rv, p, _⟩ := I.tuple hq
    exact PySem.W.max_tuple_datum (α := Int) (I.ok.hd hc) (show s.heap.IsTuple a its.toArray from p) (holdAll_ints rv) hu2 (fin its rv)
/-- one sequence of intsD, or two intsD -/
def dBest (f2 : Int → Int → Int) (f : Int → List Int → Int) (xs : List D) : R D := match int2 xs with
  | some p => .ok (.int (f2 p.1 p.2))
  | none => (match xs with
    | [d] => (match (itemsOf d).bind intsD with
      | some (n :: ns) => .ok (.int (f n ns))
      | _ => .bad)
    | _ => .bad)
theorem best_cases {f2 : Int → Int → Int} {f : Int → List Int → Int} {xs : List D} {K : PySem.W.Frag} {S : Addr → Prop} {σ : St} {H : Hp} {Q : VK} (q : Post K px W S σ H (dBest f2 f xs) Q) :
    (∃ i j, xs = [.int i, .int j] ∧ Post K px W S σ H (.ok (.int (f2 i j))) Q) ∨ (∃ d n ns, xs = [d] ∧ (d = .tup ((n :: ns).map .int) ∨ d = .lst ((n :: ns).map .int)) ∧ Post K px W S σ H (.ok (.int (f n ns))) Q) := by
  unfold dBest at q
  split at q
  · rename_i p hp
    exact .inl ⟨p.1, p.2, int2_of hp, q⟩
  · split at q
    · rename_i d _
      split at q
      · rename_i n ns he
        refine .inr ⟨d, n, ns, rfl, ?_, q⟩
        simp only [Option.bind_eq_some_iff] at he
        obtain ⟨ds, e1, e2⟩ := he
        have e3 := ints_of e2
        subst e3
        cases d with
        | tup es =>
          simp only [itemsOf, Option.some.injEq] at e1
          exact .inl (by rw [e1])
        | lst es =>
          simp only [itemsOf, Option.some.injEq] at e1
          exact .inr (by rw [e1])
        | _ => simp [itemsOf] at e1
      · exact q.elim
    · exact q.elim
def dMin : List D → R D := dBest (fun i j => if j < i then j else i) minI
def dMax : List D → R D := dBest (fun i j => if j > i then j else i) maxI
def rBestA (K : PySem.W.Frag) (f2 : Int → Int → Int) (f : Int → List Int → Int) : List V → Hp → VK → Prop := fun xs H Q => (∃ i j, xs = [.int i, .int j] ∧ Q (.int (f2 i j)) H) ∨ rMinS K f xs H Q
theorem sv_best {f2 : Int → Int → Int} {f : Int → List Int → Int} : ServesA X px (rBestA X.K f2 f) (dBest f2 f) := by
  intro W S σ H xs vs Q r q
  rcases best_cases q with ⟨i, j, rfl, q2⟩ | ⟨d, n, ns, rfl, hd, q2⟩
  · obtain ⟨v, w, rfl, h1, u, z, rfl, h2, h3⟩ := r
    cases (show v = .int i from h1)
    cases (show u = .int j from h2)
    cases (show z = [] from h3)
    exact .inl ⟨i, j, rfl, Post.ret q2 rfl⟩
  · obtain ⟨v, w, rfl, h1, h2⟩ := r
    cases (show w = [] from h2)
    rcases hd with rfl | rfl
    · obtain ⟨a, ws, rfl, k1, k2, k3⟩ := h1
      have e := reps_intsV k3
      subst e
      exact .inr ⟨a, n, ns, rfl, .inr k1, Post.ret q2 rfl⟩
    · obtain ⟨a, ws, rfl, k1, _, k2, k3⟩ := h1
      have e := reps_intsV k3
      subst e
      exact .inr ⟨a, n, ns, rfl, .inl (SqL.of k1), Post.ret q2 rfl⟩
theorem call_minA (hc : X.calm = true) (hu : X.A.units + 64 < cLine) : CallR X (.builtin "min") (rBestA X.K (fun i j => if j < i then j else i) minI) := (call_min2 hc).or (call_minS hc hu)
theorem call_maxA (hc : X.calm = true) (hu : X.A.units + 64 < cLine) : CallR X (.builtin "max") (rBestA X.K (fun i j => if j > i then j else i) maxI) := (call_max2 hc).or (call_maxS hc hu)
def dSum : D → R D
  | .lst ds => (match intsD ds with
    | some ns => .ok (.int ns.sum)
    | none => .bad)
  | _ => .bad
theorem sv_sum : ServesA X px (rSum X.K) (one1 dSum) := by
  intro W S σ H xs vs Q r q
  obtain ⟨d, v, rfl, rfl, r1, q1⟩ := one1_of r q
  cases d with
  | lst ds =>
    obtain ⟨a, ws, rfl, h1, _, h2, h3⟩ := r1
    simp only [dSum] at q1
    split at q1
    · rename_i ns e
      have e2 := ints_of e
      subst e2
      have e3 := reps_intsV h3
      subst e3
      exact ⟨a, ns, rfl, SqL.of h1, Post.ret q1 rfl⟩
    · exact q1.elim
  | _ => exact (show False from q1).elim
def dAnyAll (f : List Bool → Bool) : D → R D
  | .lst ds => (match boolsD ds with
    | some ns => .ok (.bl (f ns))
    | none => .bad)
  | _ => .bad
def dAny : D → R D := dAnyAll fun bs => bs.any id
def dAll : D → R D := dAnyAll fun bs => bs.all id
theorem sv_anyall {f : List Bool → Bool} : ServesA X px (fun vs H Q => ∃ (a : Addr) (bs : List Bool), vs = [V.ref a] ∧ SqL X.K H a (bs.map V.bl) ∧ Q (.bl (f bs)) H) (one1 (dAnyAll f)) := by
  intro W S σ H xs vs Q r q
  obtain ⟨d, v, rfl, rfl, r1, q1⟩ := one1_of r q
  cases d with
  | lst ds =>
    obtain ⟨a, ws, rfl, h1, _, h2, h3⟩ := r1
    simp only [dAnyAll] at q1
    split at q1
    · rename_i ns e
      have e2 := bools_of e
      subst e2
      have e3 := reps_boolsV h3
      subst e3
      exact ⟨a, ns, rfl, SqL.of h1, Post.ret q1 rfl⟩
    · exact q1.elim
  | _ => exact (show False from q1).elim
theorem sv_any : ServesA X px (rAny X.K) (one1 dAny) := sv_anyall
theorem sv_all : ServesA X px (rAll X.K) (one1 dAll) := sv_anyall
/-! ### slices -/
def cutD (xs : List D) (lo hi : Option Int) : List D := (xs.drop (HT.sIx xs.length 0 lo)).take (HT.sIx xs.length xs.length hi - HT.sIx xs.length 0 lo)
def mPart (m : Option EM) : EnvD → R (Option Int) := fun e => match m with
  | none => .ok none
  | some m => (m e).bd fun d => match d with
    | .int i => .ok (some i)
    | _ => .bad
def dSl (d : D) (lo hi : Option Int) : R D := match d with
  | .tup ds => .ok (.tup (cutD ds lo hi))
  | .lst ds => .ok (.lst (cutD ds lo hi))
  | .str z => if z.length ≤ 16777216 then .ok (.str (cutS z lo hi)) else .bad
  | _ => .bad
def mSl (m : EM) (lo hi : Option EM) : EM := fun e => (m e).bd fun d => (mPart lo e).bd fun l => (mPart hi e).bd fun h => dSl d l h
def rSlAll (K : PySem.W.Frag) : V → Option Int → Option Int → Hp → VK → Prop := fun x lo hi H Q => rSlA K x lo hi H Q ∨ rSlL K x lo hi H Q ∨ rSlS x lo hi H Q
theorem sl_all : SlR X (rSlAll X.K) := sl_tupA.or (sl_list.or sl_str)
def PostO (K : PySem.W.Frag) (px : Px) (W : WX) (S : Addr → Prop) (σ : St) (H : Hp) (r : R (Option Int)) (Q : Option Int → Hp → Prop) : Prop := match r with
  | .ok b => ∀ H', Same H H' → Q b H'
  | .er c ns ds => ∀ dd H', Same H H' → ExF K px (Fr S H) H' ns ds dd → W (.ref (He.ga K c)) dd σ H'
  | .bad => False
def tDO (K : PySem.W.Frag) (px : Px) (W : WX) (m : Option EM) : TO := fun σ H Q => ∃ S e, RepV K px S H σ e ∧ PostO K px W S σ H (mPart m e) Q
abbrev DO (X : Cx) (px : Px) (W : WX) (e : Option Expr) (m : Option EM) : Prop := PO X e (tDO X.K px W m)
theorem o_none : DO X px W none none := ⟨fun pins s σ H Q I h => by
  obtain ⟨S, e, r, q⟩ := h
  exact po_none.run pins s σ H Q I (show Q none H from q H (Same.refl _))⟩
theorem o_some {a : Expr} {m : EM} (h : DE X px W a m) : DO X px W (some a) (some m) := ⟨fun pins s σ H Q I hw => by
  obtain ⟨S, e, r, q⟩ := hw
  refine (po_some h).run pins s σ H Q I ⟨S, e, r, ?_⟩
  unfold mPart at q
  cases hm : m e with
  | ok d =>
    simp only [hm, bd_ok] at q
    intro v H1 e1 r1
    cases d with
    | int i =>
      cases (show v = .int i from r1)
      exact ⟨i, rfl, q H1 e1⟩
    | _ => exact (show False from q).elim
  | er c ns ds =>
    simp only [hm, bd_er] at q
    exact q
  | bad =>
    simp only [hm, bd_bad] at q
    exact q⟩
theorem PostO.bd {K : PySem.W.Frag} {S : Addr → Prop} {σ : St} {H : Hp} {r : R (Option Int)} {f : Option Int → R D} {Q : VK} (h : Post K px W S σ H (r.bd f) Q) : PostO K px W S σ H r fun b H' => r = .ok b ∧ Same H H' ∧ Post K px W (Fr S H) σ H' (f b) Q := by
  cases r with
  | ok d => exact fun H2 e2 => ⟨rfl, e2, Post.later e2 h⟩
  | er c ns ds => exact h
  | bad => exact h
theorem PostO.imp {K : PySem.W.Frag} {S : Addr → Prop} {σ : St} {H : Hp} {r : R (Option Int)} {Q Q' : Option Int → Hp → Prop} (h : PostO K px W S σ H r Q) (i : ∀ v H', Q v H' → Q' v H') : PostO K px W S σ H r Q' := by
  cases r with
  | ok d => exact fun H2 e2 => i _ _ (h H2 e2)
  | er c ns ds => exact h
  | bad => exact h
theorem cut_reps {K : PySem.W.Frag} {S : Addr → Prop} {H : Hp} {ds : List D} {vs : List V} (r : Reps K px S H ds vs) (lo hi : Option Int) : Reps K px S H (cutD ds lo hi) (cutV vs lo hi) := by
  unfold cutD cutV
  rw [r.length]
  exact (r.drop _).take _
theorem e_sl {e : Expr} {lo hi : Option Expr} {p2 : Pos} {m : EM} {ml mh : Option EM} (he : DE X px W e m) (hl : DO X px W lo ml) (hh : DO X px W hi mh) : DE X px W (.Subscript e (.Slice lo hi none p2) pos) (mSl m ml mh) := by
  refine PE.imp (pe_slice sl_all he hl hh) fun σ H Q h => ?_
  obtain ⟨S, en, r, q⟩ := h
  refine ⟨S, en, r, (Post.bd q).imp fun v H1 ⟨d, _, e1, r1, q1⟩ => ?_⟩
  refine ⟨Fr S H, en, r.mono e1 fun _ => Fr.self, (PostO.bd q1).imp fun l H2 ⟨_, e2, q2⟩ => ?_⟩
  refine ⟨Fr (Fr S H) H1, en, r.mono (e1.trans e2) fun _ h => Fr.self (Fr.self h), (PostO.bd q2).imp fun u H3 ⟨_, e3, q3⟩ => ?_⟩
  have r3 : Rep X.K px (Fr (Fr (Fr S H) H1) H2) H3 d v := r1.mono (e2.trans e3) fun _ h => Fr.self (Fr.self h)
  generalize Fr (Fr (Fr S H) H1) H2 = S3 at r3 q3
  cases d with
  | tup ds =>
    obtain ⟨a, vs, rfl, h1, h2, h3⟩ := r3
    have q3 : Post X.K px W S3 σ H3 (.ok (.tup (cutD ds l u))) Q := q3
    refine .inl ⟨a, vs, rfl, h1, fun hw => ?_, fun hw p hp => ?_⟩
    · refine Post.ret q3 ⟨a, vs, rfl, h1, h2, ?_⟩
      have z := cut_reps h3 l u
      have e4 : cutV vs l u = vs := by
        unfold cutV
        rw [hw.1, hw.2, List.drop_zero, Nat.sub_zero, List.take_length]
      rw [e4] at z
      exact z
    · exact q3 _ _ (Same.new hp) (rep_tup hp (Nat.le_trans (cutV_length vs l u) h2) (cut_reps h3 l u))
  | lst ds =>
    obtain ⟨a, vs, rfl, h1, _, h2, h3⟩ := r3
    have q3 : Post X.K px W S3 σ H3 (.ok (.lst (cutD ds l u))) Q := q3
    exact .inr (.inl ⟨a, vs, rfl, SqL.of h1, fun p hp => q3 _ _ (Same.new hp) (rep_lst hp (Nat.le_trans (cutV_length vs l u) h2) (cut_reps h3 l u))⟩)
  | str z =>
    cases (show v = .str z from r3)
    simp only [dSl] at q3
    split at q3
    · rename_i hz
      exact .inr (.inr ⟨z, rfl, hz, Post.ret q3 rfl⟩)
    · exact q3.elim
  | _ => exact (show False from q3).elim
/-! ### and, or as values -/
def mAndV (a b : EM) : EM := fun e => (a e).bd fun x => (dTru x).bd fun k => if k = true then b e else .ok x
def mOrV (a b : EM) : EM := fun e => (a e).bd fun x => (dTru x).bd fun k => if k = true then .ok x else b e
theorem dTru_rep {K : PySem.W.Frag} {S : Addr → Prop} {H : Hp} {d : D} {v : V} {k : Bool} (r : Rep K px S H d v) (h : dTru d = .ok k) : TruV K v H k := by
  cases d with
  | non =>
    cases (show v = .non from r)
    injection h with h
    exact h.symm
  | bl b =>
    cases (show v = .bl b from r)
    injection h with h
    exact h.symm
  | int i =>
    cases (show v = .int i from r)
    injection h with h
    exact h.symm
  | tup ds =>
    obtain ⟨a, vs, rfl, h1, h2, h3⟩ := r
    injection h with h
    exact .inr (.inl ⟨vs, h1, by rw [isEmpty_reps h3]; exact h.symm⟩)
  | lst ds =>
    obtain ⟨a, vs, rfl, h1, _, h2, h3⟩ := r
    injection h with h
    exact .inl ⟨vs, SqL.of h1, by rw [isEmpty_reps h3]; exact h.symm⟩
  | _ => cases h
theorem dTru_cases (d : D) : (∃ k, dTru d = .ok k) ∨ dTru d = .bad := by
  cases d <;> first | exact .inl ⟨_, rfl⟩ | exact .inr rfl
theorem e_and1 {a : Expr} {m : EM} (h : DE X px W a m) : DE X px W (.BoolOp .And [a] pos) m := pe_one h
theorem e_or1 {a : Expr} {m : EM} (h : DE X px W a m) : DE X px W (.BoolOp .Or [a] pos) m := pe_one h
theorem e_and {a b : Expr} {rest : List Expr} {ma mb : EM} (ha : DE X px W a ma) (hb : DE X px W (.BoolOp .And (b :: rest) pos) mb) : DE X px W (.BoolOp .And (a :: b :: rest) pos) (mAndV ma mb) := by
  refine PE.imp (pe_andT ha hb) fun σ H Q h => ?_
  obtain ⟨S, e, r, q⟩ := h
  refine ⟨S, e, r, (Post.bd q).imp fun v H1 ⟨d, _, e1, r1, q1⟩ => ?_⟩
  rcases dTru_cases d with ⟨k, hk⟩ | hk
  · rw [hk] at q1
    refine ⟨k, dTru_rep r1 hk, ?_⟩
    cases k with
    | true => exact iteT ⟨Fr S H, e, r.mono e1 fun _ => Fr.self, q1⟩
    | false => exact iteF (Post.ret (d := d) q1 r1)
  · rw [hk] at q1
    exact (show False from q1).elim
theorem e_or {a b : Expr} {rest : List Expr} {ma mb : EM} (ha : DE X px W a ma) (hb : DE X px W (.BoolOp .Or (b :: rest) pos) mb) : DE X px W (.BoolOp .Or (a :: b :: rest) pos) (mOrV ma mb) := by
  refine PE.imp (pe_orT ha hb) fun σ H Q h => ?_
  obtain ⟨S, e, r, q⟩ := h
  refine ⟨S, e, r, (Post.bd q).imp fun v H1 ⟨d, _, e1, r1, q1⟩ => ?_⟩
  rcases dTru_cases d with ⟨k, hk⟩ | hk
  · rw [hk] at q1
    refine ⟨k, dTru_rep r1 hk, ?_⟩
    cases k with
    | true => exact iteT (Post.ret (d := d) q1 r1)
    | false => exact iteF ⟨Fr S H, e, r.mono e1 fun _ => Fr.self, q1⟩
  · rw [hk] at q1
    exact (show False from q1).elim
def dNot (d : D) : R D := (dTru d).bd fun k => .ok (.bl (!k))
theorem e_not {a : Expr} {m : EM} (ha : DE X px W a m) : DE X px W (.UnaryOp .Not a pos) (m1 dNot m) := by
  refine PE.imp (pe_notT ha) fun σ H Q h => ?_
  obtain ⟨S, e, r, q⟩ := h
  refine ⟨S, e, r, (Post.bd q).imp fun v H1 ⟨d, _, e1, r1, q1⟩ => ?_⟩
  unfold dNot at q1
  rcases dTru_cases d with ⟨k, hk⟩ | hk
  · rw [hk] at q1
    exact ⟨k, dTru_rep r1 hk, Post.ret (d := .bl _) q1 rfl⟩
  · rw [hk] at q1
    exact (show False from q1).elim
end DL

end
section
set_option Elab.async false
set_option linter.all false
set_option maxRecDepth 100000
namespace DL
open PySem PySem.Spec L2
open PyProof.Rows hiding St

/-! ### the slots of a frame: what is shared, what is owned -/
/-- a slot: nothing, a tree that is not changed, a list of one's own, an instance that is being made -/
inductive Sl where
  | no | fz (d : D) | ow (ds : List D) | ob (c : Str) (ns : List Str) (ds : List D) | pw (ds : List D)
  deriving Inhabited
abbrev SEnv := List Sl
def hide1 : Sl → Option D
  | .fz d => some d
  | _ => none
def lend1 : Sl → Option D
  | .fz d => some d
  | .ow ds => some (.lst ds)
  | .ob c ns ds => some (.obj c ns ds)
  | .pw ds => some (.lst ds)
  | .no => none
abbrev hide (e : SEnv) : EnvD := e.map hide1
abbrev lend (e : SEnv) : EnvD := e.map lend1
def isOw : Sl → Bool
  | .ow _ => true
  | .pw _ => true
  | _ => false
def isOb : Sl → Bool
  | .ob _ _ _ => true
  | _ => false
/-- what stays where it is -/
def pinned : Sl → Bool
  | .ob _ _ _ => true
  | .pw _ => true
  | _ => false
mutual
def noO : D → Bool
  | .tup ds => noOs ds
  | .lst ds => noOs ds
  | .obj _ _ _ => false
  | .exc _ _ _ => false
  | .dct _ _ => false
  | _ => true
def noOs : List D → Bool
  | [] => true
  | d :: ds => noO d && noOs ds
end
/-- nothing that is lent is in d -/
def okFor (e : SEnv) (d : D) : Bool := (!e.any isOw || noL d) && (!e.any isOb || noO d)
def okFors (e : SEnv) (ds : List D) : Bool := (!e.any isOw || noLs ds) && (!e.any isOb || noOs ds)
section
variable {K : PySem.W.Frag} {px : Px} {S S' : Addr → Prop} {H H' : Hp}
mutual
theorem Rep.cut (bL bO : Bool) (s : ∀ a, S a → (bL = true → ∀ xs, H a ≠ some (.lst xs)) → (bO = true → ∀ C dx fs, H a ≠ some (.ins C dx fs)) → S' a) : ∀ (d : D) (v : V), (bL = true → noL d = true) → (bO = true → noO d = true) → Rep K px S H d v → Rep K px S' H d v
  | .non, _, _, _, h => h
  | .bl _, _, _, _, h => h
  | .int _, _, _, _, h => h
  | .str _, _, _, _, h => h
  | .tup ds, _, p, q, ⟨a, vs, e1, h1, h2, h3⟩ => ⟨a, vs, e1, h1, h2, Reps.cut bL bO s ds vs (fun b => by simpa [DL.noL] using p b) (fun b => by simpa [DL.noO] using q b) h3⟩
  | .lst ds, _, p, q, ⟨a, vs, e1, h1, h2, h3, h4⟩ => ⟨a, vs, e1, h1, s a h2 (fun b => by
      have := p b
      simp [DL.noL] at this) (fun _ C dx fs z => by rw [h1] at z; cases z), h3, Reps.cut false bO (fun a u _ w => by
        cases hb : bL with
        | false => exact s a u (by rw [hb]; intro z; cases z) w
        | true =>
          have := p hb
          simp [DL.noL] at this) ds vs (fun b => by cases b) (fun b => by simpa [DL.noO] using q b) h4⟩
  | .obj _ _ ds, _, p, q, ⟨a, dx, fvs, e1, h1, h2, h3, h4⟩ => ⟨a, dx, fvs, e1, h1, s a h2 (fun _ xs z => by rw [h1] at z; cases z) (fun b => by
      have := q b
      simp [DL.noO] at this), h3, Reps.cut bL false (fun a u w _ => by
        cases hb : bO with
        | false => exact s a u w (by rw [hb]; intro z; cases z)
        | true =>
          have := q hb
          simp [DL.noO] at this) ds fvs (fun b => by simpa [DL.noL] using p b) (fun b => by cases b) h4⟩
  | .exc _ _ ds, _, p, q, ⟨a, dd, e1, e2, h⟩ => ⟨a, dd, e1, e2, h.imp id fun ⟨dx, fvs, e3, h1, h2, h3⟩ => ⟨dx, fvs, e3, h1, h2, Reps.cut false false (fun a u _ _ => by
        cases hb : bL with
        | true =>
          have := p hb
          simp [DL.noL] at this
        | false =>
          cases hc : bO with
          | true =>
            have := q hc
            simp [DL.noO] at this
          | false => exact s a u (by rw [hb]; intro z; cases z) (by rw [hc]; intro z; cases z)) ds fvs (fun b => by cases b) (fun b => by cases b) h3⟩⟩
  | .dct _ _, _, _, _, h => h
  | .scr _, _, _, _, h => h
theorem Reps.cut (bL bO : Bool) (s : ∀ a, S a → (bL = true → ∀ xs, H a ≠ some (.lst xs)) → (bO = true → ∀ C dx fs, H a ≠ some (.ins C dx fs)) → S' a) : ∀ (ds : List D) (vs : List V), (bL = true → noLs ds = true) → (bO = true → noOs ds = true) → Reps K px S H ds vs → Reps K px S' H ds vs
  | [], _, _, _, h => h
  | d :: ds, _, p, q, ⟨v, r, e1, h1, h2⟩ => by
    have p' : bL = true → noL d = true ∧ noLs ds = true := fun b => by simpa [noLs] using p b
    have q' : bO = true → noO d = true ∧ noOs ds = true := fun b => by simpa [noOs] using q b
    exact ⟨v, r, e1, Rep.cut bL bO s d v (fun b => (p' b).1) (fun b => (q' b).1) h1, Reps.cut bL bO s ds r (fun b => (p' b).2) (fun b => (q' b).2) h2⟩
end
end

/-- what a slot holds; o: the place that it owns -/
def SlR (K : PySem.W.Frag) (px : Px) (A : Addr → Prop) (H : Hp) : Sl → Option Addr → Option V → Prop
  | .no, o, _ => o = none
  | .fz d, o, x => o = none ∧ ∃ v, x = some v ∧ Rep K px A H d v
  | .ow ds, o, x => ∃ a vs, o = some a ∧ x = some (.ref a) ∧ H a = some (.lst vs) ∧ vs.length ≤ sizeLine ∧ Reps K px A H ds vs
  | .ob c ns ds, o, x => ∃ a dx fvs, o = some a ∧ x = some (.ref a) ∧ H a = some (.ins (He.ga K c) dx (ns.zip fvs)) ∧ ns.length = fvs.length ∧ Reps K px A H ds fvs
  | .pw ds, o, x => ∃ a vs, o = some a ∧ x = some (.ref a) ∧ H a = some (.lst vs) ∧ vs.length ≤ sizeLine ∧ Reps K px A H ds vs
/-- where things may lie; the instance that is being made -/
abbrev Reg := (Addr → Prop) × Option Addr
/-- where shared things may lie -/
def Al (S0 : Reg) (H0 : Hp) (O : Nat → Option Addr) : Addr → Prop := fun a => Fr S0.1 H0 a ∧ ∀ i, O i ≠ some a
structure RepE (K : PySem.W.Frag) (px : Px) (S0 : Reg) (H0 : Hp) (O : Nat → Option Addr) (H : Hp) (σ : St) (e : SEnv) : Prop where
  same : Same H0 H
  len : σ.length = e.length
  new : ∀ i a, O i = some a → H0 a = none
  inj : ∀ i j a, O i = some a → O j = some a → i = j
  sl : ∀ i s, e[i]? = some s → ∃ x, σ[i]? = some x ∧ SlR K px (Al S0 H0 O) H s (O i) x
  out : ∀ i, e[i]? = none → O i = none
  ob : ∀ i s, e[i]? = some s → pinned s = true → ∃ a, S0.2 = some a ∧ O i = some a
section
variable {K : PySem.W.Frag} {px : Px} {S0 : Reg} {H0 H H' : Hp} {O : Nat → Option Addr} {σ : St} {e : SEnv}
theorem SlR.mono {A A' : Addr → Prop} {s : Sl} {o : Option Addr} {x : Option V} (h : Same H H') (t : ∀ a, A a → A' a) (r : SlR K px A H s o x) : SlR K px A' H' s o x := by
  cases s with
  | no => exact r
  | fz d =>
    obtain ⟨h1, v, h2, h3⟩ := r
    exact ⟨h1, v, h2, h3.mono h t⟩
  | ow ds =>
    obtain ⟨a, vs, h1, h2, h3, h4, h5⟩ := r
    exact ⟨a, vs, h1, h2, h _ _ h3, h4, Reps.mono h t _ _ h5⟩
  | ob c ns ds =>
    obtain ⟨a, dx, fvs, h1, h2, h3, h4, h5⟩ := r
    exact ⟨a, dx, fvs, h1, h2, h _ _ h3, h4, Reps.mono h t _ _ h5⟩
  | pw ds =>
    obtain ⟨a, vs, h1, h2, h3, h4, h5⟩ := r
    exact ⟨a, vs, h1, h2, h _ _ h3, h4, Reps.mono h t _ _ h5⟩
/-- tracked places only -/
theorem SlR.trk {A A' : Addr → Prop} {s : Sl} {o : Option Addr} {x : Option V} (t : ∀ a, A a → H a ≠ none → A' a) (r : SlR K px A H s o x) : SlR K px A' H s o x := by
  cases s with
  | no => exact r
  | fz d =>
    obtain ⟨h1, v, h2, h3⟩ := r
    exact ⟨h1, v, h2, h3.trk t⟩
  | ow ds =>
    obtain ⟨a, vs, h1, h2, h3, h4, h5⟩ := r
    exact ⟨a, vs, h1, h2, h3, h4, Reps.trk t _ _ h5⟩
  | ob c ns ds =>
    obtain ⟨a, dx, fvs, h1, h2, h3, h4, h5⟩ := r
    exact ⟨a, dx, fvs, h1, h2, h3, h4, Reps.trk t _ _ h5⟩
  | pw ds =>
    obtain ⟨a, vs, h1, h2, h3, h4, h5⟩ := r
    exact ⟨a, vs, h1, h2, h3, h4, Reps.trk t _ _ h5⟩
theorem RepE.mono (r : RepE K px S0 H0 O H σ e) (h : Same H H') : RepE K px S0 H0 O H' σ e :=
  ⟨r.same.trans h, r.len, r.new, r.inj, fun i s q => let ⟨x, h1, h2⟩ := r.sl i s q; ⟨x, h1, h2.mono h fun _ z => z⟩, r.out, r.ob⟩
/-- what is owned stands -/
theorem RepE.own (r : RepE K px S0 H0 O H σ e) {i : Nat} {a : Addr} (h : O i = some a) : ∃ s, e[i]? = some s ∧ ((isOw s = true ∧ ∃ vs, H a = some (.lst vs)) ∨ (isOb s = true ∧ ∃ c dx fs, H a = some (.ins (He.ga K c) dx fs))) := by
  cases hs : e[i]? with
  | none => rw [r.out i hs] at h; cases h
  | some s =>
    obtain ⟨x, h1, h2⟩ := r.sl i s hs
    refine ⟨s, rfl, ?_⟩
    cases s with
    | no => rw [show O i = none from h2] at h; cases h
    | fz d => rw [h2.1] at h; cases h
    | ow ds =>
      obtain ⟨b, vs, k1, k2, k3, k4, k5⟩ := h2
      rw [k1] at h
      cases h
      exact .inl ⟨rfl, vs, k3⟩
    | ob c ns ds =>
      obtain ⟨b, dx, fvs, k1, k2, k3, k4, k5⟩ := h2
      rw [k1] at h
      cases h
      exact .inr ⟨rfl, c, dx, _, k3⟩
    | pw ds =>
      obtain ⟨b, vs, k1, k2, k3, k4, k5⟩ := h2
      rw [k1] at h
      cases h
      exact .inl ⟨rfl, vs, k3⟩
theorem RepE.tr (r : RepE K px S0 H0 O H σ e) {i : Nat} {a : Addr} (h : O i = some a) : H a ≠ none := by
  obtain ⟨s, _, h | h⟩ := r.own h
  · obtain ⟨_, vs, h⟩ := h
    rw [h]; intro z; cases z
  · obtain ⟨_, c, dx, fs, h⟩ := h
    rw [h]; intro z; cases z
/-- fresh places are shared ones -/
theorem RepE.al (r : RepE K px S0 H0 O H σ e) {a : Addr} (h : Fr (Al S0 H0 O) H a) : Al S0 H0 O a := by
  rcases h with h | h
  · exact h
  · exact ⟨.inr (r.same.free h), fun i q => r.tr q h⟩
theorem RepE.hid (r : RepE K px S0 H0 O H σ e) : RepV K px (Al S0 H0 O) H σ (hide e) := by
  refine ⟨by rw [List.length_map]; exact r.len, fun i d q => ?_⟩
  rw [List.getElem?_map] at q
  cases hs : e[i]? with
  | none => rw [hs] at q; cases q
  | some s =>
    rw [hs] at q
    obtain ⟨x, h1, h2⟩ := r.sl i s hs
    cases s with
    | fz d' =>
      have q : some (some d') = some (some d) := q
      cases q
      obtain ⟨_, v, rfl, h3⟩ := h2
      exact ⟨v, h1, h3⟩
    | no => cases q
    | ow ds => cases q
    | ob c ns ds => cases q
    | pw ds => cases q
theorem RepE.len' (r : RepE K px S0 H0 O H σ e) : RepV K px (Fr S0.1 H0) H σ (lend e) := by
  refine ⟨by rw [List.length_map]; exact r.len, fun i d q => ?_⟩
  rw [List.getElem?_map] at q
  cases hs : e[i]? with
  | none => rw [hs] at q; cases q
  | some s =>
    rw [hs] at q
    obtain ⟨x, h1, h2⟩ := r.sl i s hs
    cases s with
    | fz d' =>
      have q : some (some d') = some (some d) := q
      cases q
      obtain ⟨_, v, rfl, h3⟩ := h2
      exact ⟨v, h1, h3.mono (Same.refl _) fun _ z => z.1⟩
    | no => cases q
    | ow ds =>
      have q : some (some (D.lst ds)) = some (some d) := q
      cases q
      obtain ⟨a, vs, k1, rfl, k3, k4, k5⟩ := h2
      exact ⟨_, h1, a, vs, rfl, k3, .inr (r.new i a k1), k4, Reps.mono (Same.refl _) (fun _ z => z.1) _ _ k5⟩
    | ob c ns ds =>
      have q : some (some (D.obj c ns ds)) = some (some d) := q
      cases q
      obtain ⟨a, dx, fvs, k1, rfl, k3, k4, k5⟩ := h2
      exact ⟨_, h1, a, dx, fvs, rfl, k3, .inr (r.new i a k1), k4, Reps.mono (Same.refl _) (fun _ z => z.1) _ _ k5⟩
    | pw ds =>
      have q : some (some (D.lst ds)) = some (some d) := q
      cases q
      obtain ⟨a, vs, k1, rfl, k3, k4, k5⟩ := h2
      exact ⟨_, h1, a, vs, rfl, k3, .inr (r.new i a k1), k4, Reps.mono (Same.refl _) (fun _ z => z.1) _ _ k5⟩
theorem any_of {f : Sl → Bool} {e : SEnv} {i : Nat} {s : Sl} (h : e[i]? = some s) (f1 : f s = true) : e.any f = true := by
  rw [List.any_eq_true]
  exact ⟨s, List.mem_of_getElem? h, f1⟩
theorem RepE.cutS (r : RepE K px S0 H0 O H σ e) {a : Addr} (h : Fr (Fr S0.1 H0) H a) (h1 : (e.any isOw) = true → ∀ xs, H a ≠ some (.lst xs)) (h2 : (e.any isOb) = true → ∀ C dx fs, H a ≠ some (.ins C dx fs)) : Al S0 H0 O a := by
  refine ⟨?_, fun i q => ?_⟩
  · rcases h with h | h
    · exact h
    · exact .inr (r.same.free h)
  · obtain ⟨s, hs, ⟨o, vs, k⟩ | ⟨o, c, dx, fs, k⟩⟩ := r.own q
    · exact h1 (any_of hs o) _ k
    · exact h2 (any_of hs o) _ _ _ k
theorem okFor_split {e : SEnv} {d : D} (h : okFor e d = true) : ((e.any isOw) = true → noL d = true) ∧ ((e.any isOb) = true → noO d = true) := by
  unfold okFor at h
  revert h
  cases e.any isOw <;> cases e.any isOb <;> simp
theorem okFors_split {e : SEnv} {d : List D} (h : okFors e d = true) : ((e.any isOw) = true → noLs d = true) ∧ ((e.any isOb) = true → noOs d = true) := by
  unfold okFors at h
  revert h
  cases e.any isOw <;> cases e.any isOb <;> simp
/-- what has come of lent things is shared -/
theorem RepE.back (r : RepE K px S0 H0 O H σ e) (h : Same H H') {d : D} {v : V} (k : okFor e d = true) (q : Rep K px (Fr (Fr S0.1 H0) H) H' d v) : Rep K px (Al S0 H0 O) H' d v :=
  Rep.cut (e.any isOw) (e.any isOb) (fun a u w x => (r.mono h).cutS (by
    rcases u with u | u
    · exact .inl u
    · exact .inl (.inr (r.same.free u))) w x) d v (okFor_split k).1 (okFor_split k).2 q
theorem RepE.backs (r : RepE K px S0 H0 O H σ e) (h : Same H H') {d : List D} {v : List V} (k : okFors e d = true) (q : Reps K px (Fr (Fr S0.1 H0) H) H' d v) : Reps K px (Al S0 H0 O) H' d v :=
  Reps.cut (e.any isOw) (e.any isOb) (fun a u w x => (r.mono h).cutS (by
    rcases u with u | u
    · exact .inl u
    · exact .inl (.inr (r.same.free u))) w x) d v (okFors_split k).1 (okFors_split k).2 q

/-! ### slots are changed -/
/-- a slot lets go of what it owns -/
def offO (O : Nat → Option Addr) (i : Nat) : Nat → Option Addr := fun j => if j = i then none else O j
theorem al_off {i : Nat} {a : Addr} (h : Al S0 H0 O a) : Al S0 H0 (offO O i) a := ⟨h.1, fun j q => by
  unfold offO at q
  split at q
  · cases q
  · exact h.2 j q⟩
theorem getElem_set {α : Type} {l : List α} {i j : Nat} {x y : α} (h : (l.set i x)[j]? = some y) : (i = j ∧ y = x) ∨ (i ≠ j ∧ l[j]? = some y) := by
  by_cases hij : i = j
  · subst hij
    by_cases hlt : i < l.length
    · rw [List.getElem?_set_self hlt] at h
      cases h
      exact .inl ⟨rfl, rfl⟩
    · rw [List.getElem?_eq_none (by simpa using hlt)] at h
      cases h
  · rw [List.getElem?_set_ne hij] at h
    exact .inr ⟨hij, h⟩
theorem getElem_setN {α : Type} {l : List α} {i j : Nat} {x : α} (h : (l.set i x)[j]? = none) : l[j]? = none := by
  rw [List.getElem?_eq_none_iff, List.length_set] at h
  exact List.getElem?_eq_none h
theorem set_get {α : Type} {l : List α} {i : Nat} {x : α} (h : i < l.length) : (l.set i x)[i]? = some x := List.getElem?_set_self h
theorem lt_of_get {α : Type} {l : List α} {i : Nat} {y : α} (h : l[i]? = some y) : i < l.length := (List.getElem?_eq_some_iff.mp h).1
/-- a slot gets a shared value -/
theorem RepE.put (r : RepE K px S0 H0 O H σ e) {i : Nat} {d : D} {v : V} (q : Rep K px (Al S0 H0 O) H d v) : RepE K px S0 H0 (offO O i) H (σ.set i (some v)) (e.set i (.fz d)) := by
  refine ⟨r.same, by rw [List.length_set, List.length_set]; exact r.len, fun j a h => ?_, fun j k a h h' => ?_, fun j s h => ?_, fun j h => ?_, fun j s h hp => ?_⟩
  · unfold offO at h
    split at h
    · cases h
    · exact r.new j a h
  · unfold offO at h h'
    split at h
    · cases h
    · split at h'
      · cases h'
      · exact r.inj j k a h h'
  · rcases getElem_set h with ⟨rfl, rfl⟩ | ⟨n, h⟩
    · refine ⟨some v, set_get ?_, ?_, v, rfl, q.mono (Same.refl _) fun a => al_off⟩
      · have := lt_of_get h
        rw [List.length_set] at this
        rw [r.len]
        exact this
      · unfold offO
        rw [if_pos rfl]
    · obtain ⟨x, h1, h2⟩ := r.sl j s h
      refine ⟨x, by rw [List.getElem?_set_ne n]; exact h1, ?_⟩
      have e1 : offO O i j = O j := by unfold offO; rw [if_neg (Ne.symm n)]
      rw [e1]
      exact h2.mono (Same.refl _) fun a => al_off
  · have := r.out j (getElem_setN h)
    unfold offO
    split
    · rfl
    · exact this
  · rcases getElem_set h with ⟨_, rfl⟩ | ⟨n, h⟩
    · cases hp
    · obtain ⟨b, h1, h2⟩ := r.ob j s h hp
      exact ⟨b, h1, by unfold offO; rw [if_neg (Ne.symm n)]; exact h2⟩
/-- a list of one's own is given to all -/
def frz1 : Sl → Sl
  | .ow ds => .fz (.lst ds)
  | .ob c ns ds => .fz (.obj c ns ds)
  | .pw ds => .fz (.lst ds)
  | s => s
def frzE (i : Nat) (e : SEnv) : SEnv := match e[i]? with
  | some s => e.set i (frz1 s)
  | none => e
theorem RepE.frz (r : RepE K px S0 H0 O H σ e) (i : Nat) : ∃ O', RepE K px S0 H0 O' H σ (frzE i e) := by
  unfold frzE
  cases hs : e[i]? with
  | none => exact ⟨O, r⟩
  | some s0 =>
    refine ⟨offO O i, r.same, by rw [List.length_set]; exact r.len, fun j a h => ?_, fun j k a h h' => ?_, fun j s h => ?_, fun j h => ?_, fun j s h hp => ?_⟩
    · unfold offO at h
      split at h
      · cases h
      · exact r.new j a h
    · unfold offO at h h'
      split at h
      · cases h
      · split at h'
        · cases h'
        · exact r.inj j k a h h'
    · rcases getElem_set h with ⟨rfl, rfl⟩ | ⟨n, h⟩
      · obtain ⟨x, h1, h2⟩ := r.sl i s0 hs
        have e1 : offO O i i = none := by unfold offO; rw [if_pos rfl]
        rw [e1]
        refine ⟨x, h1, ?_⟩
        have up : ∀ {a : Addr}, O i = some a → Al S0 H0 (offO O i) a := fun {a} q => ⟨.inr (r.new _ _ q), fun j z => by
          unfold offO at z
          split at z
          · cases z
          · rename_i n
            exact n (r.inj j i a z q)⟩
        cases s0 with
        | no => exact rfl
        | fz d =>
          obtain ⟨_, v, h3, h4⟩ := h2
          exact ⟨rfl, v, h3, h4.mono (Same.refl _) fun a => al_off⟩
        | ow ds =>
          obtain ⟨a, vs, k1, k2, k3, k4, k5⟩ := h2
          exact ⟨rfl, _, k2, a, vs, rfl, k3, up k1, k4, Reps.mono (Same.refl _) (fun a => al_off) _ _ k5⟩
        | ob c ns ds =>
          obtain ⟨a, dx, fvs, k1, k2, k3, k4, k5⟩ := h2
          exact ⟨rfl, _, k2, a, dx, fvs, rfl, k3, up k1, k4, Reps.mono (Same.refl _) (fun a => al_off) _ _ k5⟩
        | pw ds =>
          obtain ⟨a, vs, k1, k2, k3, k4, k5⟩ := h2
          exact ⟨rfl, _, k2, a, vs, rfl, k3, up k1, k4, Reps.mono (Same.refl _) (fun a => al_off) _ _ k5⟩
      · obtain ⟨x, h1, h2⟩ := r.sl j s h
        refine ⟨x, h1, ?_⟩
        have e1 : offO O i j = O j := by unfold offO; rw [if_neg (Ne.symm n)]
        rw [e1]
        exact h2.mono (Same.refl _) fun a => al_off
    · have := r.out j (getElem_setN h)
      unfold offO
      split
      · rfl
      · exact this
    · rcases getElem_set h with ⟨_, z⟩ | ⟨n, h⟩
      · subst z
        cases s0 <;> cases hp
      · obtain ⟨b, h1, h2⟩ := r.ob j s h hp
        exact ⟨b, h1, by unfold offO; rw [if_neg (Ne.symm n)]; exact h2⟩
/-- a slot gets a list of its own -/
def onO (O : Nat → Option Addr) (i : Nat) (a : Addr) : Nat → Option Addr := fun j => if j = i then some a else O j
theorem RepE.take (r : RepE K px S0 H0 O H σ e) {i : Nat} {a : Addr} {ds : List D} {vs : List V} (hi : i < e.length) (h : Same H H') (na : H a = none) (ha : H' a = some (.lst vs)) (hl : vs.length ≤ sizeLine)
    (q : Reps K px (fun b => Al S0 H0 O b ∧ b ≠ a) H' ds vs) : RepE K px S0 H0 (onO O i a) H' (σ.set i (some (.ref a))) (e.set i (.ow ds)) := by
  have al : ∀ b, Al S0 H0 O b → b ≠ a → Al S0 H0 (onO O i a) b := fun b hb n => ⟨hb.1, fun j z => by
    unfold onO at z
    split at z
    · cases z
      exact n rfl
    · exact hb.2 j z⟩
  refine ⟨r.same.trans h, by rw [List.length_set, List.length_set]; exact r.len, fun j b z => ?_, fun j k b z z' => ?_, fun j s z => ?_, fun j z => ?_, fun j s z hp => ?_⟩
  · unfold onO at z
    split at z
    · cases z
      exact r.same.free na
    · exact r.new j b z
  · unfold onO at z z'
    split at z
    · rename_i e1
      cases z
      split at z'
      · rename_i e2
        rw [e1, e2]
      · exact (r.tr z' na).elim
    · split at z'
      · cases z'
        exact (r.tr z na).elim
      · exact r.inj j k b z z'
  · rcases getElem_set z with ⟨rfl, rfl⟩ | ⟨n, z⟩
    · refine ⟨some (.ref a), set_get (by rw [r.len]; exact hi), a, vs, ?_, rfl, ha, hl, Reps.mono (Same.refl _) (fun b hb => al b hb.1 hb.2) _ _ q⟩
      unfold onO
      rw [if_pos rfl]
    · obtain ⟨x, h1, h2⟩ := r.sl j s z
      refine ⟨x, by rw [List.getElem?_set_ne n]; exact h1, ?_⟩
      have e1 : onO O i a j = O j := by unfold onO; rw [if_neg (Ne.symm n)]
      rw [e1]
      exact (h2.trk fun b hb n => al b hb fun z => n (by rw [z]; exact na)).mono h fun _ z => z
  · have zz := getElem_setN z
    have n : j ≠ i := fun w => by
      rw [List.getElem?_eq_none_iff] at zz
      omega
    unfold onO
    rw [if_neg n]
    exact r.out j zz
  · rcases getElem_set z with ⟨_, rfl⟩ | ⟨n, z⟩
    · cases hp
    · obtain ⟨b, h1, h2⟩ := r.ob j s z hp
      exact ⟨b, h1, by unfold onO; rw [if_neg (Ne.symm n)]; exact h2⟩
/-- one's own list is changed -/
theorem RepE.mut (r : RepE K px S0 H0 O H σ e) {i : Nat} {a : Addr} {ds ds' : List D} {vs' : List V} (hs : e[i]? = some (.ow ds)) (ha : O i = some a) (hl : vs'.length ≤ sizeLine)
    (q : Reps K px (Al S0 H0 O) H ds' vs') : RepE K px S0 H0 O (L2.upd H a (.lst vs')) σ (e.set i (.ow ds')) := by
  have hi := lt_of_get hs
  obtain ⟨x, h1, b, vs, k1, k2, k3, k4, k5⟩ := r.sl i _ hs
  rw [ha] at k1
  cases k1
  have nA : ¬ Al S0 H0 O a := fun z => z.2 i ha
  refine ⟨fun b u z => ?_, by rw [List.length_set]; exact r.len, r.new, r.inj, fun j s z => ?_, fun j z => r.out j (getElem_setN z), fun j s z hp => ?_⟩
  · have n : b ≠ a := fun w => by
      rw [w, r.new i a ha] at z
      cases z
    rw [upd_ne n]
    exact r.same _ _ z
  · rcases getElem_set z with ⟨rfl, rfl⟩ | ⟨n, z⟩
    · exact ⟨x, h1, a, vs', ha, k2, upd_same, hl, Reps.upd k3 nA _ _ q⟩
    · obtain ⟨x, h1, h2⟩ := r.sl j s z
      refine ⟨x, h1, ?_⟩
      cases s with
      | no => exact h2
      | fz d =>
        obtain ⟨g1, v, g2, g3⟩ := h2
        exact ⟨g1, v, g2, Rep.upd k3 nA _ _ g3⟩
      | ow es =>
        obtain ⟨b, ws, g1, g2, g3, g4, g5⟩ := h2
        have nb : b ≠ a := fun w => n (r.inj i j a ha (w ▸ g1))
        exact ⟨b, ws, g1, g2, by rw [upd_ne nb]; exact g3, g4, Reps.upd k3 nA _ _ g5⟩
      | ob c ns es =>
        obtain ⟨b, dx, ws, g1, g2, g3, g4, g5⟩ := h2
        have nb : b ≠ a := fun w => n (r.inj i j a ha (w ▸ g1))
        exact ⟨b, dx, ws, g1, g2, by rw [upd_ne nb]; exact g3, g4, Reps.upd k3 nA _ _ g5⟩
      | pw es =>
        obtain ⟨b, ws, g1, g2, g3, g4, g5⟩ := h2
        have nb : b ≠ a := fun w => n (r.inj i j a ha (w ▸ g1))
        exact ⟨b, ws, g1, g2, by rw [upd_ne nb]; exact g3, g4, Reps.upd k3 nA _ _ g5⟩
  · rcases getElem_set z with ⟨_, w⟩ | ⟨n, z⟩
    · subst w
      cases hp
    · exact r.ob j s z hp
/-- the caller's list is changed -/
theorem RepE.mutP (r : RepE K px S0 H0 O H σ e) {i : Nat} {a : Addr} {ds ds' : List D} {vs' : List V} (hs : e[i]? = some (.pw ds)) (ha : O i = some a) (hl : vs'.length ≤ sizeLine)
    (q : Reps K px (Al S0 H0 O) H ds' vs') : RepE K px S0 H0 O (L2.upd H a (.lst vs')) σ (e.set i (.pw ds')) := by
  have hi := lt_of_get hs
  obtain ⟨x, h1, b, vs, k1, k2, k3, k4, k5⟩ := r.sl i _ hs
  rw [ha] at k1
  cases k1
  have nA : ¬ Al S0 H0 O a := fun z => z.2 i ha
  refine ⟨fun b u z => ?_, by rw [List.length_set]; exact r.len, r.new, r.inj, fun j s z => ?_, fun j z => r.out j (getElem_setN z), fun j s z hp => ?_⟩
  · have n : b ≠ a := fun w => by
      rw [w, r.new i a ha] at z
      cases z
    rw [upd_ne n]
    exact r.same _ _ z
  · rcases getElem_set z with ⟨rfl, rfl⟩ | ⟨n, z⟩
    · exact ⟨x, h1, a, vs', ha, k2, upd_same, hl, Reps.upd k3 nA _ _ q⟩
    · obtain ⟨x, h1, h2⟩ := r.sl j s z
      refine ⟨x, h1, ?_⟩
      cases s with
      | no => exact h2
      | fz d =>
        obtain ⟨g1, v, g2, g3⟩ := h2
        exact ⟨g1, v, g2, Rep.upd k3 nA _ _ g3⟩
      | ow es =>
        obtain ⟨b, ws, g1, g2, g3, g4, g5⟩ := h2
        have nb : b ≠ a := fun w => n (r.inj i j a ha (w ▸ g1))
        exact ⟨b, ws, g1, g2, by rw [upd_ne nb]; exact g3, g4, Reps.upd k3 nA _ _ g5⟩
      | ob c ns es =>
        obtain ⟨b, dx, ws, g1, g2, g3, g4, g5⟩ := h2
        have nb : b ≠ a := fun w => n (r.inj i j a ha (w ▸ g1))
        exact ⟨b, dx, ws, g1, g2, by rw [upd_ne nb]; exact g3, g4, Reps.upd k3 nA _ _ g5⟩
      | pw es =>
        obtain ⟨b, ws, g1, g2, g3, g4, g5⟩ := h2
        have nb : b ≠ a := fun w => n (r.inj i j a ha (w ▸ g1))
        exact ⟨b, ws, g1, g2, by rw [upd_ne nb]; exact g3, g4, Reps.upd k3 nA _ _ g5⟩
  · rcases getElem_set z with ⟨_, w⟩ | ⟨n, z⟩
    · rename_i eij
      rw [← eij]
      exact r.ob i _ hs rfl
    · exact r.ob j s z hp
/-- one's own instance is changed -/
theorem RepE.mutO (r : RepE K px S0 H0 O H σ e) {i : Nat} {a dx : Addr} {c : Str} {ns ns' : List Str} {ds ds' : List D} {fs : List (Str × V)} {fvs' : List V} (hs : e[i]? = some (.ob c ns ds)) (ha : O i = some a) (hH : H a = some (.ins (He.ga K c) dx fs)) (hl : ns'.length = fvs'.length)
    (q : Reps K px (Al S0 H0 O) H ds' fvs') : RepE K px S0 H0 O (L2.upd H a (.ins (He.ga K c) dx (ns'.zip fvs'))) σ (e.set i (.ob c ns' ds')) := by
  have hi := lt_of_get hs
  obtain ⟨x, h1, b, dx0, vs, k1, k2, k3, k4, k5⟩ := r.sl i _ hs
  rw [ha] at k1
  cases k1
  have nA : ¬ Al S0 H0 O a := fun z => z.2 i ha
  refine ⟨fun b u z => ?_, by rw [List.length_set]; exact r.len, r.new, r.inj, fun j s z => ?_, fun j z => r.out j (getElem_setN z), fun j s z hp => ?_⟩
  · have n : b ≠ a := fun w => by
      rw [w, r.new i a ha] at z
      cases z
    rw [upd_ne n]
    exact r.same _ _ z
  · rcases getElem_set z with ⟨rfl, rfl⟩ | ⟨n, z⟩
    · exact ⟨x, h1, a, dx, fvs', ha, k2, upd_same, hl, Reps.updO hH nA _ _ q⟩
    · obtain ⟨x, h1, h2⟩ := r.sl j s z
      refine ⟨x, h1, ?_⟩
      cases s with
      | no => exact h2
      | fz d =>
        obtain ⟨g1, v, g2, g3⟩ := h2
        exact ⟨g1, v, g2, Rep.updO hH nA _ _ g3⟩
      | ow es =>
        obtain ⟨b, ws, g1, g2, g3, g4, g5⟩ := h2
        have nb : b ≠ a := fun w => n (r.inj i j a ha (w ▸ g1))
        exact ⟨b, ws, g1, g2, by rw [upd_ne nb]; exact g3, g4, Reps.updO hH nA _ _ g5⟩
      | ob c ns es =>
        obtain ⟨b, dx, ws, g1, g2, g3, g4, g5⟩ := h2
        have nb : b ≠ a := fun w => n (r.inj i j a ha (w ▸ g1))
        exact ⟨b, dx, ws, g1, g2, by rw [upd_ne nb]; exact g3, g4, Reps.updO hH nA _ _ g5⟩
      | pw es =>
        obtain ⟨b, ws, g1, g2, g3, g4, g5⟩ := h2
        have nb : b ≠ a := fun w => n (r.inj i j a ha (w ▸ g1))
        exact ⟨b, ws, g1, g2, by rw [upd_ne nb]; exact g3, g4, Reps.updO hH nA _ _ g5⟩
  · rcases getElem_set z with ⟨rfl, w⟩ | ⟨n, z⟩
    · exact r.ob i _ hs rfl
    · exact r.ob j s z hp
end
end DL

end
section
set_option Elab.async false
set_option linter.all false
set_option maxRecDepth 100000
namespace DL
open PySem PySem.Spec L2
open PyProof.Rows hiding St

/-! ### expressions over slots -/
abbrev SEM := SEnv → R D
section
variable (K : PySem.W.Frag) (px : Px) (W : WX) (S0 : Reg) (H0 : Hp) (O : Nat → Option Addr) (H : Hp) (σ : St) (e : SEnv)
def PostX (r : R D) (Q : VK) : Prop := match r with
  | .ok d => ∀ v H', Same H H' → RepE K px S0 H0 O H' σ e → Rep K px (Al S0 H0 O) H' d v → Q v H'
  | .er c ns ds => ∀ dd H', RepE K px S0 H0 O H' σ e → ExF K px (Al S0 H0 O) H' ns ds dd → W (.ref (He.ga K c)) dd σ H'
  | .bad => False
/-- the same, the answer a list that is new -/
def PostN (r : R D) (Q : VK) : Prop := match r with
  | .ok (.lst ds) => ∀ a vs H', Same H H' → H a = none → H' a = some (.lst vs) → vs.length ≤ sizeLine → Reps K px (fun b => Al S0 H0 O b ∧ b ≠ a) H' ds vs → Q (.ref a) H'
  | .ok _ => False
  | .er c ns ds => ∀ dd H', RepE K px S0 H0 O H' σ e → ExF K px (Al S0 H0 O) H' ns ds dd → W (.ref (He.ga K c)) dd σ H'
  | .bad => False
def PostXB (r : R Bool) (Q : Bool → Hp → Prop) : Prop := match r with
  | .ok b => ∀ H', Same H H' → RepE K px S0 H0 O H' σ e → Q b H'
  | .er c ns ds => ∀ dd H', RepE K px S0 H0 O H' σ e → ExF K px (Al S0 H0 O) H' ns ds dd → W (.ref (He.ga K c)) dd σ H'
  | .bad => False
def PostXI (r : R (List D)) (Q : It → Hp → Prop) : Prop := match r with
  | .ok items => ∀ J H' sd sv, Same H H' → RepE K px S0 H0 O H' σ e → Reps K px (Al S0 H0 O) H' sd sv → ItOk K px J items sd sv → Q J H'
  | .er c ns ds => ∀ dd H', RepE K px S0 H0 O H' σ e → ExF K px (Al S0 H0 O) H' ns ds dd → W (.ref (He.ga K c)) dd σ H'
  | .bad => False
end
def tX (K : PySem.W.Frag) (px : Px) (W : WX) (m : SEM) : TE := fun σ H Q => ∃ S0 H0 O e, RepE K px S0 H0 O H σ e ∧ PostX K px W S0 H0 O H σ e (m e) Q
def tN (K : PySem.W.Frag) (px : Px) (W : WX) (m : SEM) : TE := fun σ H Q => ∃ S0 H0 O e, RepE K px S0 H0 O H σ e ∧ PostN K px W S0 H0 O H σ e (m e) Q
def tXB (K : PySem.W.Frag) (px : Px) (W : WX) (m : SEnv → R Bool) : TT := fun σ H Q => ∃ S0 H0 O e, RepE K px S0 H0 O H σ e ∧ PostXB K px W S0 H0 O H σ e (m e) Q
def tXI (K : PySem.W.Frag) (px : Px) (W : WX) (m : SEnv → R (List D)) : TI := fun σ H Q => ∃ S0 H0 O e, RepE K px S0 H0 O H σ e ∧ PostXI K px W S0 H0 O H σ e (m e) Q
abbrev DX (X : Cx) (px : Px) (W : WX) (e : Expr) (m : SEM) : Prop := PE X e (tX X.K px W m)
abbrev DXB (X : Cx) (px : Px) (W : WX) (e : Expr) (m : SEnv → R Bool) : Prop := PT X e (tXB X.K px W m)
abbrev DXI (X : Cx) (px : Px) (W : WX) (tg e : Expr) (m : SEnv → R (List D)) : Prop := PI X tg e (tXI X.K px W m)
/-- with what is shared only -/
def mH {α : Type} (m : EnvD → R α) : SEnv → R α := fun e => m (hide e)
/-- with what is owned, too -/
def mL (m : EM) : SEM := fun e => match m (lend e) with
  | .ok d => if okFor e d = true then .ok d else .bad
  | .er c ns ds => if okFors e ds = true then .er c ns ds else .bad
  | .bad => .bad
def mLN (m : EM) : SEM := fun e => match m (lend e) with
  | .ok (.lst ds) => if okFors e ds = true then .ok (.lst ds) else .bad
  | .ok _ => .bad
  | .er c ns ds => if okFors e ds = true then .er c ns ds else .bad
  | .bad => .bad
def mLB (m : EnvD → R Bool) : SEnv → R Bool := fun e => match m (lend e) with
  | .ok b => .ok b
  | .er c ns ds => if okFors e ds = true then .er c ns ds else .bad
  | .bad => .bad
def onlyL : R D → R D
  | .ok (.lst ds) => .ok (.lst ds)
  | .ok _ => .bad
  | r => r
section
variable {X : Cx} {px : Px} {W : WX} {pos : Pos} {K : PySem.W.Frag} {S0 : Reg} {H0 H H' : Hp} {O : Nat → Option Addr} {σ : St} {e : SEnv}
theorem RepE.exf (r : RepE K px S0 H0 O H σ e) (h : Same H H') {ns : List Str} {ds : List D} {dd : Option Addr} (x : ExF K px (Fr (Al S0 H0 O) H) H' ns ds dd) : ExF K px (Al S0 H0 O) H' ns ds dd := x.mono (Same.refl _) fun a => r.al
theorem RepE.exfL (r : RepE K px S0 H0 O H σ e) (h : Same H H') {ns : List Str} {ds : List D} {dd : Option Addr} (k : okFors e ds = true) (x : ExF K px (Fr (Fr S0.1 H0) H) H' ns ds dd) : ExF K px (Al S0 H0 O) H' ns ds dd :=
  x.imp id fun ⟨dx, fvs, e3, h1, h2, h3⟩ => ⟨dx, fvs, e3, h1, h2, r.backs h k h3⟩
theorem h_t {m : EM} {Q : VK} (h : tX K px W (mH m) σ H Q) : tD K px W m σ H Q := by
  obtain ⟨S0, H0, O, e, r, q⟩ := h
  refine ⟨_, _, r.hid, ?_⟩
  have q : PostX K px W S0 H0 O H σ e (m (hide e)) Q := q
  cases hm : m (hide e) with
  | ok d =>
    rw [hm] at q
    exact fun v H1 e1 r1 => q v H1 e1 (r.mono e1) (r1.mono (Same.refl _) fun a => r.al)
  | er c ns ds =>
    rw [hm] at q
    exact fun dd H1 e1 x => q dd H1 (r.mono e1) (r.exf e1 x)
  | bad =>
    rw [hm] at q
    exact q
theorem l_t {m : EM} {Q : VK} (h : tX K px W (mL m) σ H Q) : tD K px W m σ H Q := by
  obtain ⟨S0, H0, O, e, r, q⟩ := h
  refine ⟨_, _, r.len', ?_⟩
  unfold mL at q
  cases hm : m (lend e) with
  | ok d =>
    rw [hm] at q
    simp only at q
    split at q
    · rename_i hk
      exact fun v H1 e1 r1 => q v H1 e1 (r.mono e1) (r.back e1 hk r1)
    · exact (show False from q).elim
  | er c ns ds =>
    rw [hm] at q
    simp only at q
    split at q
    · rename_i hk
      exact fun dd H1 e1 x => q dd H1 (r.mono e1) (r.exfL e1 hk x)
    · exact (show False from q).elim
  | bad =>
    rw [hm] at q
    exact q
theorem hN_t {m : EM} {Q : VK} (h : tN K px W (fun e => onlyL (m (hide e))) σ H Q) : tF K px W m σ H Q := by
  obtain ⟨S0, H0, O, e, r, q⟩ := h
  refine ⟨_, _, r.hid, ?_⟩
  have q : PostN K px W S0 H0 O H σ e (onlyL (m (hide e))) Q := q
  cases hm : m (hide e) with
  | ok d =>
    rw [hm] at q
    cases d with
    | lst ds => exact fun a vs H1 e1 n ha hl rr => q a vs H1 e1 n ha hl (Reps.mono (Same.refl _) (fun b z => ⟨r.al z.1, z.2⟩) _ _ rr)
    | _ => exact (show False from q).elim
  | er c ns ds =>
    rw [hm] at q
    exact fun dd H1 e1 x => q dd H1 (r.mono e1) (r.exf e1 x)
  | bad =>
    rw [hm] at q
    exact (show False from q).elim
theorem lN_t {m : EM} {Q : VK} (h : tN K px W (mLN m) σ H Q) : tF K px W m σ H Q := by
  obtain ⟨S0, H0, O, e, r, q⟩ := h
  refine ⟨_, _, r.len', ?_⟩
  unfold mLN at q
  cases hm : m (lend e) with
  | ok d =>
    rw [hm] at q
    cases d with
    | lst ds =>
      simp only at q
      split at q
      · rename_i hk
        refine fun a vs H1 e1 n ha hl rr => q a vs H1 e1 n ha hl ?_
        refine Reps.cut (e.any isOw) (e.any isOb) (fun b u w x => ⟨(r.mono e1).cutS (by
          rcases u.1 with u | u
          · exact .inl u
          · exact .inl (.inr (r.same.free u))) w x, u.2⟩) ds vs (okFors_split hk).1 (okFors_split hk).2 rr
      · exact (show False from q).elim
    | _ => exact (show False from q).elim
  | er c ns ds =>
    rw [hm] at q
    simp only at q
    split at q
    · rename_i hk
      exact fun dd H1 e1 x => q dd H1 (r.mono e1) (r.exfL e1 hk x)
    · exact (show False from q).elim
  | bad =>
    rw [hm] at q
    exact (show False from q).elim
theorem hB_t {m : EnvD → R Bool} {Q : Bool → Hp → Prop} (h : tXB K px W (mH m) σ H Q) : tDB K px W m σ H Q := by
  obtain ⟨S0, H0, O, e, r, q⟩ := h
  refine ⟨_, _, r.hid, ?_⟩
  have q : PostXB K px W S0 H0 O H σ e (m (hide e)) Q := q
  cases hm : m (hide e) with
  | ok d =>
    rw [hm] at q
    exact fun H1 e1 => q H1 e1 (r.mono e1)
  | er c ns ds =>
    rw [hm] at q
    exact fun dd H1 e1 x => q dd H1 (r.mono e1) (r.exf e1 x)
  | bad =>
    rw [hm] at q
    exact q
theorem lB_t {m : EnvD → R Bool} {Q : Bool → Hp → Prop} (h : tXB K px W (mLB m) σ H Q) : tDB K px W m σ H Q := by
  obtain ⟨S0, H0, O, e, r, q⟩ := h
  refine ⟨_, _, r.len', ?_⟩
  unfold mLB at q
  cases hm : m (lend e) with
  | ok d =>
    rw [hm] at q
    exact fun H1 e1 => q H1 e1 (r.mono e1)
  | er c ns ds =>
    rw [hm] at q
    simp only at q
    split at q
    · rename_i hk
      exact fun dd H1 e1 x => q dd H1 (r.mono e1) (r.exfL e1 hk x)
    · exact (show False from q).elim
  | bad =>
    rw [hm] at q
    exact q
theorem hI_t {m : EnvD → R (List D)} {Q : It → Hp → Prop} (h : tXI K px W (mH m) σ H Q) : tDI K px W m σ H Q := by
  obtain ⟨S0, H0, O, e, r, q⟩ := h
  refine ⟨_, _, r.hid, ?_⟩
  have q : PostXI K px W S0 H0 O H σ e (m (hide e)) Q := q
  cases hm : m (hide e) with
  | ok d =>
    rw [hm] at q
    exact fun J H1 sd sv e1 r1 ok => q J H1 sd sv e1 (r.mono e1) (Reps.mono (Same.refl _) (fun a => r.al) _ _ r1) ok
  | er c ns ds =>
    rw [hm] at q
    exact fun dd H1 e1 x => q dd H1 (r.mono e1) (r.exf e1 x)
  | bad =>
    rw [hm] at q
    exact q
theorem x_h {a : Expr} {m : EM} (h : DE X px W a m) : DX X px W a (mH m) := PE.imp h fun σ H Q h => h_t h
theorem x_l {a : Expr} {m : EM} (h : DE X px W a m) : DX X px W a (mL m) := PE.imp h fun σ H Q h => l_t h
theorem b_h {a : Expr} {m : EnvD → R Bool} (h : DT X px W a m) : DXB X px W a (mH m) := PT.imp h fun σ H Q h => hB_t h
theorem b_l {a : Expr} {m : EnvD → R Bool} (h : DT X px W a m) : DXB X px W a (mLB m) := PT.imp h fun σ H Q h => lB_t h
theorem i_h {tg a : Expr} {m : EnvD → R (List D)} (h : DI X px W tg a m) : DXI X px W tg a (mH m) := PI.imp h fun σ H Q h => hI_t h
end

/-! ### statements -/
inductive Out where
  | nx (e : SEnv) | rt (d : D) | rtF (ds : List D) | br (e : SEnv) | ct (e : SEnv) | er (c : Str) (ns : List Str) (ds : List D) (e : SEnv) | bad
abbrev SM := SEnv → Out
def PostS (K : PySem.W.Frag) (px : Px) (W : WX) (S0 : Reg) (H0 : Hp) (D : Ends) (o : Out) : Prop := match o with
  | .nx e => ∀ O σ H, RepE K px S0 H0 O H σ e → D.nx σ H
  | .rt d => ∀ v H, Same H0 H → Rep K px (Fr S0.1 H0) H d v → D.rt v H
  | .rtF ds => ∀ a vs H, Same H0 H → H0 a = none → H a = some (.lst vs) → vs.length ≤ sizeLine → Reps K px (fun b => Fr S0.1 H0 b ∧ b ≠ a) H ds vs → D.rt (.ref a) H
  | .br e => ∀ O σ H, RepE K px S0 H0 O H σ e → D.bk σ H
  | .ct e => ∀ O σ H, RepE K px S0 H0 O H σ e → D.ct σ H
  | .er c ns ds e => ∀ O dd σ H, RepE K px S0 H0 O H σ e → ExF K px (Al S0 H0 O) H ns ds dd → W (.ref (He.ga K c)) dd σ H
  | .bad => False
def tS (K : PySem.W.Frag) (px : Px) (W : WX) (m : SM) : TS := fun D σ H => ∃ S0 H0 O e, RepE K px S0 H0 O H σ e ∧ PostS K px W S0 H0 D (m e)
abbrev DS (X : Cx) (px : Px) (W : WX) (st : Stmt) (m : SM) : Prop := PS X st (tS X.K px W m)
abbrev DSs (X : Cx) (px : Px) (W : WX) (st : List Stmt) (m : SM) : Prop := PSs X st (tS X.K px W m)
/-- on with an expression's worth -/
def R.on {α : Type} (r : R α) (e : SEnv) (f : α → Out) : Out := match r with
  | .ok a => f a
  | .er c ns ds => .er c ns ds e
  | .bad => .bad
@[simp] theorem on_ok {α : Type} (a : α) (e : SEnv) (f : α → Out) : R.on (.ok a) e f = f a := id rfl
@[simp] theorem on_er {α : Type} (c : Str) (ns : List Str) (ds : List D) (e : SEnv) (f : α → Out) : R.on (.er c ns ds : R α) e f = .er c ns ds e := id rfl
@[simp] theorem on_bad {α : Type} (e : SEnv) (f : α → Out) : R.on (.bad : R α) e f = .bad := id rfl
def Out.then (o : Out) (f : SM) : Out := match o with
  | .nx e => f e
  | o => o
section
variable {X : Cx} {px : Px} {W : WX} {pos : Pos} {K : PySem.W.Frag} {S0 : Reg} {H0 H H' : Hp} {O : Nat → Option Addr} {σ : St} {e : SEnv} {D : Ends}
theorem onX {r : R DL.D} {f : DL.D → Out} (h : PostS K px W S0 H0 D (r.on e f)) : PostX K px W S0 H0 O H σ e r fun v H' => ∃ d, r = .ok d ∧ Same H H' ∧ RepE K px S0 H0 O H' σ e ∧ Rep K px (Al S0 H0 O) H' d v ∧ PostS K px W S0 H0 D (f d) := by
  cases r with
  | ok d => exact fun v H' s r q => ⟨d, rfl, s, r, q, h⟩
  | er c ns ds => exact fun dd H' r q => h O dd σ H' r q
  | bad => exact h
theorem onB {r : R Bool} {f : Bool → Out} (h : PostS K px W S0 H0 D (r.on e f)) : PostXB K px W S0 H0 O H σ e r fun b H' => r = .ok b ∧ Same H H' ∧ RepE K px S0 H0 O H' σ e ∧ PostS K px W S0 H0 D (f b) := by
  cases r with
  | ok d => exact fun H' s r => ⟨rfl, s, r, h⟩
  | er c ns ds => exact fun dd H' r q => h O dd σ H' r q
  | bad => exact h
theorem onI {r : R (List DL.D)} {f : List DL.D → Out} (h : PostS K px W S0 H0 D (r.on e f)) : PostXI K px W S0 H0 O H σ e r fun J H' => ∃ items sd sv, r = .ok items ∧ Same H H' ∧ RepE K px S0 H0 O H' σ e ∧ Reps K px (Al S0 H0 O) H' sd sv ∧ ItOk K px J items sd sv ∧ PostS K px W S0 H0 D (f items) := by
  cases r with
  | ok d => exact fun J H' sd sv s r q k => ⟨d, sd, sv, rfl, s, r, q, k, h⟩
  | er c ns ds => exact fun dd H' r q => h O dd σ H' r q
  | bad => exact h
/-- other ends -/
theorem PostS.ends {D D' : Ends} {o : Out} (h : PostS K px W S0 H0 D o) (n : ∀ e, o = .nx e → PostS K px W S0 H0 D' (.nx e)) (b : ∀ e, o = .br e → PostS K px W S0 H0 D' (.br e)) (c : ∀ e, o = .ct e → PostS K px W S0 H0 D' (.ct e)) (t : ∀ v H, D.rt v H → D'.rt v H) : PostS K px W S0 H0 D' o := by
  cases o with
  | nx e => exact n e rfl
  | br e => exact b e rfl
  | ct e => exact c e rfl
  | rt d => exact fun v H e1 r => t _ _ (h v H e1 r)
  | rtF ds => exact fun a vs H h1 h2 h3 h4 h5 => t _ _ (h a vs H h1 h2 h3 h4 h5)
  | er c ns ds e => exact h
  | bad => exact h
/-! #### blocks -/
def sNx : SM := fun e => .nx e
def sSeq (a b : SM) : SM := fun e => (a e).then b
theorem ss_nil : DSs X px W [] sNx := PSs.imp pss_nil fun D σ H ⟨S0, H0, O, e, r, q⟩ => q O σ H r
theorem postS_seq {o : Out} {m : SM} (h : PostS K px W S0 H0 D (o.then m)) : PostS K px W S0 H0 { D with nx := tS K px W m D } o := by
  cases o with
  | nx e => exact fun O σ H r => ⟨S0, H0, O, e, r, h⟩
  | _ => exact h
theorem ss_cons {st : Stmt} {rest : List Stmt} {a b : SM} (h : DS X px W st a) (hs : DSs X px W rest b) : DSs X px W (st :: rest) (sSeq a b) := PSs.imp (pss_cons h hs) fun D σ H ⟨S0, H0, O, e, r, q⟩ => ⟨S0, H0, O, e, r, postS_seq q⟩
theorem ss_one {st : Stmt} {a : SM} (h : DS X px W st a) : DSs X px W [st] a := pss_one h
/-- a slot's list is given to all, then the rest -/
def sFrz (i : Nat) (m : SM) : SM := fun e => m (frzE i e)
theorem tS_frz {i : Nat} {m : SM} (h : tS K px W (sFrz i m) D σ H) : tS K px W m D σ H := by
  obtain ⟨S0, H0, O, e, r, q⟩ := h
  obtain ⟨O', r'⟩ := r.frz i
  exact ⟨S0, H0, O', _, r', q⟩
theorem s_frz {st : Stmt} {m : SM} (i : Nat) (h : DS X px W st m) : DS X px W st (sFrz i m) := PS.imp h fun D σ H h => tS_frz h
theorem ss_frz {st : List Stmt} {m : SM} (i : Nat) (h : DSs X px W st m) : DSs X px W st (sFrz i m) := PSs.imp h fun D σ H h => tS_frz h
/-! #### simple ones -/
theorem s_pass : DS X px W (.Pass pos) sNx := PS.imp ps_pass fun D σ H ⟨S0, H0, O, e, r, q⟩ => q O σ H r
theorem s_break : DS X px W (.Break pos) .br := PS.imp ps_break fun D σ H ⟨S0, H0, O, e, r, q⟩ => q O σ H r
theorem s_cont : DS X px W (.Continue pos) .ct := PS.imp ps_continue fun D σ H ⟨S0, H0, O, e, r, q⟩ => q O σ H r
theorem s_doc {x j p2} : DS X px W (.Expr (.Constant (.str x) j pos) p2) sNx := PS.imp ps_doc fun D σ H ⟨S0, H0, O, e, r, q⟩ => q O σ H r
theorem PostX.imp {r : R DL.D} {Q Q' : VK} (h : PostX K px W S0 H0 O H σ e r Q) (i : ∀ v H', Q v H' → Q' v H') : PostX K px W S0 H0 O H σ e r Q' := by
  cases r with
  | ok d => exact fun v H' s r q => i _ _ (h v H' s r q)
  | er c ns ds => exact h
  | bad => exact h
theorem PostN.imp {r : R DL.D} {Q Q' : VK} (h : PostN K px W S0 H0 O H σ e r Q) (i : ∀ v H', Q v H' → Q' v H') : PostN K px W S0 H0 O H σ e r Q' := by
  cases r with
  | ok d =>
    cases d with
    | lst ds => exact fun a vs H' h1 h2 h3 h4 h5 => i _ _ (h a vs H' h1 h2 h3 h4 h5)
    | _ => exact h
  | er c ns ds => exact h
  | bad => exact h
theorem PostXB.imp {r : R Bool} {Q Q' : Bool → Hp → Prop} (h : PostXB K px W S0 H0 O H σ e r Q) (i : ∀ v H', Q v H' → Q' v H') : PostXB K px W S0 H0 O H σ e r Q' := by
  cases r with
  | ok d => exact fun H' s r => i _ _ (h H' s r)
  | er c ns ds => exact h
  | bad => exact h
theorem PostXI.imp {r : R (List DL.D)} {Q Q' : It → Hp → Prop} (h : PostXI K px W S0 H0 O H σ e r Q) (i : ∀ v H', Q v H' → Q' v H') : PostXI K px W S0 H0 O H σ e r Q' := by
  cases r with
  | ok d => exact fun J H' sd sv s r q k => i _ _ (h J H' sd sv s r q k)
  | er c ns ds => exact h
  | bad => exact h
def sEx (m : SEM) : SM := fun e => (m e).on e fun _ => .nx e
theorem s_expr {a : Expr} {m : SEM} (h : DX X px W a m) (hs : swapsWith a none pos.line X.env = pure false := by rfl) : DS X px W (.Expr a pos) (sEx m) := by
  exact PS.imp (ps_expr h hs) fun D σ H ⟨S0, H0, O, e, r, q⟩ => ⟨S0, H0, O, e, r, (onX q).imp fun v H' ⟨d, _, _, r, q, k⟩ => k O σ H' r⟩
def sRet (m : SEM) : SM := fun e => (m e).on e fun d => .rt d
theorem s_ret {a : Expr} {m : SEM} (h : DX X px W a m) : DS X px W (.Return (some a) pos) (sRet m) :=
  PS.imp (ps_ret h) fun D σ H ⟨S0, H0, O, e, r, q⟩ => ⟨S0, H0, O, e, r, (onX q).imp fun v H' ⟨d, _, _, r, q, k⟩ => k v H' r.same (q.mono (Same.refl _) fun _ z => z.1)⟩
def sRetN : SM := fun _ => .rt .non
theorem s_retN : DS X px W (.Return none pos) sRetN := PS.imp ps_retN fun D σ H ⟨S0, H0, O, e, r, q⟩ => q .non H r.same rfl
def sIf (t : SEnv → R Bool) (a b : SM) : SM := fun e => (t e).on e fun k => if k = true then a e else b e
theorem s_if {c : Expr} {a b : List Stmt} {t : SEnv → R Bool} {ma mb : SM} (hc : DXB X px W c t) (ha : DSs X px W a ma) (hb : DSs X px W b mb) : DS X px W (.If c a b pos) (sIf t ma mb) := by
  refine PS.imp (ps_if hc ha hb) fun D σ H ⟨S0, H0, O, e, r, q⟩ => ⟨S0, H0, O, e, r, (onB q).imp fun k H' ⟨_, _, r, q⟩ => ?_⟩
  cases k with
  | true => exact iteT ⟨S0, H0, O, e, r, q⟩
  | false => exact iteF ⟨S0, H0, O, e, r, q⟩
/-! #### names -/
def sSet (i : Nat) (m : SEM) : SM := fun e => (m e).on e fun d => .nx (e.set i (.fz d))
/-- st stores what te is worth in the slot i -/
theorem s_setP {st : Stmt} {i : Nat} {m : SEM} {te : TE} (h : PS X st (tAsg te (gName i))) (t : ∀ σ H Q, tX X.K px W m σ H Q → te σ H Q) : DS X px W st (sSet i m) :=
  PS.imp h fun D σ H ⟨S0, H0, O, e, r, q⟩ => t _ _ _ ⟨S0, H0, O, e, r, (onX q).imp fun v H' ⟨d, _, _, r, q, k⟩ => k _ _ _ (r.put q)⟩
/-- the list is new: the slot owns it -/
def sOwn (i : Nat) (m : SEM) : SM := fun e => (m e).on e fun d => match d with
  | .lst ds => if i < e.length then .nx (e.set i (.ow ds)) else .bad
  | _ => .bad
theorem onOwn {r : R DL.D} {i : Nat} (r0 : RepE K px S0 H0 O H σ e) (h : PostS K px W S0 H0 D (r.on e fun d => match d with
  | .lst ds => if i < e.length then .nx (e.set i (.ow ds)) else .bad
  | _ => .bad)) : PostN K px W S0 H0 O H σ e r fun v H' => D.nx (σ.set i (some v)) H' := by
  cases r with
  | ok d =>
    cases d with
    | lst ds =>
      simp only [on_ok] at h
      split at h
      · rename_i hi
        exact fun a vs H' h1 h2 h3 h4 h5 => h _ _ _ (r0.take hi h1 h2 h3 h4 h5)
      · exact (show False from h).elim
    | _ => exact (show False from h).elim
  | er c ns ds => exact fun dd H' r q => h O dd σ H' r q
  | bad => exact h
theorem s_ownP {st : Stmt} {i : Nat} {m : SEM} {te : TE} (h : PS X st (tAsg te (gName i))) (t : ∀ σ H Q, tN X.K px W m σ H Q → te σ H Q) : DS X px W st (sOwn i m) :=
  PS.imp h fun D σ H ⟨S0, H0, O, e, r, q⟩ => t _ _ _ ⟨S0, H0, O, e, r, onOwn r q⟩
/-- tuples taken apart -/
abbrev setS (e : SEnv) (l : List (Nat × DL.D)) : SEnv := l.foldl (fun e p => e.set p.1 (.fz p.2)) e
theorem RepE.goes : ∀ {l : List (Nat × DL.D)} {lv : List (Nat × V)} {σ : St} {e : SEnv} {O : Nat → Option Addr}, Goes K px (Al S0 H0 O) H l lv → RepE K px S0 H0 O H σ e → ∃ O', RepE K px S0 H0 O' H (setV σ lv) (setS e l)
  | [], lv, σ, e, O, g, r => by
    have z : lv = [] := by
      have := g.ix
      simpa using this
    subst z
    exact ⟨O, r⟩
  | (i, d) :: l, lv, σ, e, O, ⟨g1, g2⟩, r => by
    cases lv with
    | nil => simp at g1
    | cons p lv =>
      obtain ⟨j, v⟩ := p
      simp only [List.map_cons, List.cons.injEq] at g1
      obtain ⟨v', w, e1, h1, h2⟩ := g2
      simp only [List.map_cons, List.cons.injEq] at e1
      obtain ⟨e2, e3⟩ := e1
      subst e2
      obtain ⟨g3, g4⟩ := g1
      subst g3
      exact RepE.goes (l := l) (lv := lv) ⟨g4, by rw [e3]; exact Reps.mono (Same.refl _) (fun a => al_off) _ _ h2⟩ (r.put h1)
def sTup (T : Tg) (m : SEM) : SM := fun e => (m e).on e fun d => match flat T d with
  | some l => .nx (setS e l)
  | none => .bad
theorem s_tup {tg a : Expr} {T : Tg} {m : SEM} (h : DX X px W a m) (g : DG X tg T) (hs : swapsWithSole [tg] a pos.line X.env = pure false := by rfl) (hw : swappedStores [tg] a X.env = pure none := by rfl) (h1 : (assignEach [tg] X.env).map (·.2) = [assign tg X.env] := by rfl) : DS X px W (.Assign [tg] a pos) (sTup T m) := by
  refine PS.imp (ps_asg h g hs hw h1) fun D σ H ⟨S0, H0, O, e, r, q⟩ => ⟨S0, H0, O, e, r, (onX q).imp fun v H' ⟨d, _, _, r, q, k⟩ => ?_⟩
  split at k
  · rename_i l hl
    refine g_run T d v l σ _ q hl fun lv gl => ?_
    obtain ⟨O', r'⟩ := r.goes gl
    exact k _ _ _ r'
  · exact (show False from k).elim
/-! #### loops -/
def loopL (T : Tg) (body : SM) : List DL.D → SM
  | [], e => .nx e
  | x :: xs, e => match flat T x with
    | some l => (match body (setS e l) with
      | .nx e' => loopL T body xs e'
      | .ct e' => loopL T body xs e'
      | .br e' => .nx e'
      | o => o)
    | none => .bad
def sFor (T : Tg) (mi : SEnv → R (List DL.D)) (body : SM) : SM := fun e => (mi e).on e fun items => loopL T body items e
/-- H without what is owned -/
noncomputable def hidO (O : Nat → Option Addr) (H : Hp) : Hp := fun a => open Classical in if ∃ i, O i = some a then none else H a
theorem hidO_ne {a : Addr} (h : ∀ i, O i ≠ some a) : hidO O H a = H a := by
  unfold hidO
  rw [if_neg fun ⟨i, z⟩ => h i z]
theorem hidO_own {a : Addr} {i : Nat} (h : O i = some a) : hidO O H a = none := by
  unfold hidO
  rw [if_pos ⟨i, h⟩]
theorem hidO_same : Same (hidO O H) H := fun a o h => by
  unfold hidO at h
  split at h
  · cases h
  · exact h
/-- told from the loop's entry -/
theorem RepE.reset (r : RepE K px S0 H0 O H σ e) : RepE K px (Al S0 H0 O, S0.2) (hidO O H) O H σ e := by
  refine ⟨hidO_same, r.len, fun i a h => hidO_own h, r.inj, fun i s h => ?_, r.out, r.ob⟩
  obtain ⟨x, h1, h2⟩ := r.sl i s h
  exact ⟨x, h1, h2.mono (Same.refl _) fun a z => ⟨.inl z, z.2⟩⟩
theorem RepE.unset {O' : Nat → Option Addr} {H1 : Hp} {σ' : St} {e' : SEnv} (r : RepE K px S0 H0 O H1 σ e) (q : RepE K px (Al S0 H0 O, S0.2) (hidO O H1) O' H σ' e') : RepE K px S0 H0 O' H σ' e' := by
  have frb : ∀ a, Fr (Al S0 H0 O) (hidO O H1) a → Fr S0.1 H0 a := fun a z => by
    rcases z with z | z
    · exact z.1
    · unfold hidO at z
      split at z
      · rename_i h
        obtain ⟨i, h⟩ := h
        exact .inr (r.new i a h)
      · exact .inr (r.same.free z)
  refine ⟨fun a o h => ?_, q.len, fun i a h => ?_, q.inj, fun i s h => ?_, q.out, q.ob⟩
  · refine q.same a o ?_
    rw [hidO_ne fun i z => by rw [r.new i a z] at h; cases h]
    exact r.same _ _ h
  · have z := q.new i a h
    unfold hidO at z
    split at z
    · rename_i k
      obtain ⟨j, k⟩ := k
      exact r.new j a k
    · exact r.same.free z
  · obtain ⟨x, h1, h2⟩ := q.sl i s h
    exact ⟨x, h1, h2.mono (Same.refl _) fun a z => ⟨frb a z.1, z.2⟩⟩
theorem al_unset {O' : Nat → Option Addr} {H1 : Hp} (r : RepE K px S0 H0 O H1 σ e) {a : Addr} (z : Fr (Al S0 H0 O) (hidO O H1) a) : Fr S0.1 H0 a := by
  rcases z with z | z
  · exact z.1
  · unfold hidO at z
    split at z
    · rename_i h
      obtain ⟨i, h⟩ := h
      exact .inr (r.new i a h)
    · exact .inr (r.same.free z)
theorem PostS.reset {H1 : Hp} {o : Out} (r : RepE K px S0 H0 O H1 σ e) (h : PostS K px W S0 H0 D o) : PostS K px W (Al S0 H0 O, S0.2) (hidO O H1) D o := by
  cases o with
  | nx e => exact fun O' σ' H' q => h _ _ _ (r.unset q)
  | br e => exact fun O' σ' H' q => h _ _ _ (r.unset q)
  | ct e => exact fun O' σ' H' q => h _ _ _ (r.unset q)
  | rt d =>
    refine fun v H' e1 q => h v H' (fun a o k => e1 a o ?_) (q.mono (Same.refl _) fun a z => al_unset (O' := O) r z)
    rw [hidO_ne fun i z => by rw [r.new i a z] at k; cases k]
    exact r.same _ _ k
  | rtF ds =>
    refine fun p vs H' e1 hp ha hl q => h p vs H' (fun a o k => e1 a o ?_) ?_ ha hl (Reps.mono (Same.refl _) (fun a z => ⟨al_unset (O' := O) r z.1, z.2⟩) _ _ q)
    · rw [hidO_ne fun i z => by rw [r.new i a z] at k; cases k]
      exact r.same _ _ k
    · by_cases c : ∃ i, O i = some p
      · obtain ⟨i, z⟩ := c
        exact r.new i p z
      · rw [hidO_ne fun i z => c ⟨i, z⟩] at hp
        exact r.same.free hp
  | er c ns ds e => exact fun O' dd σ' H' q x => h O' dd σ' H' (r.unset q) (x.mono (Same.refl _) fun a z => ⟨al_unset (O' := O) r z.1, z.2⟩)
  | bad => exact h
mutual
theorem Rep.hidden {H1 : Hp} {S S' : Addr → Prop} (hS : ∀ a, S a → ∀ i, O i ≠ some a) (hT : ∀ i a, O i = some a → (∃ xs, H1 a = some (.lst xs)) ∨ ∃ C dx fs, H1 a = some (.ins C dx fs)) (s : ∀ a, S a → H1 a ≠ none → S' a) : ∀ (d : DL.D) (v : V), Rep K px S H1 d v → Rep K px S' (hidO O H1) d v
  | .non, _, h => h
  | .bl _, _, h => h
  | .int _, _, h => h
  | .str _, _, h => h
  | .tup ds, _, ⟨a, vs, e1, h1, h2, h3⟩ => by
    have ke : ∀ o, H1 a = some o → (∀ xs, o ≠ .lst xs) → (∀ C dx fs, o ≠ .ins C dx fs) → hidO O H1 a = some o := fun o h n1 n2 => by
      rw [hidO_ne fun i z => ?_]
      · exact h
      · rcases hT i a z with ⟨xs, k⟩ | ⟨C, dx, fs, k⟩
        · rw [h] at k; cases k; exact n1 _ rfl
        · rw [h] at k; cases k; exact n2 _ _ _ rfl
    refine ⟨a, vs, e1, ?_, h2, Reps.hidden hS hT s ds vs h3⟩
    rcases h1 with (h | ⟨o, h⟩) | h
    · exact .inl (.inl (ke _ h (fun xs z => by cases z) (fun C dx fs z => by cases z)))
    · exact .inl (.inr ⟨o, ke _ h (fun xs z => by cases z) (fun C dx fs z => by cases z)⟩)
    · exact .inr h
  | .lst ds, _, ⟨a, vs, e1, h1, h2, h3, h4⟩ => ⟨a, vs, e1, by rw [hidO_ne (hS a h2)]; exact h1, s a h2 (by rw [h1]; intro z; cases z), h3, Reps.hidden hS hT s ds vs h4⟩
  | .obj _ _ ds, _, ⟨a, dx, fvs, e1, h1, h2, h3, h4⟩ => ⟨a, dx, fvs, e1, by rw [hidO_ne (hS a h2)]; exact h1, s a h2 (by rw [h1]; intro z; cases z), h3, Reps.hidden hS hT s ds fvs h4⟩
  | .exc _ _ ds, _, ⟨a, dd, e1, e2, h⟩ => ⟨a, dd, e1, e2, h.imp id fun ⟨dx, fvs, e3, h1, h2, h3⟩ => ⟨dx, fvs, e3, (by
      rw [hidO_ne fun i z => ?_]
      · exact h1
      · rcases hT i dx z with ⟨xs, k⟩ | ⟨C, dx', fs, k⟩
        · rw [h1] at k
          cases k
        · rw [h1] at k
          cases k), h2, Reps.hidden hS hT s ds fvs h3⟩⟩
  | .dct _ _, _, h => h
  | .scr _, _, ⟨a, e1, h⟩ => ⟨a, e1, h.imp (fun ⟨o, h⟩ => ⟨o, (by
      rw [hidO_ne fun i z => ?_]
      · exact h
      · rcases hT i a z with ⟨xs, k⟩ | ⟨C, dx', fs, k⟩
        · rw [h] at k
          cases k
        · rw [h] at k
          cases k)⟩) id⟩
theorem Reps.hidden {H1 : Hp} {S S' : Addr → Prop} (hS : ∀ a, S a → ∀ i, O i ≠ some a) (hT : ∀ i a, O i = some a → (∃ xs, H1 a = some (.lst xs)) ∨ ∃ C dx fs, H1 a = some (.ins C dx fs)) (s : ∀ a, S a → H1 a ≠ none → S' a) : ∀ (ds : List DL.D) (vs : List V), Reps K px S H1 ds vs → Reps K px S' (hidO O H1) ds vs
  | [], _, h => h
  | d :: ds, _, ⟨v, r, e1, h1, h2⟩ => ⟨v, r, e1, Rep.hidden hS hT s d v h1, Reps.hidden hS hT s ds r h2⟩
end
theorem s_for {tg iter : Expr} {body : List Stmt} {T : Tg} {mi : SEnv → R (List DL.D)} {mb : SM} (hp : PassesOwn (model X.prog X.w) X.A X.env X.xe) (hc : X.calm = true) (hi : DXI X px W tg iter mi) (hg : DG X tg T) (hb : DSs X px W body mb)
    (hs : ∀ x, foldedSetIterable iter X.env x = pure x := by intro _; rfl) : DS X px W (.For tg iter body [] pos) (sFor T mi mb) := by
  refine PS.imp (ps_for hp hc hi hg hb hs) fun D σ H ⟨S0, H0, O, e, r, q⟩ => ⟨S0, H0, O, e, r, (onI q).imp fun J H1 ⟨items, sd, sv, _, _, r, rs, iok, q⟩ => ?_⟩
  -- told from here
  have q2 : PostS X.K px W (Al S0 H0 O, S0.2) (hidO O H1) D (loopL T mb items e) := q.reset r
  have r2 := r.reset
  have rs2 : Reps X.K px (fun a => Al S0 H0 O a ∧ hidO O H1 a ≠ none) (hidO O H1) sd sv := Reps.hidden (fun a z => z.2) (fun i a z => by
    obtain ⟨s, _, ⟨_, vs, k⟩ | ⟨_, c, dx, fs, k⟩⟩ := r.own z
    · exact .inl ⟨vs, k⟩
    · exact .inr ⟨_, dx, fs, k⟩) (fun a z n => ⟨z, by rw [hidO_ne z.2]; exact n⟩) _ _ rs
  generalize hS1 : (Al S0 H0 O, S0.2) = S1 at q2 r2
  have eS : Al S0 H0 O = S1.1 := by rw [← hS1]
  rw [eS] at rs2
  generalize hidO O H1 = G at q2 r2 rs2
  clear rs q r hS1 eS
  refine ⟨fun i m σ H => m = items.length - i ∧ i ≤ items.length ∧ ∃ O e, RepE X.K px S1 G O H σ e ∧ PostS X.K px W S1 G D (loopL T mb (items.drop i) e), ⟨_, rfl, Nat.zero_le _, O, e, r2, q2⟩, ?_⟩
  rintro i m σ H ⟨rfl, hi', O, e, r, q⟩
  have rsH : Reps X.K px (fun a => S1.1 a ∧ G a ≠ none) H sd sv := Reps.mono r.same (fun _ h => h) _ _ rs2
  by_cases hlt : i < items.length
  · refine .inr ⟨iok.go _ i H rsH hlt, fun σ' H' => ∃ O e, RepE X.K px S1 G O H' σ' e ∧ PostS X.K px W S1 G D (loopL T mb (items.drop (i + 1)) e), fun σ' H' ⟨O, e, r, q⟩ => ⟨items.length - (i + 1), by omega, rfl, hlt, O, e, r, q⟩, fun x H' y => ?_⟩
    have hget : items[i]? = some items[i] := by simp [hlt]
    have hdrop : items.drop i = items[i] :: items.drop (i + 1) := List.drop_eq_getElem_cons hlt
    rw [hdrop] at q
    unfold loopL at q
    obtain ⟨s3, rx⟩ := iok.yld _ i H items[i] rsH hget x H' y
    have r3 := r.mono s3
    have rx : Rep X.K px (Al S1 G O) H' items[i] x := rx.mono (Same.refl _) fun a z => by
      rcases z with z | z
      · exact ⟨.inl z.1, fun j w => z.2 (r.new j a w)⟩
      · exact ⟨.inr (r.same.free z), fun j w => r.tr w z⟩
    split at q
    · rename_i l hl
      refine g_run T items[i] x l σ _ rx hl fun lv gl => ?_
      obtain ⟨O', r'⟩ := r3.goes gl
      refine ⟨S1, G, O', _, r', ?_⟩
      cases ho : mb (setS e l) with
      | nx e' =>
        rw [ho] at q
        exact fun O σ H r => ⟨O, e', r, q⟩
      | ct e' =>
        rw [ho] at q
        exact fun O σ H r => ⟨O, e', r, q⟩
      | br e' =>
        rw [ho] at q
        exact q
      | rt d =>
        rw [ho] at q
        exact q
      | rtF ds =>
        rw [ho] at q
        exact q
      | er c ns ds e' =>
        rw [ho] at q
        exact q
      | bad =>
        rw [ho] at q
        exact q
    · exact (show False from q).elim
  · have he : i = items.length := by omega
    subst he
    rw [List.drop_length] at q
    exact .inl ⟨iok.stop _ _ H rsH (Nat.le_refl _), q O σ H r⟩
/-- while: at most so many turns are followed -/
def loopW (t : SEnv → R Bool) (body : SM) : Nat → SM
  | 0, _ => .bad
  | n + 1, e => (t e).on e fun k => if k = true then (match body e with
      | .nx e' => loopW t body n e'
      | .ct e' => loopW t body n e'
      | .br e' => .nx e'
      | o => o) else .nx e
theorem s_while {c : Expr} {body : List Stmt} {t : SEnv → R Bool} {mb : SM} (n : Nat) (hp : PassesOwn (model X.prog X.w) X.A X.env X.xe) (hc : DXB X px W c t) (hb : DSs X px W body mb) : DS X px W (.While c body [] pos) (loopW t mb n) := by
  refine PS.imp (ps_while hp hc hb) fun D σ H ⟨S0, H0, O, e, r, q⟩ => ?_
  refine ⟨fun m σ H => ∃ O e, RepE X.K px S0 H0 O H σ e ∧ PostS X.K px W S0 H0 D (loopW t mb m e), ⟨n, O, e, r, q⟩, ?_⟩
  rintro m σ H ⟨O, e, r, q⟩
  cases m with
  | zero => exact (show False from q).elim
  | succ m =>
    unfold loopW at q
    refine ⟨S0, H0, O, e, r, (onB q).imp fun k H' ⟨_, _, r, q⟩ => ?_⟩
    cases k with
    | true =>
      rw [if_pos rfl] at q
      rw [if_pos rfl]
      refine ⟨fun σ' H' => ∃ O e, RepE X.K px S0 H0 O H' σ' e ∧ PostS X.K px W S0 H0 D (loopW t mb m e), fun σ' H' z => ⟨m, Nat.lt_succ_self _, z⟩, S0, H0, O, e, r, ?_⟩
      cases ho : mb e with
      | nx e' =>
        rw [ho] at q
        exact fun O σ H r => ⟨O, e', r, q⟩
      | ct e' =>
        rw [ho] at q
        exact fun O σ H r => ⟨O, e', r, q⟩
      | br e' =>
        rw [ho] at q
        exact q
      | rt d =>
        rw [ho] at q
        exact q
      | rtF ds =>
        rw [ho] at q
        exact q
      | er c ns ds e' =>
        rw [ho] at q
        exact q
      | bad =>
        rw [ho] at q
        exact q
    | false =>
      rw [if_neg Bool.false_ne_true] at q
      rw [if_neg Bool.false_ne_true]
      exact q O σ H' r
end
end DL

end
section
set_option Elab.async false
set_option linter.all false
set_option maxRecDepth 100000
namespace DL
open PySem PySem.Spec L2
open PyProof.Rows hiding St

section
variable {X : Cx} {px : Px} {W : WX} {pos : Pos} {K : PySem.W.Frag} {S0 : Reg} {H0 H H' : Hp} {O : Nat → Option Addr} {σ : St} {e : SEnv} {D : Ends}
theorem RepE.ow (r : RepE K px S0 H0 O H σ e) {i : Nat} {ds : List DL.D} (h : e[i]? = some (.ow ds)) : ∃ a vs, O i = some a ∧ σ[i]? = some (some (.ref a)) ∧ H a = some (.lst vs) ∧ vs.length ≤ sizeLine ∧ Reps K px (Al S0 H0 O) H ds vs := by
  obtain ⟨x, h1, a, vs, k1, rfl, k3, k4, k5⟩ := r.sl i _ h
  exact ⟨a, vs, k1, h1, k3, k4, k5⟩
theorem RepE.fzI (r : RepE K px S0 H0 O H σ e) {i : Nat} {d : DL.D} (h : e[i]? = some (.fz d)) : ∃ v, σ[i]? = some (some v) ∧ Rep K px (Al S0 H0 O) H d v := by
  obtain ⟨x, h1, _, v, rfl, h3⟩ := r.sl i _ h
  exact ⟨v, h1, h3⟩
/-- xs.append(a) -/
def sApp (i : Nat) (m : SEM) : SM := fun e => match e[i]? with
  | some (.ow ds) => (m e).on e fun d => if ds.length < 16777216 then .nx (e.set i (.ow (ds ++ [d]))) else .bad
  | _ => .bad
theorem s_app {i : Nat} {x : Str} {a : Expr} {m : SEM} {p apos cpos pos : Pos} (ha : DX X px W a m) (hN : X.N[i]? = some x := by rfl) (hv : Vis X.env.scope x := by first | exact Or.inl rfl | exact Or.inr (Or.inl rfl) | exact Or.inr (Or.inr rfl)) (hd : (x == ("__debug__" : Str)) = false := by decide)
    (hcd : (x == ("__classdict__" : Str)) = false := by decide)
    (hbase : attributeBase (.Name x p) "append" X.env (eval (.Name x p) X.env) = eval (.Name x p) X.env := by rfl)
    (hfew : ((backTo cpos (starEach [a] X.env)).all (fun x => !x.1) && (backToKw cpos (keywordEach [] X.env)).all (fun x => x.1.isSome) && decide (([a] : List Expr).length + ([] : List Keyword).length + (if ([] : List Keyword).isEmpty then 0 else 1) < 30)) = true := by rfl)
    (hline : (apos.endLine == cpos.line) = true := by rfl) (hs : starEach [a] X.env = [(false, eval a X.env)] := by rfl)
    (hsw : swapsWith (.Call (.Attribute (.Name x p) "append" apos) [a] [] cpos) none pos.line X.env = pure false := by rfl) :
    DS X px W (.Expr (.Call (.Attribute (.Name x p) "append" apos) [a] [] cpos) pos) (sApp i m) := by
  refine PS.imp (ps_expr (pe_bm PySem.F.plainAttrs_list PySem.F.slot_list_append PySem.F.type_list_append mt_append (pe_var hN hv hd hcd) (pa_cons ha pa_nil hs) hbase hfew hline hs rfl) hsw) fun D σ H ⟨S0, H0, O, e, r, q⟩ => ?_
  unfold sApp at q
  split at q
  · rename_i ds hds
    obtain ⟨l, vs, ho, hσ, hl, hz, rs⟩ := r.ow hds
    refine ⟨.ref l, hσ, .inl ⟨rfl, vs, Or.inl (Or.inl hl)⟩, S0, H0, O, e, r, (onX q).imp fun v H1 ⟨d, _, _, r1, rv, q⟩ => ?_⟩
    split at q
    · rename_i hlt
      obtain ⟨l1, vs1, ho1, hσ1, hl1, hz1, rs1⟩ := r1.ow hds
      rw [hσ] at hσ1
      cases hσ1
      have hlen : vs1.length < sizeLine := by rw [← rs1.length]; exact hlt
      refine ⟨l, vs1, v, rfl, rfl, hl1, hlen, ?_⟩
      exact q _ _ _ (r1.mut hds ho1 (by rw [List.length_append]; exact hlen) (rs1.append (Reps.one rv)))
    · exact (show False from q).elim
  · exact (show False from q).elim
/-- xs.extend(a), a a list -/
def sExt (i : Nat) (m : SEM) : SM := fun e => match e[i]? with
  | some (.ow ds) => (m e).on e fun d => (match d with
    | .lst es => if ds.length + es.length ≤ 16777216 then .nx (e.set i (.ow (ds ++ es))) else .bad
    | _ => .bad)
  | _ => .bad
theorem s_ext {i : Nat} {x : Str} {a : Expr} {m : SEM} {p apos cpos pos : Pos} (ha : DX X px W a m) (hN : X.N[i]? = some x := by rfl) (hv : Vis X.env.scope x := by first | exact Or.inl rfl | exact Or.inr (Or.inl rfl) | exact Or.inr (Or.inr rfl)) (hd : (x == ("__debug__" : Str)) = false := by decide)
    (hcd : (x == ("__classdict__" : Str)) = false := by decide)
    (hbase : attributeBase (.Name x p) "extend" X.env (eval (.Name x p) X.env) = eval (.Name x p) X.env := by rfl)
    (hfew : ((backTo cpos (starEach [a] X.env)).all (fun x => !x.1) && (backToKw cpos (keywordEach [] X.env)).all (fun x => x.1.isSome) && decide (([a] : List Expr).length + ([] : List Keyword).length + (if ([] : List Keyword).isEmpty then 0 else 1) < 30)) = true := by rfl)
    (hline : (apos.endLine == cpos.line) = true := by rfl) (hs : starEach [a] X.env = [(false, eval a X.env)] := by rfl)
    (hsw : swapsWith (.Call (.Attribute (.Name x p) "extend" apos) [a] [] cpos) none pos.line X.env = pure false := by rfl) :
    DS X px W (.Expr (.Call (.Attribute (.Name x p) "extend" apos) [a] [] cpos) pos) (sExt i m) := by
  refine PS.imp (ps_expr (pe_bm PySem.F.plainAttrs_list PySem.F.slot_list_extend PySem.F.type_list_extend mt_extend (pe_var hN hv hd hcd) (pa_cons ha pa_nil hs) hbase hfew hline hs rfl) hsw) fun D σ H ⟨S0, H0, O, e, r, q⟩ => ?_
  unfold sExt at q
  split at q
  · rename_i ds hds
    obtain ⟨l, vs, ho, hσ, hl, hz, rs⟩ := r.ow hds
    refine ⟨.ref l, hσ, .inl ⟨rfl, vs, Or.inl (Or.inl hl)⟩, S0, H0, O, e, r, (onX q).imp fun v H1 ⟨d, _, _, r1, rv, q⟩ => ?_⟩
    obtain ⟨l1, vs1, ho1, hσ1, hl1, hz1, rs1⟩ := r1.ow hds
    rw [hσ] at hσ1
    cases hσ1
    cases d with
    | lst es =>
      simp only at q
      obtain ⟨b, ws, rfl, k1, k2, k3, k4⟩ := rv
      split at q
      · rename_i hlt
        have hlen : vs1.length + ws.length ≤ sizeLine := by rw [← rs1.length, ← k4.length]; exact hlt
        refine ⟨l, b, vs1, ws, rfl, rfl, hl1, k1, hlen, ?_⟩
        exact q _ _ _ (r1.mut hds ho1 (by rw [List.length_append]; exact hlen) (rs1.append k4))
      · exact (show False from q).elim
    | _ => exact (show False from q).elim
  · exact (show False from q).elim
/-- xs.reverse() -/
def sRev (i : Nat) : SM := fun e => match e[i]? with
  | some (.ow ds) => .nx (e.set i (.ow ds.reverse))
  | _ => .bad
theorem s_rev {i : Nat} {x : Str} {p apos cpos pos : Pos} (hN : X.N[i]? = some x := by rfl) (hv : Vis X.env.scope x := by first | exact Or.inl rfl | exact Or.inr (Or.inl rfl) | exact Or.inr (Or.inr rfl)) (hd : (x == ("__debug__" : Str)) = false := by decide)
    (hcd : (x == ("__classdict__" : Str)) = false := by decide)
    (hbase : attributeBase (.Name x p) "reverse" X.env (eval (.Name x p) X.env) = eval (.Name x p) X.env := by rfl)
    (hline : (apos.endLine == cpos.line) = true := by rfl)
    (hsw : swapsWith (.Call (.Attribute (.Name x p) "reverse" apos) [] [] cpos) none pos.line X.env = pure false := by rfl) :
    DS X px W (.Expr (.Call (.Attribute (.Name x p) "reverse" apos) [] [] cpos) pos) (sRev i) := by
  refine PS.imp (ps_expr (pe_bm0 PySem.F.plainAttrs_list PySem.F.slot_list_reverse PySem.F.type_list_reverse mt_reverse (pe_var hN hv hd hcd) hbase hline) hsw) fun D σ H ⟨S0, H0, O, e, r, q⟩ => ?_
  unfold sRev at q
  split at q
  · rename_i ds hds
    obtain ⟨l, vs, ho, hσ, hl, hz, rs⟩ := r.ow hds
    refine ⟨.ref l, hσ, .inl ⟨rfl, vs, Or.inl (Or.inl hl)⟩, l, vs, rfl, rfl, hl, ?_⟩
    exact q _ _ _ (r.mut hds ho (by rw [List.length_reverse]; exact hz) rs.reverse)
  · exact (show False from q).elim
/-- xs[k] = a -/
def sIxS (i : Nat) (k a : SEM) : SM := fun e => (a e).on e fun d => match e[i]? with
  | some (.ow ds) => (k e).on e fun n => (match n with
    | .int n => (match ixN ds.length n with
      | some j => .nx (e.set i (.ow (ds.set j d)))
      | none => .bad)
    | _ => .bad)
  | _ => .bad
theorem s_ixs {i : Nat} {x : Str} {k a : Expr} {mk ma : SEM} {p tpos pos : Pos} (ha : DX X px W a ma) (hk : DX X px W k mk) (hN : X.N[i]? = some x := by rfl) (hv : Vis X.env.scope x := by first | exact Or.inl rfl | exact Or.inr (Or.inl rfl) | exact Or.inr (Or.inr rfl)) (hd : (x == ("__debug__" : Str)) = false := by decide)
    (hcd : (x == ("__classdict__" : Str)) = false := by decide)
    (has : ∀ v, assign (.Subscript (.Name x p) k tpos) X.env v = (do
      let ov ← holding [v] (eval (.Name x p) X.env)
      let iv ← holding [v, ov] (eval k X.env)
      standAt tpos
      holding [v, ov, iv] (setItem ov iv v)
      release [v, ov, iv] []) := by intro _; rfl)
    (hs : swapsWithSole [.Subscript (.Name x p) k tpos] a pos.line X.env = pure false := by rfl) (hw : swappedStores [.Subscript (.Name x p) k tpos] a X.env = pure none := by rfl) (h1 : (assignEach [.Subscript (.Name x p) k tpos] X.env).map (·.2) = [assign (.Subscript (.Name x p) k tpos) X.env] := by rfl) :
    DS X px W (.Assign [.Subscript (.Name x p) k tpos] a pos) (sIxS i mk ma) := by
  refine PS.imp (ps_asg ha (pg_sub (pe_var hN hv hd hcd) hk set_list has) hs hw h1) fun D σ H ⟨S0, H0, O, e, r, q⟩ => ⟨S0, H0, O, e, r, (onX q).imp fun v H1 ⟨d, _, _, r1, rv, q⟩ => ?_⟩
  split at q
  · rename_i ds hds
    obtain ⟨l, vs, ho, hσ, hl, hz, rs⟩ := r1.ow hds
    refine ⟨.ref l, hσ, S0, H0, O, e, r1, (onX q).imp fun u H2 ⟨n, _, s2, r2, ru, q⟩ => ?_⟩
    cases n with
    | int n =>
      cases (show u = .int n from ru)
      simp only at q
      split at q
      · rename_i j hj
        obtain ⟨l2, vs2, ho2, hσ2, hl2, hz2, rs2⟩ := r2.ow hds
        rw [hσ] at hσ2
        cases hσ2
        refine ⟨l, vs2, n, j, rfl, rfl, hl2, by rw [← rs2.length]; exact hj, ?_⟩
        exact q _ _ _ (r2.mut hds ho2 (by rw [List.length_set]; exact hz2) (Reps.set j (rv.mono s2 fun _ z => z) rs2))
      · exact (show False from q).elim
    | _ => exact (show False from q).elim
  · exact (show False from q).elim
/-- self.f = a, in the slot i an instance that is being made -/
def sFldS (cs : List Str) (i : Nat) (f : Str) (m : SEM) : SM := fun e => (m e).on e fun d => match e[i]? with
  | some (.ob c ns ds) => if c ∈ cs ∧ ¬ f ∈ ns ∧ ns.length < 900 ∧ ns.length = ds.length then .nx (e.set i (.ob c (ns ++ [f]) (ds ++ [d]))) else .bad
  | _ => .bad
theorem putF_new {f : Str} {v : V} : ∀ {ns : List Str} {vs : List V}, ¬ f ∈ ns → ns.length = vs.length → putF f v (ns.zip vs) = (ns ++ [f]).zip (vs ++ [v])
  | [], [], _, _ => rfl
  | [], _ :: _, _, h => by simp at h
  | _ :: _, [], _, h => by simp at h
  | n :: ns, x :: vs, h, hl => by
    have e : ¬ n = f := fun z => h (z ▸ List.mem_cons_self)
    rw [List.zip_cons_cons, List.cons_append, List.cons_append, List.zip_cons_cons]
    unfold putF
    rw [if_neg e, putF_new (fun z => h (List.mem_cons_of_mem _ z)) (by simpa using hl)]
theorem s_fldS {cs : List Str} {i : Nat} {f x : Str} {a : Expr} {m : SEM} {p apos pos : Pos} (ha : DX X px W a m) (hc : FldOk X.K cs f) (hN : X.N[i]? = some x := by rfl) (hv : Vis X.env.scope x := by first | exact Or.inl rfl | exact Or.inr (Or.inl rfl) | exact Or.inr (Or.inr rfl)) (hd : (x == ("__debug__" : Str)) = false := by decide)
    (hcd : (x == ("__classdict__" : Str)) = false := by decide) (hs : swapsWith a (some (.Attribute (.Name x p) f apos)) pos.line X.env = pure false := by rfl) :
    DS X px W (.Assign [.Attribute (.Name x p) f apos] a pos) (sFldS cs i f m) := by
  refine PS.imp (ps_fld (pe_var hN hv hd hcd) ha hs) fun D σ H ⟨S0, H0, O, e, r, q⟩ => ⟨S0, H0, O, e, r, (onX q).imp fun v H1 ⟨d, _, _, r1, rv, q⟩ => ?_⟩
  split at q
  · rename_i c ns ds hds
    split at q
    · rename_i h
      obtain ⟨hcm, hf, h9, hl⟩ := h
      obtain ⟨y, h1, b, dx, vs, k1, rfl, k3, k4, k5⟩ := r1.sl i _ hds
      obtain ⟨c1, c2⟩ := hc c hcm
      refine ⟨_, h1, b, _, dx, _, rfl, k3, c1, c2, by rw [List.length_zip]; omega, ?_⟩
      have hlv : ns.length = vs.length := k4
      rw [putF_new hf hlv]
      exact q _ _ _ (r1.mutO hds k1 k3 (by rw [List.length_append, List.length_append, hlv] <;> rfl) (k5.append (Reps.one rv)))
    · exact (show False from q).elim
  · exact (show False from q).elim
/-- x op= a, ints -/
def sAug (i : Nat) (f : Int → Int → Int) (m : SEM) : SM := fun e => match e[i]? with
  | some (.fz (.int a)) => (m e).on e fun d => (match d with
    | .int b => .nx (e.set i (.fz (.int (f a b))))
    | _ => .bad)
  | _ => .bad
theorem s_aug {i : Nat} {x : Str} {a : Expr} {m : SEM} {op : Operator} {f : Int → Int → Int} {p pos : Pos} (hN : X.N.Nodup) (ho : PIp X op (ipI f)) (ha : DX X px W a m) (hi : X.N[i]? = some x := by rfl) (hx : Loc X.env.scope x := by first | exact Or.inl rfl | exact Or.inr rfl) (hf : X.fn x = true ∨ X.env.scope.names.lookup x = some .local := by first | exact .inl rfl | exact .inr rfl) :
    DS X px W (.AugAssign (.Name x p) op a pos) (sAug i f m) := by
  refine PS.imp (ps_aug hN hi hx ha ho hf) fun D σ H ⟨S0, H0, O, e, r, q⟩ => ?_
  unfold sAug at q
  split at q
  · rename_i a hds
    obtain ⟨v, hσ, rv⟩ := r.fzI hds
    cases (show v = .int a from rv)
    refine ⟨_, hσ, S0, H0, O, e, r, (onX q).imp fun v H1 ⟨d, _, _, r1, rv, q⟩ => ?_⟩
    cases d with
    | int b =>
      cases (show v = .int b from rv)
      exact ⟨a, b, rfl, rfl, q _ _ _ (r1.put (d := .int (f a b)) rfl)⟩
    | _ => exact (show False from q).elim
  · exact (show False from q).elim
end
end DL

end
section
set_option Elab.async false
set_option linter.all false
set_option maxRecDepth 100000
namespace DL
open PySem PySem.Spec L2
open PyProof.Rows hiding St

/-! ### a def by its body -/
/-- the slots at the entry: the arguments, then nothing -/
def env0 (n : Nat) (ds : List D) : SEnv := ds.map Sl.fz ++ List.replicate (n - ds.length) .no
/-- what a body's end tells the caller -/
def endF : Out → R D
  | .nx _ => .ok .non
  | .rt d => .ok d
  | .rtF ds => .ok (.lst ds)
  | .er c ns ds _ => .er c ns ds
  | _ => .bad
def runF (n : Nat) (m : SM) (ds : List D) : R D := endF (m (env0 n ds))
abbrev WF (E : XK) : WX := fun c d _ H => E c d H
section
variable {K : PySem.W.Frag} {px : Px} {S : Addr → Prop} {H : Hp}
theorem Reps.getI {ds : List D} {vs : List V} (r : Reps K px S H ds vs) {i : Nat} (h : i < ds.length) : ∃ d v, ds[i]? = some d ∧ vs[i]? = some v ∧ Rep K px S H d v := by
  obtain ⟨d, e⟩ := get_lt h
  obtain ⟨v, e2, q⟩ := r.get e
  exact ⟨d, v, e, e2, q⟩
theorem start_at {N : List Str} {vs : List V} {i : Nat} {v : V} (h : vs[i]? = some v) : (L2.start N vs)[i]? = some (some v) := by
  unfold L2.start
  have hi := lt_of_get h
  rw [List.getElem?_append_left (by rw [List.length_map]; exact hi), List.getElem?_map, h] <;> rfl
theorem repE_start {N : List Str} {ds : List D} {vs : List V} (r : Reps K px S H ds vs) (hl : vs.length ≤ N.length) : RepE K px (S, none) H (fun _ => none) H (L2.start N vs) (env0 N.length ds) := by
  have hlen := r.length
  refine ⟨Same.refl _, ?_, fun i a h => (by cases h), fun i j a h => (by cases h), fun i s h => ?_, fun i h => rfl, fun i s h hp => ?_⟩
  · unfold L2.start env0
    rw [List.length_append, List.length_append, List.length_map, List.length_map, List.length_replicate, List.length_replicate]
    omega
  · unfold env0 at h
    by_cases hi : i < ds.length
    · obtain ⟨d, v, e1, e2, q⟩ := r.getI hi
      rw [List.getElem?_append_left (by rw [List.length_map]; exact hi), List.getElem?_map, e1] at h
      cases h
      exact ⟨_, start_at e2, rfl, v, rfl, q.mono (Same.refl _) fun a z => ⟨.inl z, fun j w => by cases w⟩⟩
    · have h2 := h
      rw [List.getElem?_append_right (by rw [List.length_map]; omega), List.getElem?_replicate] at h
      split at h
      · cases h
        rename_i hk
        rw [List.length_map] at hk
        refine ⟨none, ?_, rfl⟩
        unfold L2.start
        rw [List.getElem?_append_right (by rw [List.length_map]; omega), List.getElem?_replicate, if_pos (by rw [List.length_map]; omega)]
      · cases h
  · unfold env0 at h
    by_cases hi : i < ds.length
    · obtain ⟨d, v, e1, e2, q⟩ := r.getI hi
      rw [List.getElem?_append_left (by rw [List.length_map]; exact hi), List.getElem?_map, e1] at h
      cases h
      cases hp
    · rw [List.getElem?_append_right (by rw [List.length_map]; omega), List.getElem?_replicate] at h
      split at h
      · cases h
        cases hp
      · cases h
theorem post_end {Q : VK} {E : XK} {o : Out} (h : Post K px (WF E) S [] H (endF o) Q) : PostS K px (WF E) (S, none) H { nx := fun _ H' => Q .non H', rt := Q } o := by
  cases o with
  | nx e => exact fun O σ H' r => h .non H' r.same rfl
  | rt d => exact h
  | rtF ds => exact fun a vs H' e1 n ha hl rr => h (.ref a) H' e1 ⟨a, vs, rfl, ha, .inr n, hl, Reps.mono (Same.refl _) (fun b z => z.1) _ _ rr⟩
  | br e => exact (show False from h).elim
  | ct e => exact (show False from h).elim
  | er c ns ds e => exact fun O dd σ H' r x => h dd H' r.same (x.mono (Same.refl _) fun a z => z.1)
  | bad => exact h
end
/-! ### making instances -/
/-- __init__: g the fields that it leaves -/
def SpI (K : PySem.W.Frag) (n : Nat) (c : Str) (g : List D → R (List Str × List D)) : Sp := fun vs H Q E => ∃ S ds a dx rest, vs = .ref a :: rest ∧ rest.length = n ∧ H a = some (.ins (He.ga K c) dx []) ∧ ¬ S a ∧ Reps K none S H ds rest ∧
  match g ds with
  | .ok (ns, fs) => ∀ H' dx fvs, Same (fun b => if b = a then none else H b) H' → H' a = some (.ins (He.ga K c) dx (ns.zip fvs)) → ns.length = fvs.length → Reps K none (fun b => Fr S H b ∧ b ≠ a) H' fs fvs → Q .non H'
  | .er c2 ns fs => ∀ dd H', Same (fun b => if b = a then none else H b) H' → ExF K none (fun b => Fr S H b ∨ b = a) H' ns fs dd → E (.ref (He.ga K c2)) dd H'
  | .bad => False
def endI (c : Str) : Out → R (List Str × List D)
  | .nx (.ob c2 ns ds :: _) => if c2 = c then .ok (ns, ds) else .bad
  | .er c ns ds _ => .er c ns ds
  | _ => .bad
def runI (n : Nat) (c : Str) (m : SM) (ds : List D) : R (List Str × List D) := endI c (m (.ob c [] [] :: env0 (n - 1) ds))
/-- a class and its __init__ -/
structure MkC (P : Program) (w : World) (K : PySem.W.Frag) (mg : Str → Option Value) (base : Heap) (k : Nat) (c : Str) (n : Nat) (g : List D → R (List Str × List D)) : Prop where
  mkc : Mk K (He.ga K c) (He.ma K (He.ga K c) "__init__")
  ok : ∃ fd ps, FnOk P w K mg base (L2N.CX P w) k (He.ma K (He.ga K c) "__init__") fd ps (SpI K n c g) ∧ Binds K fd ps []
theorem mkp_of {P : Program} {w : World} {K : PySem.W.Frag} {mg : Str → Option Value} {base : Heap} {c x qual : Str} {params : Arguments} {body : List Stmt} {scope : Scope} {fd : FuncData} {N ps : List Str} {k n : Nat} {m : SM}
    (M : Mk K (He.ga K c) (He.ma K (He.ga K c) "__init__")) (F : FunD K x qual params body scope [] [] (He.ma K (He.ga K c) "__init__") fd) (S : FnScope N ps scope) (b : Binds K fd ps []) (hn : ps.length = n + 1)
    (hbody : ∀ (cdv : Value) (A : Around) (outer : List Env) (s : Shared) (H : Hp) (E : XK), Room k (A.deeper (envOfC qual scope s.heap.objs.size (He.ma K (He.ga K c) "__init__") cdv)) →
      PassesOwn (model P w) (cxOf (L2N.CX P w) P w K mg base N qual scope (He.ma K (He.ga K c) "__init__") cdv A outer s H E).A (cxOf (L2N.CX P w) P w K mg base N qual scope (He.ma K (He.ga K c) "__init__") cdv A outer s H E).env (cxOf (L2N.CX P w) P w K mg base N qual scope (He.ma K (He.ga K c) "__init__") cdv A outer s H E).xe →
      L2N.Takes (cxOf (L2N.CX P w) P w K mg base N qual scope (He.ma K (He.ga K c) "__init__") cdv A outer s H E) (WF E) → DSs (cxOf (L2N.CX P w) P w K mg base N qual scope (He.ma K (He.ga K c) "__init__") cdv A outer s H E) none (WF E) body m) :
    MkC P w K mg base (k + 1) c n (runI N.length c m) := by
  refine ⟨M, fd, ps, FunD.ok F S (fun vs H Q E h => by
    obtain ⟨_, _, _, _, rest, rfl, h, _⟩ := h
    rw [List.length_cons, h, hn]) (fun cdv A outer s H vs Q E hr hsp => ?_), b⟩
  refine ⟨_, hbody cdv A outer s H E hr PassesOwn.leaving (L2N.takes_of rfl rfl rfl rfl), ?_⟩
  obtain ⟨S0, ds, a, dx, rest, rfl, hl, hH, nS, r, q⟩ := hsp
  have hle : rest.length + 1 ≤ N.length := by
    have e := S.pre
    have e2 := congrArg List.length e
    rw [List.length_take] at e2
    omega
  have hlen := r.length
  let G : Hp := fun b => if b = a then none else H b
  have sG : Same G H := fun b o h => by
    have h : (if b = a then none else H b) = some o := h
    split at h
    · cases h
    · exact h
  have hst : L2.start N (.ref a :: rest) = some (V.ref a) :: (rest.map some ++ List.replicate (N.length - (rest.length + 1)) none) := rfl
  -- the slots
  have R0 : RepE K none (S0, some a) G (fun i => if i = 0 then some a else none) H (L2.start N (.ref a :: rest)) (.ob c [] [] :: env0 (N.length - 1) ds) := by
    refine ⟨sG, ?_, fun i b h => ?_, fun i j b h h' => ?_, fun i s h => ?_, fun i h => ?_, fun i s h hp => ?_⟩
    · rw [hst]
      unfold env0
      rw [List.length_cons, List.length_cons, List.length_append, List.length_append, List.length_map, List.length_map, List.length_replicate, List.length_replicate]
      omega
    · have h : (if i = 0 then some a else none) = some b := h
      split at h
      · cases h
        show (if a = a then none else H a) = none
        rw [if_pos rfl]
      · cases h
    · have h : (if i = 0 then some a else none) = some b := h
      have h' : (if j = 0 then some a else none) = some b := h'
      split at h
      · split at h'
        · omega
        · cases h'
      · cases h
    · cases i with
      | zero =>
        have h : some (Sl.ob c [] []) = some s := h
        cases h
        exact ⟨some (.ref a), rfl, a, dx, [], rfl, rfl, hH, rfl, rfl⟩
      | succ i =>
        have h : (env0 (N.length - 1) ds)[i]? = some s := h
        unfold env0 at h
        show ∃ x, (L2.start N (.ref a :: rest))[i + 1]? = some x ∧ SlR K none (Al (S0, some a) G _) H s none x
        by_cases hi : i < ds.length
        · obtain ⟨d, v, e1, e2, q⟩ := r.getI hi
          rw [List.getElem?_append_left (by rw [List.length_map]; exact hi), List.getElem?_map, e1] at h
          cases h
          refine ⟨_, start_at (by simpa using e2), rfl, v, rfl, q.mono (Same.refl _) fun b z => ⟨.inl z, fun j w => ?_⟩⟩
          have w : (if j = 0 then some a else none) = some b := w
          split at w
          · cases w
            exact nS z
          · cases w
        · rw [List.getElem?_append_right (by rw [List.length_map]; omega), List.getElem?_replicate] at h
          split at h
          · cases h
            rename_i hk
            rw [List.length_map] at hk
            refine ⟨none, ?_, rfl⟩
            unfold L2.start
            rw [List.getElem?_append_right (by rw [List.length_map, List.length_cons]; omega), List.getElem?_replicate, if_pos (by rw [List.length_map, List.length_cons]; omega)]
          · cases h
    · have n : i ≠ 0 := fun z => by
        subst z
        cases h
      exact if_neg n
    · cases i with
      | zero => exact ⟨a, rfl, rfl⟩
      | succ i =>
        have h : (env0 (N.length - 1) ds)[i]? = some s := h
        unfold env0 at h
        by_cases hi : i < ds.length
        · obtain ⟨d, v, e1, e2, q⟩ := r.getI hi
          rw [List.getElem?_append_left (by rw [List.length_map]; exact hi), List.getElem?_map, e1] at h
          cases h
          cases hp
        · rw [List.getElem?_append_right (by rw [List.length_map]; omega), List.getElem?_replicate] at h
          split at h
          · cases h
            cases hp
          · cases h
  refine ⟨(S0, some a), G, _, _, R0, ?_⟩
  have fr : ∀ (O : Nat → Option Addr) b, Al (S0, some a) G O b → O 0 = some a → Fr S0 H b ∧ b ≠ a := fun O b z o => by
    have n : b ≠ a := fun w => z.2 0 (by rw [o, w])
    refine ⟨?_, n⟩
    rcases z.1 with z | z
    · exact .inl z
    · have z : (if b = a then none else H b) = none := z
      rw [if_neg n] at z
      exact .inr z
  unfold runI at q
  generalize m (.ob c [] [] :: env0 (N.length - 1) ds) = o at q
  cases o with
  | nx e =>
    cases e with
    | nil => exact q.elim
    | cons s e =>
      cases s with
      | ob c2 ns fs =>
        simp only [endI] at q
        by_cases hc : c2 = c
        · subst hc
          rw [if_pos rfl] at q
          intro O σ H' r'
          obtain ⟨b, h1, h2⟩ := r'.ob 0 _ rfl rfl
          cases h1
          obtain ⟨x, _, b, dx', fvs, k1, k2, k3, k4, k5⟩ := r'.sl 0 _ rfl
          rw [h2] at k1
          cases k1
          exact q H' dx' fvs r'.same k3 k4 (Reps.mono (Same.refl _) (fun b z => fr O b z h2) _ _ k5)
        · rw [if_neg hc] at q
          exact q.elim
      | _ => exact (show False from q).elim
  | er c2 ns fs e =>
    intro O dd σ H' r' x
    refine q dd H' r'.same (x.mono (Same.refl _) fun b z => ?_)
    rcases z.1 with z | z
    · exact .inl (.inl z)
    · have z : (if b = a then none else H b) = none := z
      split at z
      · rename_i h
        exact .inr h
      · exact .inl (.inr z)
  | _ => exact (show False from q).elim
end DL

end
section
set_option Elab.async false
set_option linter.all false
set_option maxRecDepth 100000
namespace DL
open PySem PySem.Spec L2
open PyProof.Rows hiding St

section
variable {X : Cx} {W : WX} {pos : Pos} {CT : CXT} {C f : Addr} {fd : FuncData} {ps : List Str} {k n : Nat} {sp : Sp}
/-- an instance is made; what __init__ lets out is told to W at these slots -/
theorem run_mkE {pn : List (Addr × Obj)} {σ : St} {H : Hp} {s : Shared} {Q : VK} {E : XK} {us : List Value} {vs : List V} (M : Mk X.K C f) (F : FnOk X.prog X.w X.K X.mg X.base CT k f fd ps sp) (room : Room (k + 1) X.A) (bi : Binds X.K fd ps [])
    (px : PassesAt CT X σ E) (J : Inv X pn σ H s) (rv : Vals vs us)
    (want : ∀ x dx, H x = none → H dx = none → dx ≠ x → sp (.ref x :: vs) (upd (upd H dx (.own x)) x (.ins C dx [])) (fun v H2 => v = .non ∧ Q (.ref x) H2) E) :
    wpAny (model X.prog X.w) X.A (call (.ref C) us) (EP X pn σ Q) X.xe s := by
  have w1 := want (s.heap.objs.size + 1) s.heap.objs.size (J.hok.fresh (Nat.le_succ _)) (J.hok.fresh (Nat.le_refl _)) (Nat.ne_of_lt (Nat.lt_succ_self _))
  have J2 := Inv.made (C := C) J
  have rv2 : Vals (V.ref (s.heap.objs.size + 1) :: vs) (Value.ref (s.heap.objs.size + 1) :: us) := .cons rfl rv
  have len : (Value.ref (s.heap.objs.size + 1) :: us).length = ps.length := by
    have z := rv2.length
    rw [F.len _ _ _ _ w1] at z
    exact z.symm
  have bi2 := bi _ (Value.ref (s.heap.objs.size + 1) :: us) J2.kIn (by rw [List.append_nil]; exact len)
  rw [List.append_nil] at bi2
  have run := F.run _ X.stack _ _ ⟨Value.ref (s.heap.objs.size + 1) :: us, []⟩ (Value.ref (s.heap.objs.size + 1) :: us) (V.ref (s.heap.objs.size + 1) :: vs) _ E (room.make C us []) (J2.env0.make C us []) bi2 rv2 w1
  refine wpAny_call (make_map (f := f) J.kIn M.makes M.init (beq_iff_eq.mp M.fn) (codeAny_mono run fun res s2 after => ?_))
  cases res with
  | error x => exact px pn _ _ x s2 J2 after
  | ok flow =>
    cases flow with
    | ret u =>
      obtain ⟨v, H2, J3, rel, hv, w2⟩ := J2.after after
      subst hv
      exact ⟨rel, ⟨V.ref (s.heap.objs.size + 1), H2, J3, rfl, w2⟩⟩
    | next => exact after.elim
    | brk => exact after.elim
    | cont => exact after.elim
abbrev MkX (X : Cx) (k : Nat) (c : Str) (n : Nat) (g : List D → R (List Str × List D)) : Prop := MkC X.prog X.w X.K X.mg X.base k c n g
/-- C(a, ..) -/
def dMk (c : Str) (g : List D → R (List Str × List D)) (xs : List D) : R D := (g xs).bd fun p => .ok (.obj c p.1 p.2)
theorem sp_mk {c : Str} {g : List D → R (List Str × List D)} {S : Addr → Prop} {σ : St} {H : Hp} {ds : List D} {vs : List V} {Q : VK} (hl : vs.length = n) (r : Reps X.K none S H ds vs) (q : Post X.K none W S σ H (dMk c g ds) Q) (x dx : Addr) (hx : H x = none) (hdx : H dx = none) (hne : dx ≠ x) :
    SpI X.K n c g (.ref x :: vs) (upd (upd H dx (.own x)) x (.ins (He.ga X.K c) dx [])) (fun v H2 => v = .non ∧ Q (.ref x) H2) (WE W σ) := by
  have s1 : Same H (upd (upd H dx (.own x)) x (.ins (He.ga X.K c) dx [])) := fun b o h => by
    have n1 : b ≠ x := fun z => by rw [z, hx] at h; cases h
    have n2 : b ≠ dx := fun z => by rw [z, hdx] at h; cases h
    rw [upd_ne n1, upd_ne n2]
    exact h
  have sH : ∀ {G : Hp}, Same (fun b => if b = x then none else (upd (upd H dx (.own x)) x (.ins (He.ga X.K c) dx [])) b) G → Same H G := fun {G} sg b o h => by
    have n1 : b ≠ x := fun z => by rw [z, hx] at h; cases h
    refine sg b o ?_
    show (if b = x then none else _) = some o
    rw [if_neg n1]
    exact s1 b o h
  refine ⟨fun a => S a ∧ H a ≠ none, ds, x, dx, vs, rfl, hl, upd_same, fun z => z.2 hx, Reps.mono s1 (fun _ z => z) _ _ (Reps.trk (fun a z nz => ⟨z, nz⟩) _ _ r), ?_⟩
  have back : ∀ a, Fr (fun a => S a ∧ H a ≠ none) (upd (upd H dx (.own x)) x (.ins (He.ga X.K c) dx [])) a → Fr S H a := fun a z => by
    rcases z with z | z
    · exact .inl z.1
    · exact .inr (s1.free z)
  unfold dMk at q
  cases hg : g ds with
  | ok p =>
    rw [hg] at q
    obtain ⟨ns, fs⟩ := p
    intro H2 dx2 fvs e1 e2 e3 e4
    exact ⟨rfl, q _ H2 (sH e1) ⟨x, dx2, fvs, rfl, e2, .inr hx, e3, Reps.mono (Same.refl _) (fun a z => back a z.1) _ _ e4⟩⟩
  | er c2 ns fs =>
    rw [hg] at q
    intro dd H2 e1 x2
    refine q dd H2 (sH e1) (x2.mono (Same.refl _) fun a z => ?_)
    rcases z with z | z
    · exact back a z
    · exact .inr (by rw [z]; exact hx)
  | bad =>
    rw [hg] at q
    exact q
theorem e_make {c : Str} {p : Pos} {a : Expr} {es : List Expr} {g : List D → R (List Str × List D)} {m : EMs} (M : MkX X k c n g) (hr : Room (k + 1) X.A) (tk : L2N.Takes X W) (hg : Gl X c) (hm : X.mg c = some (.ref (He.ga X.K c))) (ha : DA X none W (a :: es) m) (hn : CntA n m)
    (hdb : (c == ("__debug__" : Str)) = false := by decide) (he : starEach (a :: es) X.env = (false, eval a X.env) :: starEach es X.env := by rfl) (hpl : (backTo pos (starEach es X.env)).any (·.1) = false := by rfl) :
    DE X none W (.Call (.Name c p) (a :: es) [] pos) (mA (dMk c g) m) := by
  obtain ⟨M1, fd, ps, F, b⟩ := M
  refine ⟨fun pins s σ H Q I h => ?_⟩
  obtain ⟨S, e, r, q⟩ := h
  refine wpAny_Call_Name_kw (ld_glob I hg hm ?_ hdb)
  refine PySem.W.callWith_K (h₀ := X.base) I.ok.mod.kin M1.kp (thn (ha.run pos pins s σ H _ I ⟨S, e, r, posts_len (hn e) (Posts.bd q)⟩) fun us s1 hus => ?_) he hpl
  obtain ⟨vs, H1, I1, rv, hl, xs, _, e1, r1, q1⟩ := hus
  exact ⟨I1.kIn, run_mkE M1 F hr b (L2N.passAt tk σ) I1 rv fun x dx hx hdx hne => sp_mk hl r1 q1 x dx hx hdx hne⟩
/-- C() -/
theorem e_make0 {c : Str} {p : Pos} {g : List D → R (List Str × List D)} (M : MkX X k c 0 g) (hr : Room (k + 1) X.A) (tk : L2N.Takes X W) (hg : Gl X c) (hm : X.mg c = some (.ref (He.ga X.K c))) (hdb : (c == ("__debug__" : Str)) = false := by decide) :
    DE X none W (.Call (.Name c p) [] [] pos) (mA (dMk c g) mNil) := by
  obtain ⟨M1, fd, ps, F, b⟩ := M
  refine ⟨fun pins s σ H Q I h => ?_⟩
  obtain ⟨S, e, r, q⟩ := h
  refine wpAny_Call_Name_kw (ld_glob I hg hm ?_ hdb)
  exact PySem.W.callWith_K0 I.kIn M1.kp (run_mkE (us := []) (vs := []) M1 F hr b (L2N.passAt tk σ) I .nil fun x dx hx hdx hne => sp_mk rfl (ds := []) rfl q x dx hx hdx hne)
end
end DL

end
section
set_option Elab.async false
set_option linter.all false
set_option maxRecDepth 100000
namespace DL
open PySem PySem.Spec L2
open PyProof.Rows hiding St

/-! ### isinstance -/
/-- what type a tree is of: a built-in one, an own class, an own exception's class -/
inductive Ty where
  | b (n : String) | o (c : Str) | x (c : Str)
  deriving DecidableEq
def tyD : D → Option Ty
  | .non => some (.b "NoneType")
  | .bl _ => some (.b "bool")
  | .int _ => some (.b "int")
  | .str _ => some (.b "str")
  | .tup _ => some (.b "tuple")
  | .lst _ => some (.b "list")
  | .obj c _ _ => some (.o c)
  | .exc c _ _ => some (.x c)
  | _ => none
/-- what the class at C must say, so that its instances can be asked -/
structure IsO (K : PySem.W.Frag) (C : Addr) : Prop where
  cl : Cls K C
  ha : PySem.W.findIn K (.ref C) "__class__" = some (some (.builtin "object.__class__"))
  hn : PySem.W.specialIn K (.builtin "object.__class__") "__get__" = some (some (.builtin "getset_descriptor.__get__"))
  ht : PySem.W.takesIn K (.builtin "object.__class__") = some true
  hm : PySem.W.mroIn K C (.type "object") = some true
abbrev Tbl := List (Ty × Bool)
/-- the table says who is of the class u -/
def TblOk (K : PySem.W.Frag) (u : Value) (tbl : Tbl) : Prop := ∀ p ∈ tbl, match p.1 with
  | .b n => PySem.W.kitOne K (.type n) u = some p.2
  | .o c => IsO K (He.ga K c) ∧ PySem.W.kitOne K (.ref (He.ga K c)) u = some p.2
  | .x c => PySem.W.kitOne K (.ref (He.ga K c)) u = some p.2
def dIsi (tbl : Tbl) (d : D) : R D := match tyD d with
  | some t => (match tbl.lookup t with
    | some b => .ok (.bl b)
    | none => .bad)
  | none => .bad
theorem lookup_memT {α β : Type} [BEq α] [LawfulBEq α] {a : α} {b : β} : ∀ {l : List (α × β)}, l.lookup a = some b → (a, b) ∈ l
  | [], h => by cases h
  | (x, y) :: r, h => by
    simp only [List.lookup] at h
    split at h
    · rename_i e
      cases h
      rw [eq_of_beq e]
      exact List.mem_cons_self
    · exact List.mem_cons_of_mem _ (lookup_memT h)
/-- the exception's dict stands -/
def DictAt (H : Hp) (dd : Option Addr) : Prop := dd = none ∨ ∃ dx fs, dd = some dx ∧ H dx = some (.xd fs)
/-- isinstance, also of the exception at hand -/
def rIsiP (K : PySem.W.Frag) (px : Px) : List V → Hp → VK → Prop := fun xs H Q => rIsi K xs H Q ∨
  ∃ (a : Addr) (dd : Option Addr) (c : Str) (cl : V) (cv : Value) (b : Bool), px = some (a, dd, c) ∧ DictAt H dd ∧ xs = [.ref a, cl] ∧ ClsV cl cv ∧ PySem.W.kitOne K (.ref (He.ga K c)) cv = some b ∧ Q (.bl b) H
abbrev IsiR (X : Cx) (px : Px) : Prop := CallR X (.builtin "isinstance") (rIsiP X.K px)
theorem isiR_none {X : Cx} : IsiR X none := fun pins s σ H xs us Q I r h => by
  rcases h with h | ⟨a, dd, c, cl, cv, b, e, _⟩
  · exact call_isi pins s σ H xs us Q I r h
  · cases e
section
variable {X : Cx} {px : Px} {W : WX} {pos : Pos}
theorem e_isi {a : Expr} {T : Str} {p q : Pos} {cl : V} {u : Value} {tbl : Tbl} {m : EM} (hI : IsiR X px) (hg : Gl X "isinstance") (hm : X.mg "isinstance" = none) (ha : DE X px W a m) (hT : PE X (.Name T q) (tC cl)) (hu : ClsV cl u) (ht : TblOk X.K u tbl)
    (he : starEach [a, .Name T q] X.env = (false, eval a X.env) :: starEach [.Name T q] X.env := by rfl) (he2 : starEach [.Name T q] X.env = [(false, eval (.Name T q) X.env)] := by rfl) (hpl : (backTo pos (starEach [.Name T q] X.env)).any (·.1) = false := by rfl) :
    DE X px W (.Call (.Name "isinstance" p) [a, .Name T q] [] pos) (m1 (dIsi tbl) m) := by
  refine PE.imp (pe_callB hI hg hm (by decide +kernel) (pa_cons ha (pa_cons hT pa_nil he2) he) (by decide) (by decide) he hpl) fun σ H Q h => ?_
  obtain ⟨S, e, r, q⟩ := h
  refine ⟨S, e, r, (Post.bd q).imp fun v H1 ⟨d, _, e1, r1, q1⟩ => ?_⟩
  show rIsiP X.K px [v, cl] H1 Q
  unfold dIsi at q1
  cases hd : tyD d with
  | none =>
    rw [hd] at q1
    exact (show False from q1).elim
  | some t =>
    rw [hd] at q1
    simp only at q1
    cases hl : tbl.lookup t with
    | none =>
      rw [hl] at q1
      exact (show False from q1).elim
    | some b =>
      rw [hl] at q1
      have fact := ht _ (lookup_memT hl)
      have fin : Q (.bl b) H1 := q1 _ _ (Same.refl _) rfl
      cases d with
      | non =>
        cases hd
        cases (show v = .non from r1)
        exact .inl ⟨_, _, _, u, b, rfl, hu, .base .non, fact, fin⟩
      | bl x =>
        cases hd
        cases (show v = .bl x from r1)
        exact .inl ⟨_, _, _, u, b, rfl, hu, .base (.bl _), fact, fin⟩
      | int x =>
        cases hd
        cases (show v = .int x from r1)
        exact .inl ⟨_, _, _, u, b, rfl, hu, .base (.int _), fact, fin⟩
      | str x =>
        cases hd
        cases (show v = .str x from r1)
        exact .inl ⟨_, _, _, u, b, rfl, hu, .base (.str _), fact, fin⟩
      | tup ds =>
        cases hd
        obtain ⟨a, vs, rfl, h1, h2, h3⟩ := r1
        refine .inl ⟨_, _, _, u, b, rfl, hu, ?_, fact, fin⟩
        rcases h1 with (h | ⟨o, h⟩) | h
        · exact .base (.tup h)
        · exact .fTuple h
        · obtain ⟨o, its, n, k1, k2, _⟩ := h
          exact .kTuple k1 k2
      | lst ds =>
        cases hd
        obtain ⟨a, vs, rfl, h1, h2, h3⟩ := r1
        exact .inl ⟨_, _, _, u, b, rfl, hu, .base (.lst h1), fact, fin⟩
      | obj c ns ds =>
        cases hd
        obtain ⟨a, dx, fvs, rfl, h1, h2, h3⟩ := r1
        obtain ⟨f1, f2⟩ := fact
        exact .inl ⟨_, _, _, u, b, rfl, hu, .base (.ins h1 f1.cl f1.ha f1.hn f1.ht f1.hm), f2, fin⟩
      | exc c ns ds =>
        cases hd
        obtain ⟨a, dd, hp, rfl, h1⟩ := r1
        refine .inr ⟨a, dd, c, cl, u, b, hp, ?_, rfl, hu, fact, fin⟩
        rcases h1 with ⟨_, h1⟩ | ⟨dx, fvs, e2, h2, _⟩
        · exact .inl h1
        · exact .inr ⟨dx, _, e2, h2⟩
      | dct ks ds => cases hd
      | scr ns => cases hd
theorem ty_blt {T : Str} {n : String} {q : Pos} (hg : Gl X T) (hm : X.mg T = none) (hv : bootBuiltins T = some (.type n)) (hn : T ≠ "__name__" := by decide) (hd : (T == ("__debug__" : Str)) = false := by decide) : PE X (.Name T q) (tC (.ty n)) := pe_bltn hg hm hv rfl hn hd
theorem ty_own {T : Str} {q : Pos} (hg : Gl X T) (hm : X.mg T = some (.ref (He.ga X.K T))) (hd : (T == ("__debug__" : Str)) = false := by decide) : PE X (.Name T q) (tC (.ref (He.ga X.K T))) := pe_glob hg hm rfl hd
/-- isinstance(a, T), T built-in -/
theorem e_isB {a : Expr} {T : Str} {n : String} {p q : Pos} {tbl : Tbl} {m : EM} (hI : IsiR X px) (hg : Gl X "isinstance") (hm : X.mg "isinstance" = none) (hgT : Gl X T) (hmT : X.mg T = none) (hv : bootBuiltins T = some (.type n)) (ht : TblOk X.K (.type n) tbl) (ha : DE X px W a m) (hn : T ≠ "__name__" := by decide) (hd : (T == ("__debug__" : Str)) = false := by decide)
    (he : starEach [a, .Name T q] X.env = (false, eval a X.env) :: starEach [.Name T q] X.env := by rfl) (he2 : starEach [.Name T q] X.env = [(false, eval (.Name T q) X.env)] := by rfl) (hpl : (backTo pos (starEach [.Name T q] X.env)).any (·.1) = false := by rfl) :
    DE X px W (.Call (.Name "isinstance" p) [a, .Name T q] [] pos) (m1 (dIsi tbl) m) := e_isi hI hg hm ha (ty_blt hgT hmT hv hn hd) (.ty n) ht he he2 hpl
/-- isinstance(a, T), T a class of one's own -/
theorem e_isO {a : Expr} {T : Str} {p q : Pos} {tbl : Tbl} {m : EM} (hI : IsiR X px) (hg : Gl X "isinstance") (hm : X.mg "isinstance" = none) (hgT : Gl X T) (hmT : X.mg T = some (.ref (He.ga X.K T))) (ht : TblOk X.K (.ref (He.ga X.K T)) tbl) (ha : DE X px W a m) (hd : (T == ("__debug__" : Str)) = false := by decide)
    (he : starEach [a, .Name T q] X.env = (false, eval a X.env) :: starEach [.Name T q] X.env := by rfl) (he2 : starEach [.Name T q] X.env = [(false, eval (.Name T q) X.env)] := by rfl) (hpl : (backTo pos (starEach [.Name T q] X.env)).any (·.1) = false := by rfl) :
    DE X px W (.Call (.Name "isinstance" p) [a, .Name T q] [] pos) (m1 (dIsi tbl) m) := e_isi hI hg hm ha (ty_own hgT hmT hd) (.own _) ht he he2 hpl
end
end DL

end
section
set_option Elab.async false
set_option linter.all false
set_option maxRecDepth 100000
namespace DL
open PySem PySem.Spec L2
open PyProof.Rows hiding St

/-! ### exception classes of one field: super().__init__(text); self.f = x -/
/-- what is read of such a class, of its __init__ -/
structure Ex1 (P : Program) (K : PySem.W.Frag) (c f : Str) (name qual : Str) (params : Arguments) (body : List Stmt) (scope : Scope) : Prop where
  T : OexC K (He.ga K c)
  iC : PySem.W.findIn K (.ref (He.ga K c)) "__init__" = some (some (.ref (He.ma K (He.ga K c) "__init__")))
  tI : PySem.W.typeIn K (.ref (He.ma K (He.ga K c) "__init__")) = some (.type "function")
  fn : ∃ (oc : Value) (od : Option Addr) (kV doc pm : Value) (an : Option Addr) (cda : Addr) (ct : Value) (osl : Array (Option Value)) (cc : Addr),
    K.lookup (He.ma K (He.ga K c) "__init__") = some ⟨oc, od, .func (PySem.W.fnX name qual params body scope [("__class__", cc)] .none kV doc pm an (.ref cda) ct), osl⟩ ∧ PySem.W.codeIn K (.ref cda) qual = true ∧
    (∃ ccl cdd vs ccs file tf, K.lookup cda = some ⟨ccl, cdd, .fields vs, ccs⟩ ∧ vs[2]? = some (.str file tf) ∧ ((P.main.file : Str) == file) = true) ∧
    ∃ cl cld csl, K.lookup cc = some ⟨cl, cld, .cell (some (.ref (He.ga K c))), csl⟩
  sup : PySem.W.ks_superIn K (He.ga K c) (He.ga K c) "__init__" = some (some (.builtin "ValueError.__init__"))
  ve : PySem.W.subIn K (.ref (He.ga K c)) (.type "ValueError") = some true
  mr : PySem.W.mroIn K (He.ga K c) (.ref (He.ga K c)) = some true
  tp : PySem.W.nsIn K cStatics "thirdparty.any" = some none
  no : PySem.W.findIn K (.ref (He.ga K c)) f = some none
/-- a method-wrapper ValueError.__init__ of the exception at a that is being made -/
theorem mwcall_ok {X : Cx} {pins : List (Addr × Obj)} {σ : St} {H : Hp} {s : Shared} {a u C : Addr} {us : List Value} {Q : Value → Shared → Prop} {E : Value → Shared → Prop} {A : Around} (T : OexC X.K C) (I : Inv X pins σ H s) (e : H a = some (exo a C none)) (hu : s.heap.get? u = some (PySem.W.kxs_mw "ValueError.__init__" a)) (hl : us.length ≤ sizeLine)
    (h : ∀ s', Inv X pins σ H s' → Q .none s') : wpAny (model X.prog X.w) A (call (.ref u) us) Q E s := by
  obtain ⟨nm, q, N, bs, bm, sn, sub, ab, col, dd, k0, k1, k2, k3, k5, hC, hbm⟩ := T.cls
  obtain ⟨t1, ho⟩ := exo_at I.hok e
  have hCs := I.kIn _ _ hC
  obtain ⟨hp, g, d, t, os⟩ := s
  refine wpAny_call (codeAny_of_tree ?_)
  show wpAny _ A.in1 (callAny (.ref u) ⟨us, []⟩) _ _ _
  simp only [callAny]
  refine wpAny_bind (wpAny_load hu ?_)
  have isw : (Value.type "method-wrapper" == Value.type "method" || Value.type "method-wrapper" == Value.type "builtin_function_or_method" || Value.type "method-wrapper" == Value.type "method-wrapper") = true := by decide
  simp only [PySem.W.kxs_mw, isw, if_true]
  refine PySem.W.KFB.if_so (by decide) ?_
  have CF : PySem.ExcCallFacts "ValueError" "ValueError.__new__" "ValueError.__init__" := PySem.F.excBase_ValueError.toExcCallFacts
  refine wpAny_bind (PySem.W.check_bound_init CF hCs ho rfl ?_)
  refine wpAny_bind (wpAny_pure (wpAny_pure ?_))
  refine ⟨plainId_quiet PySem.F.excBase_ValueError.init.plain _, codeAny_builtin PySem.F.excBase_ValueError.initEntry ?_⟩
  refine PySem.W.exc_init_tree (cls := .ref C) (t0 := t1) (dv := none) (c2 := .none) (c3 := .none) (b4 := .bool false) ho hl fun h' k e' t' => ?_
  have J := I.write (t' := t) (x := a) (e := a) (o := exo a C none) (by rw [e]; exact True.intro) (.inl rfl) k ⟨_, e'⟩ (exo_ok e')
  have eu : upd H a (exo a C none) = H := by
    funext b
    by_cases hb : b = a
    · rw [hb, upd_same, e]
    · rw [upd_ne hb]
  rw [eu] at J
  exact h _ J
section
variable {X : Cx} {σ : St} {H : Hp} {s : Shared} {body : List Stmt} {c f name qual self txt : Str} {params : Arguments} {scope : Scope} {bd : List Stmt} {a cda cc : Addr} {j} {pl : Sem Bool} {p0 p1 p2 p3 p4 p5 : Pos} {ar : Arg}
/-- super().__init__(text), the first statement of an exception's __init__ -/
theorem super_stmt (Z : Ex1 X.prog X.K c f name qual params bd scope) {oc ct dV kV doc pm : Value} {od an : Option Addr} {osl : Array (Option Value)}
    (hfn : X.K.lookup (He.ma X.K (He.ga X.K c) "__init__") = some ⟨oc, od, .func (PySem.W.fnX name qual params bd scope [("__class__", cc)] dV kV doc pm an (.ref cda) ct), osl⟩)
    (hcode : ∃ ccl cdd vs ccs file tf, X.K.lookup cda = some ⟨ccl, cdd, .fields vs, ccs⟩ ∧ vs[2]? = some (.str file tf) ∧ ((X.prog.main.file : Str) == file) = true) (hcel : ∃ cl cld csl, X.K.lookup cc = some ⟨cl, cld, .cell (some (.ref (He.ga X.K c))), csl⟩)
    (e1 : X.env.func = some (He.ma X.K (He.ga X.K c) "__init__")) (e2 : X.env.code = .ref cda) (e3 : X.env.cells.lookup ("__class__" : Str) = some cc)
    (k1 : X.env.kindOf "super" = some .globalImplicit) (k2 : X.env.kindOf "__class__" = some .free) (k3 : X.env.kindOf self = some .local) (hp : (params.posonlyargs ++ params.args).head? = some ar) (har : ar.arg = self) (hN : X.N[0]? = some self) (hm : X.mg "super" = none)
    (htop : (X.prog.main.scope.names.lookup ("super" : Str)).isSome = false)
    (I : Inv X [] σ H s) (hσ : σ[0]? = some (some (.ref a))) (hH : H a = some (exo a (He.ga X.K c) none))
    (hs : swapsWith (.Call (.Attribute (.Call (.Name "super" p0) [] [] p1) "__init__" p2) [.Constant (.str txt) j p3] [] p4) none p5.line X.env = pure false := by rfl)
    (hev : eval (.Call (.Attribute (.Call (.Name "super" p0) [] [] p1) "__init__" p2) [.Constant (.str txt) j p3] [] p4) X.env = (do
      let ov ← attributeBase (.Call (.Name "super" p0) [] [] p1) "__init__" X.env (eval (.Call (.Name "super" p0) [] [] p1) X.env)
      standAt p2.atName
      let (f, first) ← holding [ov] (getMethod ov "__init__" pl)
      callWith p4 f first (backTo p4 (starEach [.Constant (.str txt) j p3] X.env)) []) := by rfl) :
    PySem.wpAt (model X.prog X.w) X.A (.func body X.env) (exec (.Expr (.Call (.Attribute (.Call (.Name "super" p0) [] [] p1) "__init__" p2) [.Constant (.str txt) j p3] [] p4) p5) X.env) (fun fl s' => fl = .next ∧ Inv X [] σ H s') X.xe s := by
  obtain ⟨ccl, cdd, vs, ccs, file, tf, hcda, hvs, hfile⟩ := hcode
  obtain ⟨cl, cld, csl, hcell⟩ := hcel
  obtain ⟨nm, q, N, bs, bm, sn, sub, ab, col, dd, c0, c1, c2, c3, c5, hC, hbm⟩ := Z.T.cls
  have T := Z.T
  -- the classes
  have hcl : PySem.W.clsIn X.K (He.ga X.K c) = some { name := nm, bases := bs, mro := .ref (He.ga X.K c) :: bm, ns := N, qualname := q, hasDict := true, slotNames := sn, subclasses := sub, abstract := ab, collection := col, hasDel := false } := by
    unfold PySem.W.clsIn
    rw [hC] <;> rfl
  have KX := I.kIn
  obtain ⟨t1, ho⟩ := exo_at I.hok hH
  obtain ⟨hC1, hC2⟩ : (∃ oD, s.heap.get? (He.ga X.K c) = some oD ∧ oD.data = .cls { name := nm, bases := bs, mro := .ref (He.ga X.K c) :: bm, ns := N, qualname := q, hasDict := true, slotNames := sn, subclasses := sub, abstract := ab, collection := col, hasDel := false }) ∧ True := ⟨⟨_, KX _ _ hC, rfl⟩, trivial⟩
  obtain ⟨oD, hD1, hD2⟩ := hC1
  refine PySem.ks_wpAt_Expr_any ?_ I.quiet hs
  refine PySem.ks_wpAt_MethodCall (pl := pl) ?_ hev
  refine PySem.ks_wpAt_super_base (env := X.env) k1 k2 (by decide) e1 (KX _ _ hfn) rfl hp e2 (KX _ _ hcda) rfl hvs hfile htop ?_
  obtain ⟨mb, hb1, hb2⟩ := I.mod.blt
  refine PySem.W.ks_loadName_global I.ok.kind k1 (Calls.loadGlobal_builtin (by rw [I.ok.glob]; exact I.mod.glob.keeps I.bk) hm (by rw [I.ok.blt]; exact hb1.keeps I.bk) ((hb2 "super" (by decide)).trans (show bootBuiltins "super" = some (.type "super") by decide +kernel)) ⟨rfl, ?_⟩)
  refine wpAny_loadName_free I.ok.kind k2 e3 ⟨_, KX _ _ hcell, rfl⟩ ?_
  obtain ⟨m, hns, hlo⟩ := I.loc
  obtain ⟨uv, ruv, look⟩ := hlo 0 self (.ref a) hN hσ (.inl k3)
  obtain rfl : uv = Value.ref a := ruv
  have hself : m self = some (.ref a) := by
    rcases look with ⟨_, z⟩ | ⟨z, _⟩
    · exact z
    · rcases z with z | z <;> (rw [k3] at z; cases z)
  rw [har]
  refine wpAny_loadName_local I.ok.kind k3 hns hself ?_
  refine PySem.ks_wpAny_isType_cls hD1 hD2 ⟨rfl, ?_⟩
  obtain ⟨hp0, g, d, tk, os⟩ := s
  refine PySem.ks_wpAny_call_super hD1 hD2 ho rfl (fun c e => by cases e) (PySem.W.looks_mroIn KX Z.mr) fun h1 hso k => ?_
  have I1 : Inv X [] σ H ⟨h1, g, d, tk, os⟩ := I.kept (t' := tk) k
  have KX1 := I1.kIn
  obtain ⟨t2, ho1⟩ := exo_at I1.hok hH
  have Ix : PySem.W.InstAt h1 a { cls := .ref (He.ga X.K c), dict := none, data := .fields #[.ref t2, .none, .none, .none, .bool false, .none] } (He.ga X.K c) none := ⟨ho1, rfl, rfl, trivial⟩
  have hsup := Z.sup
  unfold PySem.W.ks_superIn at hsup
  rw [hcl] at hsup
  have hmr : PySem.W.Looks (model X.prog X.w) h1 (mroOf (.ref (He.ga X.K c))) (.ref (He.ga X.K c) :: bm) := (PySem.W.looks_clsIn KX1 hcl).andThen .now
  refine PySem.W.kxs_getMethod PySem.W.kxs_ValueError hso (PySem.W.looks_opaque KX1 Z.tp) hmr rfl KX1 hsup (Ix.type.andThen (PySem.W.looks_subIn KX1 Z.ve)) (PySem.W.ks_ne KX1 Ix hcl) (by decide) ?_
  -- the method-wrapper lies at the end
  have kk : ∀ b o, h1.get? b = some o → (h1.push (PySem.W.kxs_mw "ValueError.__init__" a)).get? b = some o := fun b o e => Heap.get?_push_of_some _ e
  have I2 : Inv X [] σ H ⟨h1.push (PySem.W.kxs_mw "ValueError.__init__" a), g, d, tk + 1, os⟩ := I1.kept (t' := tk + 1) kk
  have hmw : (h1.push (PySem.W.kxs_mw "ValueError.__init__" a)).get? h1.objs.size = some (PySem.W.kxs_mw "ValueError.__init__" a) := Heap.get?_push_at rfl rfl
  have I3 : Inv X [(h1.objs.size, PySem.W.kxs_mw "ValueError.__init__" a)] σ H ⟨h1.push (PySem.W.kxs_mw "ValueError.__init__" a), g, d, tk + 1, os⟩ := by
    refine I2.pins_of fun p hp => ?_
    have ep : p = (h1.objs.size, PySem.W.kxs_mw "ValueError.__init__" a) := by simpa using hp
    subst ep
    refine ⟨hmw, I1.hok.fresh (Nat.le_refl _), fun z => ?_, I1.nofs (Nat.le_refl _), fun v z => by cases z⟩
    have := I1.lt
    rw [← z] at this
    exact absurd this (Nat.lt_irrefl _)
  refine PySem.W.kxs_callWith (i := "ValueError.__init__") (x := a) (by rfl) (Calls.evalArgs_plain ?_)
  have ha := (pa_cons (X := X) (e := .Constant (.str txt) j p3) pe_str pa_nil).run p4 _ _ σ H (fun vs H1 => vs = [.str txt] ∧ H1 = H) I3 ⟨rfl, rfl⟩
  refine thn ha fun us s1 hus => ?_
  obtain ⟨vs1, H1, I4, rv, ev, eH⟩ := hus
  subst ev
  subst eH
  have hu := (I4.pin (h1.objs.size, PySem.W.kxs_mw "ValueError.__init__" a) (List.mem_append_right _ (List.mem_singleton.mpr rfl))).1
  refine ⟨hu, ?_⟩
  show wpAny _ _ (call (.ref h1.objs.size) us) _ _ _
  have I5 : Inv X [] σ H1 s1 := I4.pins_of fun p hp => by cases hp
  exact mwcall_ok T I5 hH hu (by
    have z := rv.length
    rw [← z, sizeLine_eq]
    show 1 ≤ 16777216
    omega) fun s' J => ⟨rfl, J⟩
end
/-- what such an __init__ does -/
def spEx (C : Addr) (f : Str) : Sp := fun vs H Q _ => ∃ a y, vs = [.ref a, y] ∧ H a = some (exo a C none) ∧ ∀ dx, H dx = none → dx ≠ a → Q .non (upd (upd H dx (exd dx [(f, y)])) a (exo a C (some dx)))
section
variable {P : Program} {w : World} {K : PySem.W.Frag} {mg : Str → Option Value} {base : Heap} {CT : CXT} {c f name qual self x txt : Str} {params : Arguments} {scope : Scope} {k : Nat} {j} {pl : Sem Bool} {p0 p1 p2 p3 p4 p5 p6 p7 p8 p9 : Pos} {ar : Arg}
abbrev exBody (self x f txt : Str) (j : Nat) (p0 p1 p2 p3 p4 p5 p6 p7 p8 p9 : Pos) : List Stmt := [.Expr (.Call (.Attribute (.Call (.Name "super" p0) [] [] p1) "__init__" p2) [.Constant (.str txt) j p3] [] p4) p5, .Assign [.Attribute (.Name self p6) f p7] (.Name x p8) p9]
theorem exinit_ok (Z : Ex1 P K c f name qual params (exBody self x f txt j p0 p1 p2 p3 p4 p5 p6 p7 p8 p9) scope) (S : NdefX.NScope [self, x, "__class__"] [self, x] ["__class__"] scope) (hks : scope.names.lookup ("super" : Str) = some .globalImplicit)
    (hp : (params.posonlyargs ++ params.args).head? = some ar) (har : ar.arg = self) (hm : mg "super" = none) (htop : (P.main.scope.names.lookup ("super" : Str)).isSome = false) (hne : self ≠ x)
    (hdb : (self == ("__debug__" : Str)) = false) (hdb2 : (x == ("__debug__" : Str)) = false) (hcd : (self == ("__classdict__" : Str)) = false) (hcd2 : (x == ("__classdict__" : Str)) = false)
    (hb : ∀ (kV doc pm : Value) (an : Option Addr) (cdv ct : Value) (cc : Addr) (us : List Value), us.length = 2 → bindArgs (PySem.W.fnX name qual params (exBody self x f txt j p0 p1 p2 p3 p4 p5 p6 p7 p8 p9) scope [("__class__", cc)] .none kV doc pm an cdv ct) ⟨us, []⟩ = pure (([self, x] : List Str).zip us))
    (hev : ∀ env : Env, eval (.Call (.Attribute (.Call (.Name "super" p0) [] [] p1) "__init__" p2) [.Constant (.str txt) j p3] [] p4) env = (do
      let ov ← attributeBase (.Call (.Name "super" p0) [] [] p1) "__init__" env (eval (.Call (.Name "super" p0) [] [] p1) env)
      standAt p2.atName
      let (f, first) ← holding [ov] (getMethod ov "__init__" pl)
      callWith p4 f first (backTo p4 (starEach [.Constant (.str txt) j p3] env)) [])) :
    ∃ fd, FnOk P w K mg base CT (k + 1) (He.ma K (He.ga K c) "__init__") fd [self, x] (spEx (He.ga K c) f) ∧ Binds K fd [self, x] [] := by
  obtain ⟨oc, od, kV, doc, pm, an, cda, ct, osl, cc, hfn, hcd0, hcode, hcel⟩ := Z.fn
  obtain ⟨cl, cld, csl, hcell⟩ := hcel
  refine ⟨_, ⟨fun vs H Q E h => ?_, fun A outer s H args us vs Q E hr e0 hbi r hsp => ?_⟩, Binds.all fun us hl => hb kV doc pm an (.ref cda) ct cc us hl⟩
  · obtain ⟨a, y, rfl, _⟩ := h
    rfl
  have KX : K.In s.heap := e0.mod.kin.keeps fun b o e => (e0.bs b o e).1
  have lim : s.heap.NoLimit := e0.mod.nolimit.keeps fun b o e => (e0.bs b o e).1
  obtain ⟨a, y, rfl, hH, q⟩ := hsp
  refine PySem.ks_codeAny_call_defAt hr.depth (KX _ _ hfn) rfl lim (PySem.W.codeRec_of KX hcd0) rfl hbi S.nocell (fun p hp => S.par p.1 (List.of_mem_zip hp).1) (fun h₁ hns kp => ?_) S.co S.gen S.kind
  let F : NdefX.NF := ⟨name, qual, params, exBody self x f txt j p0 p1 p2 p3 p4 p5 p6 p7 p8 p9, scope, [("__class__", cc)], cda⟩
  have CA : NdefX.CellsAt F.cl ["__class__"] [none] s.heap H := {
    len := rfl
    all := fun y d e => by
      have ed : d = cc := by
        have e : (match y == ("__class__" : Str) with | true => some cc | false => none) = some d := e
        split at e
        · exact (Option.some.inj e).symm
        · cases e
      rw [ed]
      obtain ⟨h1, h2⟩ := e0.bs cc _ (e0.mod.kin _ _ hcell)
      exact ⟨h2, _, ⟨_, h1, rfl⟩⟩
    inj := fun y z d e1 e2 => by
      have key : ∀ {y : Str}, F.cl.lookup y = some d → y = "__class__" := fun {y} e => by
        have e : (match y == ("__class__" : Str) with | true => some cc | false => none) = some d := e
        split at e
        · rename_i h
          exact eq_of_beq h
        · cases e
      rw [key e1, key e2]
    has := fun i y h => by
      cases i with
      | zero =>
        have h : some ("__class__" : Str) = some y := h
        cases h
        exact ⟨cc, rfl, fun v z => by cases z⟩
      | succ i => cases h }
  have I : Inv (NdefX.ncx CT P w K mg base [self, x, "__class__"] F (He.ma K (He.ga K c) "__init__") A outer s H E) [] (NdefX.startF [self, x, "__class__"] [.ref a, y] [none]) H { s with heap := h₁, toks := s.toks + (([self, x] : List Str).zip us).length } :=
    NdefX.inv_startN S hr.hd e0 rfl r CA hns kp
  have hst : NdefX.startF [self, x, "__class__"] [.ref a, y] [none] = [some (.ref a), some y, none] := rfl
  rw [hst] at I
  have kself : scope.names.lookup self = some .local := S.par self (by simp)
  have kx : scope.names.lookup x = some .local := S.par x (by simp)
  refine PySem.ks_wpAt_execs_cons (PySem.ks_wpAt_mono (super_stmt (X := NdefX.ncx CT P w K mg base [self, x, "__class__"] F (He.ma K (He.ga K c) "__init__") A outer s H E) (σ := [some (.ref a), some y, none]) (a := a) Z hfn hcode ⟨cl, cld, csl, hcell⟩ rfl rfl rfl hks (S.frk "__class__" (by simp)) kself hp har rfl hm htop I rfl hH rfl (hev _)) (fun fl s1 hfl => ?_) fun e s1 he => he)
  obtain ⟨rfl, I1⟩ := hfl
  refine PySem.wpAt_of_wpAny ?_
  have st2 := pss_one (ps_ost (X := NdefX.ncx CT P w K mg base [self, x, "__class__"] F (He.ma K (He.ga K c) "__init__") A outer s H E) (f := f) (p' := p7) (pos := p9) (pe_var (i := 0) (x := self) (pos := p6) rfl (.inl kself) hdb hcd) (pe_var (i := 1) (x := x) (pos := p8) rfl (.inl kx) hdb2 hcd2))
  refine wpAny_mono (st2.run [] s1 [some (.ref a), some y, none] H { nx := fun _ H' => Q .non H', rt := Q } I1 ⟨y, rfl, .ref a, rfl, a, _, rfl, Z.T, Z.no, .inl ⟨hH, q⟩⟩) (fun fl s' hs => ?_) fun e s' hs => hs
  have fin : ∀ {σ' : L2.St} {H' : Hp} {v : V} {u : Value}, Inv (NdefX.ncx CT P w K mg base [self, x, "__class__"] F (He.ma K (He.ga K c) "__init__") A outer s H E) [] σ' H' s' → RelV v u → Q v H' → CE outer P w H s Q u s' :=
    fun {σ' H' v u} J rv q => ⟨v, H', J.os, J.bare, J.base, J.hok, rv, q⟩
  cases fl with
  | ret u =>
    obtain ⟨v, σ', H', J, rv, q⟩ := hs
    exact fin J rv q
  | next =>
    obtain ⟨σ', H', J, q⟩ := hs
    exact fin (v := V.non) (u := Value.none) J rfl q
  | brk =>
    obtain ⟨_, _, _, q⟩ := hs
    exact False.elim q
  | cont =>
    obtain ⟨_, _, _, q⟩ := hs
    exact False.elim q
end
end DL

end
section
set_option Elab.async false
set_option linter.all false
set_option maxRecDepth 100000
namespace DL
open PySem PySem.Spec L2
open PyProof.Rows hiding St

section
variable {X : Cx} {W : WX} {c f x : Str} {e : Expr} {te : TE} {k : Nat} {p p' pos : Pos}
/-- an exception class with one field -/
structure XcP (P : Program) (w : World) (K : PySem.W.Frag) (mg : Str → Option Value) (base : Heap) (k : Nat) (c f : Str) : Prop where
  T : OexC K (He.ga K c)
  iC : PySem.W.findIn K (.ref (He.ga K c)) "__init__" = some (some (.ref (He.ma K (He.ga K c) "__init__")))
  tI : PySem.W.typeIn K (.ref (He.ma K (He.ga K c) "__init__")) = some (.type "function")
  ok : ∃ fd ps, FnOk P w K mg base (L2N.CX P w) k (He.ma K (He.ga K c) "__init__") fd ps (spEx (He.ga K c) f) ∧ Binds K fd ps []
abbrev XcX (X : Cx) (k : Nat) (c f : Str) : Prop := XcP X.prog X.w X.K X.mg X.base k c f
/-- c(e), as raise has it -/
theorem pmk1 (Z : XcX X k c f) (hr : Room (k + 1) X.A) (hg : Gl X c) (hm : X.mg c = some (.ref (He.ga X.K c))) (ha : PE X e te)
    (hdb : (c == ("__debug__" : Str)) = false := by decide) (he : starEach [e] X.env = [(false, eval e X.env)] := by rfl) (hpl : (backTo pos (starEach [] X.env)).any (·.1) = false := by rfl) :
    L2N.PMk X (.Call (.Name c p) [e] [] pos) (fun σ H Q => te σ H fun y H1 => ∀ d G, Same H1 G → H1 d = none → G d = some (.xd [(f, y)]) → Q (.ref (He.ga X.K c)) (some d) G) := by
  intro pins s σ H Q I h
  obtain ⟨T, iC, tI, fd, ps, F1, hb⟩ := Z
  obtain ⟨nm, q, N, bs, bm, sn, sub, ab, col, dd, k0, k1, k2, k3, k5, hC, hbm⟩ := T.cls
  refine wpAny_Call_Name_kw (ld_glob I hg hm ?_ hdb)
  let R : List V → Hp → Prop := fun vs H1 => match vs with
    | [y] => ∀ d G, Same H1 G → H1 d = none → G d = some (.xd [(f, y)]) → Q (.ref (He.ga X.K c)) (some d) G
    | _ => False
  have h2 : tCons te tNil σ H R := h
  refine PySem.W.callWith_K (h₀ := X.base) I.ok.mod.kin T.kC (thn ((pa_cons ha pa_nil he).run pos pins s σ H R I h2) fun us s1 hus => ?_) he hpl
  obtain ⟨vs, H1, I1, r1, w1⟩ := hus
  refine ⟨I1.kIn, ?_⟩
  obtain ⟨y, rfl, want⟩ : ∃ y, vs = [y] ∧ ∀ d G, Same H1 G → H1 d = none → G d = some (.xd [(f, y)]) → Q (.ref (He.ga X.K c)) (some d) G := by
    cases vs with
    | nil => exact w1.elim
    | cons y r =>
      cases r with
      | nil => exact ⟨y, rfl, w1⟩
      | cons _ _ => exact w1.elim
  show wpAny _ _ (call (.ref (He.ga X.K c)) us) _ _ _
  obtain ⟨hp, g, dr, tk, os⟩ := s1
  have hsz : hp.objs.size ≤ hp.objs.size + 1 := Nat.le_succ _
  have hn : H1 (hp.objs.size + 1) = none := I1.hok.fresh hsz
  have grow : ∀ b o, hp.get? b = some o → ((hp.push (PySem.W.kdv_tup us)).push (PySem.HandSPX.excO (He.ga X.K c) hp.objs.size)).get? b = some o := fun b o e => Heap.get?_push_of_some _ (Heap.get?_push_of_some _ e)
  have atE : ((hp.push (PySem.W.kdv_tup us)).push (PySem.HandSPX.excO (He.ga X.K c) hp.objs.size)).get? (hp.objs.size + 1) = some (PySem.HandSPX.excO (He.ga X.K c) hp.objs.size) := by heap_get
  have J : Inv X pins σ (upd H1 (hp.objs.size + 1) (exo (hp.objs.size + 1) (He.ga X.K c) none)) ⟨(hp.push (PySem.W.kdv_tup us)).push (PySem.HandSPX.excO (He.ga X.K c) hp.objs.size), g, dr, tk, os⟩ :=
    I1.laid (t' := tk) (a := hp.objs.size + 1) (o := exo (hp.objs.size + 1) (He.ga X.K c) none) (h' := (hp.push (PySem.W.kdv_tup us)).push (PySem.HandSPX.excO (He.ga X.K c) hp.objs.size)) grow hsz (exo_ok atE)
  generalize hea : hp.objs.size + 1 = ea at hn J
  have rr : Vals [V.ref ea, y] (Value.ref ea :: us) := .cons rfl r1
  let HE := upd H1 ea (exo ea (He.ga X.K c) none)
  have spq : spEx (He.ga X.K c) f [V.ref ea, y] HE (fun v H2 => v = .non ∧ ∃ d, d ≠ ea ∧ HE d = none ∧ H2 = upd (upd HE d (exd d [(f, y)])) ea (exo ea (He.ga X.K c) (some d))) (fun _ _ _ => False) :=
    ⟨ea, y, rfl, upd_same, fun d hd ne => ⟨rfl, d, ne, hd, rfl⟩⟩
  have len : (Value.ref ea :: us).length = ps.length := by
    have z := rr.length
    rw [F1.len _ _ _ _ spq] at z
    exact z.symm
  have b2 := hb _ (Value.ref ea :: us) J.kIn (by rw [List.append_nil]; exact len)
  rw [List.append_nil] at b2
  have lus : us.length ≤ sizeLine := by
    have z := r1.length
    rw [← z, sizeLine_eq]
    show 1 ≤ 16777216
    omega
  subst hea
  refine wpAny_call (PySem.HandSPX.call_own PySem.F.excBase_ValueError (fun Y => PySem.HandSPX.refsVE_contains Y bm hbm) (I1.kIn _ _ hC) (PySem.W.looks_findIn I1.kIn iC) (fun self => PySem.W.bind_fn I1.kIn self tI) lus
    (codeAny_mono (F1.run _ X.stack _ _ ⟨Value.ref (hp.objs.size + 1) :: us, []⟩ (Value.ref (hp.objs.size + 1) :: us) _ _ (fun _ _ _ => False) (hr.make (He.ga X.K c) us []) (J.env0.make (He.ga X.K c) us []) b2 rr spq) fun res s2 after => ?_))
  cases res with
  | error er => exact passN pins σ _ _ er s2 J after
  | ok flow =>
    cases flow with
    | ret u =>
      obtain ⟨v, H2, os2, bare2, un2, hok2, rv, ev, d, ne, hd, eH⟩ := after
      subst ev
      obtain ⟨h2, g2, d2, t2, os'⟩ := s2
      have hd1 : H1 d = none := by
        have z : (if d = hp.objs.size + 1 then some (exo (hp.objs.size + 1) (He.ga X.K c) none) else H1 d) = none := hd
        rw [if_neg ne] at z
        exact z
      have ea2 : H2 (hp.objs.size + 1) = some (exo (hp.objs.size + 1) (He.ga X.K c) (some d)) := by rw [eH, upd_same]
      have ed2 : H2 d = some (exd d [(f, y)]) := by rw [eH, upd_ne ne, upd_same]
      obtain ⟨t0, G, JG, kG, ge, hoe, na⟩ := mk_end0 (d2 := d2) (t2 := t2) I1 hsz grow un2 hok2 os2 bare2 ea2 ed2 hd1
      refine ⟨rv, hp.objs.size + 1, _, _, ⟨G, g2, d2, t2, os'⟩, _, .ref (He.ga X.K c), some d, rfl, JG, kG, ge, hoe, ⟨rfl, rfl, fun vs e => by cases e; rfl⟩, rfl, rfl, na, rfl, bare2, raises_own T.exC T.tyC, want d _ (fun b o hb => ?_) hd1 upd_same⟩
      have n1 : b ≠ hp.objs.size + 1 := fun z => by rw [z, hn] at hb; cases hb
      have n2 : b ≠ d := fun z => by rw [z, hd1] at hb; cases hb
      rw [upd_ne n2, del_ne n1, eH, upd_ne n1, upd_ne n2]
      show (if b = hp.objs.size + 1 then _ else H1 b) = some o
      rw [if_neg n1]
      exact hb
    | next => exact after.elim
    | brk => exact after.elim
    | cont => exact after.elim
/-- raise c(a) -/
def sRz1 (c f : Str) (m : SEM) : SM := fun e => (m e).on e fun d => .er c [f] [d] e
theorem s_raise1 {a : Expr} {m : SEM} (Z : XcX X k c f) (hr : Room (k + 1) X.A) (tk : L2N.Takes X W) (hc : X.calm = true) (hg : Gl X c) (hm : X.mg c = some (.ref (He.ga X.K c))) (ha : DX X none W a m)
    (hdb : (c == ("__debug__" : Str)) = false := by decide) (he : starEach [a] X.env = [(false, eval a X.env)] := by rfl) (hpl : (backTo pos (starEach [] X.env)).any (·.1) = false := by rfl) :
    DS X none W (.Raise (some (.Call (.Name c p) [a] [] pos)) none p') (sRz1 c f m) := by
  refine PS.imp (L2N.ps_raise hc tk (pmk1 Z hr hg hm ha hdb he hpl)) fun D σ H ⟨S0, H0, O, e, r, q⟩ => ⟨S0, H0, O, e, r, (onX q).imp fun v H1 ⟨d, _, _, r1, rv, q⟩ dx G sG hd hG => ?_⟩
  exact q O (some dx) σ G (r1.mono sG) (.inr ⟨dx, [v], rfl, hG, rfl, Reps.one (rv.mono sG fun _ z => z)⟩)
/-- raise c(text), a class that defines nothing -/
def sRz0 (c : Str) : SM := fun e => .er c [] [] e
/-- such a class -/
structure Xc0 (K : PySem.W.Frag) (c : Str) : Prop where
  ex : PySem.W.excIn K (He.ga K c) He.veBase "ValueError.__new__" = true
  kp : PySem.W.keepIn K (.ref (He.ga K c)) = true
  exC : PySem.W.subIn K (.ref (He.ga K c)) (.type "BaseException") = some true
  tyC : PySem.W.typeIn K (.ref (He.ga K c)) = some (.type "type")
theorem s_raise0 {txt : Str} {j : Nat} {p2 : Pos} (Z : Xc0 X.K c) (tk : L2N.Takes X W) (hc : X.calm = true) (hg : Gl X c) (hm : X.mg c = some (.ref (He.ga X.K c))) (hdb : (c == ("__debug__" : Str)) = false := by decide) :
    DS X none W (.Raise (some (.Call (.Name c p) [.Constant (.str txt) j p2] [] pos)) none p') (sRz0 c) := by
  refine PS.imp (L2N.ps_raise hc tk (L2N.pmk_own PySem.F.excBase_ValueError Z.ex hm Z.kp (raises_own Z.exC Z.tyC) hg hdb)) fun D σ H ⟨S0, H0, O, e, r, q⟩ => ?_
  exact q O none σ H r (.inl ⟨rfl, rfl⟩)
end
end DL

end
section
set_option Elab.async false
set_option linter.all false
set_option maxRecDepth 100000
/-! ### within an except suite: lists walked, comprehensions -/
namespace HotL
open PySem PySem.Spec PyProof.Rows HotX PySem.F
open Sem (wp)
variable {prog : Program} {w : World} {A : Around} {E : Value → Shared → Prop} {s : Shared}
theorem list_end_hot {it x1 l : Addr} {i : Nat} {items : Array Value} {Q : Option Value → Shared → Prop} (hot : HotAt A x1 s.heap) (nit : x1 ≠ it) (hit : s.heap.IsListIter it l i) (hl : s.heap.IsList l items) (hx : items[i]? = none)
    (hQ : ∀ h', (∀ b o, b ≠ it → s.heap.get? b = some o → h'.get? b = some o) → Q none { s with heap := h' }) : wpAny (model prog w) A (pyNext (.ref it)) Q E s := by
  obtain ⟨o, ho, hc, hd⟩ := id hit
  obtain ⟨ol, hol, _, nl, hdl⟩ := hl
  obtain ⟨hh, o1, vs1, h1, d1, c1⟩ := hot
  unfold pyNext
  refine wpAny_bind (wpAny_attempt (wpAny_callSpecial?_slot (name := Str.ofString "__next__") hit.typeIs slot_listiter_next (wpAny_call_entry slot_listiter_next hit.typeIs entry_listiter_next ?_ (args_listiter_next _))))
  show wpAny _ _ (field (.ref it) 0 >>= _) _ _ s
  refine wpAny_bind (wpAny_field ho hd (x := .ref l) rfl ?_)
  show wpAny _ _ (if (Value.ref l == Value.none) = true then _ else _) _ _ s
  rw [if_neg (by intro z; cases z)]
  show wpAny _ _ (field (.ref it) 1 >>= _) _ _ s
  refine wpAny_bind (wpAny_field ho hd (x := .int i 0) rfl ?_)
  show wpAny _ _ (seqItems? (.ref l) >>= _) _ _ s
  refine wpAny_bind (wpAny_seqItems hol hdl ?_)
  simp only [Int.toNat_natCast, hx]
  refine wpAny_bind (wpAny_rule (wpAny_bind (wpAny_setField ho hd (by simp) ?_)))
  show wpAny _ _ (newExc (.type "StopIteration") [] >>= _) _ _ _
  refine wpAny_bind ?_
  simp only [newExc, newTuple]
  refine wpAny_bind (wpAny_newObj_type ?_ (by size_fits))
  refine wpAny_bind (m := firstArgMember _ _) (wpAny_of_eq (a := Value.none) (by first | rfl | (simp only [firstArgMember]; rfl)) ?_)
  refine wpAny_newObj_type ?_ (by size_fits)
  have up : ∀ b u, b ≠ it → s.heap.get? b = some u → (s.heap.update it (Obj.mapFields (·.setIfInBounds 0 .none))).get? b = some u := fun b u n e => by
    rw [Heap.get?_update_other _ _ (Ne.symm n)]
    exact e
  have h1' := up x1 o1 nit h1
  refine raiseNew_hot ⟨hh, o1, vs1, Heap.get?_push_of_some _ (Heap.get?_push_of_some _ h1'), d1, c1⟩ (Nat.ne_of_lt (Heap.lt_size (Heap.get?_push_of_some _ h1'))) (Heap.get?_push_size _ rfl) rfl (by first | (simp; done) | (simp; omega) | (simp only [Array.size_append]; simp; omega)) ?_
  refine wpAny_bind (wpAny_isInstance (T := "StopIteration") (b := true) ⟨_, Heap.get?_update_self _ (Heap.get?_push_size _ rfl) rfl, rfl⟩ isSubtype_stop ?_)
  refine wpAny_pure (hQ _ fun b u n e => ?_)
  have e' := up b u n e
  rw [Heap.get?_update_other _ _ (Nat.ne_of_gt (Heap.lt_size (Heap.get?_push_of_some _ e')))]
  exact Heap.get?_push_of_some _ (Heap.get?_push_of_some _ e')
end HotL
namespace DL
open PySem PySem.Spec L2
open PyProof.Rows hiding St
open L2H (HotC Hot1 PinOk RoomH TurnH PIH PIEH)
theorem turn_listH {P : Program} {w : World} {K : PySem.W.Frag} {tg : Expr} (a it : Addr) : TurnH P w K tg (Itl K a) [it] it (fun i h => h.IsListIter it a i) where
  mem := by simp
  obj := fun i h st b hb => (turn_list (P := P) (w := w) (K := K) (tg := tg) a it).obj i h st b hb
  keep := fun i h h' st k => (turn_list (P := P) (w := w) (K := K) (tg := tg) a it).keep i h h' st k
  item := by
    intro X hP hw hK hc i pins s σ H E I hf st hg
    subst hP hw hK
    obtain ⟨xs, x, hq, hx⟩ := hg
    obtain ⟨its, rv, p, hz⟩ := I.list hq
    obtain ⟨u, hu, ru⟩ := rv.get hx
    obtain ⟨f0, f1, f2, f3, f4, f5⟩ := hf it (by simp)
    refine wpAny_pyNext_list_item st p.isList (x := u) (by simpa using hu) fun h2 st2 sb => ?_
    have J : Inv X pins σ H { s with heap := h2 } := I.turned (t' := s.toks) (fun b o hb e => (sb.2 b hb).trans e) f0 f1 f3 f4 f5
    obtain ⟨o, e, c, d⟩ := id st2
    refine ⟨u, rfl, go_of (s := { s with heap := h2 }) e c d (by decide) ⟨x, H, J, ru, ⟨rfl, fun ys hy => ?_⟩, st2, fun b hb => (hf b hb).1⟩⟩
    rw [I.list_inj hy hq]
    exact hx
  done := by
    intro X hP hw hK hc i pins s σ H E I hf st hg
    subst hP hw hK
    obtain ⟨xs, hq, hx⟩ := hg
    obtain ⟨its, rv, p, hz⟩ := I.list hq
    obtain ⟨f0, f1, f2, f3, f4, f5⟩ := hf it (by simp)
    have hl := rv.length
    obtain ⟨q, ⟨hh, vq, dq, cq⟩, hq2⟩ := hc
    have pq := I.pin q (List.mem_append_left _ hq2)
    exact HotL.list_end_hot (x1 := q.1) ⟨hh, q.2, vq, pq.1, dq, cq⟩ (f5 q (List.mem_append_left _ hq2)) st p.isList (by simp; omega) fun h2 eb => ⟨rfl, I.turned (t' := s.toks) (fun b o hb e => eb b o hb e) f0 f1 f3 f4 f5⟩
  self := fun A i s Q E st h => (turn_list (P := P) (w := w) (K := K) (tg := tg) a it).self A i s Q E st h
theorem pi_listH {X : Cx} {tg l : Expr} {tl : TE} (hl : PE X l tl) : PIH X tg l (iList X.K tl) := by
  refine ⟨fun pn s σ H R I h => ?_⟩
  refine thn (hl.run pn s σ H _ I h) fun v s1 ⟨x, H1, J, rx, w1⟩ => ?_
  obtain ⟨a, rfl, ⟨xs, hq⟩, w2⟩ := w1
  cases rx
  obtain ⟨its, rv, p, hz⟩ := J.list hq
  refine wpAny_pyIter_list p.isList ⟨s1.heap.objs.size, [s1.heap.objs.size], _, _, H1, rfl, J.kept (t' := s1.toks) fun b o e => Heap.get?_push_of_some _ e, turn_listH a _, ⟨_, Heap.get?_push_size _ rfl, rfl, rfl⟩, fun b hb => ?_, w2⟩
  obtain rfl : b = s1.heap.objs.size := by simpa using hb
  exact J.fpOk (Nat.le_refl _) (J.hok.fresh (Nat.le_refl _))
end DL

end
section
set_option Elab.async false
set_option linter.all false
set_option maxRecDepth 100000
set_option maxHeartbeats 2000000
namespace DL
open PySem PySem.Spec L2
open PyProof.Rows hiding St
open L2H (HotC Hot1 PinOk RoomH TurnH PIH PIEH)
/-- a comprehension's block within an except suite: the pins stay -/
abbrev blkH (X : Cx) (s : Shared) (H : Hp) (scope : Scope) (ce : Env) (fp : List Addr) : Cx := { X.blk s H scope ce fp with pn := X.pn }
theorem inv_pn {Y : Cx} {l : List (Addr × Obj)} {σ : St} {H : Hp} {s : Shared} (I : Inv Y [] σ H s) (h : ∀ p ∈ l, s.heap.get? p.1 = some p.2 ∧ H p.1 = none ∧ p.1 ≠ Y.env.locals ∧ p.1 ∉ Y.fs ∧ ∀ v, p.2.data ≠ .cell v) : Inv { Y with pn := l } [] σ H s := by
  obtain ⟨a1, a2, a3, a4, a5, a6, a7, a8, a9, a10, a11, a12, a13, a14, a15, a16, a17, a18⟩ := I.ok
  refine ⟨⟨a1, a2, a3, a4, a5, a6, a7, a8, a9, a10, a11, a12, a13, a14, a15, a16, a17, a18⟩, I.os, I.bare, I.base, I.loc, I.cell, I.free, I.freeC, fun p hp => ?_, I.hok, I.len⟩
  rw [List.append_nil] at hp
  exact h p hp
section
variable {X : Cx}
theorem lc_hot {pn : List (Addr × Obj)} {s : Shared} {σ : St} {H : Hp} {Q : VK} {elt tg iter : Expr} {ifs : List Expr} {scope : Scope} {own : List (Str × Nat)} {pos pos2 : Pos} {wi : TI} {g : TG} {tt : TT} {te : TE} {use : Option (Value → Sem Unit)} {Qf : Value → Shared → Prop}
    (hot : HotC X) (nd : X.N.Nodup) (I : Inv X pn σ H s) (hi : PIH X tg iter wi) (bo : BlkOk X.N X.env.scope scope own)
    (hg : ∀ (s : Shared) (H : Hp) (C : Addr) (cl : List (Str × Addr)) (fp : List Addr), PG (blkH X s H scope (compEnvC scope cl C X.env) fp) tg g)
    (ht : ∀ (s : Shared) (H : Hp) (C : Addr) (cl : List (Str × Addr)) (fp : List Addr), PTs (blkH X s H scope (compEnvC scope cl C X.env) fp) ifs tt)
    (he : ∀ (s : Shared) (H : Hp) (C : Addr) (cl : List (Str × Addr)) (fp : List Addr), PE (blkH X s H scope (compEnvC scope cl C X.env) fp) elt te) (hs : ∀ x, foldedSetIterable iter X.env x = pure x)
    (h : tLc wi g tt te (own.map (·.2)) σ H Q)
    (hR : ∀ D C s2 m H2, Inv X pn σ H2 s2 → Q (.ref D) H2 → s2.heap.Ns C m → FpOk X pn H2 C → compPost (model X.prog X.w) X.A X.xe use Qf (.ref D) C (.ok .next) s2) :
    wpAny (model X.prog X.w) X.A (comprehension (.ListComp elt [⟨tg, iter, ifs, 0⟩] scope pos) scope X.env pos2 (newList []) false (eval iter X.env) use) Qf X.xe s := by
  have clo : ∀ y ∈ scope.names, y.2 = .free → ∃ c, X.env.cells.lookup y.1 = some c := fun y hy e => (bo.free y hy e).elim (fun k => I.ok.has _ (.inl k)) fun k => I.ok.has _ (.inr k)
  refine wpAny_comprehension_free (use := use) rfl hs (closure_ok clo) bo.kind (fun y hy e => by rw [bo.uniq y hy, e]) (thn (hi.run pn s σ H _ I h) fun xv t1 hx => thn hx fun iv t2 k2 => ?_)
  obtain ⟨it, fp, tn, J, G2, rfl, I2, T, sn2, fo2, q⟩ := k2
  refine wpAny_newObj_type (newEnv_comp ?_) (by show 0 ≤ sizeLine; decide)
  generalize eA : t2.heap.objs.size = A
  have nA : G2 A = none := I2.hok.fresh (Nat.le_of_eq eA)
  obtain ⟨W, ⟨m0, w0⟩, turn⟩ := q A nA
  generalize e3 : ({ t2 with heap := t2.heap.push { cls := .type "list", data := .seq ([] : List Value).toArray } } : Shared) = t3
  have I3 : Inv X pn σ (upd G2 A (.lst [])) t3 := by
    rw [← e3]
    refine I2.laid (t' := t2.toks) (fun b o e => Heap.get?_push_of_some _ e) (Nat.le_of_eq eA) ⟨Nat.zero_le _, [], 0, .nil, ?_⟩
    rw [← eA]
    exact Heap.get?_push_size _ rfl
  have hp3 : t3.heap = t2.heap.push { cls := .type "list", data := .seq ([] : List Value).toArray } := by rw [← e3]
  have fo3 : ∀ b ∈ fp, FpOk X pn (upd G2 A (.lst [])) b ∧ b < t3.heap.objs.size := fun b hb => by
    obtain ⟨o, e, _⟩ := T.obj _ _ sn2 b hb
    have lt := Heap.lt_size e
    refine ⟨⟨?_, (fo2 b hb).2⟩, by rw [hp3, Heap.size_push]; exact Nat.lt_succ_of_lt lt⟩
    rw [upd_ne (by rw [← eA]; exact Nat.ne_of_lt lt)]
    exact (fo2 b hb).1
  have sn3 : tn 0 t3.heap := T.keep _ _ _ sn2 fun b _ o e => by rw [hp3]; exact Heap.get?_push_of_some _ e
  have B4 := block_start I3 bo nd fo3
  have pg := hg t3 (upd G2 A (.lst [])) t3.heap.objs.size (cellsFrom (t3.heap.objs.size + 1) scope.names (cloFrom X.env.cells scope.names [])) fp
  have pt := ht t3 (upd G2 A (.lst [])) t3.heap.objs.size (cellsFrom (t3.heap.objs.size + 1) scope.names (cloFrom X.env.cells scope.names [])) fp
  have pe := he t3 (upd G2 A (.lst [])) t3.heap.objs.size (cellsFrom (t3.heap.objs.size + 1) scope.names (cloFrom X.env.cells scope.names [])) fp
  show codeAny _ _ (.compStart (.ListComp elt [⟨tg, iter, ifs, 0⟩] scope pos) 0 (.ref it) (.ref A) (compEnvC scope (cellsFrom (t3.heap.objs.size + 1) scope.names (cloFrom X.env.cells scope.names [])) t3.heap.objs.size X.env)) (compPost (model X.prog X.w) X.A X.xe use Qf (.ref A) t3.heap.objs.size) { t3 with heap := pushCells (t3.heap.push { cls := .type "dict", data := .dict #[] }) scope.names }
  have nf : ∀ b ∈ fp, (upd G2 A (.lst [])) b = none := fun b hb => (fo3 b hb).1.1
  generalize ece : compEnvC scope (cellsFrom (t3.heap.objs.size + 1) scope.names (cloFrom X.env.cells scope.names [])) t3.heap.objs.size X.env = ce at B4 pg pt pe ⊢
  have loc : ce.locals = t3.heap.objs.size := by subst ece; rfl
  generalize eG3 : upd G2 A (.lst []) = G3 at I3 B4 pg pt pe w0 nf fo3
  generalize e4 : ({ t3 with heap := pushCells (t3.heap.push { cls := .type "dict", data := .dict #[] }) scope.names } : Shared) = t4 at B4 ⊢
  have up4 : ∀ b o, t3.heap.get? b = some o → t4.heap.get? b = some o := fun b o e => by rw [← e4]; exact pushCells_keeps _ _ _ _ (Heap.get?_push_of_some _ e)
  have sn4 : tn 0 t4.heap := T.keep _ _ _ sn3 fun b _ o e => up4 b o e
  -- the pins stand in the block, too
  have I4 : Inv (blkH X t3 G3 scope ce fp) [] (wipe σ (own.map (·.2))) G3 t4 := inv_pn B4 fun p hp => by
    have z := I3.pin p (List.mem_append_left _ hp)
    refine ⟨up4 _ _ z.1, z.2.1, fun y => ?_, fun y => ?_, z.2.2.2.2⟩
    · have y : p.1 = ce.locals := y
      rw [loc] at y
      exact absurd (Heap.lt_size z.1) (by rw [y]; exact Nat.lt_irrefl _)
    · exact (List.mem_cons.mp (I3.stkSub p.1 y)).elim z.2.2.1 z.2.2.2.1
  have hotB : HotC (blkH X t3 G3 scope ce fp) := hot
  have stat : ∀ {σ2 : St} {H2 : Hp} {s2 : Shared}, Inv (blkH X t3 G3 scope ce fp) [] σ2 H2 s2 → (∀ b ∈ fp, H2 b = none) → ∀ b ∈ fp, FpOk (blkH X t3 G3 scope ce fp) [] H2 b := fun {σ2 H2 s2} K hn b hb =>
    ⟨hn b hb, (K.ok.exf b hb).1, K.ok.exfs b hb, .inl hb, fun x c e => (K.ok.exf b hb).2 x c e, fun p hp => (fo3 b hb).1.2.2.2.2.2 p (by
      rw [List.append_nil] at hp
      exact List.mem_append_left _ hp)⟩
  have loop : codeAny (model X.prog X.w) X.A (.compLoop (.ListComp elt [⟨tg, iter, ifs, 0⟩] scope pos) 0 (.ref it) (.ref A) ce) (compPost (model X.prog X.w) X.A X.xe use Qf (.ref A) t3.heap.objs.size) t4 := by
    refine compLoop_any (fun n s2 => ∃ i H2, Inv (blkH X t3 G3 scope ce fp) [] (wipe σ (own.map (·.2))) H2 s2 ∧ tn i s2.heap ∧ (∀ b ∈ fp, H2 b = none) ∧ W i n H2) ?_ m0 ⟨0, G3, I4, sn4, nf, w0⟩
    rintro n t5 ⟨i, G5, I5, sn5, n5, w5⟩
    rcases turn i n G5 w5 with ⟨stop, fq⟩ | ⟨go, Nx, less, step⟩
    · refine thnF (T.done (blkH X t3 G3 scope ce fp) rfl rfl rfl hotB i [] t5 _ G5 (fun _ _ => False) I5 (stat I5 n5) sn5 stop) fun r t6 ⟨hr, I6⟩ => ?_
      subst hr
      have I7 : Inv X pn σ G5 t6 := I3.call' (ch := fp) I6.os I6.base I6.hok I6.bare fun b hb => ⟨(fo3 b hb).1.2.2.2.1, (fo3 b hb).1.2.1, (fo3 b hb).1.2.2.2.2.1, (fo3 b hb).1.2.2.2.2.2⟩
      have nC : G5 t3.heap.objs.size = none := by
        have z : G5 ce.locals = none := I6.free
        rw [loc] at z
        exact z
      obtain ⟨m, hn, _⟩ := I6.loc
      have hn : t6.heap.Ns ce.locals m := hn
      rw [loc] at hn
      exact hR A t3.heap.objs.size t6 m G5 I7 fq hn (I3.fpOk (Nat.le_refl _) nC)
    · refine thnF (T.item (blkH X t3 G3 scope ce fp) rfl rfl rfl hotB i [] t5 _ G5 (fun _ _ => False) I5 (stat I5 n5) sn5 go) fun r t6 ⟨u, hr, k6⟩ => ?_
      subst hr
      refine thnF k6 fun _ t7 ⟨x, G7, I7, r7, y7, sn7, n7⟩ => ?_
      have P7 := I7.pinned (stat I7 n7) (T.obj _ _ sn7)
      refine thnF (pg.run _ t7 _ G7 x u _ P7 r7 (step x G7 y7)) fun _ t8 ⟨σ8, G8, I8, w8, q8⟩ => ?_
      refine thnF (pt.run _ t8 σ8 G8 _ I8 q8) fun b t9 ⟨G9, I9, q9⟩ => ?_
      have again : ∀ {s2 : Shared} {H2 : Hp}, Inv (blkH X t3 G3 scope ce fp) ([] ++ pinsAt fp t7.heap) σ8 H2 s2 → Nx H2 → ∃ m, m < n ∧ ∃ i H2, Inv (blkH X t3 G3 scope ce fp) [] (wipe σ (own.map (·.2))) H2 s2 ∧ tn i s2.heap ∧ (∀ b ∈ fp, H2 b = none) ∧ W i m H2 := fun {s2 H2} K nx => by
        obtain ⟨m2, lt, w2⟩ := less H2 nx
        have pin2 : ∀ b ∈ fp, ∀ o, t7.heap.get? b = some o → s2.heap.get? b = some o ∧ H2 b = none := fun b hb o e =>
          let z := K.pin (b, o) (List.mem_append_right _ (List.mem_append_right _ (mem_pinsAt hb e)))
          ⟨z.1, z.2.1⟩
        have hl : (wipe σ (own.map (·.2))).length = σ8.length := by rw [← w8, wipe_length]
        refine ⟨m2, lt, i + 1, H2, (K.unpinned (pins := [])).weak hl (fun j v e => ?_), T.keep _ _ _ sn7 fun b hb o e => (pin2 b hb o e).1, fun b hb => ?_, w2⟩
        · rw [← w8] at e
          exact (wipe_some e).1
        · obtain ⟨o, e, _⟩ := T.obj _ _ sn7 b hb
          exact (pin2 b hb o e).2
      cases b with
      | false =>
        simp only [Bool.false_eq_true, if_false] at q9 ⊢
        exact again I9 q9
      | true =>
        simp only [if_true] at q9 ⊢
        refine thnF (pe.run _ t9 σ8 G9 _ I9 q9) fun z t10 ⟨yv, G10, I10, r10, acc, hA, hz, nx⟩ => ?_
        exact app_ok (X := blkH X t3 G3 scope ce fp) I10 hA hz r10 fun t11 I11 => again I11 nx
  exact codeAny_compStart_list loop (T.self X.A 0 _ _ _ sn4 loop)
theorem pe_lcH {elt tg iter : Expr} {ifs : List Expr} {scope : Scope} {own : List (Str × Nat)} {pos : Pos} {wi : TI} {g : TG} {tt : TT} {te : TE} (hot : HotC X) (nd : X.N.Nodup) (hi : PIH X tg iter wi) (bo : BlkOk X.N X.env.scope scope own)
    (hg : ∀ (s : Shared) (H : Hp) (C : Addr) (cl : List (Str × Addr)) (fp : List Addr), PG (blkH X s H scope (compEnvC scope cl C X.env) fp) tg g)
    (ht : ∀ (s : Shared) (H : Hp) (C : Addr) (cl : List (Str × Addr)) (fp : List Addr), PTs (blkH X s H scope (compEnvC scope cl C X.env) fp) ifs tt)
    (he : ∀ (s : Shared) (H : Hp) (C : Addr) (cl : List (Str × Addr)) (fp : List Addr), PE (blkH X s H scope (compEnvC scope cl C X.env) fp) elt te) (hs : ∀ x, foldedSetIterable iter X.env x = pure x := by intro _; rfl) :
    PE X (.ListComp elt [⟨tg, iter, ifs, 0⟩] scope pos) (tLc wi g tt te (own.map (·.2))) := by
  refine ⟨fun pn s σ H Q I h => ?_⟩
  rw [eval_ListComp]
  refine lc_hot hot nd I hi bo hg ht he hs h fun D C s2 m H2 J q hn f => ⟨m, hn, fun h3 sb => ?_⟩
  obtain ⟨f0, f1, f2, f3, f4, f5⟩ := f
  exact ⟨.ref D, H2, J.turned (t' := s2.toks) (fun b o hb e => (sb.2 b hb).trans e) f0 f1 f3 f4 f5, rfl, q⟩
end
end DL

end
section
set_option Elab.async false
set_option linter.all false
set_option maxRecDepth 100000
set_option maxHeartbeats 4000000
/-! ### the caught exception: its class, its fields -/
namespace ExcQ
open PySem PySem.Spec PySem.Calls PyProof.Rows PySem.W
section
variable {prog : Program} {w : World} {A : Around} {E : Value → Shared → Prop} {s : Shared} {K : Frag} {x D : Addr} {ox : Obj} {od : Option Obj}
/-- e.__class__, e with a dict or without one -/
theorem cls_of {Q : Option Value → Shared → Prop} (C : L2.ExcC K D) (X : K.In s.heap) (I : InstAt s.heap x ox D od) (h : Q (some (.ref D)) { s with toks := s.toks + 1 }) : wpAny (model prog w) A (getAttr? (.ref x) "__class__") Q E s := by
  obtain ⟨hga, hgt, hsub, hdct, ha, hn, htk, hm⟩ := C
  have isC : (clsIn K D).isSome = true := by
    obtain ⟨cd, hc, _⟩ := any_some hdct
    rw [hc]
    rfl
  have found : findObj K D od "__class__" = some (.bind (.builtin "getset_descriptor.__get__") (.builtin "object.__class__")) := by
    cases od with
    | none => exact findObj_dataN isC ha hn htk
    | some o => exact findObj_data isC ha hn htk
  obtain ⟨hp, g, d, t, os⟩ := s
  have T0 := I.type (M := model prog w)
  have T1 := looks_findIn (M := model prog w) X hga
  have T2 := looks_findIn (M := model prog w) X hgt
  have T3 := looks_find (M := model prog w) X I found
  have inst : Looks (model prog w) hp (isInstance (.ref x) (.type "BaseException")) true := T0.andThen (looks_subIn X hsub)
  have off : (false && onTheHeap (Value.builtin "BaseException.__getattribute__")) = false := rfl
  have own : (onTheHeap (Value.ref D) && Value.builtin "BaseException.__getattribute__" == Value.builtin "object.__getattribute__") = false := by
    rw [show (Value.builtin "BaseException.__getattribute__" == Value.builtin "object.__getattribute__") = false by decide +kernel]
    rfl
  unfold getAttr? getAttrBy? getAttrBy
  refine wpAny_bind (wpAny_mkText (wpAny_bind (wpAny_attempt (wpAny_holding (wpAny_bind (T0.at (wpAny_bind (T1.at ?_))))))))
  show wpAny _ _ (if (onTheHeap (Value.ref D) && Value.builtin "BaseException.__getattribute__" == Value.builtin "object.__getattribute__") = true then _ else _) _ _ _
  rw [own, if_neg Bool.false_ne_true]
  unfold getAttrByItsOwn hookBefore
  refine wpAny_bind ?_
  have onh : onTheHeap (Value.ref D) = true := rfl
  rw [if_pos onh]
  refine T2.at (wpAny_bind (wpAny_attempt (wpAny_holding ?_)))
  unfold callGetattribute
  rw [off, if_neg Bool.false_ne_true]
  unfold boundAndCalled
  rw [PySem.F.excAttr_ValueError.ga.bind (.ref x)]
  refine wpAny_bind (wpAny_pure ?_)
  show wpAny _ _ (call (.builtin "BaseException.__getattribute__") [.ref x, .str "__class__" t]) _ _ _
  refine wpAny_call (codeAny_call_builtin PySem.F.excAttr_ValueError.ga.plain PySem.F.entry_bexc_ga ?_)
  refine @check_slot (model prog w) _ _ ⟨hp, g, d, t + 1, os⟩ "BaseException.__getattribute__" "BaseException" "__getattribute__" (.ref x) [.str "__class__" t] [] _ (by decide +kernel) (by decide +kernel) inst (PySem.F.args_bexc_ga (.ref x) (.str "__class__" t)) ?_
  unfold Builtin.«object.__getattribute__»
  refine wpAny_bind (wpAny_of_eq (a := ((Value.ref x : Value), [Value.str "__class__" t])) (by first | rfl | (simp only [slotArgs]; rfl)) ?_)
  refine wpAny_bind (wpAny_pure (wpAny_bind (T0.at (wpAny_bind (T3.at ?_)))))
  show wpAny _ _ (holding [Value.builtin "object.__class__"] (call (.builtin "getset_descriptor.__get__") [.builtin "object.__class__", .ref x, .ref D]) >>= ret) _ _ _
  refine wpAny_bind (wpAny_holding (wpAny_call (class_get (s := ⟨hp, g, d, t + 1, os⟩) (ox := ox) (od := od) X I hm ?_)))
  refine wpAny_pure ?_
  show wpAny _ _ (handedOut (.ref D)) _ _ _
  rw [handedOut_of (v := .ref D) rfl]
  first
    | exact wpAny_pure (wpAny_pure h)
    | exact wpAny_pure h
    | exact wpAny_pure (wpAny_bind (wpAny_pure (wpAny_pure h)))
theorem kitx_of (C : L2.ExcC K D) : KitX K (.ref x) (.ref D) (fun h => ∃ od, InstAt h x ox D od) where
  ty := fun _ _ _ ⟨od, I⟩ => I.type
  it := fun _ _ X _ => by
    obtain ⟨cd, hc, _⟩ := any_some C.hd
    unfold clsIn at hc
    split at hc
    · rename_i c' d' cd' sl' ho
      intro A' Q' E' s' k q
      unfold isType loadHead
      exact wpAny_bind (wpAny_loadPart (k _ _ (X _ _ ho)) (wpAny_pure q))
    · cases hc
  ne := fun h tp dd its n sl X htp => by
    obtain ⟨cd, hc, _⟩ := any_some C.hd
    refine Bool.eq_false_iff.mpr fun q => ?_
    have e : D = tp := Value.ref.inj (beq_iff_eq.mp q)
    subst e
    unfold clsIn at hc
    split at hc
    · rename_i c' d' cd' sl' ho
      have z := (X _ _ ho).symm.trans htp
      cases z
    · cases hc
  ca := fun X ⟨od, I⟩ k => cls_of C X I k
end
end ExcQ
namespace DL
open PySem PySem.Spec L2
open PyProof.Rows hiding St
open L2H (HotC Hot1 PinOk RoomH TurnH PIH PIEH)
/-- the exception of class c at a, its dict dd, is pinned -/
def PinE (X : Cx) (a : Addr) (dd : Option Addr) (c : Str) : Prop := ∃ (oe : Obj) (vs : Array Value), (a, oe) ∈ X.pn ∧ oe.cls = .ref (He.ga X.K c) ∧ oe.dict = dd ∧ oe.data = .fields vs ∧ vs[2]? = some .none
section
variable {X : Cx} {W : WX} {a : Addr} {dd : Option Addr} {c : Str} {pos : Pos}
theorem PinE.inst (P : PinE X a dd c) {pins : List (Addr × Obj)} {σ : St} {H : Hp} {s : Shared} (I : Inv X pins σ H s) (hd : dd = none) : ∃ oe, PySem.W.InstAt s.heap a oe (He.ga X.K c) none := by
  obtain ⟨oe, vs, hp, h1, h2, h3, h4⟩ := P
  have z := (I.pin (a, oe) (List.mem_append_left _ hp)).1
  refine ⟨oe, z, h1, ?_, ?_⟩
  · unfold PySem.W.notCls
    rw [h3] <;> rfl
  · rw [h2, hd] <;> trivial
theorem PinE.instD (P : PinE X a dd c) {pins : List (Addr × Obj)} {σ : St} {H : Hp} {s : Shared} (I : Inv X pins σ H s) (hd : DictAt H dd) : ∃ oe od, PySem.W.InstAt s.heap a oe (He.ga X.K c) od := by
  rcases hd with hd | ⟨dx, fs, hd, hH⟩
  · obtain ⟨oe, z⟩ := P.inst I hd
    exact ⟨oe, none, z⟩
  · obtain ⟨oe, vs, hp, h1, h2, h3, h4⟩ := P
    have z := (I.pin (a, oe) (List.mem_append_left _ hp)).1
    have hx : ObjOk X.prog X.w H s.heap dx (.xd fs) := I.hok dx _ hH
    obtain ⟨mA, hns, hr⟩ := hx
    obtain ⟨o, es, ep, ho, _⟩ := hns
    refine ⟨oe, some o, z, h1, ?_, ?_⟩
    · unfold PySem.W.notCls
      rw [h3] <;> rfl
    · rw [h2, hd]
      exact ho
theorem isiR_hot (P : PinE X a dd c) (C : ExcC X.K (He.ga X.K c)) : IsiR X (some (a, dd, c)) := fun pins s σ H xs us Q I r h => by
  rcases h with h | ⟨a', dd', c', cl, cv, b, e, hd, rfl, hcl, e2, q⟩
  · exact call_isi pins s σ H xs us Q I r h
  · cases e
    obtain ⟨u1, u2, rfl, r1, r2⟩ := vals2 r
    have ec := hcl.eq r2
    subst ec
    obtain rfl : u1 = Value.ref a := r1
    obtain ⟨oe, od, J⟩ := P.instD I hd
    exact PySem.W.kia_one (ExcQ.kitx_of (ox := oe) C) I.kIn ⟨od, J⟩ e2 (fun z => nomatch z) fun tk => ⟨.bl b, H, I.kept (t' := tk) fun _ _ z => z, rfl, q⟩
/-- e.f of the caught exception: cs its classes that have f -/
def dXf (cs : List Str) (f : Str) : D → R D
  | .exc c ns ds => if c ∈ cs then dGet f ns ds else .bad
  | _ => .bad
/-- what such a class must have -/
structure XfOk (K : PySem.W.Frag) (c f : Str) : Prop where
  T : XfC K (He.ga K c)
  no : PySem.W.findIn K (.ref (He.ga K c)) f = some none
theorem e_xf {e : Expr} {f : Str} {cs : List Str} {m : EM} (P : PinE X a dd c) (hcs : ∀ x ∈ cs, XfOk X.K x f) (he : DE X (some (a, dd, c)) W e m) (hb : attributeBase e f X.env (eval e X.env) = eval e X.env := by rfl) : DE X (some (a, dd, c)) W (.Attribute e f pos) (m1 (dXf cs f) m) := by
  refine ⟨fun pins s σ H Q I h => ?_⟩
  obtain ⟨S, en, r, q⟩ := h
  refine attr_of hb (thn (he.run pins s σ H _ I ⟨S, en, r, Post.bd q⟩) fun u s1 hu => ?_)
  obtain ⟨x, H1, I1, rx, d, ed, e1, r1, q1⟩ := hu
  cases d with
  | exc c' ns ds =>
    obtain ⟨a', dd', e2, rfl, h1⟩ := id r1
    cases e2
    obtain rfl : u = Value.ref a := rx
    simp only [dXf] at q1
    split at q1
    · rename_i hc
      obtain ⟨T, hno⟩ := hcs c hc
      rcases dGet_cases f ns ds with ⟨d, e⟩ | e
      · rw [e] at q1
        rcases h1 with ⟨rfl, _⟩ | ⟨dx, fvs, ed2, hH, hl, hr⟩
        · simp [dGet] at e
        · obtain ⟨v, l1, l2⟩ := dGet_rep hl hr e
          subst ed2
          obtain ⟨oe, vs, hp, k1, k2, k3, k4⟩ := P
          have z := (I1.pin (a, oe) (List.mem_append_left _ hp)).1
          have hx : ObjOk X.prog X.w H1 s1.heap dx (.xd (ns.zip fvs)) := I1.hok dx _ hH
          obtain ⟨mA, hns, rel⟩ := hx
          obtain ⟨od, ho, hlk⟩ := lookIn_ns hns
          obtain ⟨uv, hu, ru⟩ := RelO.some_of (v := v) (o := mA f) (by rw [← l1]; exact rel f)
          have J : PySem.W.InstAt s1.heap a oe (He.ga X.K c) (some od) := by
            refine ⟨z, k1, ?_, ?_⟩
            · unfold PySem.W.notCls
              rw [k3] <;> rfl
            · rw [k2]
              exact ho
          refine PySem.HandSPX.exc_get I1.kIn J T.ga T.gg T.exC (PySem.W.findObj_own T.hdC hno rfl ?_) (handed_of ru) ⟨v, H1, I1.tok _, ru, Post.ret q1 l2⟩
          rw [hlk, hu]
      · rw [e] at q1
        exact (show False from q1).elim
    · exact (show False from q1).elim
  | _ => exact (show False from q1).elim
end
end DL

end
section
set_option Elab.async false
set_option linter.all false
set_option maxRecDepth 100000
set_option maxHeartbeats 2000000
namespace DL
open PySem PySem.Spec L2
open PyProof.Rows hiding St
open L2H (HotC Hot1 PinOk RoomH TurnH PIH PIEH)

/-! ### trees with and without the exception -/
mutual
def noX : D → Bool
  | .tup ds => noXs ds
  | .lst ds => noXs ds
  | .obj _ _ ds => noXs ds
  | .exc _ _ _ => false
  | _ => true
def noXs : List D → Bool
  | [] => true
  | d :: ds => noX d && noXs ds
end
section
variable {K : PySem.W.Frag} {px : Px} {S : Addr → Prop} {H : Hp}
mutual
theorem Rep.pxUp : ∀ (d : D) (v : V), Rep K none S H d v → Rep K px S H d v
  | .non, _, h => h
  | .bl _, _, h => h
  | .int _, _, h => h
  | .str _, _, h => h
  | .tup ds, _, ⟨a, vs, e1, h1, h2, h3⟩ => ⟨a, vs, e1, h1, h2, Reps.pxUp ds vs h3⟩
  | .lst ds, _, ⟨a, vs, e1, h1, h2, h3, h4⟩ => ⟨a, vs, e1, h1, h2, h3, Reps.pxUp ds vs h4⟩
  | .obj _ _ ds, _, ⟨a, dx, fvs, e1, h1, h2, h3, h4⟩ => ⟨a, dx, fvs, e1, h1, h2, h3, Reps.pxUp ds fvs h4⟩
  | .exc _ _ ds, _, ⟨a, dd, e1, _⟩ => by cases e1
  | .dct _ _, _, h => h
  | .scr _, _, h => h
theorem Reps.pxUp : ∀ (ds : List D) (vs : List V), Reps K none S H ds vs → Reps K px S H ds vs
  | [], _, h => h
  | d :: ds, _, ⟨v, r, e1, h1, h2⟩ => ⟨v, r, e1, Rep.pxUp d v h1, Reps.pxUp ds r h2⟩
end
mutual
theorem Rep.pxDn : ∀ (d : D) (v : V), noX d = true → Rep K px S H d v → Rep K none S H d v
  | .non, _, _, h => h
  | .bl _, _, _, h => h
  | .int _, _, _, h => h
  | .str _, _, _, h => h
  | .tup ds, _, q, ⟨a, vs, e1, h1, h2, h3⟩ => ⟨a, vs, e1, h1, h2, Reps.pxDn ds vs (by simpa [noX] using q) h3⟩
  | .lst ds, _, q, ⟨a, vs, e1, h1, h2, h3, h4⟩ => ⟨a, vs, e1, h1, h2, h3, Reps.pxDn ds vs (by simpa [noX] using q) h4⟩
  | .obj _ _ ds, _, q, ⟨a, dx, fvs, e1, h1, h2, h3, h4⟩ => ⟨a, dx, fvs, e1, h1, h2, h3, Reps.pxDn ds fvs (by simpa [noX] using q) h4⟩
  | .exc _ _ ds, _, q, _ => by simp [noX] at q
  | .dct _ _, _, _, h => h
  | .scr _, _, _, h => h
theorem Reps.pxDn : ∀ (ds : List D) (vs : List V), noXs ds = true → Reps K px S H ds vs → Reps K none S H ds vs
  | [], _, _, h => h
  | d :: ds, _, q, ⟨v, r, e1, h1, h2⟩ => by
    have q : (noX d && noXs ds) = true := by simpa [noXs] using q
    rw [Bool.and_eq_true] at q
    exact ⟨v, r, e1, Rep.pxDn d v q.1 h1, Reps.pxDn ds r q.2 h2⟩
end
theorem SlR.pxUp {A : Addr → Prop} {s : Sl} {o : Option Addr} {x : Option V} (r : SlR K none A H s o x) : SlR K px A H s o x := by
  cases s with
  | no => exact r
  | fz d =>
    obtain ⟨h1, v, h2, h3⟩ := r
    exact ⟨h1, v, h2, Rep.pxUp d v h3⟩
  | ow ds =>
    obtain ⟨a, vs, h1, h2, h3, h4, h5⟩ := r
    exact ⟨a, vs, h1, h2, h3, h4, Reps.pxUp _ _ h5⟩
  | ob c ns ds =>
    obtain ⟨a, dx, fvs, h1, h2, h3, h4, h5⟩ := r
    exact ⟨a, dx, fvs, h1, h2, h3, h4, Reps.pxUp _ _ h5⟩
  | pw ds =>
    obtain ⟨a, vs, h1, h2, h3, h4, h5⟩ := r
    exact ⟨a, vs, h1, h2, h3, h4, Reps.pxUp _ _ h5⟩
theorem RepE.pxUp {S0 : Reg} {H0 : Hp} {O : Nat → Option Addr} {σ : St} {e : SEnv} (r : RepE K none S0 H0 O H σ e) : RepE K px S0 H0 O H σ e :=
  ⟨r.same, r.len, r.new, r.inj, fun i s h => let ⟨x, h1, h2⟩ := r.sl i s h; ⟨x, h1, h2.pxUp⟩, r.out, r.ob⟩
end

/-! ### a def called within an except suite -/
abbrev E00 : XK := fun _ _ _ => False
/-- the data of the exception's object -/
def OeOk (K : PySem.W.Frag) (oe : Obj) (dd : Option Addr) (c : Str) : Prop := ∃ vs : Array Value, oe.cls = .ref (He.ga K c) ∧ oe.dict = dd ∧ oe.data = .fields vs ∧ vs[2]? = some .none
/-- a def of n arguments, called while an exception of one of the classes cs is handled -/
structure FnE (P : Program) (w : World) (K : PySem.W.Frag) (mg : Str → Option Value) (base : Heap) (k : Nat) (f : Addr) (n : Nat) (cs : List Str) (g : List D → R D) : Prop where
  kp : PySem.W.keepIn K (.ref f) = true
  ok : ∃ (fd : FuncData) (ps : List Str), Binds K fd ps [] ∧ ps.length = n ∧ ∀ (A : Around) (outer : List Env) (s : Shared) (H : Hp) (us : List Value) (vs : List V) (a : Addr) (dd : Option Addr) (c : Str) (oe : Obj) (ds : List D) (S : Addr → Prop) (Q : VK),
    c ∈ cs → RoomH k A → A.handled = some (.ref a) → OeOk K oe dd c → PinOk outer H s (a, oe) → Env0 P w K mg base A outer s H → BindsTo s fd ⟨us, []⟩ (ps.zip us) → Vals vs us → vs.length = n → Reps K (some (a, dd, c)) S H ds vs → Post K (some (a, dd, c)) W0 S [] H (g ds) Q →
    codeAny (model P w) A (.call (.ref f) ⟨us, []⟩) (CR (L2N.CX P w) outer P w H s Q E00) s
theorem post_end0 {K : PySem.W.Frag} {px : Px} {S : Addr → Prop} {H : Hp} {Q : VK} {o : Out} (h : Post K px W0 S [] H (endF o) Q) : PostS K px W0 (S, none) H { nx := fun _ H' => Q .non H', rt := Q } o := post_end (E := E00) h
theorem fne_of {P : Program} {w : World} {K : PySem.W.Frag} {mg : Str → Option Value} {base : Heap} {x qual : Str} {params : Arguments} {body : List Stmt} {scope : Scope} {f : Addr} {fd : FuncData} {N ps : List Str} {k n : Nat} {cs : List Str} {m : SM}
    (F : FunD K x qual params body scope [] [] f fd) (S : FnScope N ps scope) (b : Binds K fd ps []) (hn : ps.length = n)
    (hbody : ∀ (cdv : Value) (A : Around) (outer : List Env) (s : Shared) (H : Hp) (p : Addr × Obj) (a : Addr) (dd : Option Addr) (c : Str), c ∈ cs → RoomH k (A.deeper (envOfC qual scope s.heap.objs.size f cdv)) →
      HotC (L2H.cxH (L2N.CX P w) P w K mg base N qual scope f cdv A outer s H E00 p) → PinE (L2H.cxH (L2N.CX P w) P w K mg base N qual scope f cdv A outer s H E00 p) a dd c →
      DSs (L2H.cxH (L2N.CX P w) P w K mg base N qual scope f cdv A outer s H E00 p) (some (a, dd, c)) W0 body m) :
    FnE P w K mg base (k + 1) f n cs (runF N.length m) := by
  refine ⟨F.kp, fd, ps, b, hn, fun A outer s H us vs a dd c oe ds S0 Q hc hr hh hoe hpin e0 hb r hl rs q => ?_⟩
  obtain ⟨oc, od, dV, kV, doc, pm, an, cdv, ct, osl, rfl, lk, hcd, _, _⟩ := F.ex
  have KX : K.In s.heap := e0.mod.kin.keeps fun b o e => (e0.bs b o e).1
  have lim : s.heap.NoLimit := e0.mod.nolimit.keeps fun b o e => (e0.bs b o e).1
  have lps : vs.length = ps.length := by rw [hl, hn]
  have kinds : ∀ y ∈ ps.zip us, scope.names.lookup y.1 = some .local ∨ (scope.names.lookup y.1 = some .cell ∧ ((cellsFrom (s.heap.objs.size + 1) scope.names []).lookup y.1).isSome = true) := fun ⟨n, v⟩ hy => by
    rcases S.par n (List.of_mem_zip hy).1 with q | q
    · exact .inl q
    · exact .inr ⟨q, PySem.W.cellsFrom_some _ _ _ (.inl q)⟩
  refine codeAny_call_function hr.depth (KX _ _ lk) rfl S.co S.gen rfl (PySem.W.codeRec_of KX hcd) (hb _ _ _ _ ?_)
  refine wpAny_newFunctionEnv_cells S.kind kinds fun env he s1 x => ?_
  subst he
  refine ⟨lim.keeps x.toInCall.keep, codeAny_func ?_⟩
  obtain ⟨ve, o1, o2, o3, o4⟩ := hoe
  have hot1 : Hot1 A (a, oe) := ⟨hh, ve, o3, o4⟩
  have hot : HotC (L2H.cxH (L2N.CX P w) P w K mg base N qual scope f cdv A outer s H E00 (a, oe)) := ⟨(a, oe), hot1, List.mem_singleton.mpr rfl⟩
  have pe : PinE (L2H.cxH (L2N.CX P w) P w K mg base N qual scope f cdv A outer s H E00 (a, oe)) a dd c := ⟨oe, ve, List.mem_singleton.mpr rfl, o1, o2, o3, o4⟩
  have body := hbody cdv A outer s H (a, oe) a dd c hc (hr.deeper _) hot pe
  have I : Inv (L2H.cxH (L2N.CX P w) P w K mg base N qual scope f cdv A outer s H E00 (a, oe)) [] (L2.start N vs) H s1 := L2H.inv_startH S hpin e0 lps r x
  have hle : vs.length ≤ N.length := by
    have e2 := congrArg List.length S.pre
    rw [List.length_take] at e2
    omega
  have start : tS K (some (a, dd, c)) W0 m { nx := fun _ H' => Q .non H', rt := Q } (L2.start N vs) H := ⟨(S0, none), H, _, _, repE_start rs hle, post_end0 q⟩
  refine wpAny_mono (body.run [] s1 (L2.start N vs) H _ I start) (fun fl s2 hs => ?_) fun e s2 hs => hs
  have done : ∀ {σ2 : St} {H2 : Hp} {v : V} {u : Value}, Inv (L2H.cxH (L2N.CX P w) P w K mg base N qual scope f cdv A outer s H E00 (a, oe)) [] σ2 H2 s2 → RelV v u → Q v H2 → CE outer P w H s Q u s2 :=
    fun {σ2 H2 v u} J rv q => ⟨v, H2, J.os, J.bare, J.base, J.hok, rv, q⟩
  cases fl with
  | ret u =>
    obtain ⟨v, σ2, H2, J, rv, q⟩ := hs
    exact done J rv q
  | next =>
    obtain ⟨σ2, H2, J, q⟩ := hs
    exact done (v := V.non) (u := Value.none) J rfl q
  | brk =>
    obtain ⟨_, _, _, q⟩ := hs
    exact False.elim q
  | cont =>
    obtain ⟨_, _, _, q⟩ := hs
    exact False.elim q
section
variable {X : Cx} {W : WX} {a : Addr} {dd : Option Addr} {c x : Str} {pos p : Pos} {k n : Nat} {cs : List Str} {g : List D → R D}
/-- f(a, ..) there -/
theorem e_callE {e : Expr} {es : List Expr} {m : EMs} (F : FnE X.prog X.w X.K X.mg X.base k (He.ga X.K x) n cs g) (hc : c ∈ cs) (hr : RoomH k X.A) (hh : X.A.handled = some (.ref a)) (P : PinE X a dd c) (hg : Gl X x) (hm : X.mg x = some (.ref (He.ga X.K x))) (ha : DA X (some (a, dd, c)) W0 (e :: es) m) (hn : CntA n m)
    (hdb : (x == ("__debug__" : Str)) = false := by decide) (he : starEach (e :: es) X.env = (false, eval e X.env) :: starEach es X.env := by rfl) (hpl : (backTo pos (starEach es X.env)).any (·.1) = false := by rfl) :
    DE X (some (a, dd, c)) W0 (.Call (.Name x p) (e :: es) [] pos) (mA g m) := by
  obtain ⟨kp, fd, ps, b, hps, run⟩ := F
  refine ⟨fun pins s σ H Q I h => ?_⟩
  obtain ⟨S, en, r, q⟩ := h
  refine wpAny_Call_Name_kw (ld_glob I hg hm ?_ hdb)
  refine PySem.W.callWith_K (h₀ := X.base) I.ok.mod.kin kp (thn (ha.run pos pins s σ H _ I ⟨S, en, r, posts_len (hn en) (Posts.bd q)⟩) fun us s1 hus => ⟨?_, ?_⟩) he hpl
  · obtain ⟨vs, H1, I1, _⟩ := hus
    exact I1.kIn
  obtain ⟨vs, H1, I1, rv, hl, ds, _, e1, rs, q1⟩ := hus
  obtain ⟨oe, ve, hp, o1, o2, o3, o4⟩ := P
  have P1 := I1.pin (a, oe) (List.mem_append_left _ hp)
  have hpin : PinOk X.stack H1 s1 (a, oe) := ⟨P1.1, P1.2.1, fun hm => (List.mem_cons.mp (I1.stkSub a hm)).elim P1.2.2.1 P1.2.2.2.1, P1.2.2.2.2⟩
  have lus : us.length = ps.length := by rw [← rv.length, hl, hps]
  have b2 := b s1 us I1.kIn (by rw [List.append_nil]; exact lus)
  rw [List.append_nil] at b2
  refine wpAny_call (codeAny_mono (run X.A X.stack s1 H1 us vs a dd c oe ds (Fr S H) Q hc hr hh ⟨ve, o1, o2, o3, o4⟩ hpin I1.env0 b2 rv hl rs ?_) fun res s2 after => ?_)
  · have q1 : Post X.K (some (a, dd, c)) W0 (Fr S H) σ H1 (g ds) Q := q1
    cases hg : g ds with
    | ok d =>
      rw [hg] at q1
      exact q1
    | er c2 ns fs =>
      rw [hg] at q1
      exact q1
    | bad =>
      rw [hg] at q1
      exact q1
  · cases res with
    | error er => exact (passN (X := X) pins σ H1 s1 er s2 I1 after)
    | ok flow =>
      cases flow with
      | ret u => exact I1.after after
      | next => exact after.elim
      | brk => exact after.elim
      | cont => exact after.elim

/-! ### try: body, except C as e: return .. -/
def sTry (i : Nat) (yes : List (Str × Bool)) (mb ms : SM) : SM := fun e => match mb e with
  | .er c ns ds e2 => (match yes.lookup c with
    | some true => (match ms (e2.set i (.fz (.exc c ns ds))) with
      | .rt d => if noX d = true then .rt d else .bad
      | _ => .bad)
    | some false => .er c ns ds e2
    | none => .bad)
  | o => o
theorem s_try {C nm : Str} {i : Nat} {body suite : List Stmt} {b0 : Stmt} {np pos pos2 : Pos} {mb ms : SM} {yes : List (Str × Bool)} (hs : X.stack = X.env :: X.outer) (hf : X.env.frame = some X.env.locals) (hN : X.N.Nodup) (hi : X.N[i]? = some nm) (hln : X.env.kindOf nm = some .local)
    (hgC : Gl X C) (hmC : X.mg C = some (.ref (He.ga X.K C))) (hdC : (C == ("__debug__" : Str)) = false) (tk : L2N.Takes X W)
    (hyes : ∀ q ∈ yes, PySem.W.exmOne X.K (.ref (He.ga X.K q.1)) (.ref (He.ga X.K C)) = some q.2)
    (hb : ∀ (W : WX) (pn : List (Addr × Obj)) (xe : Value → Shared → Prop), L2N.Takes (X.tr pn xe) W → PassesOwn (model X.prog X.w) X.A X.env xe → DSs (X.tr pn xe) none W body mb)
    (hsu : ∀ (a : Addr) (oe : Obj) (dd : Option Addr) (c : Str) (pn : List (Addr × Obj)), c ∈ yes.map (·.1) → PinE (X.suite a ((a, oe) :: pn)) a dd c → DSs (X.suite a ((a, oe) :: pn)) (some (a, dd, c)) W0 (b0 :: suite) ms) :
    DS X none W (.Try body [.ExceptHandler (some (.Name C np)) (some nm) (b0 :: suite) pos2] [] [] pos) (sTry i yes mb ms) := by
  refine PS.imp (L2N.ps_try_as (tb := fun W2 => tS X.K none W2 mb) (ts := fun a cls d D σ H => ∃ c ∈ yes.map (·.1), cls = .ref (He.ga X.K c) ∧ tS X.K (some (a, d, c)) W0 ms D σ H) hs hf hN hi hln ⟨hgC, hdC, .inl hmC⟩ tk (fun W2 pn xe tk2 po => hb W2 pn xe tk2 po) fun a oe cls d pn hz hd => ⟨fun pins s σ H D I h => ?_⟩) fun D σ H h => ?_
  · obtain ⟨c, hc, rfl, h⟩ := h
    obtain ⟨vs, hd⟩ := hd
    exact (hsu a oe d c pn hc ⟨oe, vs, List.mem_cons_self, hz.1, hz.2.1, hd, hz.2.2 vs hd⟩).run pins s σ H D I h
  · obtain ⟨S0, H0, O, e, r, q⟩ := h
    refine ⟨S0, H0, O, e, r, ?_⟩
    unfold sTry at q
    cases ho : mb e with
    | er c ns ds e2 =>
      rw [ho] at q
      simp only at q
      intro O2 dd σ2 H2 r2 x2
      cases hy : yes.lookup c with
      | none =>
        rw [hy] at q
        exact (show False from q).elim
      | some b =>
        rw [hy] at q
        have hmem := lookup_memT hy
        refine ⟨b, hyes _ hmem, fun hb a ha => ?_, fun hb => ?_⟩
        · subst hb
          simp only at q
          refine ⟨c, List.mem_map.mpr ⟨_, hmem, rfl⟩, rfl, S0, H0, _, _, (r2.pxUp (px := some (a, dd, c))).put (i := i) (d := .exc c ns ds) (v := .ref a) ⟨a, dd, rfl, rfl, ?_⟩, ?_⟩
          · rcases x2 with x2 | ⟨dx, fvs, e3, h1, h2, h3⟩
            · exact .inl x2
            · exact .inr ⟨dx, fvs, e3, h1, h2, Reps.pxUp _ _ h3⟩
          · cases hm : ms (e2.set i (.fz (.exc c ns ds))) with
            | rt d =>
              rw [hm] at q
              simp only at q
              split at q
              · rename_i nx
                exact fun v H3 s3 r3 => q v H3 s3 (Rep.pxDn d v nx r3)
              · exact (show False from q).elim
            | nx e3 =>
              rw [hm] at q
              exact (show False from q).elim
            | rtF ds3 =>
              rw [hm] at q
              exact (show False from q).elim
            | br e3 =>
              rw [hm] at q
              exact (show False from q).elim
            | ct e3 =>
              rw [hm] at q
              exact (show False from q).elim
            | er c3 ns3 ds3 e3 =>
              rw [hm] at q
              exact (show False from q).elim
            | bad =>
              rw [hm] at q
              exact (show False from q).elim
        · subst hb
          exact q O2 dd σ2 H2 r2 x2
    | nx e2 =>
      rw [ho] at q
      exact q
    | rt d =>
      rw [ho] at q
      exact q
    | rtF ds =>
      rw [ho] at q
      exact q
    | br e2 =>
      rw [ho] at q
      exact q
    | ct e2 =>
      rw [ho] at q
      exact q
    | bad =>
      rw [ho] at q
      exact q
end
/-- room within the suite -/
theorem roomH_suite {X : Cx} {a : Addr} {pn : List (Addr × Obj)} {k : Nat} (h : Room k X.A) : RoomH k (X.suite a pn).A := ⟨h.dp, h.un⟩
end DL

end
section
set_option Elab.async false
set_option linter.all false
set_option maxRecDepth 100000
namespace DL
open PySem PySem.Spec L2
open PyProof.Rows hiding St
open L2H (HotC)
/-- a list walked -/
def mItL (m : EM) : EnvD → R (List D) := fun e => (m e).bd fun d => match d with
  | .lst ds => .ok ds
  | _ => .bad
section
variable {X : Cx} {px : Px} {W : WX} {pos : Pos}
theorem it_list {K : PySem.W.Frag} {m : EM} {σ : St} {H : Hp} {R : It → Hp → Prop} (h : tDI K px W (mItL m) σ H R) : iList K (tD K px W m) σ H R := by
  obtain ⟨S, e, r, q⟩ := h
  refine ⟨S, e, r, (Post.bdI q).imp fun v H1 ⟨d, _, e1, r1, q1⟩ => ?_⟩
  cases d with
  | lst ds =>
    obtain ⟨a, vs, rfl, h1, h2, h3, h4⟩ := id r1
    exact ⟨a, rfl, ⟨vs, SqL.of h1⟩, q1 _ H1 [.lst ds] [.ref a] (Same.refl _) (Reps.one (r1.mono (Same.refl _) fun _ => Fr.self)) itok_lst⟩
  | _ => exact (show False from q1).elim
/-- a comprehension over a list, within an except suite -/
theorem f_lcH {T : Tg} {m : EM} {mt : EnvD → R Bool} {me : EM} {elt tg iter : Expr} {ifs : List Expr} {scope : Scope} {own : List (Str × Nat)} (hot : HotC X) (nd : X.N.Nodup) (hi : DE X px W iter m) (ok : BlkOk X.N X.env.scope scope own)
    (hix : ∀ i ∈ ixs T, i ∈ own.map (·.2))
    (hg : ∀ (s : Shared) (H : Hp) (C : Addr) (cl : List (Str × Addr)) (fp : List Addr), PG (blkH X s H scope (compEnvC scope cl C X.env) fp) tg (gOf X.K T))
    (ht : ∀ (s : Shared) (H : Hp) (C : Addr) (cl : List (Str × Addr)) (fp : List Addr), PTs (blkH X s H scope (compEnvC scope cl C X.env) fp) ifs (tDB X.K px W0 mt))
    (he : ∀ (s : Shared) (H : Hp) (C : Addr) (cl : List (Str × Addr)) (fp : List Addr), PE (blkH X s H scope (compEnvC scope cl C X.env) fp) elt (tD X.K px W0 me))
    (hs : ∀ x, foldedSetIterable iter X.env x = pure x := by intro _; rfl) : DF X px W (.ListComp elt [⟨tg, iter, ifs, 0⟩] scope pos) (mLc T (own.map (·.2)) (mItL m) mt me) :=
  PE.imp (pe_lcH hot nd (L2H.PIH.mk (pi_listH hi).run) ok hg ht he hs) fun σ H Q h => it_list (lc_t hix h)
end
end DL

end
section
set_option Elab.async false
set_option linter.all false
set_option maxRecDepth 100000
namespace DL
open PySem PySem.Spec L2
open PyProof.Rows hiding St
open He (ga ma eqO eqO_ok ba)

/-! ### the head: what is read behind the top -/
abbrev Fct := PySem.W.Frag → Bool
/-- a def: where it stands, its words, the names that it captured -/
structure DefX where
  at_ : PySem.W.Frag → Addr
  name : Str
  qual : Str
  params : Arguments
  body : List Stmt
  scope : Scope
  cl : List Str := []
abbrev FnV : Type := Option (Str × Str × Arguments × FuncBody × Scope × Addr × List Str × Addr)
def fnV (K : PySem.W.Frag) (f : Addr) : FnV := match K.lookup f with
  | some ⟨_, _, .func fd, _⟩ => some (fd.name, fd.qualname, fd.params, fd.body, fd.scope, fd.globals, fd.closure.map (·.1), fd.builtins)
  | _ => none
def DefX.val (d : DefX) : FnV := some (d.name, d.qual, d.params, .stmts d.body, d.scope, mainGlobals, d.cl, builtinsNs)
def DefX.ok (K : PySem.W.Frag) (d : DefX) : Bool := PySem.W.keepIn K (.ref (d.at_ K)) && (match K.lookup (d.at_ K) with
  | some ⟨_, _, .func fd, _⟩ => PySem.W.codeIn K fd.code d.qual && (match fd.defaults with
    | .none => true
    | _ => false)
  | _ => false)
abbrev AlX : Type := Bool × List FnV
def obsX (fs : List Fct) (fn : List DefX) (K : PySem.W.Frag) : AlX := ((fs.all fun f => f K) && fn.all fun d => d.ok K, fn.map fun d => fnV K (d.at_ K))
def valX (fn : List DefX) : AlX := (true, fn.map DefX.val)
def SaysX (fs : List Fct) (fn : List DefX) (K : PySem.W.Frag) : Prop := obsX fs fn K = valX fn
def asX (g : Addr → Option Obj) : Nat → List Addr
  | 0 => [mainGlobals, cStatics]
  | n + 1 => He.growD g (asX g n)
def obsXG (n : Nat) (fs : List Fct) (fn : List DefX) (g : Addr → Option Obj) : AlX := obsX fs fn (He.frG g (asX g n))
def hookX (n : Nat) (fs : List Fct) (fn : List DefX) : PySem.W.Hook where
  α := AlX
  obs := fun s => obsXG n fs fn s.heap.get?
  val := fun _ => valX fn
  says := fun _ h => ∃ K : PySem.W.Frag, K.In h ∧ SaysX fs fn K
  of := fun _ _ e => ⟨_, He.frG_in, e⟩
  keeps := fun _ _ _ ⟨K, hK, c⟩ k => ⟨K, PySem.W.Frag.In.keeps hK k, c⟩
theorem obsXG_eq {n : Nat} {fs : List Fct} {fn : List DefX} {g : Addr → Option Obj} {s : Shared} (h : ∀ a, g a = s.heap.get? a) : obsXG n fs fn g = (hookX n fs fn).obs s := by
  have e : g = s.heap.get? := funext h
  subst e
  rfl
section
variable {fs : List Fct} {fn : List DefX} {K : PySem.W.Frag}
theorem SaysX.fact (c : SaysX fs fn K) (i : Nat) {f : Fct} (h : fs[i]? = some f) : f K = true := by
  have c1 := (ba (show ((fs.all fun f => f K) && fn.all fun d => d.ok K) = true from congrArg (fun z : AlX => z.1) c)).1
  exact List.all_eq_true.mp c1 f (List.mem_of_getElem? h)
/-- a def without captured names -/
theorem SaysX.def_ (c : SaysX fs fn K) (i : Nat) {d : DefX} (h : fn[i]? = some d) (hc : d.cl = []) : ∃ fd, FunD K d.name d.qual d.params d.body d.scope [] [] (d.at_ K) fd := by
  have c2 := (ba (show ((fs.all fun f => f K) && fn.all fun d => d.ok K) = true from congrArg (fun z : AlX => z.1) c)).2
  have e : fn.map (fun d => fnV K (d.at_ K)) = fn.map DefX.val := congrArg (fun z : AlX => z.2) c
  have e2 : (fn.map fun d => fnV K (d.at_ K))[i]? = (fn.map DefX.val)[i]? := by rw [e]
  rw [List.getElem?_map, List.getElem?_map, h] at e2
  have e3 : fnV K (d.at_ K) = d.val := Option.some.inj e2
  obtain ⟨kp, c3⟩ := ba (List.all_eq_true.mp c2 d (List.mem_of_getElem? h))
  unfold fnV at e3
  cases q : K.lookup (d.at_ K) with
  | none =>
    rw [q] at c3
    cases c3
  | some o =>
    obtain ⟨oc, od, dt, osl⟩ := o
    rw [q] at c3 e3
    cases dt with
    | func fd =>
      obtain ⟨n1, n2, n3, n4, n5, n6, n7, n8, n9, n10, n11, n12, n13, n14, n15⟩ := fd
      have e4 : (some (n1, n2, n3, n4, n5, n6, n7.map (·.1), n15) : FnV) = some (d.name, d.qual, d.params, .stmts d.body, d.scope, mainGlobals, d.cl, builtinsNs) := e3
      simp only [Option.some.injEq, Prod.mk.injEq] at e4
      obtain ⟨h1, h2, h3, h4, h5, h6, h7, h8⟩ := e4
      rw [hc] at h7
      have h7 : n7 = [] := by simpa using h7
      subst h1 h2 h3 h4 h5 h6 h7 h8
      obtain ⟨k1, k2⟩ := ba c3
      cases n8 with
      | none => exact ⟨_, ⟨oc, od, .none, n9, n10, n11, n12, n13, n14, osl, rfl, q, k1, .inl ⟨rfl, rfl⟩, .inl rfl⟩, kp⟩
      | _ => cases k2
    | _ => cases c3
/-- a def that captured one name -/
theorem SaysX.def1 (c : SaysX fs fn K) (i : Nat) {d : DefX} {y : Str} (h : fn[i]? = some d) (hc : d.cl = [y]) : ∃ (oc : Value) (od : Option Addr) (kV doc pm : Value) (an : Option Addr) (cda : Addr) (ct : Value) (osl : Array (Option Value)) (cc : Addr),
    K.lookup (d.at_ K) = some ⟨oc, od, .func (PySem.W.fnX d.name d.qual d.params d.body d.scope [(y, cc)] .none kV doc pm an (.ref cda) ct), osl⟩ ∧ PySem.W.codeIn K (.ref cda) d.qual = true := by
  have c2 := (ba (show ((fs.all fun f => f K) && fn.all fun d => d.ok K) = true from congrArg (fun z : AlX => z.1) c)).2
  have e : fn.map (fun d => fnV K (d.at_ K)) = fn.map DefX.val := congrArg (fun z : AlX => z.2) c
  have e2 : (fn.map fun d => fnV K (d.at_ K))[i]? = (fn.map DefX.val)[i]? := by rw [e]
  rw [List.getElem?_map, List.getElem?_map, h] at e2
  have e3 : fnV K (d.at_ K) = d.val := Option.some.inj e2
  obtain ⟨kp, c3⟩ := ba (List.all_eq_true.mp c2 d (List.mem_of_getElem? h))
  unfold fnV at e3
  cases q : K.lookup (d.at_ K) with
  | none =>
    rw [q] at c3
    cases c3
  | some o =>
    obtain ⟨oc, od, dt, osl⟩ := o
    rw [q] at c3 e3
    cases dt with
    | func fd =>
      obtain ⟨n1, n2, n3, n4, n5, n6, n7, n8, n9, n10, n11, n12, n13, n14, n15⟩ := fd
      have e4 : (some (n1, n2, n3, n4, n5, n6, n7.map (·.1), n15) : FnV) = some (d.name, d.qual, d.params, .stmts d.body, d.scope, mainGlobals, d.cl, builtinsNs) := e3
      simp only [Option.some.injEq, Prod.mk.injEq] at e4
      obtain ⟨h1, h2, h3, h4, h5, h6, h7, h8⟩ := e4
      rw [hc] at h7
      obtain ⟨cc, rfl⟩ : ∃ cc, n7 = [(y, cc)] := by
        cases n7 with
        | nil => cases h7
        | cons p r =>
          cases r with
          | nil =>
            obtain ⟨p1, p2⟩ := p
            have : p1 = y := by simpa using h7
            subst this
            exact ⟨p2, rfl⟩
          | cons _ _ => simp at h7
      subst h1 h2 h3 h4 h5 h6 h8
      obtain ⟨k1, k2⟩ := ba c3
      obtain ⟨cda, rfl⟩ : ∃ c, n13 = .ref c := by
        cases n13 with
        | ref c => exact ⟨c, rfl⟩
        | _ => cases k1
      cases n8 with
      | none => exact ⟨oc, od, n9, n10, n11, n12, cda, n14, osl, cc, rfl, k1⟩
      | _ => cases k2
    | _ => cases c3
end
/-! #### facts -/
/-- the addresses of a static method's def, of a property's getter -/
def sta (K : PySem.W.Frag) (c m : Str) : Addr := match PySem.W.findCls K (.ref (ga K c)) (.type "type") m with
  | some (.get _ (.ref p) _ _) => (match PySem.W.recIn K p "staticmethod" with
    | some (.ref g :: _) => g
    | _ => 0)
  | _ => 0
def pra (K : PySem.W.Frag) (c m : Str) : Addr := match PySem.W.findIn K (.ref (ga K c)) m with
  | some (some (.ref p)) => (match PySem.W.recIn K p "property" with
    | some (.ref g :: _) => g
    | _ => 0)
  | _ => 0
def fGlo (x : Str) : Fct := fun K => (He.Fa.glo x).ok K
def fFree (x : Str) : Fct := fun K => (He.Fa.free x).ok K
def fInt (x : Str) (i : Int) : Fct := fun K => (He.Fa.int x i).ok K
def fCls (x : Str) : Fct := fun K => (He.Fa.cls x).ok K
def fNo (x f : Str) : Fct := fun K => (He.Fa.noat x f).ok K
def fMeth (x m : Str) : Fct := fun K => (He.Fa.meth x m).ok K
def fMkr (x : Str) : Fct := fun K => (He.Fa.mkr x).ok K
def fExc (x : Str) : Fct := fun K => (He.Fa.exc x).ok K
def fExm (x y : Str) (b : Bool) : Fct := fun K => (He.Fa.exm x y b).ok K
def fSta (c m : Str) : Fct := fun K => PySem.W.readsIn K (ga K c) (.type "type") && (eqO (PySem.W.specialIn K (.ref (ga K c)) "__getattribute__") (some (some (.builtin "type.__getattribute__"))) && (match PySem.W.findCls K (.ref (ga K c)) (.type "type") m with
  | some (.get (.builtin i) (.ref p) .none (.ref C)) => decide (i = "staticmethod.__get__") && (decide (C = ga K c) && (match PySem.W.recIn K p "staticmethod" with
    | some (.ref g :: _) => decide (g = sta K c m)
    | _ => false))
  | _ => false))
def fPro (c m : Str) : Fct := fun K => (match PySem.W.findIn K (.ref (ga K c)) m with
  | some (some (.ref p)) => eqO (PySem.W.specialIn K (.ref p) "__get__") (some (some (.builtin "property.__get__"))) && (decide (PySem.W.takesIn K (.ref p) = some true) && (match PySem.W.recIn K p "property" with
    | some (.ref g :: _) => decide (g = pra K c m)
    | _ => false))
  | _ => false)
def fIsO (c : Str) : Fct := fun K => fCls c K && (eqO (PySem.W.findIn K (.ref (ga K c)) "__class__") (some (some (.builtin "object.__class__"))) && (eqO (PySem.W.specialIn K (.builtin "object.__class__") "__get__") (some (some (.builtin "getset_descriptor.__get__"))) &&
  (decide (PySem.W.takesIn K (.builtin "object.__class__") = some true) && decide (PySem.W.mroIn K (ga K c) (.type "object") = some true))))
def fExcC (c : Str) : Fct := fun K => eqO (PySem.W.findIn K (.ref (ga K c)) "__getattribute__") (some (some (.builtin "BaseException.__getattribute__"))) && (eqO (PySem.W.findIn K (.ref (ga K c)) "__getattr__") (some none) && (decide (PySem.W.subIn K (.ref (ga K c)) (.type "BaseException") = some true) &&
  (PySem.W.hasDictIn K (ga K c) && (eqO (PySem.W.findIn K (.ref (ga K c)) "__class__") (some (some (.builtin "object.__class__"))) && (eqO (PySem.W.specialIn K (.builtin "object.__class__") "__get__") (some (some (.builtin "getset_descriptor.__get__"))) &&
  (decide (PySem.W.takesIn K (.builtin "object.__class__") = some true) && decide (PySem.W.mroIn K (ga K c) (.type "object") = some true)))))))
/-- a class in a table: a built-in's name | a class of one's own -/
def clsV (K : PySem.W.Frag) : String ⊕ Str → Value
  | .inl n => .type n
  | .inr c => .ref (ga K c)
/-- who of the table is of the class u: IsO is told apart -/
def fTbl (u : String ⊕ Str) (tbl : Tbl) : Fct := fun K => tbl.all fun p => match p.1 with
  | .b n => decide (PySem.W.kitOne K (.type n) (clsV K u) = some p.2)
  | .o c => decide (PySem.W.kitOne K (.ref (ga K c)) (clsV K u) = some p.2)
  | .x c => decide (PySem.W.kitOne K (.ref (ga K c)) (clsV K u) = some p.2)
def fOex (c : Str) : Fct := fun K => (match K.lookup (ga K c) with
  | some ⟨.type n, _, .cls cd, sl⟩ => decide (n = "type") && (cd.hasDict && (!cd.hasDel && (match cd.mro, sl.toList with
    | .ref C :: bm, [_, _, _, _, some (.builtin i), _] => decide (C = ga K c) && (decide (i = "ValueError.__new__") && PySem.HandSPX.refsVE bm)
    | _, _ => false)))
  | _ => false) && (eqO (PySem.W.findIn K (.ref (ga K c)) "__setattr__") (some (some (.builtin "object.__setattr__"))) && (decide (PySem.W.subIn K (.ref (ga K c)) (.type "BaseException") = some true) && (decide (PySem.W.typeIn K (.ref (ga K c)) = some (.type "type")) && PySem.W.keepIn K (.ref (ga K c)))))
/-- the rest of Ex1: f its field, file the program's file -/
def fEx1 (file : Str) (c f : Str) : Fct := fun K => fOex c K && (eqO (PySem.W.findIn K (.ref (ga K c)) "__init__") (some (some (.ref (ma K (ga K c) "__init__")))) && (decide (PySem.W.typeIn K (.ref (ma K (ga K c) "__init__")) = some (.type "function")) && ((match K.lookup (ma K (ga K c) "__init__") with
  | some ⟨_, _, .func fd, _⟩ => (match fd.code, fd.closure with
    | .ref cda, [(_, cc)] => (match K.lookup cda with
      | some ⟨_, _, .fields vs, _⟩ => (match (vs[2]? : Option Value) with
        | some (Value.str z _) => file == z
        | _ => false)
      | _ => false) && (match K.lookup cc with
      | some ⟨_, _, .cell (some (.ref C)), _⟩ => decide (C = ga K c)
      | _ => false)
    | _, _ => false)
  | _ => false) && (eqO (PySem.W.ks_superIn K (ga K c) (ga K c) "__init__") (some (some (.builtin "ValueError.__init__"))) && (decide (PySem.W.subIn K (.ref (ga K c)) (.type "ValueError") = some true) && (decide (PySem.W.mroIn K (ga K c) (.ref (ga K c)) = some true) &&
  (eqO (PySem.W.nsIn K cStatics "thirdparty.any") (some none) && eqO (PySem.W.findIn K (.ref (ga K c)) f) (some none))))))))
section
variable {K : PySem.W.Frag}
theorem sta_ok {c m : Str} (h : fSta c m K = true) : ∃ p, CSta K (ga K c) (.type "type") m p (sta K c m) := by
  obtain ⟨h1, h⟩ := ba h
  obtain ⟨h2, h⟩ := ba h
  split at h
  · rename_i i p C hf
    obtain ⟨h3, h⟩ := ba h
    obtain ⟨h4, h⟩ := ba h
    split at h
    · rename_i g rest hr
      rw [of_decide_eq_true h3, of_decide_eq_true h4] at hf
      rw [of_decide_eq_true h] at hr
      exact ⟨p, h1, eqO_ok h2, hf, rest, hr⟩
    · cases h
  · cases h
theorem pro_ok {c m : Str} (h : fPro c m K = true) : ∃ p, PropOf K (ga K c) m p (pra K c m) := by
  unfold fPro at h
  split at h
  · rename_i p hf
    obtain ⟨h1, h⟩ := ba h
    obtain ⟨h2, h⟩ := ba h
    split at h
    · rename_i g rest hr
      rw [of_decide_eq_true h] at hr
      exact ⟨p, hf, eqO_ok h1, of_decide_eq_true h2, rest, hr⟩
    · cases h
  · cases h
theorem isO_ok {c : Str} (h : fIsO c K = true) : IsO K (ga K c) := by
  obtain ⟨h1, h⟩ := ba h
  obtain ⟨h2, h⟩ := ba h
  obtain ⟨h3, h⟩ := ba h
  obtain ⟨h4, h5⟩ := ba h
  exact ⟨He.cls_ok h1, eqO_ok h2, eqO_ok h3, of_decide_eq_true h4, of_decide_eq_true h5⟩
theorem excC_ok {c : Str} (h : fExcC c K = true) : ExcC K (ga K c) := by
  obtain ⟨h1, h⟩ := ba h
  obtain ⟨h2, h⟩ := ba h
  obtain ⟨h3, h⟩ := ba h
  obtain ⟨h4, h⟩ := ba h
  obtain ⟨h5, h⟩ := ba h
  obtain ⟨h6, h⟩ := ba h
  obtain ⟨h7, h8⟩ := ba h
  exact ⟨eqO_ok h1, eqO_ok h2, of_decide_eq_true h3, h4, eqO_ok h5, eqO_ok h6, of_decide_eq_true h7, of_decide_eq_true h8⟩
theorem ExcC.xf {c f : Str} (h : ExcC K (ga K c)) (hn : PySem.W.findIn K (.ref (ga K c)) f = some none) : XfOk K c f := ⟨⟨h.hg, h.hk, h.hs, h.hd⟩, hn⟩
def ownIn (ns : List Str) (tbl : Tbl) : Bool := tbl.all fun p => match p.1 with
  | .o c => ns.contains c
  | _ => true
theorem tbl_ok {u : String ⊕ Str} {tbl : Tbl} {ns : List Str} (h : fTbl u tbl K = true) (ho : ∀ c ∈ ns, IsO K (ga K c)) (hn : ownIn ns tbl = true) : TblOk K (clsV K u) tbl := fun p hp => by
  have z := List.all_eq_true.mp h p hp
  have y := List.all_eq_true.mp hn p hp
  obtain ⟨t, b⟩ := p
  cases t with
  | b n => exact of_decide_eq_true z
  | o c => exact ⟨ho c (List.contains_iff_mem.mp y), of_decide_eq_true z⟩
  | x c => exact of_decide_eq_true z
theorem xc0_ok {c : Str} (h : fExc c K = true) : Xc0 K c := by
  obtain ⟨h1, h2, h3, h4⟩ := He.exc_ok h
  exact ⟨h1, h2, h3, h4⟩
theorem oex_ok {c : Str} (h : fOex c K = true) : OexC K (ga K c) := by
  obtain ⟨h0, h⟩ := ba h
  obtain ⟨h1, h⟩ := ba h
  obtain ⟨h2, h⟩ := ba h
  obtain ⟨h3, h4⟩ := ba h
  refine ⟨?_, eqO_ok h1, of_decide_eq_true h2, of_decide_eq_true h3, h4⟩
  split at h0
  · rename_i n dd cd sl hl
    obtain ⟨k1, h0⟩ := ba h0
    obtain ⟨k2, h0⟩ := ba h0
    obtain ⟨k3, h0⟩ := ba h0
    split at h0
    · rename_i C bm c0 c1 c2 c3 i c5 hm hs
      obtain ⟨k4, h0⟩ := ba h0
      obtain ⟨k5, k6⟩ := ba h0
      obtain ⟨nm, bs, mro, ns, qn, hd, sn, sub, ab, col, del⟩ := cd
      dsimp only at hm k2 k3
      have e1 := of_decide_eq_true k1
      have e2 := of_decide_eq_true k4
      have e3 := of_decide_eq_true k5
      have e4 : del = false := by
        cases del with
        | false => rfl
        | true => cases k3
      subst e1 hm k2 e4 e3
      have hsl : sl = #[c0, c1, c2, c3, some (.builtin "ValueError.__new__"), c5] := by
        obtain ⟨l⟩ := sl
        simp only at hs
        rw [hs]
      subst hsl
      rw [e2] at hl
      exact ⟨nm, qn, ns, bs, bm, sn, sub, ab, col, dd, c0, c1, c2, c3, c5, hl, k6⟩
    · cases h0
  · cases h0
theorem ex1_ok {P : Program} {file : Str} {c f : Str} {name qual : Str} {params : Arguments} {body : List Stmt} {scope : Scope} (h : fEx1 file c f K = true) (hf : P.main.file = file)
    (fn : ∃ (oc : Value) (od : Option Addr) (kV doc pm : Value) (an : Option Addr) (cda : Addr) (ct : Value) (osl : Array (Option Value)) (cc : Addr),
      K.lookup (ma K (ga K c) "__init__") = some ⟨oc, od, .func (PySem.W.fnX name qual params body scope [("__class__", cc)] .none kV doc pm an (.ref cda) ct), osl⟩ ∧ PySem.W.codeIn K (.ref cda) qual = true) : Ex1 P K c f name qual params body scope := by
  obtain ⟨h0, h⟩ := ba h
  obtain ⟨h1, h⟩ := ba h
  obtain ⟨h2, h⟩ := ba h
  obtain ⟨h3, h⟩ := ba h
  obtain ⟨h4, h⟩ := ba h
  obtain ⟨h5, h⟩ := ba h
  obtain ⟨h6, h⟩ := ba h
  obtain ⟨h7, h8⟩ := ba h
  refine ⟨oex_ok h0, eqO_ok h1, of_decide_eq_true h2, ?_, eqO_ok h4, of_decide_eq_true h5, of_decide_eq_true h6, eqO_ok h7, eqO_ok h8⟩
  obtain ⟨oc, od, kV, doc, pm, an, cda, ct, osl, cc, lk, cd⟩ := fn
  rw [lk] at h3
  obtain ⟨k1, k2⟩ := ba h3
  refine ⟨oc, od, kV, doc, pm, an, cda, ct, osl, cc, lk, cd, ?_, ?_⟩
  · split at k1
    · rename_i c1 d1 vs sl hl
      split at k1
      · rename_i z t hz
        exact ⟨c1, d1, vs, sl, z, t, hl, hz, by rw [hf]; exact k1⟩
      · cases k1
    · cases k1
  · split at k2
    · rename_i c1 d1 C sl hl
      rw [of_decide_eq_true k2] at hl
      exact ⟨c1, d1, sl, hl⟩
    · cases k2
end
end DL

end
section
set_option Elab.async false
set_option linter.all false
set_option maxRecDepth 100000
namespace DL
open PySem PySem.Spec L2
open PyProof.Rows hiding St
/-- THE RULE for the law's def: its function object is told -/
theorem fnok_of {P : Program} {w : World} {K : PySem.W.Frag} {mg : Str → Option Value} {base : Heap} {x qual : Str} {params : Arguments} {body : List Stmt} {scope : Scope} {f : Addr} {fd : FuncData} {N ps : List Str} {k n : Nat} {m : SM}
    (F : FunD K x qual params body scope [] [] f fd) (S : FnScope N ps scope) (hn : ps.length = n)
    (hbody : ∀ (cdv : Value) (A : Around) (outer : List Env) (s : Shared) (H : Hp) (E : XK), Room k (A.deeper (envOfC qual scope s.heap.objs.size f cdv)) →
      PassesOwn (model P w) (cxOf (L2N.CX P w) P w K mg base N qual scope f cdv A outer s H E).A (cxOf (L2N.CX P w) P w K mg base N qual scope f cdv A outer s H E).env (cxOf (L2N.CX P w) P w K mg base N qual scope f cdv A outer s H E).xe →
      L2N.Takes (cxOf (L2N.CX P w) P w K mg base N qual scope f cdv A outer s H E) (WF E) → DSs (cxOf (L2N.CX P w) P w K mg base N qual scope f cdv A outer s H E) none (WF E) body m) :
    FnOk P w K mg base (L2N.CX P w) (k + 1) f fd ps (SpP K n (runF N.length m)) := by
  refine FunD.ok F S (fun vs H Q E h => by rw [hn]; exact h.len) (fun cdv A outer s H vs Q E hr hsp => ?_)
  refine ⟨_, hbody cdv A outer s H E hr PassesOwn.leaving (L2N.takes_of rfl rfl rfl rfl), ?_⟩
  obtain ⟨S0, ds, hl, r, q⟩ := hsp
  have hle : vs.length ≤ N.length := by
    have e2 := congrArg List.length S.pre
    rw [List.length_take] at e2
    omega
  exact ⟨(S0, none), H, _, _, repE_start r hle, post_end q⟩
theorem fnp_ofC {P : Program} {w : World} {K : PySem.W.Frag} {mg : Str → Option Value} {base : Heap} {x qual : Str} {params : Arguments} {body : List Stmt} {scope : Scope} {f : Addr} {fd : FuncData} {N ps : List Str} {k n : Nat} {m : SM}
    (F : FunD K x qual params body scope [] [] f fd) (S : FnScope N ps scope) (b : Binds K fd ps []) (hn : ps.length = n)
    (hbody : ∀ (cdv : Value) (A : Around) (outer : List Env) (s : Shared) (H : Hp) (E : XK), Room k (A.deeper (envOfC qual scope s.heap.objs.size f cdv)) →
      PassesOwn (model P w) (cxOf (L2N.CX P w) P w K mg base N qual scope f cdv A outer s H E).A (cxOf (L2N.CX P w) P w K mg base N qual scope f cdv A outer s H E).env (cxOf (L2N.CX P w) P w K mg base N qual scope f cdv A outer s H E).xe →
      L2N.Takes (cxOf (L2N.CX P w) P w K mg base N qual scope f cdv A outer s H E) (WF E) → DSs (cxOf (L2N.CX P w) P w K mg base N qual scope f cdv A outer s H E) none (WF E) body m) :
    FnP P w K mg base (k + 1) f n (runF N.length m) := ⟨⟨fd, ps, fnok_of F S hn hbody, b⟩, F.kp⟩
/-- a comprehension lets nothing out -/
theorem takesW0 {X : Cx} : L2N.Takes X W0 := fun _ _ h => by
  obtain ⟨_, _, _, _, _, _, _, _, _, _, _, _, _, _, _, _, z⟩ := h
  exact z.elim
/-- the script, as the law is given it -/
theorem rep_scr {K : PySem.W.Frag} {S : Addr → Prop} {H : Hp} {a : Addr} {ns : List Int} (hO : Only H) (hS : SqL K H a (ns.map V.int)) : Rep K none S H (.scr ns) (.ref a) := by
  refine ⟨a, rfl, ?_⟩
  rcases hS with (h | ⟨o, h⟩) | h
  · rcases hO a with z | ⟨o, xs, z⟩
    · rw [z] at h
      cases h
    · rw [z] at h
      cases h
  · exact .inl ⟨o, h⟩
  · exact .inr (.inr h)
end DL

end
section
set_option Elab.async false
set_option linter.all false
set_option maxRecDepth 100000
namespace DL
open PySem PySem.Spec L2
open PyProof.Rows hiding St
def mHN (m : EM) : SEM := fun e => onlyL (m (hide e))
section
variable {X : Cx} {px : Px} {W : WX} {pos p2 : Pos} {x : Str}
/-- x = a -/
theorem s_set (i : Nat) {a : Expr} {m : SEM} (nd : X.N.Nodup) (h : DX X px W a m) (hi : X.N[i]? = some x := by rfl) (hx : Loc X.env.scope x := by first | exact Or.inl rfl | exact Or.inr rfl) (hs : swapsWith a (some (.Name x p2)) pos.line X.env = pure false := by rfl)
    (hf : X.fn x = true ∨ X.env.scope.names.lookup x = some .local := by first | exact .inl rfl | exact .inr rfl) : DS X px W (.Assign [.Name x p2] a pos) (sSet i m) := s_setP (ps_set nd hi hx h hs hf) fun _ _ _ z => z
/-- x = a, a list that is new -/
theorem s_own (i : Nat) {a : Expr} {m : EM} (nd : X.N.Nodup) (h : DF X px W a m) (hi : X.N[i]? = some x := by rfl) (hx : Loc X.env.scope x := by first | exact Or.inl rfl | exact Or.inr rfl) (hs : swapsWith a (some (.Name x p2)) pos.line X.env = pure false := by rfl)
    (hf : X.fn x = true ∨ X.env.scope.names.lookup x = some .local := by first | exact .inl rfl | exact .inr rfl) : DS X px W (.Assign [.Name x p2] a pos) (sOwn i (mHN m)) := s_ownP (ps_set nd hi hx h hs hf) fun _ _ _ z => hN_t z
theorem s_ownL (i : Nat) {a : Expr} {m : EM} (nd : X.N.Nodup) (h : DF X px W a m) (hi : X.N[i]? = some x := by rfl) (hx : Loc X.env.scope x := by first | exact Or.inl rfl | exact Or.inr rfl) (hs : swapsWith a (some (.Name x p2)) pos.line X.env = pure false := by rfl)
    (hf : X.fn x = true ∨ X.env.scope.names.lookup x = some .local := by first | exact .inl rfl | exact .inr rfl) : DS X px W (.Assign [.Name x p2] a pos) (sOwn i (mLN m)) := s_ownP (ps_set nd hi hx h hs hf) fun _ _ _ z => lN_t z
/-- the same for a comprehension -/
theorem s_setC {st : Stmt} {i : Nat} {m : EM} (h : PS X st (tAsg (tF X.K px W m) (gName i))) : DS X px W st (sSet i (mH m)) := s_setP h fun _ _ _ z => by
  obtain ⟨S, e, r, q⟩ := h_t z
  exact ⟨S, e, r, q.nw⟩
theorem s_setCL {st : Stmt} {i : Nat} {m : EM} (h : PS X st (tAsg (tF X.K px W m) (gName i))) : DS X px W st (sSet i (mL m)) := s_setP h fun _ _ _ z => by
  obtain ⟨S, e, r, q⟩ := l_t z
  exact ⟨S, e, r, q.nw⟩
theorem s_ownC {st : Stmt} {i : Nat} {m : EM} (h : PS X st (tAsg (tF X.K px W m) (gName i))) : DS X px W st (sOwn i (mHN m)) := s_ownP h fun _ _ _ z => hN_t z
theorem s_ownCL {st : Stmt} {i : Nat} {m : EM} (h : PS X st (tAsg (tF X.K px W m) (gName i))) : DS X px W st (sOwn i (mLN m)) := s_ownP h fun _ _ _ z => lN_t z
end
section
variable {P : Program} {w : World} {K : PySem.W.Frag} {mg : Str → Option Value} {base : Heap} {k n : Nat} {c m : Str} {g : List D → R D}
/-- a def as a method -/
theorem methP_of {X : Cx} (cl : Cls X.K (He.ga X.K c)) (me : Meth X.K (He.ga X.K c) m (He.ma X.K (He.ga X.K c) m)) (fn : FnX X k (He.ma X.K (He.ga X.K c) m) n g) : MethP X k c m n g := ⟨cl, me, fn⟩
end
/-- the def of a class's body -/
def inCls (s : Stmt) (j : Nat) : Stmt := match s with
  | .ClassDef _ _ _ body _ _ _ _ _ _ _ => body.getD j (.Pass ⟨0, 0, 0, 0⟩)
  | s => s
/-- nothing is promised -/
theorem fnp_bad {P : Program} {w : World} {K : PySem.W.Frag} {mg : Str → Option Value} {base : Heap} {x qual : Str} {params : Arguments} {body : List Stmt} {scope : Scope} {f : Addr} {fd : FuncData} {ps : List Str} {k n : Nat}
    (F : FunD K x qual params body scope [] [] f fd) (b : Binds K fd ps []) (hn : ps.length = n) : FnP P w K mg base k f n fun _ => .bad :=
  ⟨⟨fd, ps, ⟨fun vs H Q E h => by rw [hn]; exact h.len, fun A outer s H args us vs Q E hr e0 hb r h => by
    obtain ⟨S, ds, _, _, q⟩ := h
    exact q.elim⟩, b⟩, F.kp⟩
theorem hotU {k : Nat} {A : Around} (h : L2H.RoomH k A) : A.units + 64 < cLine := by
  have := h.un
  omega
def mB (m : EM) : EnvD → R Bool := fun e => (m e).bd fun d => match d with
  | .bl b => .ok b
  | _ => .bad
section
variable {X : Cx} {px : Px} {W : WX} {pos p2 : Pos} {x : Str}
/-- a comparison as a test -/
theorem t_cmp {a b : Expr} {op : CmpOp} {r : R2} {f : D → D → R D} {ma mb : EM} (ho : OpR X (compareOp op) r) (hf : Serves2 X px r f) (ha : DE X px W a ma) (hb : DE X px W b mb) (hm : behindInMarks op b = false) : DT X px W (.Compare a [op] [b] pos) (mB (m2 f ma mb)) := by
  refine PT.imp (pt_cmpR ho ha hb hm) fun σ H Q h => ?_
  obtain ⟨S, e, r, q⟩ := h
  have q : PostB X.K px W S σ H (((ma e).bd fun x => (mb e).bd fun y => f x y).bd fun d => match d with
    | .bl b => .ok b
    | _ => .bad) Q := q
  have as1 : (((ma e).bd fun x => (mb e).bd fun y => f x y).bd fun d => match d with
    | D.bl b => R.ok b
    | _ => R.bad) = (ma e).bd fun x => (mb e).bd fun y => (f x y).bd fun d => match d with
    | D.bl b => R.ok b
    | _ => R.bad := by
    cases ma e with
    | ok d =>
      simp only [bd_ok]
      cases mb e <;> rfl
    | _ => rfl
  rw [as1] at q
  refine ⟨S, e, r, (Post.bdB q).imp fun v H1 ⟨d, _, e1, r1, q1⟩ => ?_⟩
  refine ⟨Fr S H, e, r.mono e1 fun _ => Fr.self, (Post.bdB q1).imp fun u H2 ⟨d2, _, e2, r2, q2⟩ => ?_⟩
  refine hf W _ σ H2 _ _ _ _ _ (r1.mono e2 fun _ => Fr.self) r2 ((Post.bdB q2).imp fun z H3 ⟨d3, _, e3, r3, q3⟩ => ?_)
  cases d3 with
  | bl k =>
    cases (show z = .bl k from r3)
    exact ⟨k, rfl, q3 _ (Same.refl _)⟩
  | _ => exact (show False from q3).elim
end
section
variable {X : Cx} {px : Px} {W : WX} {pos : Pos} {i : Nat} {y : Str} {py spos : Pos} {T : Tg} {mi : EnvD → R (List D)} {mt : EnvD → R Bool} {me : EM} {elt tg iter : Expr} {ifs : List Expr} {scope : Scope} {own : List (Str × Nat)}
/-- y = [.. for ..] -/
theorem s_lc (i : Nat) (hc : X.calm = true) (hN : X.N.Nodup) (hi : DI X px W tg iter mi) (ok : BlkOk X.N X.env.scope scope own) (hix : ∀ i ∈ ixs T, i ∈ own.map (·.2))
    (hg : ∀ (s : Shared) (H : Hp) (C : Addr) (cl : List (Str × Addr)) (fp : List Addr), PG (X.blk s H scope (compEnvC scope cl C X.env) fp) tg (gOf X.K T))
    (ht : ∀ (s : Shared) (H : Hp) (C : Addr) (cl : List (Str × Addr)) (fp : List Addr), PTs (X.blk s H scope (compEnvC scope cl C X.env) fp) ifs (tDB X.K px W0 mt))
    (he : ∀ (s : Shared) (H : Hp) (C : Addr) (cl : List (Str × Addr)) (fp : List Addr), PE (X.blk s H scope (compEnvC scope cl C X.env) fp) elt (tD X.K px W0 me))
    (hy : X.N[i]? = some y := by rfl) (hyl : X.env.scope.names.lookup y = some .local := by rfl) (hsw : swapsWith (.ListComp elt [⟨tg, iter, ifs, 0⟩] scope pos) (some (.Name y py)) spos.line X.env = pure true := by exact sw_true rfl rfl rfl (by decide +kernel))
    (hs : ∀ x, foldedSetIterable iter X.env x = pure x := by intro _; rfl) : DS X px W (.Assign [.Name y py] (.ListComp elt [⟨tg, iter, ifs, 0⟩] scope pos) spos) (sSet i (mH (mLc T (own.map (·.2)) mi mt me))) := s_setC (a_lc hc hN hy hyl hsw hi ok hix hg ht he hs)
theorem s_lcL (i : Nat) (hc : X.calm = true) (hN : X.N.Nodup) (hi : DI X px W tg iter mi) (ok : BlkOk X.N X.env.scope scope own) (hix : ∀ i ∈ ixs T, i ∈ own.map (·.2))
    (hg : ∀ (s : Shared) (H : Hp) (C : Addr) (cl : List (Str × Addr)) (fp : List Addr), PG (X.blk s H scope (compEnvC scope cl C X.env) fp) tg (gOf X.K T))
    (ht : ∀ (s : Shared) (H : Hp) (C : Addr) (cl : List (Str × Addr)) (fp : List Addr), PTs (X.blk s H scope (compEnvC scope cl C X.env) fp) ifs (tDB X.K px W0 mt))
    (he : ∀ (s : Shared) (H : Hp) (C : Addr) (cl : List (Str × Addr)) (fp : List Addr), PE (X.blk s H scope (compEnvC scope cl C X.env) fp) elt (tD X.K px W0 me))
    (hy : X.N[i]? = some y := by rfl) (hyl : X.env.scope.names.lookup y = some .local := by rfl) (hsw : swapsWith (.ListComp elt [⟨tg, iter, ifs, 0⟩] scope pos) (some (.Name y py)) spos.line X.env = pure true := by exact sw_true rfl rfl rfl (by decide +kernel))
    (hs : ∀ x, foldedSetIterable iter X.env x = pure x := by intro _; rfl) : DS X px W (.Assign [.Name y py] (.ListComp elt [⟨tg, iter, ifs, 0⟩] scope pos) spos) (sSet i (mL (mLc T (own.map (·.2)) mi mt me))) := s_setCL (a_lc hc hN hy hyl hsw hi ok hix hg ht he hs)
theorem s_lcO (i : Nat) (hc : X.calm = true) (hN : X.N.Nodup) (hi : DI X px W tg iter mi) (ok : BlkOk X.N X.env.scope scope own) (hix : ∀ i ∈ ixs T, i ∈ own.map (·.2))
    (hg : ∀ (s : Shared) (H : Hp) (C : Addr) (cl : List (Str × Addr)) (fp : List Addr), PG (X.blk s H scope (compEnvC scope cl C X.env) fp) tg (gOf X.K T))
    (ht : ∀ (s : Shared) (H : Hp) (C : Addr) (cl : List (Str × Addr)) (fp : List Addr), PTs (X.blk s H scope (compEnvC scope cl C X.env) fp) ifs (tDB X.K px W0 mt))
    (he : ∀ (s : Shared) (H : Hp) (C : Addr) (cl : List (Str × Addr)) (fp : List Addr), PE (X.blk s H scope (compEnvC scope cl C X.env) fp) elt (tD X.K px W0 me))
    (hy : X.N[i]? = some y := by rfl) (hyl : X.env.scope.names.lookup y = some .local := by rfl) (hsw : swapsWith (.ListComp elt [⟨tg, iter, ifs, 0⟩] scope pos) (some (.Name y py)) spos.line X.env = pure true := by exact sw_true rfl rfl rfl (by decide +kernel))
    (hs : ∀ x, foldedSetIterable iter X.env x = pure x := by intro _; rfl) : DS X px W (.Assign [.Name y py] (.ListComp elt [⟨tg, iter, ifs, 0⟩] scope pos) spos) (sOwn i (mHN (mLc T (own.map (·.2)) mi mt me))) := s_ownC (a_lc hc hN hy hyl hsw hi ok hix hg ht he hs)
theorem s_lcOL (i : Nat) (hc : X.calm = true) (hN : X.N.Nodup) (hi : DI X px W tg iter mi) (ok : BlkOk X.N X.env.scope scope own) (hix : ∀ i ∈ ixs T, i ∈ own.map (·.2))
    (hg : ∀ (s : Shared) (H : Hp) (C : Addr) (cl : List (Str × Addr)) (fp : List Addr), PG (X.blk s H scope (compEnvC scope cl C X.env) fp) tg (gOf X.K T))
    (ht : ∀ (s : Shared) (H : Hp) (C : Addr) (cl : List (Str × Addr)) (fp : List Addr), PTs (X.blk s H scope (compEnvC scope cl C X.env) fp) ifs (tDB X.K px W0 mt))
    (he : ∀ (s : Shared) (H : Hp) (C : Addr) (cl : List (Str × Addr)) (fp : List Addr), PE (X.blk s H scope (compEnvC scope cl C X.env) fp) elt (tD X.K px W0 me))
    (hy : X.N[i]? = some y := by rfl) (hyl : X.env.scope.names.lookup y = some .local := by rfl) (hsw : swapsWith (.ListComp elt [⟨tg, iter, ifs, 0⟩] scope pos) (some (.Name y py)) spos.line X.env = pure true := by exact sw_true rfl rfl rfl (by decide +kernel))
    (hs : ∀ x, foldedSetIterable iter X.env x = pure x := by intro _; rfl) : DS X px W (.Assign [.Name y py] (.ListComp elt [⟨tg, iter, ifs, 0⟩] scope pos) spos) (sOwn i (mLN (mLc T (own.map (·.2)) mi mt me))) := s_ownCL (a_lc hc hN hy hyl hsw hi ok hix hg ht he hs)
end
/-- a def may be said to let out more -/
theorem fnok_weak {P : Program} {w : World} {K : PySem.W.Frag} {mg : Str → Option Value} {base : Heap} {C1 C2 : CXT} {k : Nat} {f : Addr} {fd : FuncData} {ps : List Str} {sp : Sp} (F : FnOk P w K mg base C1 k f fd ps sp) (h : ∀ o H s E e s2, C1 o H s E e s2 → C2 o H s E e s2) : FnOk P w K mg base C2 k f fd ps sp :=
  ⟨F.len, fun A outer s H args us vs Q E hr e0 hb r q => codeAny_mono (F.run A outer s H args us vs Q E hr e0 hb r q) fun res s2 z => by
    cases res with
    | error e => exact h _ _ _ _ _ _ z
    | ok fl => cases fl <;> exact z⟩
end DL

end
section
set_option Elab.async false
set_option linter.all false
set_option maxRecDepth 100000
namespace DL
open PySem PySem.Spec L2
open PyProof.Rows hiding St
open He (ga ma eqO eqO_ok ba)
/-! ### tuples of the module's top -/
def litD : D → Value → Bool
  | .int i, .int j _ => decide (i = j)
  | .str s, .str z _ => decide (s = z)
  | .bl a, .bool b => decide (a = b)
  | .non, .none => true
  | _, _ => false
def litDs : List D → List Value → Bool
  | [], [] => true
  | d :: ds, u :: us => litD d u && litDs ds us
  | _, _ => false
def litV : D → V
  | .int i => .int i
  | .str s => .str s
  | .bl b => .bl b
  | _ => .non
theorem litD_rel {d : D} {u : Value} (h : litD d u = true) : RelV (litV d) u ∧ ∀ (K : PySem.W.Frag) (px : Px) (S : Addr → Prop) (H : Hp), Rep K px S H d (litV d) := by
  cases d with
  | int i =>
    cases u with
    | int j t => exact ⟨⟨t, by rw [show i = j from of_decide_eq_true h]⟩, fun _ _ _ _ => rfl⟩
    | _ => cases h
  | str i =>
    cases u with
    | str j t => exact ⟨⟨t, by rw [show i = j from of_decide_eq_true h]⟩, fun _ _ _ _ => rfl⟩
    | _ => cases h
  | bl i =>
    cases u with
    | bool j => exact ⟨by rw [show i = j from of_decide_eq_true h] <;> rfl, fun _ _ _ _ => rfl⟩
    | _ => cases h
  | non =>
    cases u with
    | none => exact ⟨rfl, fun _ _ _ _ => rfl⟩
    | _ => cases h
  | _ => cases u <;> cases h
theorem litDs_rel : ∀ {ds : List D} {us : List Value}, litDs ds us = true → Vals (ds.map litV) us ∧ ∀ (K : PySem.W.Frag) (px : Px) (S : Addr → Prop) (H : Hp), Reps K px S H ds (ds.map litV)
  | [], [], _ => ⟨.nil, fun _ _ _ _ => rfl⟩
  | [], _ :: _, h => by cases h
  | _ :: _, [], h => by cases h
  | d :: ds, u :: us, h => by
    have h : (litD d u && litDs ds us) = true := h
    rw [Bool.and_eq_true] at h
    obtain ⟨a, b⟩ := litD_rel h.1
    obtain ⟨c, e⟩ := litDs_rel h.2
    exact ⟨.cons a c, fun K px S H => ⟨_, _, rfl, b K px S H, e K px S H⟩⟩
def fTup (x : Str) (ds : List D) : Fct := fun K => fGlo x K && (match K.lookup (ga K x) with
  | some ⟨.type n, _, .seq its _, _⟩ => decide (n = "tuple") && (decide (its.size ≤ 1000) && litDs ds its.toList)
  | _ => false)
structure TupG (K : PySem.W.Frag) (mg : Str → Option Value) (x : Str) (ds : List D) : Prop where
  g : mg x = some (.ref (ga K x))
  sq : ∀ H : Hp, SqT K H (ga K x) (ds.map litV)
  rp : ∀ (px : Px) (H : Hp), Reps K px (fun _ => False) H ds (ds.map litV)
  ln : (ds.map litV).length ≤ sizeLine
theorem tup_ok {K : PySem.W.Frag} {h : Heap} {mg : Str → Option Value} {x : Str} {ds : List D} (X : K.In h) (G : h.Ns mainGlobals mg) (q : fTup x ds K = true) : TupG K mg x ds := by
  obtain ⟨q1, q2⟩ := ba q
  have g := He.glo_ok X G q1
  split at q2
  · rename_i n d its m sl ho
    obtain ⟨a1, a2⟩ := ba q2
    obtain ⟨a2, a3⟩ := ba a2
    obtain ⟨v, r⟩ := litDs_rel a3
    have e : n = "tuple" := of_decide_eq_true a1
    subst e
    have ln : its.size ≤ sizeLine := Nat.le_trans (of_decide_eq_true a2) (by show 1000 ≤ sizeLine; rw [sizeLine_eq]; decide)
    refine ⟨g, fun H => .inr ⟨_, its, m, ho, rfl, rfl, ln, v⟩, fun px H => r K px _ H, ?_⟩
    rw [v.length]
    exact ln
  · cases q2
section
variable {X : Cx} {px : Px} {W : WX} {pos : Pos}
theorem e_glTu {x : Str} {ds : List D} (hg : Gl X x) (T : TupG X.K X.mg x ds) (hd : (x == ("__debug__" : Str)) = false := by decide) : DE X px W (.Name x pos) (mC (.tup ds)) :=
  e_glT hg T.g T.sq (T.rp px) T.ln hd
end
/-! ### defs with a star -/
theorem cxUpN {P : Program} {w : World} : StX.CXUp (L2N.CX P w) := by
  rintro outer s H s2 H2 E e s' un kp ho ⟨a, B, H', cls, d, ea, fl, hok, ub, na, os, ag, he⟩
  refine ⟨a, B, H', cls, d, ea, fl, hok, ⟨fun b o q n hb => ub.keep b o (kp b o q) (un.free b o q n (by simp)) hb, fun b o q hb => ub.slot b o (kp b o q) hb, fun b o q n => ub.free b o (kp b o q) (un.free b o q n (by simp)),
    fun b o q hb => ub.there b o (kp b o q) hb, fun b xs q => ub.tups b xs (un.tups b xs q), fun b o xs q => ub.frzs b o xs (un.frzs b o xs q), fun b ps q => ?_⟩, na, os.trans ho, ag, he⟩
  obtain ⟨m1, e1⟩ := un.tbls b ps q
  obtain ⟨m2, e2⟩ := ub.tbls b _ e1
  exact ⟨m1 ++ m2, by rw [e2, Array.append_assoc]⟩
/-- n parameters, then the tuple of the rest -/
def SpV (K : PySem.W.Frag) (n : Nat) (g : List D → R D) : Sp := fun vs H Q E => ∃ S ds es ws rest, vs = ws ++ rest ∧ ws.length = n ∧ Reps K none S H ds ws ∧ Reps K none S H es rest ∧ es.length ≤ sizeLine ∧ Post K none (fun c dd _ H' => E c dd H') S [] H (g (ds ++ [.tup es])) Q
structure FnV' (P : Program) (w : World) (K : PySem.W.Frag) (mg : Str → Option Value) (base : Heap) (k : Nat) (f : Addr) (n : Nat) (g : List D → R D) : Prop where
  ok : FnR P w K mg base (L2N.CX P w) k f (SpV K n g)
  kp : PySem.W.keepIn K (.ref f) = true
theorem fnv_ofC {P : Program} {w : World} {K : PySem.W.Frag} {mg : Str → Option Value} {base : Heap} {x qual pv : Str} {params : Arguments} {body : List Stmt} {scope : Scope} {f : Addr} {fd : FuncData} {N ps : List Str} {k n : Nat} {m : SM}
    (F : FunD K x qual params body scope [] [] f fd) (S : FnScope N (ps ++ [pv]) scope) (hn : ps.length = n)
    (hb : ∀ (kV doc pm : Value) (an : Option Addr) (cdv ct : Value) (us rest : List Value), us.length = ps.length → bindArgs (PySem.W.fnOf x qual params body scope .none kV doc pm an cdv ct) ⟨us ++ rest, []⟩ = (newTuple rest >>= fun t => pure (ps.zip us ++ [(pv, t)])))
    (hbody : ∀ (cdv : Value) (A : Around) (outer : List Env) (s : Shared) (H : Hp) (E : XK), Room k (A.deeper (envOfC qual scope s.heap.objs.size f cdv)) →
      PassesOwn (model P w) (cxOf (L2N.CX P w) P w K mg base N qual scope f cdv A outer s H E).A (cxOf (L2N.CX P w) P w K mg base N qual scope f cdv A outer s H E).env (cxOf (L2N.CX P w) P w K mg base N qual scope f cdv A outer s H E).xe →
      L2N.Takes (cxOf (L2N.CX P w) P w K mg base N qual scope f cdv A outer s H E) (WF E) → DSs (cxOf (L2N.CX P w) P w K mg base N qual scope f cdv A outer s H E) none (WF E) body m) :
    FnV' P w K mg base (k + 1) f n (runF N.length m) := by
  obtain ⟨oc, od, dV, kV, doc, pm, an, cdv, ct, osl, rfl, lk, hcd, hD, hK⟩ := F.ex
  refine ⟨?_, F.kp⟩
  rcases hD with ⟨_, rfl⟩ | ⟨e, _⟩
  · refine FnR.imp (StX.fn_star (sp := SpP K (n + 1) (runF N.length m)) lk hcd S cxUpN (fun us rest hl => hb kV doc pm an cdv ct us rest hl) fun A outer s H vs Q E hr hsp => ?_) fun vs H Q E h => ?_
    · refine ⟨_, hbody cdv A outer s H E hr PassesOwn.leaving (L2N.takes_of rfl rfl rfl rfl), ?_⟩
      obtain ⟨S0, ds, hl, r, q⟩ := hsp
      have hle : vs.length ≤ N.length := by
        have e2 := congrArg List.length S.pre
        rw [List.length_take, List.length_append] at e2
        have e3 : [pv].length = 1 := rfl
        omega
      exact ⟨(S0, none), H, _, _, repE_start r hle, post_end q⟩
    · obtain ⟨S0, ds, es, ws, rest, e, hl, r1, r2, hz, q⟩ := h
      refine ⟨ws, rest, e, hl.trans hn.symm, by rw [← r2.length]; exact hz, fun p hp => ?_⟩
      have sm : Same H (upd H p (.tup rest)) := Same.new hp
      refine ⟨Fr S0 H, ds ++ [.tup es], by rw [List.length_append, hl] <;> rfl, Reps.append (r1.mono sm fun _ => Fr.self) (Reps.one (rep_tup hp (by rw [← r2.length]; exact hz) r2)), Post.later sm q⟩
  · exact absurd rfl e
theorem bind_v1 {fd : FuncData} {p1 pv : Str} (h0 : ∀ a, bindArgs fd ⟨[a], []⟩ = (newTuple [] >>= fun t => pure [(p1, a), (pv, t)])) (h1 : ∀ a r rs, bindArgs fd ⟨a :: r :: rs, []⟩ = (newTuple (r :: rs) >>= fun t => pure [(p1, a), (pv, t)])) :
    ∀ us rest : List Value, us.length = [p1].length → bindArgs fd ⟨us ++ rest, []⟩ = (newTuple rest >>= fun t => pure ([p1].zip us ++ [(pv, t)])) := StX.bind_star1 (B := fun l => bindArgs fd ⟨l, []⟩) h0 h1
theorem bind_v0 {fd : FuncData} {pv : Str} (h0 : bindArgs fd ⟨[], []⟩ = (newTuple [] >>= fun t => pure [(pv, t)])) (h1 : ∀ r rs, bindArgs fd ⟨r :: rs, []⟩ = (newTuple (r :: rs) >>= fun t => pure [(pv, t)])) :
    ∀ us rest : List Value, us.length = ([] : List Str).length → bindArgs fd ⟨us ++ rest, []⟩ = (newTuple rest >>= fun t => pure (([] : List Str).zip us ++ [(pv, t)]))
  | [], [], _ => h0
  | [], r :: rs, _ => h1 r rs
section
variable {X : Cx} {W : WX} {pos : Pos}
theorem posts_up {K : PySem.W.Frag} {S : Addr → Prop} {σ : L2.St} {H : Hp} {r : R (List D)} {px : Px} {Q : List V → Hp → Prop} {n : Nat} (hn : ∀ ds, r = .ok ds → n ≤ ds.length) (h : Posts K px W S σ H r Q) : Posts K px W S σ H r fun vs H' => n ≤ vs.length ∧ Q vs H' := by
  cases r with
  | ok ds => exact fun vs H' e r => ⟨by rw [← r.length]; exact hn ds rfl, h vs H' e r⟩
  | er c ns ds => exact h
  | bad => exact h
/-- the last ones become a tuple -/
def mStar (n : Nat) (g : List D → R D) (ds : List D) : R D := if ds.length ≤ 16777216 then g (ds.take n ++ [.tup (ds.drop n)]) else .bad
/-- f(a, ..), f with a star -/
theorem e_callV {k n c : Nat} {x : Str} {p : Pos} {a : Expr} {es : List Expr} {g : List D → R D} {m : EMs} (F : FnV' X.prog X.w X.K X.mg X.base k (He.ga X.K x) n g) (hr : Room k X.A) (tk : L2N.Takes X W) (hg : Gl X x) (hm : X.mg x = some (.ref (He.ga X.K x))) (ha : DA X none W (a :: es) m) (hn : CntA c m) (hc : n ≤ c)
    (hdb : (x == ("__debug__" : Str)) = false := by decide) (he : starEach (a :: es) X.env = (false, eval a X.env) :: starEach es X.env := by rfl) (hpl : (backTo pos (starEach es X.env)).any (·.1) = false := by rfl) :
    DE X none W (.Call (.Name x p) (a :: es) [] pos) (mA (mStar n g) m) := by
  refine ⟨fun pins s σ H Q I h => ?_⟩
  obtain ⟨S, e, r, q⟩ := h
  refine wpAny_Call_Name_kw (ld_glob I hg hm ?_ hdb)
  refine PySem.W.callWith_K (h₀ := X.base) I.ok.mod.kin F.kp (thn (ha.run pos pins s σ H _ I ⟨S, e, r, posts_up (n := n) (fun ds h => by rw [hn e ds h]; exact hc) (Posts.bd q)⟩) fun us s1 hus => ?_) he hpl
  obtain ⟨vs, H1, I1, rv, hl, xs, ex, e1, r1, q1⟩ := hus
  refine ⟨I1.kIn, ?_⟩
  unfold mStar at q1
  split at q1
  · rename_i hz
    have lx := r1.length
    have hsp : SpV X.K n g vs H1 Q (WE W σ) := by
      refine ⟨Fr S H, xs.take n, xs.drop n, vs.take n, vs.drop n, (List.take_append_drop n vs).symm, by rw [List.length_take]; omega, Reps.take n r1, Reps.drop n r1, ?_, post_sp q1⟩
      rw [List.length_drop]
      exact Nat.le_trans (Nat.sub_le ..) hz
    refine wpAny_call (codeAny_mono (F.ok X.A X.stack s1 H1 us vs Q (WE W σ) hr I1.env0 rv hsp) fun r s' hq => ?_)
    cases r with
    | error e => exact L2N.passAt tk σ pins H1 s1 e s' I1 hq
    | ok fl =>
      cases fl with
      | ret u => exact I1.after hq
      | next => exact False.elim hq
      | brk => exact False.elim hq
      | cont => exact False.elim hq
  · exact (show False from q1).elim
end
end DL

end
section
set_option Elab.async false
set_option linter.all false
set_option maxRecDepth 100000
namespace DL
open PySem PySem.Spec L2
open PyProof.Rows hiding St
/-! ### lists that a def makes and returns -/
section
variable {X : Cx} {px : Px} {W : WX} {pos p : Pos} {K : PySem.W.Frag} {S0 : Reg} {H0 H H' : Hp} {O : Nat → Option Addr} {σ : L2.St} {e : SEnv} {D : Ends}
/-- a list of one's own is returned: it is new -/
def sRetO (i : Nat) : SM := fun e => match e[i]? with
  | some (.ow ds) => .rtF ds
  | _ => .bad
theorem s_retO (i : Nat) {x : Str} (hN : X.N[i]? = some x := by rfl) (hv : Vis X.env.scope x := by first | exact Or.inl rfl | exact Or.inr (Or.inl rfl) | exact Or.inr (Or.inr rfl)) (hd : (x == ("__debug__" : Str)) = false := by decide)
    (hcd : (x == ("__classdict__" : Str)) = false := by decide) : DS X px W (.Return (some (.Name x p)) pos) (sRetO i) := by
  refine PS.imp (ps_ret (pe_var hN hv hd hcd)) fun D σ H ⟨S0, H0, O, e, r, q⟩ => ?_
  unfold sRetO at q
  split at q
  · rename_i ds hds
    obtain ⟨a, vs, o1, o2, o3, o4, o5⟩ := r.ow hds
    exact ⟨.ref a, o2, q a vs H r.same (r.new i a o1) o3 o4 (Reps.mono (Same.refl _) (fun b z => ⟨z.1, fun y => z.2 i (by rw [o1, y])⟩) _ _ o5)⟩
  · exact (show False from q).elim
/-- a new list is returned -/
def sRetF (m : SEM) : SM := fun e => (m e).on e fun d => match d with
  | .lst ds => .rtF ds
  | _ => .bad
theorem onF {r : R DL.D} (r0 : RepE K px S0 H0 O H σ e) (h : PostS K px W S0 H0 D (r.on e fun d => match d with
  | .lst ds => .rtF ds
  | _ => .bad)) : PostN K px W S0 H0 O H σ e r D.rt := by
  cases r with
  | ok d =>
    cases d with
    | lst ds => exact fun a vs H' e1 n ha hl rr => h a vs H' (r0.same.trans e1) (r0.same.free n) ha hl (Reps.mono (Same.refl _) (fun b z => ⟨z.1.1, z.2⟩) _ _ rr)
    | _ => exact (show False from h).elim
  | er c ns ds => exact fun dd H' r q => h O dd σ H' r q
  | bad => exact h
theorem s_retF {a : Expr} {m : EM} (h : DF X px W a m) : DS X px W (.Return (some a) pos) (sRetF (mHN m)) :=
  PS.imp (ps_ret h) fun D σ H ⟨S0, H0, O, e, r, q⟩ => hN_t ⟨S0, H0, O, e, r, onF r q⟩
theorem s_retFL {a : Expr} {m : EM} (h : DF X px W a m) : DS X px W (.Return (some a) pos) (sRetF (mLN m)) :=
  PS.imp (ps_ret h) fun D σ H ⟨S0, H0, O, e, r, q⟩ => lN_t ⟨S0, H0, O, e, r, onF r q⟩
/-- a new list as a value, made with what is owned -/
theorem lX_t {m : EM} {Q : VK} (h : tX K px W (mLN m) σ H Q) : tN K px W (mLN m) σ H Q := by
  obtain ⟨S0, H0, O, e, r, q⟩ := h
  refine ⟨S0, H0, O, e, r, ?_⟩
  unfold mLN at q ⊢
  cases hm : m (lend e) with
  | ok d =>
    rw [hm] at q
    cases d with
    | lst ds =>
      simp only at q ⊢
      split at q
      · rename_i hk
        rw [if_pos hk]
        exact fun a vs H' e1 n ha hl rr => q (.ref a) H' e1 (r.mono e1) ⟨a, vs, rfl, ha, ⟨.inr (r.same.free n), fun i k => r.tr k n⟩, hl, Reps.mono (Same.refl _) (fun b (z : Al S0 H0 O b ∧ b ≠ a) => z.1) _ _ rr⟩
      · exact (show False from q).elim
    | _ => exact (show False from q).elim
  | er c ns ds =>
    rw [hm] at q
    simp only at q ⊢
    split at q
    · rename_i hk
      rw [if_pos hk]
      exact q
    · exact (show False from q).elim
  | bad =>
    rw [hm] at q
    exact (show False from q).elim
theorem x_lN {a : Expr} {m : EM} (h : DF X px W a m) : DX X px W a (mLN m) := PE.imp h fun σ H Q h => lN_t (lX_t h)
end
/-- a def whose answer is a new list (or no list) -/
def SpF (K : PySem.W.Frag) (n : Nat) (f : List D → R D) : Sp := fun vs H Q E => ∃ S ds, vs.length = n ∧ Reps K none S H ds vs ∧ PostF K none (fun c dd _ H' => E c dd H') S [] H (f ds) Q
structure FnF (P : Program) (w : World) (K : PySem.W.Frag) (mg : Str → Option Value) (base : Heap) (k : Nat) (f : Addr) (n : Nat) (g : List D → R D) : Prop where
  ok : ∃ fd ps, FnOk P w K mg base (L2N.CX P w) k f fd ps (SpF K n g) ∧ Binds K fd ps []
  kp : PySem.W.keepIn K (.ref f) = true
theorem FnF.mono {P : Program} {w : World} {K : PySem.W.Frag} {mg : Str → Option Value} {base : Heap} {j k : Nat} {f : Addr} {n : Nat} {g : List D → R D} (F : FnF P w K mg base j f n g) (h : j ≤ k) : FnF P w K mg base k f n g := by
  obtain ⟨⟨fd, ps, F1, b⟩, kp⟩ := F
  exact ⟨⟨fd, ps, F1.mono h, b⟩, kp⟩
theorem FnF.fp {P : Program} {w : World} {K : PySem.W.Frag} {mg : Str → Option Value} {base : Heap} {k : Nat} {f : Addr} {n : Nat} {g : List D → R D} (F : FnF P w K mg base k f n g) : FnP P w K mg base k f n g := by
  obtain ⟨⟨fd, ps, F1, b⟩, kp⟩ := F
  exact ⟨⟨fd, ps, F1.imp fun vs H Q E ⟨S, ds, hl, r, q⟩ => ⟨S, ds, hl, r, q.nw⟩, b⟩, kp⟩
def endFF : Out → R D
  | .nx _ => .ok .non
  | .rt (.lst _) => .bad
  | .rt d => .ok d
  | .rtF ds => .ok (.lst ds)
  | .er c ns ds _ => .er c ns ds
  | _ => .bad
def runFF (n : Nat) (m : SM) (ds : List D) : R D := endFF (m (env0 n ds))
theorem post_endF {K : PySem.W.Frag} {px : Px} {S : Addr → Prop} {H : Hp} {Q : VK} {E : XK} {o : Out} (h : PostF K px (WF E) S [] H (endFF o) Q) : PostS K px (WF E) (S, none) H { nx := fun _ H' => Q .non H', rt := Q } o := by
  cases o with
  | nx e =>
    have h : Post K px (WF E) S [] H (.ok .non) Q := h
    exact fun O σ H' r => h .non H' r.same rfl
  | rt d =>
    cases d with
    | lst ds => exact (show False from h).elim
    | _ => exact h
  | rtF ds => exact fun a vs H' e1 n ha hl rr => h a vs H' e1 n ha hl rr
  | br e => exact (show False from h).elim
  | ct e => exact (show False from h).elim
  | er c ns ds e =>
    have h : Post K px (WF E) S [] H (.er c ns ds) Q := h
    exact fun O dd σ H' r x => h dd H' r.same (x.mono (Same.refl _) fun a z => z.1)
  | bad => exact h
theorem postF_sp {K : PySem.W.Frag} {W : WX} {S : Addr → Prop} {σ : L2.St} {H : Hp} {r : R D} {Q : VK} (h : PostF K none W S σ H r Q) : PostF K none (fun c dd _ H' => WE W σ c dd H') S [] H r Q := by
  cases r with
  | ok d => cases d <;> exact h
  | er c ns ds => exact h
  | bad => exact h
theorem SpF.len {K : PySem.W.Frag} {n : Nat} {f : List D → R D} {vs : List V} {H : Hp} {Q : VK} {E : XK} (h : SpF K n f vs H Q E) : vs.length = n := by
  obtain ⟨S, ds, h, _⟩ := h
  exact h
theorem fnf_ofC {P : Program} {w : World} {K : PySem.W.Frag} {mg : Str → Option Value} {base : Heap} {x qual : Str} {params : Arguments} {body : List Stmt} {scope : Scope} {f : Addr} {fd : FuncData} {N ps : List Str} {k n : Nat} {m : SM}
    (F : FunD K x qual params body scope [] [] f fd) (S : FnScope N ps scope) (b : Binds K fd ps []) (hn : ps.length = n)
    (hbody : ∀ (cdv : Value) (A : Around) (outer : List Env) (s : Shared) (H : Hp) (E : XK), Room k (A.deeper (envOfC qual scope s.heap.objs.size f cdv)) →
      PassesOwn (model P w) (cxOf (L2N.CX P w) P w K mg base N qual scope f cdv A outer s H E).A (cxOf (L2N.CX P w) P w K mg base N qual scope f cdv A outer s H E).env (cxOf (L2N.CX P w) P w K mg base N qual scope f cdv A outer s H E).xe →
      L2N.Takes (cxOf (L2N.CX P w) P w K mg base N qual scope f cdv A outer s H E) (WF E) → DSs (cxOf (L2N.CX P w) P w K mg base N qual scope f cdv A outer s H E) none (WF E) body m) :
    FnF P w K mg base (k + 1) f n (runFF N.length m) := by
  refine ⟨⟨fd, ps, ?_, b⟩, F.kp⟩
  refine FunD.ok F S (fun vs H Q E h => by rw [hn]; exact h.len) (fun cdv A outer s H vs Q E hr hsp => ?_)
  refine ⟨_, hbody cdv A outer s H E hr PassesOwn.leaving (L2N.takes_of rfl rfl rfl rfl), ?_⟩
  obtain ⟨S0, ds, hl, r, q⟩ := hsp
  have hle : vs.length ≤ N.length := by
    have e2 := congrArg List.length S.pre
    rw [List.length_take] at e2
    omega
  exact ⟨(S0, none), H, _, _, repE_start r hle, post_endF q⟩
section
variable {X : Cx} {W : WX} {pos : Pos}
/-- f(a, ..): a new list -/
theorem e_callF {k n : Nat} {x : Str} {p : Pos} {a : Expr} {es : List Expr} {g : List D → R D} {m : EMs} (F : FnF X.prog X.w X.K X.mg X.base k (He.ga X.K x) n g) (hr : Room k X.A) (tk : L2N.Takes X W) (hg : Gl X x) (hm : X.mg x = some (.ref (He.ga X.K x))) (ha : DA X none W (a :: es) m) (hn : CntA n m)
    (hdb : (x == ("__debug__" : Str)) = false := by decide) (he : starEach (a :: es) X.env = (false, eval a X.env) :: starEach es X.env := by rfl) (hpl : (backTo pos (starEach es X.env)).any (·.1) = false := by rfl) :
    DF X none W (.Call (.Name x p) (a :: es) [] pos) (mA g m) := by
  obtain ⟨⟨fd, ps, F1, b⟩, kp⟩ := F
  refine PE.imp (pe_callS F1 hr hg hm kp b (fun σ => L2N.passAt tk σ) ha hdb he hpl) fun σ H Q h => ?_
  obtain ⟨S, e, r, q⟩ := h
  refine ⟨S, e, r, (posts_len (hn e) (Posts.bdF q)).imp fun vs H1 ⟨hl, d, _, e1, r1, q1⟩ => ?_⟩
  exact ⟨_, d, hl, r1, postF_sp q1⟩
end
end DL

end
section
set_option Elab.async false
set_option linter.all false
set_option maxRecDepth 100000
namespace DL
open PySem PySem.Spec L2
open PyProof.Rows hiding St

/-! ### set(xs) of a list of ints, told with its order -/
section
variable {P : Program} {w : World} {A : Around} {E : Value → Shared → Prop} {s : Shared}
/-- the set that is born empty -/
abbrev bornSet (w : World) : Obj := { cls := .type "set", dict := none, data := .set #[] 0 (.fresh 0 0 (!w.params.followText "set-order")) }
abbrev SetAns (w : World) (s : Shared) (ns : List Int) (s2 : Shared) : Prop := ∃ (g : Heap) (tk c : Nat), s2 = { s with heap := g, toks := tk } ∧ SetR w g s.heap.objs.size (fun j => decide (j ∈ ns)) c ∧ c ≤ ns.length ∧ ∀ b o, s.heap.get? b = some o → g.get? b = some o
set_option maxHeartbeats 3200000 in
theorem set_of_list {lx : Addr} {arr : Array Value} (ns : List Int) {Q : Value → Shared → Prop} (hh : A.handled = none) (hx : s.heap.IsList lx arr) (hit : IntsAre arr.toList ns) (hb : ns.length + 1 < scanBound)
    (fin : ∀ s2, SetAns w s ns s2 → Q (.ref s.heap.objs.size) s2) : wpAny (model P w) A (call (.type "set") [.ref lx]) Q E s := by
  have sz : arr.size = ns.length := by rw [← Array.length_toList]; exact IntsAre.length hit
  obtain ⟨cc, ct, hmro⟩ := F.called_set.mro; have u1 := F.called_set.made; have u2 := F.called_set.sub
  refine wpAny_call (codeAny_of_tree (show wpAny _ _ (callAny (.type "set") _) _ _ _ from ?_))
  refine wpAny_pure ⟨Code.quiet_builtin _ (by decide +kernel), codeAny_builtin F.entry_type_call (?_)⟩
  rw [Around.under_plain (weight_type_call_type "set" [.ref lx] []) (rfl)]
  have u3 := F.called_set.notType; have u4 := F.called_set.canCreate; have u5 := F.typeCall_set_1 (.ref lx)
  repeat any_goals (first | assumption | wp_step)

  refine codeAny_mono (code_set_led1 (.ref lx) (E := E) (Q₁ := fun v t => v = .ref s.heap.objs.size ∧ t = { s with heap := s.heap.push (bornSet w) }) ⟨rfl, rfl⟩) fun r t hr => ?_
  cases r with
  | error e => exact hr
  | ok fl =>
    cases fl with
    | ret v =>
      obtain ⟨rfl, rfl⟩ := hr
      have gS : (s.heap.push (bornSet w)).get? s.heap.objs.size = some (bornSet w) := Heap.get?_push_size _ rfl
      have tS : Shared.TypeIs { s with heap := s.heap.push (bornSet w) } (.ref s.heap.objs.size) "set" := ⟨_, gS, rfl⟩
      have u6 := F.called_set.init.lookup; have u7 := F.called_set.init.bind (.ref s.heap.objs.size)
      repeat any_goals (first | assumption | wp_step)

      refine codeAny_mono (codeAny_call_builtin (R := wants (fun r t => r = .none ∧ SetAns w s ns t) E) F.called_set.init.plain F.entry_set_init (check_set_init_1 tS ?_)) fun r2 t2 hr2 => ?_
      · obtain ⟨ol, q1, q2, nl, q3⟩ := hx
        obtain ⟨ocls, odict, odata, oslots⟩ := ol
        simp only at q2 q3
        subst q2 q3
        have q4 : (s.heap.push (bornSet w)).get? lx = some { cls := .type "list", dict := odict, data := .seq arr nl, slots := oslots } := Heap.get?_push_of_some _ q1
        have u8 := F.sub_list_set; have u9 := F.sub_list_frozenset; have nd : (Value.type "list" == Value.type "dict") = false := by decide
        have q5 : (s.heap.push (bornSet w)).IsList lx arr := ⟨_, q4, rfl, nl, rfl⟩
        unfold Builtin.«set.__init__» noKeywords Builtin.Frozenset.updateFrom
        generalize gI : pyIter = PI
        wp_walk
        subst gI

        refine wpAny_pyIter_list q5 (wpAny_bind (wpAny_runValue ?_))
        have lt : lx < s.heap.objs.size := Heap.lt_size q1
        have hh3 : A.in1.in1.in1.handled = none := by simp [hh]
        have zs : (s.heap.push (bornSet w)).objs.size = s.heap.objs.size + 1 := Heap.size_push ..
        have nI : lx ≠ (s.heap.push (bornSet w)).objs.size := by rw [zs]; exact Nat.ne_of_lt (Nat.lt_succ_of_lt lt)
        have nf : s.heap.objs.size ∉ [(s.heap.push (bornSet w)).objs.size, lx] := by
          rw [zs]
          intro z
          rcases List.mem_cons.mp z with z | z
          · exact Nat.ne_of_lt (Nat.lt_succ_self _) z
          · exact Nat.ne_of_gt lt (List.mem_singleton.mp z)
        have hval : ∀ (i : Nat) (v : Value), arr[i]? = some v → ∃ k t, ns[i]? = some k ∧ v = .int k t := fun i v hv => by
          have hi : i < ns.length := by
            rw [← sz]
            exact (Array.getElem?_eq_some_iff.mp hv).1
          obtain ⟨t, e⟩ := IntsAre.int_at hit i v (by rw [Array.getElem?_toList]; exact hv)
          exact ⟨ns[i], t, List.getElem?_eq_getElem hi, by rw [e, List.getD_eq_getElem?_getD, List.getElem?_eq_getElem hi]; rfl⟩
        refine set_update_ints ((Walks.list hh3 _ lx nI arr).toS) s.heap.objs.size nf ns sz hb hval (arr.size - 0) 0 _ (by omega) (Nat.zero_le _) ⟨⟨_, Heap.get?_push_size _ rfl, rfl, rfl⟩, q5.push _⟩ ⟨0, Nat.le_refl 0, setR_new_at (Heap.get?_push_of_some _ gS)⟩ fun t c mv hc hS => ?_
        obtain ⟨g, g2, d2, tk, os2⟩ := t
        have eg : g2 = s.gens := mv.gens
        have ed : d2 = s.drawn := mv.drawn
        have eo : os2 = s.os := mv.os
        subst eg ed eo
        refine (show wpAny _ _ _ _ _ _ from wpAny_pure (show wpAny _ _ (ret Value.none) _ _ _ from ?_))
        rw [sz] at hc
        refine wpAny_pure ⟨rfl, g, tk, c, rfl, hS, hc, fun b o e => ?_⟩
        have b1 : b < s.heap.objs.size := Heap.lt_size e
        refine mv.heap b o ?_ (Heap.get?_push_of_some _ (Heap.get?_push_of_some _ e))
        rw [zs]
        intro z
        rcases List.mem_cons.mp z with z | z
        · exact Nat.ne_of_lt b1 z
        · exact Nat.ne_of_lt (Nat.lt_succ_of_lt b1) (List.mem_singleton.mp z)
      · cases r2 with
        | error e => exact hr2
        | ok f2 =>
          cases f2 with
          | ret r =>
            obtain ⟨rfl, ans⟩ := hr2
            repeat any_goals (first | assumption | wp_step)
            exact fin _ ans
          | _ => exact hr2.elim
    | _ => exact hr.elim
end
section
variable {X : Cx} {px : Px} {W : WX} {pos : Pos}
/-- set(xs), ints in a list or a tuple -/
def rSetI (K : PySem.W.Frag) (w : World) : List V → Hp → VK → Prop := fun xs H Q => ∃ (a : Addr) (ns : List Int), xs = [V.ref a] ∧ (SqL K H a (ns.map V.int) ∨ SqT K H a (ns.map V.int)) ∧ ns.length < 60 ∧ ∀ p c, H p = none → c ≤ ns.length → Q (.ref p) (upd H p (SetO w p (fun j => decide (j ∈ ns)) c))
theorem cr_setI (hc : X.calm = true) : CallR X (.type "set") (rSetI X.K X.w) := by
  intro pins s σ H xs us Q I r h
  obtain ⟨a, ns, rfl, hs, h60, q⟩ := h
  have hb : ns.length + 1 < scanBound := by unfold scanBound; omega
  rw [Vals.ref1 r]
  have fin : ∀ s2, SetAns X.w s ns s2 → EP X pins σ Q (.ref s.heap.objs.size) s2 := fun s2 z => by
    obtain ⟨g, tk, c, rfl, hS, hcn, hk⟩ := z
    exact ⟨.ref _, upd H s.heap.objs.size (SetO X.w s.heap.objs.size (fun j => decide (j ∈ ns)) c), I.laid (t' := tk) hk (Nat.le_refl _) (setO_new hS), rfl, q _ _ (I.hok.fresh (Nat.le_refl _)) hcn⟩
  rcases hs with hs | hs
  · obtain ⟨its, rv, hl, _⟩ := I.list hs
    exact set_of_list ns (I.ok.hd hc) hl.isList (ints_of_vals rv) hb fin
  · obtain ⟨its, rv, pt, hz⟩ := I.tuple hs
    exact call_set_tupI ns (I.ok.hd hc) (show s.heap.IsTuple a its.toArray from pt) (ints_of_vals rv) hb fun g tk c z1 z2 z3 => fin _ ⟨g, tk, c, rfl, z1, z2, z3⟩
/-- sorted, each once -/
def insU (x : Int) : List Int → List Int
  | [] => [x]
  | y :: l => if x < y then x :: y :: l else if x = y then y :: l else y :: insU x l
def sortU : List Int → List Int
  | [] => []
  | x :: l => insU x (sortU l)
theorem mem_insU {x z : Int} : ∀ {l : List Int}, z ∈ insU x l ↔ z = x ∨ z ∈ l
  | [] => by simp [insU]
  | y :: l => by
    unfold insU
    split
    · simp
    · split
      · rename_i h
        subst h
        simp
      · rw [List.mem_cons, mem_insU, List.mem_cons]
        exact ⟨fun h => by rcases h with h | h | h <;> simp [h], fun h => by rcases h with h | h | h <;> simp [h]⟩
theorem sorted_insU {x : Int} : ∀ {l : List Int}, l.Pairwise (· < ·) → (insU x l).Pairwise (· < ·)
  | [], _ => List.pairwise_singleton _ _
  | y :: l, h => by
    have h' := h
    rw [List.pairwise_cons] at h
    unfold insU
    split
    · rename_i q
      refine List.pairwise_cons.mpr ⟨fun z hz => ?_, h'⟩
      rcases List.mem_cons.mp hz with rfl | hz
      · exact q
      · have := h.1 z hz
        omega
    · split
      · exact h'
      · refine List.pairwise_cons.mpr ⟨fun z hz => ?_, sorted_insU h.2⟩
        rcases mem_insU.mp hz with rfl | hz
        · omega
        · exact h.1 z hz
theorem mem_sortU {z : Int} : ∀ {l : List Int}, z ∈ sortU l ↔ z ∈ l
  | [] => Iff.rfl
  | x :: l => by
    show z ∈ insU x (sortU l) ↔ _
    rw [mem_insU, mem_sortU, List.mem_cons]
theorem sorted_sortU : ∀ {l : List Int}, (sortU l).Pairwise (· < ·)
  | [] => .nil
  | x :: l => sorted_insU sorted_sortU
theorem sorted_same : ∀ {x y : List Int}, x.Pairwise (· < ·) → y.Pairwise (· < ·) → (∀ z, z ∈ x ↔ z ∈ y) → x = y
  | [], [], _, _, _ => rfl
  | [], b :: y, _, _, h => absurd ((h b).mpr List.mem_cons_self) (by simp)
  | a :: x, [], _, _, h => absurd ((h a).mp List.mem_cons_self) (by simp)
  | a :: x, b :: y, hx, hy, h => by
    rw [List.pairwise_cons] at hx hy
    have e : a = b := by
      rcases List.mem_cons.mp ((h a).mp List.mem_cons_self) with z | z
      · exact z
      · rcases List.mem_cons.mp ((h b).mpr List.mem_cons_self) with q | q
        · exact q.symm
        · have := hx.1 b q
          have := hy.1 a z
          omega
    subst e
    rw [sorted_same hx.2 hy.2 fun z => ?_]
    constructor
    · intro hz
      rcases List.mem_cons.mp ((h z).mp (List.mem_cons_of_mem _ hz)) with q | q
      · have := hx.1 z hz
        omega
      · exact q
    · intro hz
      rcases List.mem_cons.mp ((h z).mpr (List.mem_cons_of_mem _ hz)) with q | q
      · have := hy.1 z hz
        omega
      · exact q
def dSortSet : D → R D
  | .tup ds => (match intsD ds with
    | some ns => if ns.length < 60 then .ok (.lst ((sortU ns).map .int)) else .bad
    | none => .bad)
  | .lst ds => (match intsD ds with
    | some ns => if ns.length < 60 then .ok (.lst ((sortU ns).map .int)) else .bad
    | none => .bad)
  | _ => .bad
theorem sortSet_of {x r : D} (h : dSortSet x = .ok r) : ∃ ns : List Int, (x = .tup (ns.map .int) ∨ x = .lst (ns.map .int)) ∧ ns.length < 60 ∧ r = .lst ((sortU ns).map .int) := by
  unfold dSortSet at h
  split at h
  · rename_i ds
    split at h
    · rename_i ns e
      split at h
      · rename_i h60
        injection h with h
        exact ⟨ns, .inl (by rw [ints_of e]), h60, h.symm⟩
      · cases h
    · cases h
  · rename_i ds
    split at h
    · rename_i ns e
      split at h
      · rename_i h60
        injection h with h
        exact ⟨ns, .inr (by rw [ints_of e]), h60, h.symm⟩
      · cases h
    · cases h
  · cases h
theorem sortSet_cases (x : D) : (∃ r, dSortSet x = .ok r) ∨ dSortSet x = .bad := by
  unfold dSortSet
  split
  · split
    · split
      · exact .inl ⟨_, rfl⟩
      · exact .inr rfl
    · exact .inr rfl
  · split
    · split
      · exact .inl ⟨_, rfl⟩
      · exact .inr rfl
    · exact .inr rfl
  · exact .inr rfl
theorem reps_intsR {K : PySem.W.Frag} {S : Addr → Prop} {H : Hp} : ∀ {ns : List Int}, Reps K px S H (ns.map .int) (ns.map V.int)
  | [] => rfl
  | n :: ns => ⟨.int n, ns.map V.int, rfl, rfl, reps_intsR⟩
/-- sorted(set(a)) -/
theorem e_sortSet {x y : Str} {p q qpos : Pos} {a : Expr} {ma : EM} (hc : X.calm = true) (hg : Gl X x) (hm : X.mg x = none) (hv : bootBuiltins x = some (.builtin "sorted")) (hg2 : Gl X y) (hm2 : X.mg y = none) (hv2 : bootBuiltins y = some (.type "set")) (ha : DE X px W a ma)
    (hn : x ≠ "__name__" := by decide) (hdb : (x == ("__debug__" : Str)) = false := by decide) (hn2 : y ≠ "__name__" := by decide) (hdb2 : (y == ("__debug__" : Str)) = false := by decide)
    (he : starEach [.Call (.Name y q) [a] [] qpos] X.env = [(false, eval (.Call (.Name y q) [a] [] qpos) X.env)] := by rfl) (he2 : starEach [a] X.env = [(false, eval a X.env)] := by rfl) :
    DE X px W (.Call (.Name x p) [.Call (.Name y q) [a] [] qpos] [] pos) (m1 dSortSet ma) := by
  refine PE.imp (pe_callB (cr_sortedSet hc) hg hm hv (pa_cons (pe_callTy (cr_setI hc) hg2 hm2 hv2 (pa_cons ha pa_nil he2) hn2 hdb2 he2 rfl) pa_nil he) hn hdb he rfl) fun σ H Q h => ?_
  obtain ⟨S, e, r, q⟩ := h
  refine ⟨S, e, r, (Post.bd q).imp fun v H1 ⟨d, _, e1, r1, q1⟩ => ?_⟩
  rcases sortSet_cases d with ⟨ans, ea⟩ | ea
  · rw [ea] at q1
    obtain ⟨ns, hd, h60, rfl⟩ := sortSet_of ea
    have src : ∃ b, v = .ref b ∧ (SqL X.K H1 b (ns.map V.int) ∨ SqT X.K H1 b (ns.map V.int)) := by
      rcases hd with rfl | rfl
      · obtain ⟨b, vs, rfl, h1, h2, h3⟩ := r1
        rw [reps_intsV h3] at h1
        exact ⟨b, rfl, .inr h1⟩
      · obtain ⟨b, vs, rfl, h1, _, h2, h3⟩ := r1
        rw [reps_intsV h3] at h1
        exact ⟨b, rfl, .inl (SqL.of h1)⟩
    obtain ⟨b, rfl, hs⟩ := src
    refine ⟨b, ns, rfl, hs, h60, fun p c hp hcn => ?_⟩
    refine ⟨p, _, c, rfl, upd_same, by omega, fun ns' p2 so mem len hp2 => ?_⟩
    have e2 : ns' = sortU ns := sorted_same so sorted_sortU fun z => by rw [mem z, mem_sortU]; exact decide_eq_true_iff
    subst e2
    have s1 : Same H1 (upd (upd H1 p (SetO X.w p (fun j => decide (j ∈ ns)) c)) p2 (.lst ((sortU ns).map V.int))) := (Same.new hp).trans (Same.new hp2)
    refine q1 (.ref p2) _ s1 ⟨p2, _, rfl, upd_same, .inr ?_, by rw [List.length_map, len]; have := sizeLine_eq; omega, reps_intsR⟩
    have np : p2 ≠ p := fun z => by rw [z, upd_same] at hp2; cases hp2
    rw [upd_ne np] at hp2
    exact hp2
  · rw [ea] at q1
    exact (show False from q1).elim
end
end DL

end
section
set_option Elab.async false
set_option linter.all false
set_option maxRecDepth 100000
namespace DL
open PySem PySem.Spec L2
open PyProof.Rows hiding St

/-! ### xs.index(a) -/
section
variable {X : Cx} {px : Px} {W : WX} {pos : Pos}
def idxD (x : D) : List D → Option Nat
  | [] => none
  | y :: ys => if eqV (valD y) (valD x) = true then some 0 else (idxD x ys).map (· + 1)
theorem idxD_of {x : D} : ∀ {ds : List D} {j : Nat}, idxD x ds = some j → ∃ y, ds[j]? = some y ∧ eqV (valD y) (valD x) = true ∧ ∀ m z, m < j → ds[m]? = some z → eqV (valD z) (valD x) = false
  | [], _, h => by cases h
  | y :: ys, j, h => by
    unfold idxD at h
    split at h
    · rename_i c
      cases h
      exact ⟨y, rfl, c, fun m z hm => absurd hm (Nat.not_lt_zero _)⟩
    · rename_i c
      cases hi : idxD x ys with
      | none => rw [hi] at h; cases h
      | some i =>
        rw [hi] at h
        cases h
        obtain ⟨w, h1, h2, h3⟩ := idxD_of hi
        refine ⟨w, h1, h2, fun m z hm hz => ?_⟩
        cases m with
        | zero =>
          cases hz
          simpa using c
        | succ m => exact h3 m z (Nat.lt_of_succ_lt_succ hm) hz
def dIndex : D → D → R D
  | .lst ds, x => if flatD x = true ∧ ds.all flatD = true then (match idxD x ds with
    | some j => .ok (.int (j : Nat))
    | none => .bad) else .bad
  | _, _ => .bad
theorem dIndex_of {x y r : D} (h : dIndex x y = .ok r) : ∃ ds j, x = .lst ds ∧ flatD y = true ∧ ds.all flatD = true ∧ idxD y ds = some j ∧ r = .int (j : Nat) := by
  cases x with
  | lst ds =>
    have h : (if flatD y = true ∧ ds.all flatD = true then (match idxD y ds with
      | some j => .ok (.int (j : Nat))
      | none => .bad) else .bad) = R.ok r := h
    split at h
    · rename_i c
      cases hj : idxD y ds with
      | none => rw [hj] at h; cases h
      | some j =>
        rw [hj] at h
        injection h with h
        exact ⟨ds, j, rfl, c.1, c.2, hj, h.symm⟩
    · cases h
  | _ => cases h
theorem dIndex_cases (ds : List D) (y : D) : (∃ r, dIndex (.lst ds) y = .ok r) ∨ dIndex (.lst ds) y = .bad := by
  unfold dIndex
  simp only
  split
  · split
    · exact .inl ⟨_, rfl⟩
    · exact .inr rfl
  · exact .inr rfl
def asL : D → R D
  | .lst ds => .ok (.lst ds)
  | _ => .bad
theorem flat_rep1 {K : PySem.W.Frag} {S : Addr → Prop} {H : Hp} {x : D} {v : V} (f : flatD x = true) (r : Rep K px S H x v) : v = valD x ∧ flatV v = true := by
  obtain ⟨h1, h2⟩ := flat_reps (xs := [x]) (vs := [v]) (by simp [f]) (Reps.one r)
  exact ⟨by simpa using h1, by simpa using h2⟩
theorem e_index {o a : Expr} {apos : Pos} {mo ma : EM} (ho : DE X px W o mo) (ha : DE X px W a ma)
    (hb : attributeBase o "index" X.env (eval o X.env) = eval o X.env := by rfl)
    (hf : ((backTo pos (starEach [a] X.env)).all (fun x => !x.1) && (backToKw pos (keywordEach [] X.env)).all (fun x => x.1.isSome) && decide (([a] : List Expr).length + ([] : List Keyword).length + (if ([] : List Keyword).isEmpty then 0 else 1) < 30)) = true := by rfl)
    (hl : (apos.endLine == pos.line) = true := by rfl) (hs : starEach [a] X.env = [(false, eval a X.env)] := by rfl) : DE X px W (.Call (.Attribute o "index" apos) [a] [] pos) (m2 dIndex (m1 asL mo) ma) := by
  refine PE.imp (pe_bm PySem.F.plainAttrs_list PySem.F.slot_list_index PySem.F.type_list_index mt_index ho (pa_cons ha pa_nil hs) hb hf hl hs rfl) fun σ H Q h => ?_
  obtain ⟨S, e, r, q⟩ := h
  refine ⟨S, e, r, (Post.bd (Post.bd q)).imp fun v H1 ⟨d, hmo, e1, r1, q0⟩ => ?_⟩
  cases d with
  | lst ds =>
    have q0 : Post X.K px W (Fr S H) σ H1 (.ok (.lst ds)) _ := q0
    obtain ⟨d', hd', _, _, q1⟩ := Post.ret q0 r1
    rw [hmo] at hd'
    have hd' : R.ok (D.lst ds) = .ok d' := hd'
    injection hd' with hd'
    subst hd'
    obtain ⟨b, vs, rfl, k1, k2, k3, k4⟩ := id r1
    refine ⟨.inl ⟨rfl, vs, SqL.of k1⟩, Fr S H, e, r.mono e1 fun _ => Fr.self, (Post.bd q1).imp fun u H2 ⟨y, _, e2, r2, q2⟩ => ?_⟩
    rcases dIndex_cases ds y with ⟨z, ez⟩ | ez
    · rw [ez] at q2
      obtain ⟨ds', j, hx, f1, f2, hj, rfl⟩ := dIndex_of ez
      cases hx
      obtain ⟨z1, h1, h2, h3⟩ := idxD_of hj
      have k4' := Reps.mono e2 (fun _ w => w) _ _ k4
      obtain ⟨ev, fv⟩ := flat_reps f2 k4'
      obtain ⟨eu, fu⟩ := flat_rep1 f1 r2
      refine ⟨b, vs, u, j, valD z1, rfl, rfl, SqL.of (e2 _ _ k1), fu, fv, by rw [ev, List.getElem?_map, h1]; rfl, by rw [eu]; exact h2, fun m z' hm hz => ?_, Post.ret (d := .int (j : Nat)) q2 rfl⟩
      rw [ev, List.getElem?_map] at hz
      cases hw : ds[m]? with
      | none => rw [hw] at hz; cases hz
      | some w0 =>
        rw [hw] at hz
        cases hz
        rw [eu]
        exact h3 m w0 hm hw
    · rw [ez] at q2
      exact (show False from q2).elim
  | _ => exact (show False from q0).elim
end
end DL

end
section
set_option Elab.async false
set_option linter.all false
set_option maxRecDepth 100000
namespace DL
open PySem PySem.Spec L2
open PyProof.Rows hiding St

/-! ### places told apart by lists of their own -/
section
variable {X : Cx} {px : Px} {W : WX} {pos : Pos} {K : PySem.W.Frag} {S0 : Reg} {H0 H H' : Hp} {O : Nat → Option Addr} {σ : St} {e : SEnv} {D : Ends}
/-- enumerate(t), t a tuple of ints -/
def bEn (K : PySem.W.Frag) (R : It → Hp → Prop) : List V → Hp → Prop := fun vs H1 => match vs with
  | [v] => ∃ (ns : List Int) (a : Addr), v = .ref a ∧ SqT K H1 a (ns.map V.int) ∧ R (ItE K a) H1
  | _ => False
def tEn (K : PySem.W.Frag) (te : TE) : TI := fun σ H R => te σ H fun v H1 => bEn K R [v] H1
theorem pi_enumT {a : Expr} {te : TE} {p tpos : Pos} {elts : List Expr} {kk : Nat} (hg : Gl X "enumerate") (hm : X.mg "enumerate" = none) (ha : PE X a te) (hs : starEach [a] X.env = [(false, eval a X.env)] := by rfl) :
    PI X (.Tuple elts kk tpos) (.Call (.Name "enumerate" p) [a] [] pos) (tEn X.K te) := by
  refine ⟨fun pn s σ H R I h => ?_⟩
  refine Call_ (ld_blt I hg hm PyProof.Rows.boot_enumerate (PyProof.Rows.callWith_type1 (thn ((pa_cons ha pa_nil hs).run pos pn s σ H (bEn X.K R) I h) fun us s1 ⟨vs, H1, I1, rv, q⟩ => ?_) hs rfl))
  match vs, q with
  | [v], ⟨ns, a, ev, hq, q⟩ =>
    subst ev
    obtain ⟨u, rfl, ru⟩ := vals1 rv
    obtain rfl : u = Value.ref a := ru
    obtain ⟨its, _, pt, _⟩ := I1.tuple hq
    have pt2 : s1.heap.IsTuple a its.toArray := pt
    refine enumCall1 (begins_tuple a its.toArray) pt2 fun h2 he hit hk => wpAny_pyIter_enum he ?_
    exact ⟨s1.heap.objs.size + 1, [s1.heap.objs.size + 1, s1.heap.objs.size], _, _, H1, rfl, I1.kept (t' := s1.toks) hk, turn_enumT a (s1.heap.objs.size + 1) s1.heap.objs.size,
      ⟨⟨.none, he⟩, ⟨_, hit, rfl, rfl⟩, Nat.succ_ne_self _⟩, (fun b hb => by
        have z : b = s1.heap.objs.size + 1 ∨ b = s1.heap.objs.size := by simpa using hb
        have le : s1.heap.objs.size ≤ b := by
          rcases z with z | z
          · rw [z]; exact Nat.le_succ _
          · exact Nat.le_of_eq z.symm
        exact I1.fpOk le (I1.hok.fresh le)), q⟩
/-- a slot that holds nothing may hold anything -/
theorem RepE.no (r : RepE K px S0 H0 O H σ e) {i : Nat} (h : e[i]? = some .no) (x : Option V) : RepE K px S0 H0 O H (σ.set i x) e := by
  refine ⟨r.same, by rw [List.length_set]; exact r.len, r.new, r.inj, fun j s hj => ?_, r.out, r.ob⟩
  obtain ⟨y, h1, h2⟩ := r.sl j s hj
  by_cases c : i = j
  · subst c
    rw [h] at hj
    cases hj
    exact ⟨x, set_get (by rw [r.len]; exact lt_of_get h), h2⟩
  · exact ⟨y, by rw [List.getElem?_set_ne c]; exact h1, h2⟩
/-- the places of k -/
def grp (ns : List Int) (k : Nat) : List Int := (ns.zipIdx.filter fun p => decide (p.1 = (k : Int))).map fun p => (p.2 : Int)
theorem grp_succ {ns : List Int} {i k : Nat} {x : Int} (h : ns[i]? = some x) : grp (ns.take (i + 1)) k = if x = (k : Int) then grp (ns.take i) k ++ [(i : Int)] else grp (ns.take i) k := by
  have hi := (List.getElem?_eq_some_iff.mp h).1
  unfold grp
  rw [List.take_add_one, h, List.zipIdx_append, List.filter_append, List.map_append, List.length_take, Nat.min_eq_left (Nat.le_of_lt hi)]
  by_cases c : x = (k : Int)
  · simp [c]
  · simp [c]
theorem grp_len (ns : List Int) (k : Nat) : (grp ns k).length ≤ ns.length := by
  unfold grp
  rw [List.length_map]
  exact Nat.le_trans (List.length_filter_le _ _) (by rw [List.length_zipIdx]; exact Nat.le_refl _)
def grpO (ic : Nat) (n : Nat) (e : SEnv) : DL.D → Out
  | .tup ds => (match intsD ds with
    | some ns => if n ≤ 1000 ∧ ns.length ≤ 1000 ∧ (ns.all fun r => decide (0 ≤ r ∧ r < (n : Int))) = true then .nx (e.set ic (.fz (.lst ((List.range n).map fun k => .lst ((grp ns k).map .int))))) else .bad
    | none => .bad)
  | _ => .bad
def isNo : Option Sl → Bool
  | some .no => true
  | _ => false
theorem isNo_of {o : Option Sl} (h : isNo o = true) : o = some .no := by
  unfold isNo at h
  split at h
  · rfl
  · cases h
/-- c = [[] for .. in i1]; for w, r in enumerate(a): c[r].append(w) -/
def sGrp (ic iw ir : Nat) (m1 : SEnv → R (List DL.D)) (m2 : SEM) : SM := fun e => if isNo e[ic]? = true ∧ isNo e[iw]? = true ∧ isNo e[ir]? = true then (m1 e).on e fun its => if its.length ≤ 1000 then (m2 e).on e (grpO ic its.length e) else .bad else .bad
theorem sqt_upd {K : PySem.W.Frag} {H : Hp} {a b : Addr} {xs ys zs : List V} (h : SqT K H a xs) (hb : H b = some (.lst ys)) : SqT K (upd H b (.lst zs)) a xs := by
  have n : ∀ o, H a = some o → (∀ l, o ≠ .lst l) → upd H b (.lst zs) a = some o := fun o ho k => by
    rw [upd_ne fun z => by rw [z, hb] at ho; cases ho; exact k _ rfl]
    exact ho
  rcases h with (h | ⟨o, h⟩) | h
  · exact Or.inl (Or.inl (n _ h fun l z => by cases z))
  · exact Or.inl (Or.inr ⟨o, n _ h fun l z => by cases z⟩)
  · exact Or.inr h
/-- the lists at A: one for each of gs -/
structure Nest (H1 H : Hp) (A : Addr) (bs : List Addr) (g : Nat → List Int) : Prop where
  same : Same H1 H
  nA : H1 A = none
  at_ : H A = some (.lst (bs.map V.ref))
  nd : bs.Nodup
  new : ∀ b ∈ bs, H1 b = none ∧ b ≠ A
  sub : ∀ (k : Nat) (b : Addr), bs[k]? = some b → H b = some (.lst ((g k).map V.int))
theorem Nest.mono {H1 H H' : Hp} {A : Addr} {bs : List Addr} {g : Nat → List Int} (n : Nest H1 H A bs g) (s : Same H H') : Nest H1 H' A bs g :=
  ⟨n.same.trans s, n.nA, s _ _ n.at_, n.nd, n.new, fun k b h => s _ _ (n.sub k b h)⟩
theorem Nest.rep {H1 : Hp} {A : Addr} {bs : List Addr} {g : Nat → List Int} (n : Nest H1 H A bs g) (r : RepE K px S0 H0 O H1 σ e) (hl : bs.length ≤ 1000) (gl : ∀ k, (g k).length ≤ 1000) : Rep K px (Al S0 H0 O) H (.lst ((List.range bs.length).map fun k => .lst ((g k).map .int))) (.ref A) := by
  have al : ∀ a, H1 a = none → Al S0 H0 O a := fun a h => ⟨.inr (r.same.free h), fun i q => r.tr q h⟩
  have sl := sizeLine_eq
  refine ⟨A, bs.map V.ref, rfl, n.at_, al A n.nA, by rw [List.length_map]; omega, ?_⟩
  have key : ∀ (l : List Addr) (i : Nat), (∀ k b, l[k]? = some b → bs[i + k]? = some b) → Reps K px (Al S0 H0 O) H ((List.range' i l.length).map fun k => D.lst ((g k).map .int)) (l.map V.ref) := by
    intro l
    induction l with
    | nil => exact fun _ _ => rfl
    | cons b l ih =>
      intro i hb
      have h0 := hb 0 b rfl
      refine ⟨.ref b, l.map V.ref, rfl, ⟨b, (g i).map V.int, rfl, n.sub i b h0, al b (n.new b (List.mem_of_getElem? h0)).1, by rw [List.length_map]; have := gl i; omega, reps_intsR⟩, ih (i + 1) fun k b' hk => ?_⟩
      have := hb (k + 1) b' (by simpa using hk)
      rw [show i + 1 + k = i + (k + 1) by omega]
      exact this
  have := key bs 0 fun k b h => by rw [Nat.zero_add]; exact h
  rw [← List.range_eq_range'] at this
  exact this
end
end DL

end
section
set_option Elab.async false
set_option linter.all false
set_option maxRecDepth 100000
namespace DL
open PySem PySem.Spec L2
open PyProof.Rows hiding St

section
variable {X : Cx} {px : Px} {W : WX} {pos : Pos} {K : PySem.W.Frag} {S0 : Reg} {H0 H H' : Hp} {O : Nat → Option Addr} {σ : St} {e : SEnv} {D : Ends}
theorem onX' {r : R DL.D} {f : DL.D → Out} (h : PostS K px W S0 H0 D (r.on e f)) : PostX K px W S0 H0 O H σ e r fun v H' => ∃ d, r = .ok d ∧ Same H H' ∧ RepE K px S0 H0 O H' σ e ∧ Rep K px (Al S0 H0 O) H' d v ∧ PostS K px W S0 H0 D (f d) := onX h
/-- the empty lists are made -/
theorem nest_lc {T : Tg} {mi : SEnv → R (List DL.D)} {own : List (Str × Nat)} (hix : ∀ i ∈ ixs T, i ∈ own.map (·.2)) {Q : VK} (r : RepE K px S0 H0 O H σ e) (hT : ∀ d : DL.D, ∃ l, flat T d = some l)
    (q : PostXI K px W S0 H0 O H σ e (mi e) fun J H1 => ∃ items sd sv, mi e = .ok items ∧ RepE K px S0 H0 O H1 σ e ∧ Reps K px (Al S0 H0 O) H1 sd sv ∧ ItOk K px J items sd sv ∧ items.length ≤ 1000 ∧ ∀ A bs H2, bs.length = items.length → Nest H1 H2 A bs (fun _ => []) → Q (.ref A) H2) :
    tLc (tXI K px W mi) (gOf K T) tYes (tLst tNil) (own.map (·.2)) σ H Q := by
  refine ⟨S0, H0, O, e, r, q.imp fun J H1 ⟨items, sd, sv, hm, r1, rs, iok, hl, fin⟩ => ?_⟩
  intro A hA
  have sl := sizeLine_eq
  let S2 : Addr → Prop := fun a => Al S0 H0 O a ∧ a ≠ A
  have rs2 : Reps K px S2 H1 sd sv := Reps.trk (fun a h1 h2 => ⟨h1, fun z => h2 (by rw [z]; exact hA)⟩) _ _ rs
  refine ⟨fun i m H' => m = items.length - i ∧ i ≤ items.length ∧ ∃ bs, bs.length = i ∧ Nest H1 H' A bs (fun _ => []), ⟨_, rfl, Nat.zero_le _, [], rfl, ⟨Same.new hA, hA, upd_same, List.nodup_nil, (fun b hb => nomatch hb), fun k b hb => by cases hb⟩⟩, ?_⟩
  rintro i m H' ⟨rfl, hi', bs, hb, N⟩
  have rsH : Reps K px S2 H' sd sv := Reps.mono N.same (fun a h => h) _ _ rs2
  by_cases hlt : i < items.length
  · refine .inr ⟨iok.go S2 i H' rsH hlt, fun H3 => items.length - (i + 1) < items.length - i ∧ ∃ bs, bs.length = i + 1 ∧ Nest H1 H3 A bs (fun _ => []), fun H3 ⟨h1, h2⟩ => ⟨_, h1, rfl, hlt, h2⟩, fun x H3 y => ?_⟩
    have hget : items[i]? = some items[i] := by simp [hlt]
    obtain ⟨s3, rx⟩ := iok.yld S2 i H' items[i] rsH hget x H3 y
    obtain ⟨l, hfl⟩ := hT items[i]
    refine g_run T items[i] x l _ _ rx hfl fun lv gl => ?_
    have hix2 : ∀ j ∈ lv.map (·.1), j ∈ own.map (·.2) := fun j hj => by
      rw [gl.ix, flat_ix T _ l hfl] at hj
      exact hix j hj
    refine ⟨by rw [wipe_setV hix2, wipe_wipe], ?_⟩
    have N3 := N.mono s3
    unfold tYes
    simp only [if_true]
    refine ⟨Nat.zero_le _, fun p hp => ?_⟩
    have pA : p ≠ A := fun z => by rw [z, N3.at_] at hp; cases hp
    have pb : ∀ b ∈ bs, p ≠ b := fun b hb z => by
      obtain ⟨k, hk⟩ := List.getElem?_of_mem hb
      rw [z, N3.sub k b hk] at hp
      cases hp
    have p1 : H1 p = none := N3.same.free hp
    have hpu : upd H3 p (HO.lst []) A = some (.lst (bs.map V.ref)) := by rw [upd_ne (Ne.symm pA)]; exact N3.at_
    refine ⟨bs.map V.ref, hpu, by rw [List.length_map]; omega, by omega, bs ++ [p], by rw [List.length_append, hb]; rfl, ?_⟩
    refine ⟨fun b u hu => ?_, hA, by rw [upd_same, List.map_append]; rfl, ?_, fun b hb' => ?_, fun k b hk => ?_⟩
    · have nb : b ≠ A := fun z => by rw [z, hA] at hu; cases hu
      have np : b ≠ p := fun z => by rw [z, p1] at hu; cases hu
      rw [upd_ne nb, upd_ne np]
      exact N3.same _ _ hu
    · refine List.nodup_append.mpr ⟨N3.nd, (by simp), fun a ha b hb' => ?_⟩
      rw [List.mem_singleton.mp hb']
      exact Ne.symm (pb a ha)
    · rcases List.mem_append.mp hb' with z | z
      · exact N3.new b z
      · rw [List.mem_singleton.mp z]
        exact ⟨p1, pA⟩
    · by_cases c : k < bs.length
      · rw [List.getElem?_append_left c] at hk
        have mb := List.mem_of_getElem? hk
        rw [upd_ne (N3.new b mb).2, upd_ne (Ne.symm (pb b mb))]
        exact N3.sub k b hk
      · rw [List.getElem?_append_right (by omega)] at hk
        have e : b = p := by
          have := List.mem_of_getElem? hk
          exact List.mem_singleton.mp this
        subst e
        rw [upd_ne pA, upd_same]
        rfl
  · have he : i = items.length := by omega
    refine .inl ⟨iok.stop S2 _ H' rsH (by omega), fin A bs H' (by omega) N⟩
theorem at_nat' {α : Type} {l : List α} {i : Nat} {x : α} (h : l[i]? = some x) : atI l (i : Int) = some x := by
  have hi := lt_of_get h
  unfold atI ixN
  rw [if_pos (by omega), if_pos (by omega)]
  simpa using h
/-- what the loop over the numbers does to the lists -/
theorem nest_for {ic iw ir n : Nat} {mr : SEnv → R DL.D} {H1 : Hp} {A : Addr} {bs : List Addr} (r : RepE K px S0 H0 O H1 σ e) (hc : e[ic]? = some .no) (hw : e[iw]? = some .no) (hr : e[ir]? = some .no) (hcw : ic ≠ iw) (hcr : ic ≠ ir) (hwr : iw ≠ ir)
    (N : Nest H1 H A bs (fun _ => [])) (hb : bs.length = n) (q : PostS K px W S0 H0 D ((mr e).on e (grpO ic n e))) :
    tFor (tEn K (tX K px W mr)) (gOf K (.tp [.nm iw, .nm ir])) (tDrop (tBM K "list" rAppend (tOp (rIxL K) (tVar ic) (tVar ir)) (tCons (tVar iw) tNil))) D (σ.set ic (some (.ref A))) H := by
  have sl := sizeLine_eq
  have lc : ic < σ.length := by rw [r.len]; exact lt_of_get hc
  have lw : iw < σ.length := by rw [r.len]; exact lt_of_get hw
  have lr : ir < σ.length := by rw [r.len]; exact lt_of_get hr
  refine ⟨S0, H0, O, e, (r.no hc _).mono N.same, (onX q).imp fun v H2 ⟨d, _, s2, _, rv, q⟩ => ?_⟩
  cases d with
  | tup ds =>
    unfold grpO at q
    simp only at q
    cases hi : intsD ds with
    | none => rw [hi] at q; exact (show False from q).elim
    | some ns =>
      rw [hi] at q
      simp only at q
      have hds := ints_of hi
      split at q
      case isFalse => exact (show False from q).elim
      rename_i hcond
      obtain ⟨hn1, hn2, hall⟩ := hcond
      have hrng : ∀ k ∈ ns, 0 ≤ k ∧ k < (n : Int) := fun k hk => of_decide_eq_true (List.all_eq_true.mp hall k hk)
      rw [hds] at rv
      obtain ⟨t, vs, rfl, ht, hvl, hvr⟩ := rv
      rw [reps_intsV hvr] at ht
      refine ⟨ns, t, rfl, ht, ?_⟩
      have N2 := N.mono s2
      have iok := itok_enumT (K := K) (px := px) (ds := ns.map DL.D.int) (a := t)
      have ilen : ((ns.map DL.D.int).zipIdx.map fun p => DL.D.tup [.int (p.2 : Nat), p.1]).length = ns.length := by rw [List.length_map, List.length_zipIdx, List.length_map]
      have rsOf : ∀ G : Hp, SqT K G t (ns.map V.int) → Reps K px (fun _ => True) G [.tup (ns.map .int)] [.ref t] := fun G h => Reps.one ⟨t, _, rfl, h, by rw [List.length_map]; omega, reps_intsR⟩
      refine ⟨fun i m σ' G => m = ns.length - i ∧ i ≤ ns.length ∧ SqT K G t (ns.map V.int) ∧ Nest H1 G A bs (grp (ns.take i)) ∧ ∃ x y, σ' = ((σ.set ic (some (.ref A))).set iw x).set ir y, ?_, ?_⟩
      · have g0 : grp (ns.take 0) = fun _ => [] := by funext k; simp [grp]
        obtain ⟨x, hx⟩ := get_lt lw
        obtain ⟨y, hy⟩ := get_lt lr
        refine ⟨_, rfl, Nat.zero_le _, ht, by rw [g0]; exact N2, x, y, ?_⟩
        apply List.ext_getElem?
        intro j
        by_cases c1 : ir = j
        · subst c1
          rw [List.getElem?_set_self (by rw [List.length_set, List.length_set]; exact lr), List.getElem?_set_ne hcr, hy]
        · rw [List.getElem?_set_ne c1]
          by_cases c2 : iw = j
          · subst c2
            rw [List.getElem?_set_self (by rw [List.length_set]; exact lw), List.getElem?_set_ne hcw, hx]
          · rw [List.getElem?_set_ne c2]
      · rintro i m σ' G ⟨rfl, hi', hsq, NG, x0, y0, rfl⟩
        by_cases hlt : i < ns.length
        · refine .inr ⟨iok.go _ i G (rsOf G hsq) (by rw [ilen]; exact hlt), fun σ2 G2 => SqT K G2 t (ns.map V.int) ∧ Nest H1 G2 A bs (grp (ns.take (i + 1))) ∧ ∃ x y, σ2 = ((σ.set ic (some (.ref A))).set iw x).set ir y, fun σ2 G2 h => ⟨_, by omega, rfl, hlt, h⟩, fun x G3 y => ?_⟩
          have hget : ns[i]? = some ns[i] := List.getElem?_eq_getElem hlt
          have hit : ((ns.map DL.D.int).zipIdx.map fun p => DL.D.tup [.int (p.2 : Nat), p.1])[i]? = some (.tup [.int (i : Nat), .int ns[i]]) := by
            rw [List.getElem?_map, List.getElem?_zipIdx, List.getElem?_map, hget]
            simp
          obtain ⟨s3, rx⟩ := iok.yld _ i G _ (rsOf G hsq) hit x G3 y
          refine g_run (.tp [.nm iw, .nm ir]) _ x [(iw, .int (i : Nat)), (ir, .int ns[i])] _ _ rx (by simp [flat, flats]) fun lv gl => ?_
          have elv : lv = [(iw, V.int (i : Nat)), (ir, V.int ns[i])] := by
            have h1 := gl.ix
            obtain ⟨v1, w1, e1, hv1, v2, w2, e2, hv2, e3⟩ := gl.rp
            have hv1 : v1 = V.int (i : Nat) := hv1
            have hv2 : v2 = V.int ns[i] := hv2
            have e3 : w2 = [] := e3
            subst e3 hv1 hv2
            rw [e2] at e1
            match lv, h1, e1 with
            | [(a1, b1), (a2, b2)], h1, e1 =>
              simp only [List.map_cons, List.map_nil, List.cons.injEq, and_true] at h1 e1
              rw [h1.1, h1.2, e1.1, e1.2]
          rw [elv]
          have N3 := NG.mono s3
          have hk := hrng ns[i] (List.mem_of_getElem? hget)
          obtain ⟨b, hbk⟩ := get_lt (show ns[i].toNat < bs.length by omega)
          have hbs := N3.sub _ _ hbk
          have σc : (setV (((σ.set ic (some (.ref A))).set iw x0).set ir y0) [(iw, V.int (i : Nat)), (ir, V.int ns[i])]) = (((((σ.set ic (some (.ref A))).set iw x0).set ir y0).set iw (some (V.int (i : Nat)))).set ir (some (V.int ns[i]))) := rfl
          rw [σc]
          refine ⟨.ref A, ?_, .int ns[i], ?_, A, bs.map V.ref, ns[i], .ref b, rfl, rfl, SqL.of N3.at_, ?_, .inl ⟨rfl, _, SqL.of hbs⟩, .int (i : Nat), ?_, b, _, .int (i : Nat), rfl, rfl, hbs, ?_, ?_⟩
          · rw [List.getElem?_set_ne (Ne.symm hcr), List.getElem?_set_ne (Ne.symm hcw), List.getElem?_set_ne (Ne.symm hcr), List.getElem?_set_ne (Ne.symm hcw), List.getElem?_set_self lc]
          · exact List.getElem?_set_self (by simp only [List.length_set]; exact lr)
          · have : atI (bs.map V.ref) ((ns[i].toNat : Nat) : Int) = some (.ref b) := at_nat' (by rw [List.getElem?_map, hbk]; rfl)
            rw [Int.toNat_of_nonneg hk.1] at this
            exact this
          · rw [List.getElem?_set_ne (Ne.symm hwr)]
            exact List.getElem?_set_self (by simp only [List.length_set]; exact lw)
          · rw [List.length_map]
            have := grp_len (ns.take i) ns[i].toNat
            have := List.length_take_le i ns
            omega
          · refine ⟨sqt_upd (sqt_same s3 hsq) hbs, ?_, some (V.int (i : Nat)), some (V.int ns[i]), ?_⟩
            · have mb := List.mem_of_getElem? hbk
              refine ⟨fun a u hu => ?_, NG.nA, by rw [upd_ne (Ne.symm (N3.new b mb).2)]; exact N3.at_, N3.nd, N3.new, fun k b' hk' => ?_⟩
              · have nb : a ≠ b := fun z => by rw [z, (N3.new b mb).1] at hu; cases hu
                rw [upd_ne nb]
                exact N3.same _ _ hu
              · rw [grp_succ hget]
                by_cases c : b' = b
                · subst c
                  have ek : k = ns[i].toNat := by
                    have l1 := (List.getElem?_eq_some_iff.mp hk').1
                    exact (List.getElem?_inj l1 N3.nd).mp (by rw [hk', hbk])
                  rw [upd_same, if_pos (by rw [ek]; omega), List.map_append, ek]
                  rfl
                · rw [upd_ne c, if_neg fun z => c (by
                    have : k = ns[i].toNat := by omega
                    rw [this, hbk] at hk'
                    cases hk'
                    rfl)]
                  exact N3.sub k b' hk'
            · apply List.ext_getElem?
              intro j
              by_cases c1 : ir = j
              · subst c1
                rw [List.getElem?_set_self (by simp only [List.length_set]; exact lr), List.getElem?_set_self (by simp only [List.length_set]; exact lr)]
              · rw [List.getElem?_set_ne c1, List.getElem?_set_ne c1]
                by_cases c2 : iw = j
                · subst c2
                  rw [List.getElem?_set_self (by simp only [List.length_set]; exact lw), List.getElem?_set_self (by simp only [List.length_set]; exact lw)]
                · rw [List.getElem?_set_ne c2, List.getElem?_set_ne c2, List.getElem?_set_ne c1, List.getElem?_set_ne c2]
        · have he : i = ns.length := by omega
          subst he
          rw [List.take_length] at NG
          refine .inl ⟨iok.stop _ _ G (rsOf G hsq) (by rw [ilen]; exact Nat.le_refl _), ?_⟩
          have rp := NG.rep r (by omega) (fun k => Nat.le_trans (grp_len _ _) hn2)
          rw [hb] at rp
          have r2 := (((r.no hw x0).no hr y0).mono NG.same).put (i := ic) rp
          have es : ((σ.set iw x0).set ir y0).set ic (some (V.ref A)) = ((σ.set ic (some (.ref A))).set iw x0).set ir y0 := by
            rw [List.set_comm _ _ (Ne.symm hcr), List.set_comm _ _ (Ne.symm hcw)]
          rw [es] at r2
          exact q _ _ _ r2
  | _ => exact (show False from q).elim
theorem onI' {r : R (List DL.D)} {f : List DL.D → Out} (h : PostS K px W S0 H0 D (r.on e f)) : PostXI K px W S0 H0 O H σ e r fun J H' => ∃ items sd sv, r = .ok items ∧ Same H H' ∧ RepE K px S0 H0 O H' σ e ∧ Reps K px (Al S0 H0 O) H' sd sv ∧ ItOk K px J items sd sv ∧ PostS K px W S0 H0 D (f items) := onI h
theorem ss_grp {ic iw ir : Nat} {yc yw yr : Str} {T : Tg} {m1 : SEnv → R (List DL.D)} {m2 : SEM} {mR : SM} {tg1 it1 a2 : Expr} {scope : Scope} {own : List (Str × Nat)} {rest : List Stmt} {py lp spos lcpos npos cp rp apos cpos epos wp subp p2 pw pr tp fpos : Pos} {kk : Nat}
    (hc : X.calm = true) (hN : X.N.Nodup) (hp : PassesOwn (model X.prog X.w) X.A X.env X.xe) (hg2 : Gl X "enumerate") (hm2 : X.mg "enumerate" = none)
    (hi1 : DXI X px W tg1 it1 m1) (hi2 : DX X px W a2 m2) (ok : BlkOk X.N X.env.scope scope own) (hix : ∀ i ∈ ixs T, i ∈ own.map (·.2)) (hT : ∀ d : DL.D, ∃ l, flat T d = some l)
    (hg : ∀ (s : Shared) (H : Hp) (C : Addr) (cl : List (Str × Addr)) (fp : List Addr), PG (X.blk s H scope (compEnvC scope cl C X.env) fp) tg1 (gOf X.K T)) (hg3 : DG X (.Tuple [.Name yw pw, .Name yr pr] kk tp) (.tp [.nm iw, .nm ir])) (hs : DSs X px W rest mR)
    (hyc : X.N[ic]? = some yc := by rfl) (hyw : X.N[iw]? = some yw := by rfl) (hyr : X.N[ir]? = some yr := by rfl) (hlc : X.env.scope.names.lookup yc = some .local := by rfl)
    (vc : Vis X.env.scope yc := by first | exact Or.inl rfl | exact Or.inr (Or.inl rfl) | exact Or.inr (Or.inr rfl)) (vw : Vis X.env.scope yw := by first | exact Or.inl rfl | exact Or.inr (Or.inl rfl) | exact Or.inr (Or.inr rfl)) (vr : Vis X.env.scope yr := by first | exact Or.inl rfl | exact Or.inr (Or.inl rfl) | exact Or.inr (Or.inr rfl))
    (dc : (yc == ("__debug__" : Str)) = false := by decide) (dw : (yw == ("__debug__" : Str)) = false := by decide) (dr : (yr == ("__debug__" : Str)) = false := by decide)
    (kc : (yc == ("__classdict__" : Str)) = false := by decide) (kw : (yw == ("__classdict__" : Str)) = false := by decide) (kr : (yr == ("__classdict__" : Str)) = false := by decide)
    (ncw : ic ≠ iw := by decide) (ncr : ic ≠ ir := by decide) (nwr : iw ≠ ir := by decide)
    (hsw : swapsWith (.ListComp (.List [] lp) [⟨tg1, it1, [], 0⟩] scope lcpos) (some (.Name yc py)) spos.line X.env = pure true := by exact sw_true rfl rfl rfl (by decide +kernel))
    (hs1 : ∀ x, foldedSetIterable it1 X.env x = pure x := by intro _; rfl) (hs2 : ∀ x, foldedSetIterable (.Call (.Name "enumerate" p2) [a2] [] npos) X.env x = pure x := by intro _; rfl) (he2 : starEach [a2] X.env = [(false, eval a2 X.env)] := by rfl)
    (hb : attributeBase (.Subscript (.Name yc cp) (.Name yr rp) subp) "append" X.env (eval (.Subscript (.Name yc cp) (.Name yr rp) subp) X.env) = eval (.Subscript (.Name yc cp) (.Name yr rp) subp) X.env := by rfl)
    (hf : ((backTo cpos (starEach [.Name yw wp] X.env)).all (fun x => !x.1) && (backToKw cpos (keywordEach [] X.env)).all (fun x => x.1.isSome) && decide (([.Name yw wp] : List Expr).length + ([] : List Keyword).length + (if ([] : List Keyword).isEmpty then 0 else 1) < 30)) = true := by rfl)
    (hl : (apos.endLine == cpos.line) = true := by rfl) (hsa : starEach [.Name yw wp] X.env = [(false, eval (.Name yw wp) X.env)] := by rfl)
    (hse : swapsWith (.Call (.Attribute (.Subscript (.Name yc cp) (.Name yr rp) subp) "append" apos) [.Name yw wp] [] cpos) none epos.line X.env = pure false := by rfl) (hpi : PlainIx (.Name yr rp) := by exact fun _ _ => rfl) :
    DSs X px W (.Assign [.Name yc py] (.ListComp (.List [] lp) [⟨tg1, it1, [], 0⟩] scope lcpos) spos :: .For (.Tuple [.Name yw pw, .Name yr pr] kk tp) (.Call (.Name "enumerate" p2) [a2] [] npos)
      [.Expr (.Call (.Attribute (.Subscript (.Name yc cp) (.Name yr rp) subp) "append" apos) [.Name yw wp] [] cpos) epos] [] fpos :: rest) (sSeq (sGrp ic iw ir m1 m2) mR) := by
  have st1 := ps_setLc (py := py) (spos := spos) (pos := lcpos) (tt := tYes) (te := tLst tNil) hc hN hyc hlc hsw hi1 ok hg (fun _ _ _ _ _ => pts_nil) (fun _ _ _ _ _ => pe_lst (pos := lp) pa_nil) hs1
  have body := pss_one (ps_expr (pos := epos) (pe_bm (apos := apos) (cpos := cpos) PySem.F.plainAttrs_list PySem.F.slot_list_append PySem.F.type_list_append mt_append (pe_ix (pos := subp) ix_list (pe_var (pos := cp) hyc vc dc kc) (pe_var (pos := rp) hyr vr dr kr) hpi) (pa_cons (pe_var (pos := wp) hyw vw dw kw) pa_nil hsa) hb hf hl hsa rfl) hse)
  have st2 := ps_for (pos := fpos) hp hc (pi_enumT (p := p2) (pos := npos) (kk := kk) (tpos := tp) (elts := [.Name yw pw, .Name yr pr]) hg2 hm2 hi2 he2) hg3 body hs2
  refine PSs.imp (pss_cons st1 (pss_cons st2 hs)) fun D σ H ⟨S0, H0, O, e, r, q⟩ => ?_
  have q := postS_seq q
  unfold sGrp at q
  split at q
  · rename_i hno
    have h1 := isNo_of hno.1
    have h2 := isNo_of hno.2.1
    have h3 := isNo_of hno.2.2
    show tLc (tXI X.K px W m1) (gOf X.K T) tYes (tLst tNil) (own.map (·.2)) σ H fun x H1 => tFor (tEn X.K (tX X.K px W m2)) (gOf X.K (.tp [.nm iw, .nm ir])) (tDrop (tBM X.K "list" rAppend (tOp (rIxL X.K) (tVar ic) (tVar ir)) (tCons (tVar iw) tNil))) { D with nx := tS X.K px W mR D } (σ.set ic (some x)) H1
    refine nest_lc hix r hT ((onI q).imp fun J H1 ⟨items, sd, sv, hm, s1, r1, rs, iok, q⟩ => ?_)
    by_cases hle : items.length ≤ 1000
    · rw [if_pos hle] at q
      exact ⟨items, sd, sv, hm, r1, rs, iok, hle, fun A bs H2 hbs N => nest_for r1 h1 h2 h3 ncw ncr nwr N hbs q⟩
    · rw [if_neg hle] at q
      exact (show False from q).elim
  · exact (show False from q).elim
end
end DL

end
section
set_option Elab.async false
set_option linter.all false
set_option maxRecDepth 100000
namespace PySem
open PyProof PySem.F
theorem ext_tup (l : Addr) (xs : Array Value) (n : Nat) (b : Addr) (ys : Array Value) (n2 : Nat) (dd : Option Addr) (sl : Array (Option Value)) (hs0 : ¬(!xs.isEmpty && Builtin.List.listTooLong (xs.size + ys.size)) = true) (hs1 : xs.size ≤ sizeLine) (hs2 : xs.size + ys.size ≤ sizeLine + 1) :
    Meets (Builtin.«list.extend» ⟨[.ref l, .ref b], []⟩) (fun _ R s => s.heap.get? l = some { cls := .type "list", dict := none, data := .seq xs n, slots := #[] } ∧ s.heap.get? b = some { cls := .type "tuple", dict := dd, data := .seq ys n2, slots := sl } ∧ R (.ok (.ret Value.none)) { s with heap := s.heap.update l (Obj.mapSeq fun x => x ++ ys), toks := s.toks }) :=
  .of_wp fun prog w A R s h => by
    obtain ⟨hp, g, d, tk, os⟩ := s
    obtain ⟨hl, hb, h⟩ := h
    have f2 := sub_tuple_tuple; have f3 := sub_list_list; have f4 := sub_tuple_list; have f5 := sub_list_tuple
    have hz' : (xs ++ ys).size ≤ sizeLine + 1 := by rw [Array.size_append]; exact hs2
    wp_walk using (wpAny_updateSeq hl rfl (hz := hs1) (_hz' := hz')), wpAny_loadPart' hl, wpAny_loadPart' hb
    exact ⟨_, rfl, h⟩
end PySem
namespace DL
open PySem PySem.Spec L2
open PyProof.Rows hiding St
section
variable {X : Cx} {px : Px} {W : WX} {pos : Pos} {K : PySem.W.Frag} {S0 : Reg} {H0 H H' : Hp} {O : Nat → Option Addr} {σ : St} {e : SEnv} {D : Ends}
/-- xs.extend(t), t a list or a tuple -/
def rExt2 (K : PySem.W.Frag) : V → List V → Hp → VK → Prop := fun x vs H Q => ∃ l b xs zs, x = .ref l ∧ vs = [.ref b] ∧ H l = some (.lst xs) ∧ (H b = some (.lst zs) ∨ SqT K H b zs) ∧ xs.length + zs.length ≤ sizeLine ∧ Q .non (upd H l (.lst (xs ++ zs)))
theorem mt_ext2 : MtM X "list.extend" (rExt2 X.K) := by
  intro pins s σ H x vs v us Q I rx rv h
  obtain ⟨l, b, xs, zs, e1, e2, hH, hB | hB, hz, q⟩ := h
  · exact mt_extend pins s σ H x vs v us Q I rx rv ⟨l, b, xs, zs, e1, e2, hH, hB, hz, q⟩
  · subst e1 e2
    cases rx
    obtain ⟨u, rfl, ru⟩ := rv.one
    cases ru
    obtain ⟨z, its, n, r, hl, e⟩ := I.lstM hH
    obtain ⟨its2, r2, ⟨ob, hob, hcl, n2, hda⟩, hz2⟩ := I.tuple hB
    obtain ⟨cls, dd, da, sl⟩ := ob
    simp only at hcl hda
    subst hcl hda
    have l1 := r.length
    have l2 := r2.length
    have hsz : its.toArray.size + its2.toArray.size ≤ sizeLine := by rw [List.size_toArray, List.size_toArray]; omega
    have hlong : ¬ (!its.toArray.isEmpty && Builtin.List.listTooLong (its.toArray.size + its2.toArray.size)) = true := by
      rw [notLongL hsz, Bool.and_false]
      exact Bool.false_ne_true
    refine call_meets F.slot_list_extend ⟨_, e, rfl⟩ F.entry_list_extend (F.args_list_extend_2 _ _) (PySem.ext_tup l its.toArray n b its2.toArray n2 dd sl hlong (by rw [List.size_toArray]; omega) (by omega)) ⟨e, hob, ?_⟩
    refine ⟨.non, _, I.lset (its' := its ++ its2) hH e (by simp) (r.append r2) ?_, rfl, q⟩
    rw [List.length_append]
    omega
def seqOf2 : DL.D → Option (List DL.D)
  | .lst es => some es
  | .tup es => some es
  | _ => none
def sExt2 (i : Nat) (m : SEM) : SM := fun e => match e[i]? with
  | some (.ow ds) => (m e).on e fun d => (match seqOf2 d with
    | some es => if ds.length + es.length ≤ 16777216 then .nx (e.set i (.ow (ds ++ es))) else .bad
    | none => .bad)
  | _ => .bad
theorem s_ext2 {i : Nat} {x : Str} {a : Expr} {m : SEM} {p apos cpos pos : Pos} (ha : DX X px W a m) (hN : X.N[i]? = some x := by rfl) (hv : Vis X.env.scope x := by first | exact Or.inl rfl | exact Or.inr (Or.inl rfl) | exact Or.inr (Or.inr rfl)) (hd : (x == ("__debug__" : Str)) = false := by decide)
    (hcd : (x == ("__classdict__" : Str)) = false := by decide)
    (hbase : attributeBase (.Name x p) "extend" X.env (eval (.Name x p) X.env) = eval (.Name x p) X.env := by rfl)
    (hfew : ((backTo cpos (starEach [a] X.env)).all (fun x => !x.1) && (backToKw cpos (keywordEach [] X.env)).all (fun x => x.1.isSome) && decide (([a] : List Expr).length + ([] : List Keyword).length + (if ([] : List Keyword).isEmpty then 0 else 1) < 30)) = true := by rfl)
    (hline : (apos.endLine == cpos.line) = true := by rfl) (hs : starEach [a] X.env = [(false, eval a X.env)] := by rfl)
    (hsw : swapsWith (.Call (.Attribute (.Name x p) "extend" apos) [a] [] cpos) none pos.line X.env = pure false := by rfl) :
    DS X px W (.Expr (.Call (.Attribute (.Name x p) "extend" apos) [a] [] cpos) pos) (sExt2 i m) := by
  refine PS.imp (ps_expr (pe_bm PySem.F.plainAttrs_list PySem.F.slot_list_extend PySem.F.type_list_extend mt_ext2 (pe_var hN hv hd hcd) (pa_cons ha pa_nil hs) hbase hfew hline hs rfl) hsw) fun D σ H ⟨S0, H0, O, e, r, q⟩ => ?_
  unfold sExt2 at q
  split at q
  · rename_i ds hds
    obtain ⟨l, vs, ho, hσ, hl, hz, rs⟩ := r.ow hds
    refine ⟨.ref l, hσ, .inl ⟨rfl, vs, Or.inl (Or.inl hl)⟩, S0, H0, O, e, r, (onX q).imp fun v H1 ⟨d, _, _, r1, rv, q⟩ => ?_⟩
    obtain ⟨l1, vs1, ho1, hσ1, hl1, hz1, rs1⟩ := r1.ow hds
    rw [hσ] at hσ1
    cases hσ1
    have key : ∀ (es : List DL.D) (b : Addr) (ws : List V), (H1 b = some (.lst ws) ∨ SqT X.K H1 b ws) → Reps X.K px (Al S0 H0 O) H1 es ws → PostS X.K px W S0 H0 D (if ds.length + es.length ≤ 16777216 then .nx (e.set i (.ow (ds ++ es))) else .bad) → rExt2 X.K (.ref l) [.ref b] H1 fun v H2 => D.nx σ H2 := fun es b ws k1 k4 q => by
      split at q
      · rename_i hlt
        have hlen : vs1.length + ws.length ≤ sizeLine := by rw [← rs1.length, ← k4.length]; exact hlt
        exact ⟨l, b, vs1, ws, rfl, rfl, hl1, k1, hlen, q _ _ _ (r1.mut hds ho1 (by rw [List.length_append]; exact hlen) (rs1.append k4))⟩
      · exact (show False from q).elim
    cases d with
    | lst es =>
      obtain ⟨b, ws, rfl, k1, k2, k3, k4⟩ := rv
      exact key es b ws (.inl k1) k4 q
    | tup es =>
      obtain ⟨b, ws, rfl, k1, k2, k4⟩ := rv
      exact key es b ws (.inr k1) k4 q
    | _ => exact (show False from q).elim
  · exact (show False from q).elim
end
end DL

end
section
set_option Elab.async false
set_option linter.all false
set_option maxRecDepth 100000
namespace DL
open PySem PySem.Spec L2
open PyProof.Rows hiding St

/-! ### a list of the caller's is changed by a def -/
section
variable {X : Cx} {px : Px} {W : WX} {pos : Pos} {K : PySem.W.Frag} {S0 : Reg} {H0 H H' : Hp} {O : Nat → Option Addr} {σ : L2.St} {e : SEnv} {D : Ends}
theorem RepE.pw (r : RepE K px S0 H0 O H σ e) {i : Nat} {ds : List DL.D} (h : e[i]? = some (.pw ds)) : ∃ a vs, O i = some a ∧ σ[i]? = some (some (.ref a)) ∧ H a = some (.lst vs) ∧ vs.length ≤ sizeLine ∧ Reps K px (Al S0 H0 O) H ds vs := by
  obtain ⟨x, h1, a, vs, k1, rfl, k3, k4, k5⟩ := r.sl i _ h
  exact ⟨a, vs, k1, h1, k3, k4, k5⟩
/-- xs[k] = a, xs the caller's -/
def sIxP (i : Nat) (k a : SEM) : SM := fun e => (a e).on e fun d => match e[i]? with
  | some (.pw ds) => (k e).on e fun n => (match n with
    | .int n => (match ixN ds.length n with
      | some j => .nx (e.set i (.pw (ds.set j d)))
      | none => .bad)
    | _ => .bad)
  | _ => .bad
theorem s_ixp {i : Nat} {x : Str} {k a : Expr} {mk ma : SEM} {p tpos pos : Pos} (ha : DX X px W a ma) (hk : DX X px W k mk) (hN : X.N[i]? = some x := by rfl) (hv : Vis X.env.scope x := by first | exact Or.inl rfl | exact Or.inr (Or.inl rfl) | exact Or.inr (Or.inr rfl)) (hd : (x == ("__debug__" : Str)) = false := by decide)
    (hcd : (x == ("__classdict__" : Str)) = false := by decide)
    (has : ∀ v, assign (.Subscript (.Name x p) k tpos) X.env v = (do
      let ov ← holding [v] (eval (.Name x p) X.env)
      let iv ← holding [v, ov] (eval k X.env)
      standAt tpos
      holding [v, ov, iv] (setItem ov iv v)
      release [v, ov, iv] []) := by intro _; rfl)
    (hs : swapsWithSole [.Subscript (.Name x p) k tpos] a pos.line X.env = pure false := by rfl) (hw : swappedStores [.Subscript (.Name x p) k tpos] a X.env = pure none := by rfl) (h1 : (assignEach [.Subscript (.Name x p) k tpos] X.env).map (·.2) = [assign (.Subscript (.Name x p) k tpos) X.env] := by rfl) :
    DS X px W (.Assign [.Subscript (.Name x p) k tpos] a pos) (sIxP i mk ma) := by
  refine PS.imp (ps_asg ha (pg_sub (pe_var hN hv hd hcd) hk set_list has) hs hw h1) fun D σ H ⟨S0, H0, O, e, r, q⟩ => ⟨S0, H0, O, e, r, (onX q).imp fun v H1 ⟨d, _, _, r1, rv, q⟩ => ?_⟩
  split at q
  · rename_i ds hds
    obtain ⟨l, vs, ho, hσ, hl, hz, rs⟩ := r1.pw hds
    refine ⟨.ref l, hσ, S0, H0, O, e, r1, (onX q).imp fun u H2 ⟨n, _, s2, r2, ru, q⟩ => ?_⟩
    cases n with
    | int n =>
      cases (show u = .int n from ru)
      simp only at q
      split at q
      · rename_i j hj
        obtain ⟨l2, vs2, ho2, hσ2, hl2, hz2, rs2⟩ := r2.pw hds
        rw [hσ] at hσ2
        cases hσ2
        refine ⟨l, vs2, n, j, rfl, rfl, hl2, by rw [← rs2.length]; exact hj, ?_⟩
        exact q _ _ _ (r2.mutP hds ho2 (by rw [List.length_set]; exact hz2) (Reps.set j (rv.mono s2 fun _ z => z) rs2))
      · exact (show False from q).elim
    | _ => exact (show False from q).elim
  · exact (show False from q).elim
/-- one place is owned -/
def oneO (j : Nat) (a : Addr) : Nat → Option Addr := fun i => if i = j then some a else none
theorem one_eq {i j : Nat} {a b : Addr} (h : oneO j a i = some b) : i = j ∧ b = a := by
  unfold oneO at h
  split at h
  · rename_i c
    cases h
    exact ⟨c, rfl⟩
  · cases h
theorem one_self {j : Nat} {a : Addr} : oneO j a j = some a := if_pos rfl
def endM (j : Nat) : Out → R (List DL.D)
  | .nx e => (match e[j]? with
    | some (.pw ds) => .ok ds
    | _ => .bad)
  | _ => .bad
theorem endM_of {j : Nat} {o : Out} {ls : List DL.D} (h : endM j o = .ok ls) : ∃ e, o = .nx e ∧ e[j]? = some (.pw ls) := by
  cases o with
  | nx e =>
    unfold endM at h
    simp only at h
    split at h
    · rename_i ds hd
      cases h
      exact ⟨e, rfl, hd⟩
    · cases h
  | _ => cases h
/-- a def that changes the list at its place j and gives nothing back -/
def SpM (K : PySem.W.Frag) (n : Nat) (N : List Str) (j : Nat) (f : SEnv → R (List DL.D)) : Sp := fun vs H Q E => ∃ (S : Addr → Prop) (a : Addr) (e : SEnv) (ls : List DL.D), vs.length = n ∧ RepE K none (S, some a) (hidO (oneO j a) H) (oneO j a) H (L2.start N vs) e ∧ f e = .ok ls ∧
  ∀ ws H', Same (hidO (oneO j a) H) H' → H' a = some (.lst ws) → ws.length ≤ sizeLine → Reps K none (Al (S, some a) (hidO (oneO j a) H) (oneO j a)) H' ls ws → Q .non H'
structure FnM (P : Program) (w : World) (K : PySem.W.Frag) (mg : Str → Option Value) (base : Heap) (k : Nat) (f : Addr) (n : Nat) (N : List Str) (j : Nat) (g : SEnv → R (List DL.D)) : Prop where
  ok : ∃ fd ps, FnOk P w K mg base (L2N.CX P w) k f fd ps (SpM K n N j g) ∧ Binds K fd ps []
  kp : PySem.W.keepIn K (.ref f) = true
theorem FnM.mono {P : Program} {w : World} {K : PySem.W.Frag} {mg : Str → Option Value} {base : Heap} {i k : Nat} {f : Addr} {n j : Nat} {N : List Str} {g : SEnv → R (List DL.D)} (F : FnM P w K mg base i f n N j g) (h : i ≤ k) : FnM P w K mg base k f n N j g := by
  obtain ⟨⟨fd, ps, F1, b⟩, kp⟩ := F
  exact ⟨⟨fd, ps, F1.mono h, b⟩, kp⟩
theorem fnm_ofC {P : Program} {w : World} {K : PySem.W.Frag} {mg : Str → Option Value} {base : Heap} {x qual : Str} {params : Arguments} {body : List Stmt} {scope : Scope} {f : Addr} {fd : FuncData} {N ps : List Str} {k n j : Nat} {m : SM}
    (F : FunD K x qual params body scope [] [] f fd) (S : FnScope N ps scope) (b : Binds K fd ps []) (hn : ps.length = n)
    (hbody : ∀ (cdv : Value) (A : Around) (outer : List Env) (s : Shared) (H : Hp) (E : XK), Room k (A.deeper (envOfC qual scope s.heap.objs.size f cdv)) →
      PassesOwn (model P w) (cxOf (L2N.CX P w) P w K mg base N qual scope f cdv A outer s H E).A (cxOf (L2N.CX P w) P w K mg base N qual scope f cdv A outer s H E).env (cxOf (L2N.CX P w) P w K mg base N qual scope f cdv A outer s H E).xe →
      L2N.Takes (cxOf (L2N.CX P w) P w K mg base N qual scope f cdv A outer s H E) (WF E) → DSs (cxOf (L2N.CX P w) P w K mg base N qual scope f cdv A outer s H E) none (WF E) body m) :
    FnM P w K mg base (k + 1) f n N j (fun e => endM j (m e)) := by
  refine ⟨⟨fd, ps, ?_, b⟩, F.kp⟩
  refine FunD.ok F S (fun vs H Q E h => by obtain ⟨_, _, _, _, h, _⟩ := h; rw [hn]; exact h) (fun cdv A outer s H vs Q E hr hsp => ?_)
  refine ⟨_, hbody cdv A outer s H E hr PassesOwn.leaving (L2N.takes_of rfl rfl rfl rfl), ?_⟩
  obtain ⟨S1, a, e, ls, hl, r, he, q⟩ := hsp
  refine ⟨(S1, some a), _, _, e, r, ?_⟩
  obtain ⟨e2, ho, hj⟩ := endM_of he
  rw [ho]
  intro O σ H' r'
  obtain ⟨b, h1, h2⟩ := r'.ob j _ hj rfl
  cases h1
  obtain ⟨c, ws, k1, k2, k3, k4, k5⟩ := r'.pw hj
  rw [h2] at k1
  cases k1
  exact q ws H' r'.same k3 k4 (Reps.mono (Same.refl _) (fun b z => ⟨z.1, fun i y => by
    obtain ⟨_, y2⟩ := one_eq y
    exact z.2 j (by rw [h2, y2])⟩) _ _ k5)
theorem rep_flat : ∀ {d : DL.D} {S : Addr → Prop}, flatD d = true → Rep K px S H d (valD d)
  | .non, _, _ => rfl
  | .bl _, _, _ => rfl
  | .int _, _, _ => rfl
  | .str _, _, _ => rfl
theorem reps_flatV {S : Addr → Prop} : ∀ {ds : List DL.D}, ds.all flatD = true → Reps K px S H ds (ds.map valD)
  | [], _ => rfl
  | d :: ds, h => by
    rw [List.all_cons, Bool.and_eq_true] at h
    exact ⟨valD d, ds.map valD, rfl, rep_flat h.1, reps_flatV h.2⟩
/-- what a name is worth when it is handed on -/
def argS : Option Sl → Option DL.D
  | some (.fz d) => some d
  | some (.ow ds) => some (.lst ds)
  | _ => none
theorem RepE.arg (r : RepE K px S0 H0 O H σ e) {i j : Nat} {d : DL.D} {a : Addr} (h : argS e[i]? = some d) (hij : i ≠ j) (ho : O j = some a) : ∃ v, σ[i]? = some (some v) ∧ Rep K px (fun b => Fr S0.1 H0 b ∧ b ≠ a) H d v := by
  cases hs : e[i]? with
  | none => rw [hs] at h; cases h
  | some s =>
    rw [hs] at h
    obtain ⟨x, h1, h2⟩ := r.sl i s hs
    cases s with
    | fz d' =>
      cases h
      obtain ⟨_, v, rfl, h3⟩ := h2
      exact ⟨v, h1, h3.mono (Same.refl _) fun b z => ⟨z.1, fun w => z.2 j (by rw [ho, w])⟩⟩
    | ow ds =>
      cases h
      obtain ⟨c, vs, k1, rfl, k3, k4, k5⟩ := h2
      exact ⟨_, h1, c, vs, rfl, k3, ⟨.inr (r.new i c k1), fun w => hij (r.inj i j a (by rw [k1, w]) ho)⟩, k4, Reps.mono (Same.refl _) (fun b z => ⟨z.1, fun w => z.2 j (by rw [ho, w])⟩) _ _ k5⟩
    | no => cases h
    | ob c ns ds => cases h
    | pw ds => cases h
/-- f(a, xs, b, c): f changes the list xs -/
def sCallM (i0 i1 i2 i3 n : Nat) (g : SEnv → R (List DL.D)) : SM := fun e => match argS e[i0]?, e[i1]?, argS e[i2]?, argS e[i3]? with
  | some d0, some (.ow ls), some d2, some d3 => if i0 ≠ i1 ∧ i2 ≠ i1 ∧ i3 ≠ i1 then (match g ([.fz d0, .pw ls, .fz d2, .fz d3] ++ List.replicate (n - 4) .no) with
    | .ok ls' => if ls'.all flatD = true then .nx (e.set i1 (.ow ls')) else .bad
    | _ => .bad) else .bad
  | _, _, _, _ => .bad
/-- the state behind a change of the one place a -/
theorem RepE.changed (r : RepE K px S0 H0 O H σ e) {i : Nat} {a : Addr} {ls ls' : List DL.D} {ws : List V} (hs : e[i]? = some (.ow ls)) (ha : O i = some a) (s : Same (hidO (oneO i a) H) H') (hw : H' a = some (.lst ws)) (hl : ws.length ≤ sizeLine) (q : Reps K px (Al S0 H0 O) H' ls' ws) : RepE K px S0 H0 O H' σ (e.set i (.ow ls')) := by
  have hi := lt_of_get hs
  obtain ⟨x, h1, b, vs0, k1, k2, k3, k4, k5⟩ := r.sl i _ hs
  rw [ha] at k1
  cases k1
  have nO : ∀ b : Addr, b ≠ a → ∀ i', oneO i a i' ≠ some b := fun b n i' z => n (one_eq z).2
  have keep : ∀ (b : Addr) u, b ≠ a → H b = some u → H' b = some u := fun b u n h => s _ _ (by rw [hidO_ne (nO b n)]; exact h)
  have hS : ∀ b, Al S0 H0 O b → ∀ i', oneO i a i' ≠ some b := fun b z i' w => z.2 i (by rw [ha, (one_eq w).2])
  have hT : ∀ (i' : Nat) (b : Addr), oneO i a i' = some b → (∃ xs, H b = some (.lst xs)) ∨ ∃ C dx fs, H b = some (.ins C dx fs) := fun i' b w => by
    obtain ⟨_, rfl⟩ := one_eq w
    exact .inl ⟨vs0, k3⟩
  have rps : ∀ (ds : List DL.D) (vs : List V), Reps K px (Al S0 H0 O) H ds vs → Reps K px (Al S0 H0 O) H' ds vs := fun ds vs h => Reps.mono s (fun _ z => z) _ _ (Reps.hidden (S' := Al S0 H0 O) hS hT (fun b z _ => z) ds vs h)
  have rpd : ∀ (d : DL.D) (v : V), Rep K px (Al S0 H0 O) H d v → Rep K px (Al S0 H0 O) H' d v := fun d v h => Rep.mono s (fun _ z => z) _ _ (Rep.hidden (S' := Al S0 H0 O) hS hT (fun b z _ => z) d v h)
  refine ⟨fun b u z => keep b u (fun w => by rw [w, r.new i a ha] at z; cases z) (r.same _ _ z), by rw [List.length_set]; exact r.len, r.new, r.inj, fun j s z => ?_, fun j z => r.out j (getElem_setN z), fun j s z hp => ?_⟩
  · rcases getElem_set z with ⟨rfl, rfl⟩ | ⟨n, z⟩
    · exact ⟨x, h1, a, ws, ha, k2, hw, hl, q⟩
    · obtain ⟨x, h1, h2⟩ := r.sl j s z
      refine ⟨x, h1, ?_⟩
      cases s with
      | no => exact h2
      | fz d =>
        obtain ⟨g1, v, g2, g3⟩ := h2
        exact ⟨g1, v, g2, rpd _ _ g3⟩
      | ow es =>
        obtain ⟨b, us, g1, g2, g3, g4, g5⟩ := h2
        exact ⟨b, us, g1, g2, keep b _ (fun w => n (r.inj i j a ha (w ▸ g1))) g3, g4, rps _ _ g5⟩
      | ob c ns es =>
        obtain ⟨b, dx, us, g1, g2, g3, g4, g5⟩ := h2
        exact ⟨b, dx, us, g1, g2, keep b _ (fun w => n (r.inj i j a ha (w ▸ g1))) g3, g4, rps _ _ g5⟩
      | pw es =>
        obtain ⟨b, us, g1, g2, g3, g4, g5⟩ := h2
        exact ⟨b, us, g1, g2, keep b _ (fun w => n (r.inj i j a ha (w ▸ g1))) g3, g4, rps _ _ g5⟩
  · rcases getElem_set z with ⟨_, rfl⟩ | ⟨n, z⟩
    · cases hp
    · exact r.ob j s z hp
end
section
variable {X : Cx} {W : WX}
theorem s_callM {k i0 i1 i2 i3 : Nat} {N : List Str} {x x0 x1 x2 x3 : Str} {p p0 p1 p2 p3 cpos epos : Pos} {g : SEnv → R (List DL.D)} (F : FnM X.prog X.w X.K X.mg X.base k (He.ga X.K x) 4 N 1 g) (hr : Room k X.A) (tk : L2N.Takes X W) (hg : Gl X x) (hm : X.mg x = some (.ref (He.ga X.K x)))
    (n0 : X.N[i0]? = some x0 := by rfl) (n1 : X.N[i1]? = some x1 := by rfl) (n2 : X.N[i2]? = some x2 := by rfl) (n3 : X.N[i3]? = some x3 := by rfl)
    (u0 : Vis X.env.scope x0 := by first | exact Or.inl rfl | exact Or.inr (Or.inl rfl) | exact Or.inr (Or.inr rfl)) (u1 : Vis X.env.scope x1 := by first | exact Or.inl rfl | exact Or.inr (Or.inl rfl) | exact Or.inr (Or.inr rfl))
    (u2 : Vis X.env.scope x2 := by first | exact Or.inl rfl | exact Or.inr (Or.inl rfl) | exact Or.inr (Or.inr rfl)) (u3 : Vis X.env.scope x3 := by first | exact Or.inl rfl | exact Or.inr (Or.inl rfl) | exact Or.inr (Or.inr rfl))
    (d0 : (x0 == ("__debug__" : Str)) = false := by decide) (d1 : (x1 == ("__debug__" : Str)) = false := by decide) (d2 : (x2 == ("__debug__" : Str)) = false := by decide) (d3 : (x3 == ("__debug__" : Str)) = false := by decide)
    (c0 : (x0 == ("__classdict__" : Str)) = false := by decide) (c1 : (x1 == ("__classdict__" : Str)) = false := by decide) (c2 : (x2 == ("__classdict__" : Str)) = false := by decide) (c3 : (x3 == ("__classdict__" : Str)) = false := by decide)
    (hdb : (x == ("__debug__" : Str)) = false := by decide) (s0 : starEach [.Name x0 p0, .Name x1 p1, .Name x2 p2, .Name x3 p3] X.env = (false, eval (.Name x0 p0) X.env) :: starEach [.Name x1 p1, .Name x2 p2, .Name x3 p3] X.env := by rfl)
    (s1 : starEach [.Name x1 p1, .Name x2 p2, .Name x3 p3] X.env = (false, eval (.Name x1 p1) X.env) :: starEach [.Name x2 p2, .Name x3 p3] X.env := by rfl) (s2 : starEach [.Name x2 p2, .Name x3 p3] X.env = (false, eval (.Name x2 p2) X.env) :: starEach [.Name x3 p3] X.env := by rfl) (s3 : starEach [.Name x3 p3] X.env = (false, eval (.Name x3 p3) X.env) :: starEach [] X.env := by rfl)
    (hpl : (backTo cpos (starEach [.Name x1 p1, .Name x2 p2, .Name x3 p3] X.env)).any (·.1) = false := by rfl) (hsw : swapsWith (.Call (.Name x p) [.Name x0 p0, .Name x1 p1, .Name x2 p2, .Name x3 p3] [] cpos) none epos.line X.env = pure false := by rfl) :
    DS X none W (.Expr (.Call (.Name x p) [.Name x0 p0, .Name x1 p1, .Name x2 p2, .Name x3 p3] [] cpos) epos) (sCallM i0 i1 i2 i3 N.length g) := by
  obtain ⟨⟨fd, ps, F1, b⟩, kp⟩ := F
  refine PS.imp (ps_expr (pos := epos) (pe_callS F1 hr hg hm kp b (fun σ => L2N.passAt tk σ) (pa_cons (pe_var (pos := p0) n0 u0 d0 c0) (pa_cons (pe_var (pos := p1) n1 u1 d1 c1) (pa_cons (pe_var (pos := p2) n2 u2 d2 c2) (pa_cons (pe_var (pos := p3) n3 u3 d3 c3) pa_nil s3) s2) s1) s0) hdb s0 hpl) hsw) fun D σ H ⟨S0, H0, O, e, r, q⟩ => ?_
  unfold sCallM at q
  split at q
  case h_2 => exact (show False from q).elim
  rename_i q0 ls q2 q3 e0 e1 e2 e3
  split at q
  case isFalse => exact (show False from q).elim
  rename_i hne
  cases hgr : g ([.fz q0, .pw ls, .fz q2, .fz q3] ++ List.replicate (N.length - 4) .no) with
  | ok ls' =>
    rw [hgr] at q
    simp only at q
    split at q
    case isFalse => exact (show False from q).elim
    rename_i hfl
    obtain ⟨a, us, o1, o2, o3, o4, o5⟩ := r.ow e1
    obtain ⟨v0, a0, b0⟩ := r.arg e0 hne.1 o1
    obtain ⟨v2, a2, b2⟩ := r.arg e2 hne.2.1 o1
    obtain ⟨v3, a3, b3⟩ := r.arg e3 hne.2.2 o1
    have al : ∀ c : Addr, (Fr S0.1 H0 c ∧ c ≠ a) → Al (fun b => Fr S0.1 H0 b ∧ b ≠ a, some a) (hidO (oneO 1 a) H) (oneO 1 a) c := fun c z => ⟨.inl z, fun i w => z.2 (one_eq w).2⟩
    have R0 : RepE X.K none (fun b => Fr S0.1 H0 b ∧ b ≠ a, some a) (hidO (oneO 1 a) H) (oneO 1 a) H (L2.start N [v0, .ref a, v2, v3]) ([.fz q0, .pw ls, .fz q2, .fz q3] ++ List.replicate (N.length - 4) .no) := by
      refine ⟨hidO_same, ?_, fun i c h => ?_, fun i j c h h' => ?_, fun i s h => ?_, fun i h => ?_, fun i s h hp => ?_⟩
      · unfold L2.start
        simp only [List.length_append, List.length_map, List.length_replicate, List.length_cons, List.length_nil]
      · obtain ⟨_, rfl⟩ := one_eq h
        exact hidO_own one_self
      · rw [(one_eq h).1, (one_eq h').1]
      · match i, h with
        | 0, h =>
          cases h
          exact ⟨some v0, rfl, rfl, v0, rfl, b0.mono (Same.refl _) fun c z => al c z⟩
        | 1, h =>
          cases h
          exact ⟨some (.ref a), rfl, a, us, rfl, rfl, o3, o4, Reps.mono (Same.refl _) (fun c z => al c ⟨z.1, fun w => z.2 i1 (by rw [o1, w])⟩) _ _ o5⟩
        | 2, h =>
          cases h
          exact ⟨some v2, rfl, rfl, v2, rfl, b2.mono (Same.refl _) fun c z => al c z⟩
        | 3, h =>
          cases h
          exact ⟨some v3, rfl, rfl, v3, rfl, b3.mono (Same.refl _) fun c z => al c z⟩
        | i + 4, h =>
          have h : (List.replicate (N.length - 4) Sl.no)[i]? = some s := h
          rw [List.getElem?_replicate] at h
          split at h
          · cases h
            refine ⟨none, ?_, if_neg (by omega)⟩
            show (List.replicate (N.length - 4) (none : Option V))[i]? = some none
            rw [List.getElem?_replicate, if_pos (by assumption)]
          · cases h
      · by_cases c : i = 1
        · subst c
          cases h
        · exact if_neg c
      · match i, h with
        | 0, h => cases h; cases hp
        | 1, h => exact ⟨a, rfl, one_self⟩
        | 2, h => cases h; cases hp
        | 3, h => cases h; cases hp
        | i + 4, h =>
          have h : (List.replicate (N.length - 4) Sl.no)[i]? = some s := h
          rw [List.getElem?_replicate] at h
          split at h
          · cases h
            cases hp
          · cases h
    refine ⟨v0, a0, .ref a, o2, v2, a2, v3, a3, _, a, _, ls', rfl, R0, hgr, fun ws H' s hw hl rr => ?_⟩
    obtain ⟨ev, _⟩ := flat_reps hfl rr
    refine q O σ H' (r.changed e1 o1 ?_ hw hl (by rw [ev]; exact reps_flatV hfl))
    intro c u hc
    by_cases z : c = a
    · rw [z, hidO_own (i := i1) (if_pos rfl)] at hc
      cases hc
    · rw [hidO_ne fun i w => z (one_eq w).2] at hc
      exact s c u (by rw [hidO_ne fun i w => z (one_eq w).2]; exact hc)
  | _ =>
    rw [hgr] at q
    exact (show False from q).elim
end
end DL

end
section
set_option Elab.async false
set_option linter.all false
set_option maxRecDepth 100000
namespace DL
open PySem PySem.Spec L2
open PyProof.Rows hiding St
/-! ### the head's look with its places told -/
def obsL (as : List Addr) (fs : List Fct) (fn : List DefX) (g : Addr → Option Obj) : AlX := obsX fs fn (He.frG g as)
def hookL (as : List Addr) (fs : List Fct) (fn : List DefX) : PySem.W.Hook where
  α := AlX
  obs := fun s => obsL as fs fn s.heap.get?
  val := fun _ => valX fn
  says := fun _ h => ∃ K : PySem.W.Frag, K.In h ∧ SaysX fs fn K
  of := fun _ _ e => ⟨_, He.frG_in, e⟩
  keeps := fun _ _ _ ⟨K, hK, c⟩ k => ⟨K, PySem.W.Frag.In.keeps hK k, c⟩
theorem obsL_eq {as : List Addr} {fs : List Fct} {fn : List DefX} {g : Addr → Option Obj} {s : Shared} (h : ∀ a, g a = s.heap.get? a) : obsL as fs fn g = (hookL as fs fn).obs s := by
  have e : g = s.heap.get? := funext h
  subst e
  rfl
/-- three looks make one -/
theorem three {α β γ δ : Type} {x : Option α} {f : α → β} {g : α → γ} {h : α → δ} {a : β} {b : γ} {c : δ} (h1 : x.map f = some a) (h2 : x.map g = some b) (h3 : x.map h = some c) : x.map (fun s => (f s, g s, h s)) = some (a, b, c) := by
  cases x with
  | none => cases h1
  | some s =>
    cases h1
    cases h2
    cases h3
    rfl
end DL

end
section
set_option Elab.async false
set_option linter.all false
set_option maxRecDepth 100000
namespace DL
open PySem PySem.Spec L2
open PyProof.Rows hiding St
open He (ga ma eqO eqO_ok ba)

/-! ### operators of own classes -/
/-- no method for the operator -/
structure NoOp (K : PySem.W.Frag) (C : Addr) (nm : String) : Prop where
  cl : ∃ cd, PySem.W.clsIn K C = some cd ∧ cd.mro = [.ref C, .type "object"]
  f1 : PySem.W.findIn K (.ref C) (PySem.dunder nm) = some none
  f2 : PySem.W.findIn K (.ref C) (dunderR nm) = some none
  o1 : PySem.W.findIn K (.type "object") (PySem.dunder nm) = some none
  o2 : PySem.W.findIn K (.type "object") (dunderR nm) = some none
structure OpsP (X : Cx) (k : Nat) (op : Operator) (c c2 : Str) (g : List D → R D) : Prop where
  me : MethP X k c (PySem.dunder op.info.2) 2 g
  sf : PySem.W.selfFirst X.K (ga X.K c) = true
  ot : c = c2 ∨ (¬ ga X.K c = ga X.K c2 ∧ NoOp X.K (ga X.K c2) op.info.2)
abbrev AltsB := List ((Str × Str) × (List D → R D))
def dOpO (alts : AltsB) : D → D → R D
  | .obj c ns ds, .obj c2 ns2 ds2 => (match alts.lookup (c, c2) with
    | some g => g [.obj c ns ds, .obj c2 ns2 ds2]
    | none => .bad)
  | _, _ => .bad
def AltsBOk (X : Cx) (k : Nat) (op : Operator) (alts : AltsB) : Prop := ∀ c c2 g, alts.lookup (c, c2) = some g → OpsP X k op c c2 g
theorem altb_nil {X : Cx} {k : Nat} {op : Operator} : AltsBOk X k op [] := fun _ _ _ h => by cases h
theorem altb_cons {X : Cx} {k : Nat} {op : Operator} {c c2 : Str} {g : List D → R D} {alts : AltsB} (h : OpsP X k op c c2 g) (t : AltsBOk X k op alts) : AltsBOk X k op (((c, c2), g) :: alts) := fun x y f q => by
  by_cases e : (x, y) = (c, c2)
  · simp only [List.lookup, e, beq_self_eq_true] at q
    injection q with q
    subst q
    cases e
    exact h
  · have e' : ((x, y) == (c, c2)) = false := by simpa using e
    simp only [List.lookup, e'] at q
    exact t x y f q
section
variable {prog : Program} {w : World} {M : Model} {A : Around} {E : Value → Shared → Prop} {s : Shared} {K : PySem.W.Frag} {x C C2 f : Addr} {h₀ : Heap} {ox : Obj} {od : Option Obj} {nm : String}
open PySem.W in
theorem fills_no {h : Heap} (X : K.In h) (n : NoOp K C nm) : PySem.W.Looks M h (fillsNumberSlot (.ref C) nm) false := by
  intro A Q E s k q
  obtain ⟨cd, hc, hm⟩ := n.cl
  have Lm : PySem.W.Looks M h (mroOf (.ref C)) cd.mro := (PySem.W.looks_clsIn X hc).andThen (f := fun cd => pure cd.mro) .now
  have Lm' := Lm.keeps k
  obtain ⟨hh, g, d, tt, os⟩ := s
  have X' : K.In hh := X.keeps k
  have L1 : PySem.W.Looks M hh (typeLookup (.ref C) (PySem.dunder nm)) none := PySem.W.looks_findIn X' n.f1
  have L2 : PySem.W.Looks M hh (typeLookup (.ref C) (dunderR nm)) none := PySem.W.looks_findIn X' n.f2
  have L3 : PySem.W.Looks M hh (typeLookup (.type "object") (PySem.dunder nm)) none := PySem.W.looks_findIn X' n.o1
  have L4 : PySem.W.Looks M hh (typeLookup (.type "object") (dunderR nm)) none := PySem.W.looks_findIn X' n.o2
  unfold fillsNumberSlot
  refine wpAny_bind (Lm'.at ?_)
  rw [hm, List.anyM_cons]
  refine wpAny_bind ?_
  repeat (first | exact q | lk | (rw [List.anyM_cons]; refine wpAny_bind ?_))
open PySem.W in
theorem binop_two {op : Operator} {b : Value} {Q : Value → Shared → Prop} (X : K.In s.heap) (I : PySem.W.InstAt s.heap x ox C od) (hb : PySem.W.Looks (model prog w) s.heap (typeOf b) (.ref C2)) (hc : PySem.W.selfFirst K C = true)
    (hs : PySem.W.findIn K (.ref C) (PySem.dunder op.info.2) = some (some (.ref f))) (hf : PySem.W.isFn K (.ref f) = true) (hn : ¬ C = C2) (n2 : NoOp K C2 op.info.2)
    (h : wpAny (model prog w) A (call (.ref f) [.ref x, b]) (PySem.W.CmpBack Q) E s) : wpAny (model prog w) A (binaryOp op (.ref x) b) Q E s := by
  obtain ⟨cd, rest, hcd, hm⟩ := ksp_first hc
  rcases hi : op.info with ⟨sym, nm'⟩
  rw [hi] at hs n2
  dsimp only at hs n2
  have one := ksp_try X I hs hf h
  obtain ⟨hh, g, d, tt, os⟩ := s
  have L1 : Looks (model prog w) hh (typeOf (.ref x)) (.ref C) := I.type
  have L2 : Looks (model prog w) hh (typeOf b) (.ref C2) := hb
  have L3 : Looks (model prog w) hh (fillsNumberSlot (.ref C) nm') true := fills_K X hcd hm hs
  have L4 : Looks (model prog w) hh (fillsNumberSlot (.ref C2) nm') false := fills_no X n2
  have hne : (Value.ref C == Value.ref C2) = false := Bool.eq_false_iff.mpr fun q => by cases beq_iff_eq.mp q; exact hn rfl
  simp only [binaryOp, hi]
  refine wpAny_holding (wpAny_bind ?_)
  unfold binaryOp1
  refine wpAny_bind (L1.at (wpAny_bind (L2.at (wpAny_bind (L3.at ?_)))))
  simp only [hne, Bool.false_eq_true, if_false]
  ksp_lk
  refine wpAny_mono one (fun r s' hr' => ?_) fun _ _ e => e
  obtain ⟨v, rfl, hq⟩ := hr'
  ksp_lk
  exact hq
end
theorem back_EP {X : Cx} {pins : List (Addr × Obj)} {σ : St} {Q : VK} {u : Value} {s' : Shared} (h : EP X pins σ Q u s') : PySem.W.CmpBack (EP X pins σ Q) u s' := by
  obtain ⟨v, H', I, r, q⟩ := id h
  cases v with
  | non => cases (show u = _ from r); exact h
  | bl b => cases (show u = _ from r); exact h
  | int i => obtain ⟨t, e⟩ := (show ∃ t, u = Value.int i t from r); cases e; exact h
  | str x => obtain ⟨t, e⟩ := (show ∃ t, u = Value.str x t from r); cases e; exact h
  | byt b => obtain ⟨t, e⟩ := (show ∃ t, u = Value.bytes b t from r); cases e; exact h
  | flt b => obtain ⟨t, e⟩ := (show ∃ t, u = Value.float b t from r); cases e; exact h
  | ref a => cases (show u = _ from r); exact h
  | ty n => cases (show u = _ from r); exact h
section
variable {X : Cx} {W : WX} {pos : Pos} {a b : Expr} {ma mb : EM} {k : Nat}
/-- a op b, two instances -/
theorem e_opO {op : Operator} {alts : AltsB} (hA : AltsBOk X k op alts) (hr : Room k X.A) (tk : L2N.Takes X W) (ha : DE X none W a ma) (hb : DE X none W b mb) : DE X none W (.BinOp a op b pos) (m2 (dOpO alts) ma mb) := by
  refine ⟨fun pins s σ H Q I h => ?_⟩
  obtain ⟨S, e, r, q⟩ := h
  refine wpAny_BinOp (binT (R := fun x y H2 => ∃ S2 dx dy, Rep X.K none S2 H2 dx x ∧ Rep X.K none S2 H2 dy y ∧ Post X.K none W S2 σ H2 (dOpO alts dx dy) Q) ha hb I ⟨S, e, r, (Post.bd q).imp fun v H1 ⟨d, _, e1, r1, q1⟩ => ⟨Fr S H, e, r.mono e1 fun _ => Fr.self, (Post.bd q1).imp fun u H2 ⟨d2, _, e2, r2, q2⟩ => ⟨_, d, d2, r1.mono e2 (fun _ => Fr.self), r2, q2⟩⟩⟩ fun v u s2 x y H2 I2 rx ry q => ?_)
  obtain ⟨S2, dx, dy, rdx, rdy, q⟩ := q
  cases dx with
  | obj c ns ds =>
    cases dy with
    | obj c2 ns2 ds2 =>
      simp only [dOpO] at q
      cases hl : alts.lookup (c, c2) with
      | none =>
        rw [hl] at q
        exact (show False from q).elim
      | some g =>
        rw [hl] at q
        have M := hA c c2 g hl
        obtain ⟨a1, dx1, f1, rfl, h1, h2, h3, h4⟩ := id rdx
        obtain ⟨a2, dx2, f2, rfl, k1, k2, k3, k4⟩ := id rdy
        obtain rfl : v = Value.ref a1 := rx
        obtain rfl : u = Value.ref a2 := ry
        obtain ⟨mA, O, _⟩ := ins_get I2.hok h1
        obtain ⟨od, J, _⟩ := O.look
        obtain ⟨mB, O2, _⟩ := ins_get I2.hok k1
        obtain ⟨od2, J2, _⟩ := O2.look
        obtain ⟨⟨fd, ps, F1, bd⟩, kp⟩ := M.me.fn
        have run := run_fnS (E := WE W) (us := [.ref a1, .ref a2]) (vs := [.ref a1, .ref a2]) F1 hr bd (L2N.passAt tk σ) I2 (.cons rfl (.cons rfl .nil)) ⟨_, [D.obj c ns ds, D.obj c2 ns2 ds2], rfl, Reps.cons rdx (Reps.one rdy), post_sp q⟩
        have run := thn run fun u s' h => back_EP h
        rcases M.ot with e | ⟨hn, n2⟩
        · subst e
          obtain ⟨m, hF⟩ := I2.fr
          exact PySem.W.binop_K hF I2.ok.mod.kin J J2.type M.sf M.me.me.at_ M.me.me.fn run
        · exact binop_two I2.kIn J J2.type M.sf M.me.me.at_ M.me.me.fn hn n2 run
    | _ => exact (show False from q).elim
  | _ => exact (show False from q).elim
/-- ~ a -/
def dInvO (alts : Alts) : D → R D
  | .obj c ns ds => (match alts.lookup c with
    | some g => g [.obj c ns ds]
    | none => .bad)
  | _ => .bad
theorem e_invO {alts : Alts} (hA : AltsOk X k "__invert__" 1 alts) (hr : Room k X.A) (tk : L2N.Takes X W) (ha : DE X none W a ma) : DE X none W (.UnaryOp .Invert a pos) (m1 (dInvO alts) ma) := by
  refine ⟨fun pins s σ H Q I h => ?_⟩
  obtain ⟨S, e, r, q⟩ := h
  refine UnaryOp_ (thn (ha.run pins s σ H _ I ⟨S, e, r, Post.bd q⟩) fun v s1 hv => ?_)
  obtain ⟨x, H1, I1, rx, d, _, e1, r1, q1⟩ := hv
  cases d with
  | obj c ns ds =>
    simp only [dInvO] at q1
    cases hl : alts.lookup c with
    | none =>
      rw [hl] at q1
      exact (show False from q1).elim
    | some g =>
      rw [hl] at q1
      have M := hA c g hl
      obtain ⟨a1, dx1, f1, rfl, h1, h2, h3, h4⟩ := id r1
      obtain rfl : v = Value.ref a1 := rx
      obtain ⟨mA, O, _⟩ := ins_get I1.hok h1
      obtain ⟨od, J, _⟩ := O.look
      obtain ⟨⟨fd, ps, F1, bd⟩, kp⟩ := M.fn
      obtain ⟨m, hF⟩ := I1.fr
      refine PySem.W.ksp_inv hF I1.ok.mod.kin J M.me.at_ M.me.fn ?_
      exact run_fnS (E := WE W) (us := [.ref a1]) (vs := [.ref a1]) F1 hr bd (L2N.passAt tk σ) I1 (.cons rfl .nil) ⟨_, [D.obj c ns ds], rfl, Reps.one r1, post_sp q1⟩
  | _ => exact (show False from q1).elim
end
/-! #### facts -/
def fSelf (c : Str) : Fct := fun K => PySem.W.selfFirst K (ga K c)
def fNoOp (c : Str) (nm : String) : Fct := fun K => (match PySem.W.clsIn K (ga K c) with
  | some cd => (match cd.mro with
    | [.ref C, .type n] => decide (C = ga K c) && decide (n = "object")
    | _ => false)
  | none => false) && (eqO (PySem.W.findIn K (.ref (ga K c)) (PySem.dunder nm)) (some none) && (eqO (PySem.W.findIn K (.ref (ga K c)) (dunderR nm)) (some none) && (eqO (PySem.W.findIn K (.type "object") (PySem.dunder nm)) (some none) && eqO (PySem.W.findIn K (.type "object") (dunderR nm)) (some none))))
def fApart (c c2 : Str) : Fct := fun K => decide (¬ ga K c = ga K c2)
theorem noop_ok {K : PySem.W.Frag} {c : Str} {nm : String} (h : fNoOp c nm K = true) : NoOp K (ga K c) nm := by
  obtain ⟨h0, h⟩ := ba h
  obtain ⟨h1, h⟩ := ba h
  obtain ⟨h2, h⟩ := ba h
  obtain ⟨h3, h4⟩ := ba h
  refine ⟨?_, eqO_ok h1, eqO_ok h2, eqO_ok h3, eqO_ok h4⟩
  split at h0
  · rename_i cd hcd
    split at h0
    · rename_i C n hm
      obtain ⟨k1, k2⟩ := ba h0
      exact ⟨cd, hcd, by rw [hm, of_decide_eq_true k1, of_decide_eq_true k2]⟩
    · cases h0
  · cases h0
theorem apart_ok {K : PySem.W.Frag} {c c2 : Str} (h : fApart c c2 K = true) : ¬ ga K c = ga K c2 := of_decide_eq_true h
end DL

end
section
set_option Elab.async false
set_option linter.all false
set_option maxRecDepth 100000
namespace DL
open PySem PySem.Spec L2
open PyProof.Rows hiding St
open He (ga ma eqO eqO_ok ba)

/-! ### len of an instance -/
def dLenO (alts : Alts) : D → R D
  | .obj c ns ds => (match alts.lookup c with
    | some g => (match g [.obj c ns ds] with
      | .ok (.int i) => if 0 ≤ i ∧ i < 1000000 then .ok (.int i) else .bad
      | _ => .bad)
    | none => .bad)
  | _ => .bad
theorem dLenO_ok {alts : Alts} {d r : D} (h : dLenO alts d = .ok r) : ∃ c ns ds g i, d = .obj c ns ds ∧ alts.lookup c = some g ∧ g [d] = .ok (.int i) ∧ 0 ≤ i ∧ i < 1000000 ∧ r = .int i := by
  cases d with
  | obj c ns ds =>
    unfold dLenO at h
    simp only at h
    split at h
    · rename_i g hg
      split at h
      · rename_i i hi
        split at h
        · rename_i hb
          injection h with h
          exact ⟨c, ns, ds, g, i, rfl, hg, hi, hb.1, hb.2, h.symm⟩
        · cases h
      · cases h
    · cases h
  | _ => cases h
theorem dLenO_cases (alts : Alts) (d : D) : (∃ r, dLenO alts d = .ok r) ∨ dLenO alts d = .bad := by
  cases d with
  | obj c ns ds =>
    unfold dLenO
    simp only
    split
    · split
      · split
        · exact .inl ⟨_, rfl⟩
        · exact .inr rfl
      · exact .inr rfl
    · exact .inr rfl
  | _ => exact .inr rfl
section
variable {X : Cx} {W : WX} {pos : Pos} {a : Expr} {ma : EM} {k : Nat}
theorem e_lenO {alts : Alts} {x : Str} {p : Pos} (hA : AltsOk X k "__len__" 1 alts) (hr : Room (k + 1) X.A) (hg : Gl X x) (hx : x = ("len" : Str)) (hm : X.mg x = none) (ha : DE X none W a ma)
    (na : starEach [a] X.env = (false, eval a X.env) :: starEach [] X.env := by rfl) : DE X none W (.Call (.Name x p) [a] [] pos) (m1 (dLenO alts) ma) := by
  subst hx
  refine ⟨fun pins s σ H Q I h => ?_⟩
  obtain ⟨S, e, r, q⟩ := h
  refine Call_ (ld_blt I hg hm boot_len ?_)
  refine PyProof.Rows.callWith_builtin1 (PyProof.Rows.args_cons (thn (ha.run pins s σ H _ I ⟨S, e, r, Post.bd q⟩) fun v s1 hv => PyProof.Rows.args_nil ?_) na) na rfl
  obtain ⟨y, H1, I1, rx, d, _, e1, r1, q1⟩ := hv
  rcases dLenO_cases alts d with ⟨ans, ea⟩ | ea
  · rw [ea] at q1
    obtain ⟨c, ns, ds, g, i, rfl, hl, hgi, i0, i1, rfl⟩ := dLenO_ok ea
    have M := hA c g hl
    obtain ⟨a1, dx1, f1, rfl, h1, h2, h3, h4⟩ := id r1
    obtain rfl : v = Value.ref a1 := rx
    obtain ⟨mA, O, _⟩ := ins_get I1.hok h1
    obtain ⟨od, J, _⟩ := O.look
    obtain ⟨⟨fd, ps, F1, bd⟩, kp⟩ := M.fn
    refine Calls.call_function_entry kind_len plain_len entry_len (args_len1 _) ?_
    unfold Builtin.«len»
    refine wpAny_bind (m := oneArg "len" _) (wpAny_pure ?_)
    have sp : SpP X.K 1 g [.ref a1] H1 (fun v H' => v = .int i ∧ Same H1 H') E0 := ⟨_, [.obj c ns ds], rfl, Reps.one r1, by rw [hgi]; exact fun v H' e r => ⟨r, e⟩⟩
    have hl1 : ([Value.ref a1] ++ ([] : List Value)).length = ps.length := by
      have := F1.len _ _ _ _ sp
      simpa using this
    have b1 := bd s1 [.ref a1] I1.kIn hl1
    rw [List.append_nil] at b1
    refine wpAny_bind (m := callSpecial? (.ref a1) (Str.ofString "__len__")) (PySem.W.special_fn I1.kIn J M.me.at_ (beq_iff_eq.mp M.me.fn) ?_)
    refine wpAny_call (codeAny_mono (F1.run X.A.in1 X.stack s1 H1 ⟨[.ref a1], []⟩ [.ref a1] [.ref a1] _ E0 hr.in1 I1.env0.in1 b1 (.cons rfl .nil) sp) fun r s' hq => ?_)
    cases r with
    | error er =>
      exact False.elim ((passN (X := X.nox)) pins σ H1 s1 er s' (I1.wish _) hq)
    | ok fl =>
      cases fl with
      | ret u =>
        obtain ⟨v2, H', I3, rv, q3, q4⟩ := I1.after hq
        subst q3
        obtain ⟨t, rfl⟩ := rv
        refine wpAny_bind (wpAny_holding (wpAny_pure ?_))
        refine wpAny_bind (wpAny_letGo ?_)
        show wpAny _ _ (if i < 0 then _ else _) _ _ _
        rw [if_neg (by omega)]
        show wpAny _ _ (if i ≥ 2 ^ 63 then _ else _) _ _ _
        rw [if_neg (by omega)]
        exact wpAny_bind (wpAny_mkInt (wpAny_pure ⟨_, rfl, .int i, H', I3.tok _, ⟨_, rfl⟩, (show Post X.K none W (Fr S H) σ H1 (.ok (.int i)) Q from q1) (.int i) H' q4 rfl⟩))
      | next => exact False.elim hq
      | brk => exact False.elim hq
      | cont => exact False.elim hq
  · rw [ea] at q1
    exact (show False from q1).elim
end
end DL

end
section
set_option Elab.async false
set_option linter.all false
set_option maxRecDepth 100000
namespace DL
open PySem PySem.Spec L2
open PyProof.Rows hiding St
variable {X : Cx} {px : Px} {W : WX} {pos : Pos}

/-! ### len(set(xs)) -/
theorem set_count {w : World} {h : Heap} {a : Addr} {S : Int → Bool} {n : Nat} {ks : List Int} (R : SetR w h a S n) (nd : ks.Nodup) (hk : ∀ k, S k = true ↔ k ∈ ks) : n = ks.length := by
  obtain ⟨o, es, ep, t, _, _, _, _, h2, h3, _, _, h4, _⟩ := R
  have p : (es.toList.map keyOf).Perm ks := (List.perm_ext_iff_of_nodup h2 nd).mpr fun k => by rw [← h3, hk]
  have := p.length_eq
  rw [List.length_map, Array.length_toList] at this
  omega
def rLenSet (w : World) : List V → Hp → VK → Prop := fun xs H Q => ∃ (a : Addr) (S : Int → Bool) (n : Nat) (ks : List Int), xs = [V.ref a] ∧ H a = some (SetO w a S n) ∧ ks.Nodup ∧ (∀ k, S k = true ↔ k ∈ ks) ∧ ks.length < 1000 ∧ Q (.int (ks.length : Nat)) H
theorem cr_lenSet : CallR X (.builtin "len") (rLenSet X.w) := by
  intro pins s σ H xs us Q I r h
  obtain ⟨a, S, n, ks, rfl, ha, nd, hk, hl, q⟩ := h
  obtain ⟨u, rfl, ru⟩ := vals1 r
  obtain rfl : u = Value.ref a := ru
  have R := setO_get I ha
  have e := set_count R nd hk
  obtain ⟨o, es, ep, t, ho, hex, hd, _, _, _, _, hf, hn, _⟩ := R
  exact call_len_set ho hex hd hf (by rw [hn] <;> omega) ⟨.int (ks.length : Nat), H, I.tok _, ⟨_, by rw [hn, e]⟩, q⟩
def dLenSet (x : D) : R D := (dSortSet x).bd fun y => match y with
  | .lst ds => .ok (.int (ds.length : Nat))
  | _ => .bad
theorem len_sortU : ∀ l : List Int, (sortU l).length ≤ l.length
  | [] => Nat.le_refl _
  | x :: l => by
    have ins : ∀ m : List Int, (insU x m).length ≤ m.length + 1 := fun m => by
      induction m with
      | nil => exact Nat.le_refl _
      | cons y m ih =>
        unfold insU
        split
        · simp
        · split <;> simp <;> omega
    have := len_sortU l
    have := ins (sortU l)
    show (insU x (sortU l)).length ≤ _
    rw [List.length_cons]
    omega
/-- len(set(a)) -/
theorem e_lenSet {x y : Str} {p q qpos : Pos} {a : Expr} {ma : EM} (hc : X.calm = true) (hg : Gl X x) (hm : X.mg x = none) (hv : bootBuiltins x = some (.builtin "len")) (hg2 : Gl X y) (hm2 : X.mg y = none) (hv2 : bootBuiltins y = some (.type "set")) (ha : DE X px W a ma)
    (hn : x ≠ "__name__" := by decide) (hdb : (x == ("__debug__" : Str)) = false := by decide) (hn2 : y ≠ "__name__" := by decide) (hdb2 : (y == ("__debug__" : Str)) = false := by decide)
    (he : starEach [.Call (.Name y q) [a] [] qpos] X.env = [(false, eval (.Call (.Name y q) [a] [] qpos) X.env)] := by rfl) (he2 : starEach [a] X.env = [(false, eval a X.env)] := by rfl) :
    DE X px W (.Call (.Name x p) [.Call (.Name y q) [a] [] qpos] [] pos) (m1 dLenSet ma) := by
  refine PE.imp (pe_callB cr_lenSet hg hm hv (pa_cons (pe_callTy (cr_setI hc) hg2 hm2 hv2 (pa_cons ha pa_nil he2) hn2 hdb2 he2 rfl) pa_nil he) hn hdb he rfl) fun σ H Q h => ?_
  obtain ⟨S, e, r, q⟩ := h
  refine ⟨S, e, r, (Post.bd q).imp fun v H1 ⟨d, _, e1, r1, q1⟩ => ?_⟩
  unfold dLenSet at q1
  rcases sortSet_cases d with ⟨ans, ea⟩ | ea
  · rw [ea] at q1
    obtain ⟨ns, hd, h60, rfl⟩ := sortSet_of ea
    have src : ∃ b, v = .ref b ∧ (SqL X.K H1 b (ns.map V.int) ∨ SqT X.K H1 b (ns.map V.int)) := by
      rcases hd with rfl | rfl
      · obtain ⟨b, vs, rfl, h1, h2, h3⟩ := r1
        rw [reps_intsV h3] at h1
        exact ⟨b, rfl, .inr h1⟩
      · obtain ⟨b, vs, rfl, h1, _, h2, h3⟩ := r1
        rw [reps_intsV h3] at h1
        exact ⟨b, rfl, .inl (SqL.of h1)⟩
    obtain ⟨b, rfl, hs⟩ := src
    refine ⟨b, ns, rfl, hs, h60, fun p c hp hcn => ?_⟩
    have ln := len_sortU ns
    refine ⟨p, _, c, sortU ns, rfl, upd_same, sorted_sortU.imp (fun h => by omega), fun k => by rw [mem_sortU]; exact decide_eq_true_iff, by omega, ?_⟩
    have q1 : Post X.K px W (Fr S H) σ H1 (.ok (.int ((((sortU ns).map D.int).length : Nat) : Int))) Q := q1
    rw [List.length_map] at q1
    exact q1 _ _ (Same.new hp) rfl
  · rw [ea] at q1
    exact (show False from q1).elim
/-! ### sorted(xs) of ints, of pairs of ints -/
def insI (x : Int) : List Int → List Int
  | [] => [x]
  | y :: l => if x ≤ y then x :: y :: l else y :: insI x l
def sortI : List Int → List Int
  | [] => []
  | x :: l => insI x (sortI l)
theorem insI_perm (x : Int) : ∀ l : List Int, (insI x l).Perm (x :: l)
  | [] => .refl _
  | y :: l => by
    unfold insI
    split
    · exact .refl _
    · exact ((insI_perm x l).cons y).trans (.swap ..)
theorem sortI_perm : ∀ l : List Int, (sortI l).Perm l
  | [] => .refl _
  | x :: l => (insI_perm x _).trans ((sortI_perm l).cons x)
theorem insI_sorted {x : Int} : ∀ {l : List Int}, l.Pairwise (· ≤ ·) → (insI x l).Pairwise (· ≤ ·)
  | [], _ => List.pairwise_singleton _ _
  | y :: l, h => by
    have h' := h
    rw [List.pairwise_cons] at h
    unfold insI
    split
    · rename_i q
      refine List.pairwise_cons.mpr ⟨fun z hz => ?_, h'⟩
      rcases List.mem_cons.mp hz with rfl | hz
      · exact q
      · have := h.1 z hz
        omega
    · rename_i q
      refine List.pairwise_cons.mpr ⟨fun z hz => ?_, insI_sorted h.2⟩
      rcases List.mem_cons.mp ((insI_perm x l).mem_iff.mp hz) with rfl | hz
      · omega
      · exact h.1 z hz
theorem sortI_sorted : ∀ l : List Int, (sortI l).Pairwise (· ≤ ·)
  | [] => .nil
  | _ :: l => insI_sorted (sortI_sorted l)
theorem perm_sorted : ∀ {a b : List Int}, a.Perm b → a.Pairwise (· ≤ ·) → b.Pairwise (· ≤ ·) → a = b
  | [], b, p, _, _ => (List.nil_perm.mp p).symm
  | x :: a, [], p, _, _ => by simpa using p.length_eq
  | x :: a, y :: b, p, ha, hb => by
    rw [List.pairwise_cons] at ha hb
    have e : x = y := by
      rcases List.mem_cons.mp (p.mem_iff.mp List.mem_cons_self) with z | z
      · exact z
      · rcases List.mem_cons.mp (p.mem_iff.mpr (show y ∈ y :: b from List.mem_cons_self)) with q | q
        · exact q.symm
        · have := hb.1 x z
          have := ha.1 y q
          omega
    subst e
    rw [perm_sorted (List.perm_cons x |>.mp p) ha.2 hb.2]
/-- pairs, by the first, then by the second -/
def leP (p q : Int × Int) : Bool := decide (p.1 < q.1) || (decide (p.1 = q.1) && decide (p.2 ≤ q.2))
theorem leP_iff {p q : Int × Int} : leP p q = true ↔ p.1 < q.1 ∨ (p.1 = q.1 ∧ p.2 ≤ q.2) := by
  unfold leP
  rw [Bool.or_eq_true, Bool.and_eq_true, decide_eq_true_iff, decide_eq_true_iff, decide_eq_true_iff]
def insP (x : Int × Int) : List (Int × Int) → List (Int × Int)
  | [] => [x]
  | y :: l => if leP x y = true then x :: y :: l else y :: insP x l
def sortP : List (Int × Int) → List (Int × Int)
  | [] => []
  | x :: l => insP x (sortP l)
theorem insP_perm (x : Int × Int) : ∀ l : List (Int × Int), (insP x l).Perm (x :: l)
  | [] => .refl _
  | y :: l => by
    unfold insP
    split
    · exact .refl _
    · exact ((insP_perm x l).cons y).trans (.swap ..)
theorem sortP_perm : ∀ l : List (Int × Int), (sortP l).Perm l
  | [] => .refl _
  | x :: l => (insP_perm x _).trans ((sortP_perm l).cons x)
theorem insP_sorted {x : Int × Int} : ∀ {l : List (Int × Int)}, l.Pairwise (fun a b => leP a b = true) → (insP x l).Pairwise (fun a b => leP a b = true)
  | [], _ => List.pairwise_singleton _ _
  | y :: l, h => by
    have h' := h
    rw [List.pairwise_cons] at h
    unfold insP
    split
    · rename_i q
      refine List.pairwise_cons.mpr ⟨fun z hz => ?_, h'⟩
      rcases List.mem_cons.mp hz with rfl | hz
      · exact q
      · have := leP_iff.mp (h.1 z hz)
        have := leP_iff.mp q
        exact leP_iff.mpr (by omega)
    · rename_i q
      refine List.pairwise_cons.mpr ⟨fun z hz => ?_, insP_sorted h.2⟩
      rcases List.mem_cons.mp ((insP_perm x l).mem_iff.mp hz) with rfl | hz
      · have : ¬ (z.1 < y.1 ∨ (z.1 = y.1 ∧ z.2 ≤ y.2)) := fun w => q (leP_iff.mpr w)
        exact leP_iff.mpr (by omega)
      · exact h.1 z hz
theorem sortP_sorted : ∀ l : List (Int × Int), (sortP l).Pairwise (fun a b => leP a b = true)
  | [] => .nil
  | _ :: l => insP_sorted (sortP_sorted l)
theorem permP_sorted : ∀ {a b : List (Int × Int)}, a.Perm b → a.Pairwise (fun a b => leP a b = true) → b.Pairwise (fun a b => leP a b = true) → a = b
  | [], b, p, _, _ => (List.nil_perm.mp p).symm
  | x :: a, [], p, _, _ => by simpa using p.length_eq
  | x :: a, y :: b, p, ha, hb => by
    rw [List.pairwise_cons] at ha hb
    have e : x = y := by
      rcases List.mem_cons.mp (p.mem_iff.mp List.mem_cons_self) with z | z
      · exact z
      · rcases List.mem_cons.mp (p.mem_iff.mpr (show y ∈ y :: b from List.mem_cons_self)) with q | q
        · exact q.symm
        · have := leP_iff.mp (hb.1 x z)
          have := leP_iff.mp (ha.1 y q)
          exact Prod.ext (by omega) (by omega)
    subst e
    rw [permP_sorted (List.perm_cons x |>.mp p) ha.2 hb.2]
def prD (p : Int × Int) : D := .tup [.int p.1, .int p.2]
def prsD : List D → Option (List (Int × Int))
  | [] => some []
  | .tup [.int i, .int j] :: ds => (prsD ds).map fun ps => (i, j) :: ps
  | _ => none
theorem prs_of : ∀ {ds : List D} {ps : List (Int × Int)}, prsD ds = some ps → ds = ps.map prD
  | [], ps, h => by
    cases h
    rfl
  | d :: ds, ps, h => by
    unfold prsD at h
    split at h
    · rename_i heq
      cases heq
    · rename_i i j ds' heq
      cases heq
      obtain ⟨qs, e, rfl⟩ := Option.map_eq_some_iff.mp h
      rw [prs_of e]
      rfl
    · cases h
theorem prs_map (ps : List (Int × Int)) : prsD (ps.map prD) = some ps := by
  induction ps with
  | nil => rfl
  | cons p ps ih =>
    show (prsD (ps.map prD)).map _ = _
    rw [ih]
    rfl
def dSorted : D → R D
  | .lst ds => (match intsD ds with
    | some ns => .ok (.lst ((sortI ns).map .int))
    | none => (match prsD ds with
      | some ps => .ok (.lst ((sortP ps).map prD))
      | none => .bad))
  | _ => .bad
/-- x is a tuple of these two ints -/
def PrV (K : PySem.W.Frag) (H : Hp) (x : V) (p : Int × Int) : Prop := ∃ t, x = V.ref t ∧ SqT K H t [.int p.1, .int p.2]
theorem prV_fun {pins : List (Addr × Obj)} {σ : St} {H : Hp} {s : Shared} {x : V} {p q : Int × Int} (I : Inv X pins σ H s) (h1 : PrV X.K H x p) (h2 : PrV X.K H x q) : p = q := by
  obtain ⟨t, rfl, a⟩ := h1
  obtain ⟨t', e, b⟩ := h2
  cases e
  obtain ⟨i1, r1, p1, _⟩ := I.tuple a
  obtain ⟨i2, r2, p2, _⟩ := I.tuple b
  obtain ⟨o, ho, hc, n, hd⟩ := (show s.heap.IsTuple t i1.toArray from p1)
  obtain ⟨o', ho', hc', n', hd'⟩ := (show s.heap.IsTuple t i2.toArray from p2)
  rw [ho] at ho'
  cases ho'
  rw [hd] at hd'
  have e : i1 = i2 := by
    injection hd' with e1 e2
    have := congrArg Array.toList e1
    simpa using this
  subst e
  obtain ⟨u1, u2, e, ra, rb⟩ := vals2 r1
  obtain ⟨w1, w2, e', rc, rd⟩ := vals2 r2
  rw [e] at e'
  cases e'
  obtain ⟨t1, rfl⟩ := ra
  obtain ⟨t2, rfl⟩ := rb
  obtain ⟨t3, q1⟩ := rc
  obtain ⟨t4, q2⟩ := rd
  injection q1 with q1
  injection q2 with q2
  exact Prod.ext q1 q2
open Classical in
noncomputable def kOf (K : PySem.W.Frag) (H : Hp) (x : V) : Int × Int := if h : ∃ p : Int × Int, PrV K H x p then choose h else (0, 0)
theorem kOf_spec {K : PySem.W.Frag} {H : Hp} {x : V} {p : Int × Int} (h : PrV K H x p) : PrV K H x (kOf K H x) := by
  unfold kOf
  rw [dif_pos ⟨p, h⟩]
  exact Classical.choose_spec (p := fun p => PrV K H x p) ⟨p, h⟩
/-- sorted(xs), xs a list of pairs of ints -/
def rSortedQ (K : PySem.W.Frag) : List V → Hp → VK → Prop := fun vs H Q => ∃ (a : Addr) (xs : List V) (ps : List (Int × Int)), vs = [V.ref a] ∧ SqL K H a xs ∧ xs.length = ps.length ∧ (∀ (i : Nat) (x : V) (p : Int × Int), xs[i]? = some x → ps[i]? = some p → PrV K H x p) ∧
  ∀ ys q, ys.length = ps.length → (∀ (i : Nat) (y : V) (p : Int × Int), ys[i]? = some y → (sortP ps)[i]? = some p → PrV K H y p) → H q = none → Q (.ref q) (upd H q (.lst ys))
theorem cr_sortedQ : CallR X (.builtin "sorted") (rSortedQ X.K) := by
  intro pins s σ H vs us Q I r h
  obtain ⟨a, xs, ps, rfl, hs, hlen, hx, q⟩ := h
  obtain ⟨its, rv, hl, hz⟩ := I.list hs
  obtain ⟨u, rfl, ru⟩ := vals1 r
  obtain rfl : u = Value.ref a := ru
  have all : ∀ x ∈ xs, ∃ p, PrV X.K H x p := fun x hxm => by
    obtain ⟨i, hi⟩ := List.mem_iff_getElem?.mp hxm
    have lt : i < ps.length := by rw [← hlen]; exact (List.getElem?_eq_some_iff.mp hi).1
    exact ⟨ps[i], hx i x _ hi (List.getElem?_eq_getElem lt)⟩
  have kx : ∀ x ∈ xs, PrV X.K H x (kOf X.K H x) := fun x hxm => let ⟨p, h⟩ := all x hxm; kOf_spec h
  have eps : ps = xs.map (kOf X.K H) := by
    apply List.ext_getElem?
    intro i
    rw [List.getElem?_map]
    by_cases lt : i < xs.length
    · have lt2 : i < ps.length := by omega
      have a1 := List.getElem?_eq_getElem lt
      have a2 := List.getElem?_eq_getElem lt2
      have h1 := hx i _ _ a1 a2
      rw [a2, a1]
      exact congrArg some (prV_fun I h1 (kOf_spec h1))
    · rw [List.getElem?_eq_none (by omega), List.getElem?_eq_none (by omega)]
      rfl
  obtain ⟨e1, e2⟩ := refs_back rv fun x m => by
    obtain ⟨p, t, e, _⟩ := all x m
    exact ⟨t, e⟩
  refine SrtO.sorted_pairsO (k := fun u => kOf X.K H (backV u)) hl.isList (by rw [← rv.length]; exact hz) (fun v hv => ?_) fun h' d out h1 h2 kp hd hn => ?_
  · obtain ⟨t, rfl⟩ := e2 v hv
    have hm : V.ref t ∈ xs := by rw [e1]; exact List.mem_map.mpr ⟨_, hv, rfl⟩
    obtain ⟨t', e, ht⟩ := kx _ hm
    cases e
    obtain ⟨its2, r2, pt, _⟩ := I.tuple ht
    obtain ⟨o, ho, hc, n, hd⟩ := (show s.heap.IsTuple t its2.toArray from pt)
    obtain ⟨u1, u2, rfl, ri, rj⟩ := vals2 r2
    obtain ⟨t1, rfl⟩ := ri
    obtain ⟨t2, rfl⟩ := rj
    exact ⟨t, o, t1, t2, n, rfl, ho, hc, hd⟩
  · have h3 : ∀ u ∈ out, ∃ a, u = Value.ref a := fun u hu => e2 u (h2.perm.mem_iff.mp hu)
    obtain ⟨n, hn⟩ := hn
    have hb : SrtO.Stb (ltP (kOf X.K H)) (out.map backV) xs := by
      rw [e1]
      exact SrtO.Stb.map (ltP_swo (kOf X.K H)) backV h2
    have hsd : SrtO.Srtd (ltP (kOf X.K H)) (out.map backV) := SrtO.srtd_map h1
    have pm : ((out.map backV).map (kOf X.K H)).Perm ps := by
      rw [eps]
      exact hb.perm.map _
    have so : ((out.map backV).map (kOf X.K H)).Pairwise (fun a b => leP a b = true) := List.pairwise_map.mpr (List.Pairwise.imp (fun {x y} h => by
      have h := SrtO.lexB_no.mp h
      exact leP_iff.mpr (by omega)) hsd)
    have es := permP_sorted (pm.trans (sortP_perm ps).symm) so (sortP_sorted ps)
    refine ⟨.ref d, upd H d (.lst (out.map backV)), I.laid (t' := s.toks) kp hd ⟨?_, out, n, vals_back h3, hn⟩, rfl, q _ d (by rw [hb.len, hlen]) (fun i y p hy hp => ?_) (I.hok.fresh hd)⟩
    · rw [hb.len]
      exact hz
    · rw [← es, List.getElem?_map, hy] at hp
      cases hp
      exact kx y (hb.perm.mem_iff.mp (List.mem_of_getElem? hy))
def rSortedA (K : PySem.W.Frag) : List V → Hp → VK → Prop := fun vs H Q => rSortedI K vs H Q ∨ rSortedQ K vs H Q
theorem cr_sortedA : CallR X (.builtin "sorted") (rSortedA X.K) := by
  intro pins s σ H vs us Q I r h
  rcases h with h | h
  · exact cr_sortedI pins s σ H vs us Q I r h
  · exact cr_sortedQ pins s σ H vs us Q I r h
theorem reps_prs {K : PySem.W.Frag} {S : Addr → Prop} {H : Hp} : ∀ {ps : List (Int × Int)} {xs : List V}, Reps K px S H (ps.map prD) xs → ∀ (i : Nat) (x : V) (p : Int × Int), xs[i]? = some x → ps[i]? = some p → PrV K H x p
  | [], _, _, i, x, p, _, h => by simp at h
  | p0 :: ps, _, ⟨v, w, rfl, h1, h2⟩, 0, x, p, hx, hp => by
    cases hx
    cases hp
    obtain ⟨a, vs, rfl, k1, _, u1, w1, rfl, r1, u2, w2, rfl, r2, r3⟩ := h1
    cases (show u1 = .int p0.1 from r1)
    cases (show u2 = .int p0.2 from r2)
    cases (show w2 = [] from r3)
    exact ⟨a, rfl, k1⟩
  | p0 :: ps, _, ⟨v, w, rfl, h1, h2⟩, i + 1, x, p, hx, hp => reps_prs h2 i x p (by simpa using hx) (by simpa using hp)
theorem prs_reps {K : PySem.W.Frag} {S : Addr → Prop} {H : Hp} : ∀ {ps : List (Int × Int)} {xs : List V}, xs.length = ps.length → (∀ (i : Nat) (x : V) (p : Int × Int), xs[i]? = some x → ps[i]? = some p → PrV K H x p) → Reps K px S H (ps.map prD) xs
  | [], [], _, _ => rfl
  | [], _ :: _, h, _ => by simp at h
  | _ :: _, [], h, _ => by simp at h
  | p :: ps, x :: xs, hl, h => by
    obtain ⟨t, rfl, k⟩ := h 0 x p rfl rfl
    exact ⟨_, xs, rfl, ⟨t, _, rfl, k, by show 2 ≤ sizeLine; rw [sizeLine_eq]; omega, _, _, rfl, rfl, _, _, rfl, rfl, rfl⟩, prs_reps (by simpa using hl) fun i y q h1 h2 => h (i + 1) y q (by simpa using h1) (by simpa using h2)⟩
theorem sv_sortedF : ServesAF X px (rSortedA X.K) (one1 dSorted) := by
  intro W S σ H xs vs Q rx q
  cases xs with
  | nil => exact (show False from q).elim
  | cons x xs =>
    cases xs with
    | cons _ _ => exact (show False from q).elim
    | nil =>
      obtain ⟨v, w, rfl, rx, rn⟩ := rx
      cases (show w = [] from rn)
      have q2 : PostF X.K px W S σ H (dSorted x) Q := q
      clear q
      cases x with
      | lst ds =>
        obtain ⟨a, vs, rfl, h1, h2, h3, h4⟩ := rx
        unfold dSorted at q2
        simp only at q2
        cases hi : intsD ds with
        | some ns =>
          rw [hi] at q2
          simp only at q2
          have e := ints_of hi
          subst e
          rw [reps_intsV h4] at h1 h3
          refine .inl ⟨a, ns, rfl, SqL.of h1, fun ns' p pm so hp => ?_⟩
          have e2 : ns' = sortI ns := perm_sorted (pm.trans (sortI_perm ns).symm) so (sortI_sorted ns)
          subst e2
          refine q2.new hp ?_ reps_intsR
          rw [List.length_map, (sortI_perm ns).length_eq]
          rw [List.length_map] at h3
          exact h3
        | none =>
          rw [hi] at q2
          simp only at q2
          cases hq : prsD ds with
          | none =>
            rw [hq] at q2
            exact (show False from q2).elim
          | some ps =>
            rw [hq] at q2
            have e := prs_of hq
            subst e
            have hl : vs.length = ps.length := by rw [← h4.length, List.length_map]
            refine .inr ⟨a, vs, ps, rfl, SqL.of h1, hl, reps_prs h4, fun ys p ly hy hp => ?_⟩
            refine q2.new hp (by rw [ly, ← hl]; exact h3) (prs_reps (by rw [ly, (sortP_perm ps).length_eq]) hy)
      | _ => exact (show False from q2).elim
theorem f_bi {x : Str} {p : Pos} {a : Expr} {es : List Expr} {id : String} {r : List V → Hp → VK → Prop} {f : List D → R D} {m : EMs} (hc : CallR X (.builtin id) r) (hf : ServesAF X px r f) (hg : Gl X x) (hm : X.mg x = none) (hv : bootBuiltins x = some (.builtin id)) (ha : DA X px W (a :: es) m)
    (hn : x ≠ "__name__" := by decide) (hdb : (x == ("__debug__" : Str)) = false := by decide) (he : starEach (a :: es) X.env = (false, eval a X.env) :: starEach es X.env := by rfl) (hpl : (backTo pos (starEach es X.env)).any (·.1) = false := by rfl) :
    DF X px W (.Call (.Name x p) (a :: es) [] pos) (mA f m) := by
  refine PE.imp (pe_callB hc hg hm hv ha hn hdb he hpl) fun σ H Q h => ?_
  obtain ⟨S, e, r, q⟩ := h
  exact ⟨S, e, r, (Posts.bdF q).imp fun vs H1 ⟨d, _, e1, r1, q1⟩ => hf W _ σ H1 _ _ _ r1 q1⟩
theorem sv_sorted : ServesA X px (rSortedA X.K) (one1 dSorted) := sv_sortedF.sv
end DL

end
section
set_option Elab.async false
set_option linter.all false
set_option maxRecDepth 100000
namespace T
open PySem PySem.Spec L2 DL
open PyProof.Rows hiding St
def fuelW : Nat := 100000
def b__law_row_1 : SM := sIf (mH (mAnd (mB (m2 dGe (mV 3) (m2 dPow (mC (.int 10)) (mC (.int 18))))) (mB (m2 dGt (mV 4) (mC (.int 0)))))) (sSeq (sApp 5 (mH (m2 dMod (mA (one1 dInt) (mCons (mV 4) (mNil))) (mC (.int 65536))))) (sSet 4 (mH (m2 dFdiv (mV 4) (mC (.int 65536)))))) (sSeq (sSet 7 (mH (m2 dMod (mA (one1 dInt) (mCons (m2 dAdd (m2 dAdd (m2 dAdd (m2 dMul (mV 3) (mC (.int 48271))) (m2 dMul (mV 6) (mC (.int 69621)))) (m2 dMul (mV 1) (mC (.int 16807)))) (mC (.int 11))) (mNil))) (mC (.int 2147483647))))) (sApp 5 (mH (m2 dMod (m2 dFdiv (m2 dMod (mA (one1 dInt) (mCons (m2 dAdd (m2 dMul (mV 7) (mV 7)) (mV 6)) (mNil))) (mC (.int 2147483629))) (mC (.int 7))) (mC (.int 65536))))))
def l__law_row_2 : SM := sFor (.nm 6) (mH (fun e => ((mCons (mV 2) (mNil)) e).bd dRange1)) (b__law_row_1)
def m__law_row : SM := sSeq (sSet 3 (mH (m2 dAdd (m2 dMul (mC (.int 3)) (mV 1)) (mC (.int 1))))) (sSeq (sIf (mH (mB (m2 dLt (mV 1) (mA (one1 dLen) (mCons (mV 0) (mNil)))))) (sSet 3 (mH (mA (one1 dAbs) (mCons (mA (one1 dInt) (mCons (m2 dIx (mV 0) (mV 1)) (mNil))) (mNil))))) (sNx)) (sSeq (sSet 4 (mH (mV 3))) (sSeq (sOwn 5 (mHN (mA dLst (mNil)))) (sSeq (l__law_row_2) (sFrz 5 (sRet (mH (mV 5))))))))
def g__law_row (ds : List D) : R D := runF 8 m__law_row ds
def c__law_levels_1 : EM := mLc (.nm 4) [4] (fun e => ((mCons (mV 0) (mNil)) e).bd dRange1) (mYes) (m2 dMod (mA (one1 dInt) (mCons (m2 dIx (mV 1) (mV 4)) (mNil))) (m2 dAdd (mV 2) (mC (.int 1))))
def m__law_levels : SM := sSeq (sOwn 3 (mHN (c__law_levels_1))) (sSeq (sIxS 3 (mH (m2 dMod (mA (one1 dInt) (mCons (m2 dIx (mV 1) (mC (.int 8))) (mNil))) (mV 0))) (mH (mC (.int 0)))) (sFrz 3 (sRet (mH (mV 3)))))
def g__law_levels (ds : List D) : R D := runF 5 m__law_levels ds
def m_check_size : SM := sIf (mH (mOr (mB (m2 dLt (mV 0) (mC (.int 1)))) (mB (m2 dGt (mV 0) (mC (.int 8)))))) (sRz1 "BadSize" "size" (mH (mV 0))) (sNx)
def g_check_size (ds : List D) : R D := runF 1 m_check_size ds
def m_Numbers___init__ : SM := sSeq (sEx (mH (mA g_check_size (mCons (mA (one1 dLen) (mCons (mV 1) (mNil))) (mNil))))) (sSeq (sIf (mH (mB (m2 dNe (mA (dMin) (mCons (mV 1) (mNil))) (mC (.int 0))))) (sRz1 "BadLevels" "levels" (mH (mA (one1 dTuple) (mCons (mV 1) (mNil))))) (sNx)) (sSeq (sFldS ["Numbers"] 0 "size" (mH (mA (one1 dLen) (mCons (mV 1) (mNil))))) (sFldS ["Numbers"] 0 "levels" (mH (mA (one1 dTuple) (mCons (mV 1) (mNil)))))))
def g_Numbers___init__ (ds : List D) : R (List Str × List D) := runI 2 "Numbers" m_Numbers___init__ ds
def c__law_worlds_1 : EM := mLc (.nm 7) [7] (fun e => ((mCons (mV 0) (mNil)) e).bd dRange1) (mYes) (mV 7)
def b__law_worlds_2 : SM := sSeq (sSet 6 (mH (m2 dMod (mV 2) (mA (one1 dLen) (mCons (mV 3) (mNil)))))) (sSeq (sSet 2 (mH (m2 dFdiv (mV 2) (mA (one1 dLen) (mCons (mV 3) (mNil)))))) (sSeq (sApp 4 (mH (m2 dIx (mV 3) (mV 6)))) (sSet 3 (mH (m2 dAdd (mSl (mV 3) none (some (mV 6))) (mSl (mV 3) (some (m2 dAdd (mV 6) (mC (.int 1)))) none))))))
def l__law_worlds_3 : SM := sFor (.nm 5) (mH (fun e => ((mCons (mV 0) (mNil)) e).bd dRange1)) (b__law_worlds_2)
def m__law_worlds : SM := sSeq (sSet 2 (mH (mA (one1 dInt) (mCons (mV 1) (mNil))))) (sSeq (sSet 3 (mH (c__law_worlds_1))) (sSeq (sOwn 4 (mHN (mA dLst (mNil)))) (sSeq (l__law_worlds_3) (sFrz 4 (sRet (mH (mV 4)))))))
def g__law_worlds (ds : List D) : R D := runF 8 m__law_worlds ds
def m__law_sign : SM := sSeq (sIf (mH (mB (m2 dEq (mV 0) (mV 1)))) (sRet (mH (mC (.int 0)))) (sNx)) (sSeq (sIf (mH (mB (m2 dLt (mV 0) (mV 1)))) (sRet (mH (m1 dNeg (mC (.int 1))))) (sNx)) (sRet (mH (mC (.int 1)))))
def g__law_sign (ds : List D) : R D := runF 2 m__law_sign ds
def yes_NewsError : List (Str × Bool) := [("NewsError", true), ("BadSize", true), ("BadNumber", true), ("BadWorld", true), ("BadLot", true), ("EmptyLot", true), ("BadNames", true), ("TooMany", true), ("CannotGiveUp", true), ("BadLevels", true)]
def b_is_lot_1 : SM := sSeq (sIf (mH (mOr (mB (m2 dLe (mV 3) (mV 2))) (mB (m2 dGe (mV 3) (mV 0))))) (sRet (mH (mC (.bl false)))) (sNx)) (sSet 2 (mH (mV 3)))
def l_is_lot_2 : SM := sFor (.nm 3) (mH (fun e => ((mV 1) e).bd dItems)) (b_is_lot_1)
def m_is_lot : SM := sSeq (sSet 2 (mH (m1 dNeg (mC (.int 1))))) (sSeq (l_is_lot_2) (sRet (mH (mC (.bl true)))))
def g_is_lot (ds : List D) : R D := runF 4 m_is_lot ds
def m_check_lot : SM := sSeq (sEx (mH (mA g_check_size (mCons (mV 0) (mNil))))) (sIf (mH (mNot (mT (mA g_is_lot (mCons (mV 0) (mCons (mV 1) (mNil))))))) (sRz1 "BadLot" "lot" (mH (mV 1))) (sNx))
def g_check_lot (ds : List D) : R D := runF 2 m_check_lot ds
def m_all_worlds : SM := sSeq (sEx (mH (mA g_check_size (mCons (mV 0) (mNil))))) (sRet (mH (mA dTupRg (mCons (mV 0) mNil))))
def g_all_worlds (ds : List D) : R D := runF 1 m_all_worlds ds
def c_without_1 : EM := mLc (.nm 2) [2] (fun e => ((mV 0) e).bd dItems) (mB (m2 dNotIn (mV 2) (mV 1))) (mV 2)
def m_without : SM := sRet (mH (mA (one1 dTuple) (mCons (c_without_1) (mNil))))
def g_without (ds : List D) : R D := runF 3 m_without ds
def m_rest_of : SM := sRet (mH (mA g_without (mCons (mA g_all_worlds (mCons (mV 0) (mNil))) (mCons (mV 1) (mNil)))))
def g_rest_of (ds : List D) : R D := runF 2 m_rest_of ds
def m_check_full_lot : SM := sSeq (sEx (mH (mA g_check_lot (mCons (mV 0) (mCons (mV 1) (mNil)))))) (sIf (mH (mB (m2 dEq (mA (one1 dLen) (mCons (mV 1) (mNil))) (mC (.int 0))))) (sRz0 "EmptyLot") (sNx))
def g_check_full_lot (ds : List D) : R D := runF 2 m_check_full_lot ds
def c_Numbers_level_1 : EM := mLc (.nm 2) [2] (fun e => ((mV 1) e).bd dItems) (mYes) (m2 dIx (m1 (dFld ["Numbers"] "levels") (mV 0)) (mV 2))
def m_Numbers_level : SM := sSeq (sEx (mH (mA g_check_full_lot (mCons (m1 (dFld ["Numbers"] "size") (mV 0)) (mCons (mV 1) (mNil)))))) (sRet (mH (mA (dMin) (mCons (c_Numbers_level_1) (mNil)))))
def g_Numbers_level (ds : List D) : R D := runF 3 m_Numbers_level ds
def c_give_up_lot_1 : EM := mLc (.tp [.nm 4, .nm 5]) [4, 5] (fun e => ((mCons (m1 (dFld ["Numbers"] "levels") (mV 0)) (mNil)) e).bd dEnum) (mYes) (mIf (mB (m2 dIn (mV 4) (mV 1))) (mV 5) (m2 dSub (mV 5) (mV 3)))
def m_give_up_lot : SM := sSeq (sEx (mH (mA g_check_lot (mCons (m1 (dFld ["Numbers"] "size") (mV 0)) (mCons (mV 1) (mNil)))))) (sSeq (sSet 2 (mH (mA g_rest_of (mCons (m1 (dFld ["Numbers"] "size") (mV 0)) (mCons (mV 1) (mNil)))))) (sSeq (sIf (mH (mB (m2 dEq (mA (one1 dLen) (mCons (mV 2) (mNil))) (mC (.int 0))))) (sRz0 "CannotGiveUp") (sNx)) (sSeq (sSet 3 (mH (mMeth "level" [("Numbers", g_Numbers_level)] (mV 0) (mCons (mV 2) (mNil))))) (sRet (mH (mA (dMk "Numbers" g_Numbers___init__) (mCons (c_give_up_lot_1) (mNil))))))))
def g_give_up_lot (ds : List D) : R D := runF 6 m_give_up_lot ds
def b_run_givings_1 : SM := sSet 0 (mH (mA g_give_up_lot (mCons (mV 0) (mCons (mV 2) (mNil)))))
def l_run_givings_2 : SM := sFor (.nm 2) (mH (fun e => ((mV 1) e).bd dItems)) (b_run_givings_1)
def m_run_givings : SM := sSeq (sIf (mH (mB (m2 dGt (mA (one1 dLen) (mCons (mV 1) (mNil))) (mC (.int 20))))) (sRz1 "TooMany" "limit" (mH (mC (.int 20)))) (sNx)) (sSeq (l_run_givings_2) (sRet (mH (mV 0))))
def g_run_givings (ds : List D) : R D := runF 3 m_run_givings ds
def c_Numbers_believed_1 : EM := mLc (.tp [.nm 1, .nm 2]) [1, 2] (fun e => ((mCons (m1 (dFld ["Numbers"] "levels") (mV 0)) (mNil)) e).bd dEnum) (mB (m2 dEq (mV 2) (mC (.int 0)))) (mV 1)
def m_Numbers_believed : SM := sRet (mH (mA (one1 dTuple) (mCons (c_Numbers_believed_1) (mNil))))
def g_Numbers_believed (ds : List D) : R D := runF 3 m_Numbers_believed ds
def m_sign_of : SM := sSeq (sIf (mH (mAnd (mT (mV 0)) (mT (mV 1)))) (sRet (mH (mC (.int 0)))) (sNx)) (sRet (mH (mIf (mT (mV 0)) (m1 dNeg (mC (.int 1))) (mC (.int 1)))))
def g_sign_of (ds : List D) : R D := runF 2 m_sign_of ds
def b_compare_differences_1 : SM := sIf (mH (mOr (mB (m2 dLt (mV 6) (mC (.int 0)))) (mB (m2 dGe (mV 6) (m1 (dFld ["Numbers"] "size") (mV 0)))))) (sRz1 "BadWorld" "world" (mH (mV 6))) (sNx)
def l_compare_differences_2 : SM := sFor (.nm 6) (mH (fun e => ((mV 5) e).bd dItems)) (b_compare_differences_1)
def c_compare_differences_3 : EM := mLc (.nm 11) [11] (fun e => ((mCons (m1 (dFld ["Numbers"] "size") (mV 0)) (mNil)) e).bd dRange1) (mB (m2 dNotIn (mV 11) (mV 10))) (mV 11)
def c_compare_differences_4 : EM := mLc (.nm 10) [10] (fun e => ((mV 7) e).bd dItems) (mYes) (mA (one1 dTuple) (mCons (c_compare_differences_3) (mNil)))
def m_compare_differences : SM := sSeq (sSet 5 (mH (mA dTup (mCons (mV 1) (mCons (mV 2) (mCons (mV 3) (mCons (mV 4) (mNil)))))))) (sSeq (l_compare_differences_2) (sSeq (sIf (mH (mB (m2 dLt (m1 dLenSet (mV 5)) (mC (.int 4))))) (sRz1 "BadNames" "names" (mH (mV 5))) (sNx)) (sSeq (sSet 7 (mH (mA dLst (mCons (mA dTup (mCons (mV 1) (mCons (mV 2) (mNil)))) (mCons (mA dTup (mCons (mV 3) (mCons (mV 4) (mNil)))) (mCons (mA dTup (mCons (mV 1) (mCons (mV 3) (mNil)))) (mNil))))))) (sSeq (sSet 8 (mH (c_compare_differences_4))) (sSeq (sSet 9 (mH (m1 (dProp [("Numbers", g_Numbers_believed)]) (mA g_run_givings (mCons (mV 0) (mCons (mV 8) (mNil))))))) (sRet (mH (mA g_sign_of (mCons (m2 dIn (mV 1) (mV 9)) (mCons (m2 dIn (mV 3) (mV 9)) (mNil)))))))))))
def g_compare_differences (ds : List D) : R D := runF 12 m_compare_differences ds
def tbl_BadWorld : Tbl := [(.b "NoneType", false), (.b "bool", false), (.b "int", false), (.b "str", false), (.b "tuple", false), (.b "list", false), (.o "Numbers", false), (.x "NewsError", false), (.x "BadSize", false), (.x "BadNumber", false), (.x "BadWorld", true), (.x "BadLot", false), (.x "EmptyLot", false), (.x "BadNames", false), (.x "TooMany", false), (.x "CannotGiveUp", false), (.x "BadLevels", false)]
def tbl_BadNames : Tbl := [(.b "NoneType", false), (.b "bool", false), (.b "int", false), (.b "str", false), (.b "tuple", false), (.b "list", false), (.o "Numbers", false), (.x "NewsError", false), (.x "BadSize", false), (.x "BadNumber", false), (.x "BadWorld", false), (.x "BadLot", false), (.x "EmptyLot", false), (.x "BadNames", true), (.x "TooMany", false), (.x "CannotGiveUp", false), (.x "BadLevels", false)]
def tbl_ValueError : Tbl := [(.b "NoneType", false), (.b "bool", false), (.b "int", false), (.b "str", false), (.b "tuple", false), (.b "list", false), (.o "Numbers", false), (.x "NewsError", true), (.x "BadSize", true), (.x "BadNumber", true), (.x "BadWorld", true), (.x "BadLot", true), (.x "EmptyLot", true), (.x "BadNames", true), (.x "TooMany", true), (.x "CannotGiveUp", true), (.x "BadLevels", true)]
def c__law_error_1 : EM := mLc (.nm 2) [2] (mItL (mV 1)) (mT (mV 2)) (mV 2)
def m__law_error : SM := sSeq (sSet 1 (mH (mA dLst (mCons (m1 (dIsi tbl_BadWorld) (mV 0)) (mCons (m1 (dIsi tbl_BadNames) (mV 0)) (mNil)))))) (sSeq (sIf (mH (mOr (mNot (mT (m1 (dIsi tbl_ValueError) (mV 0)))) (mB (m2 dNe (mA (one1 dLen) (mCons (c__law_error_1) (mNil))) (mC (.int 1)))))) (sRet (mH (mA dTup (mCons (mC (.str "refused")) (mCons (mC (.str "odd")) (mCons (mC (.int 0)) (mNil))))))) (sNx)) (sSeq (sIf (mH (mT (m2 dIx (mV 1) (mC (.int 0))))) (sRet (mH (mA dTup (mCons (mC (.str "refused")) (mCons (mC (.str "BadWorld")) (mCons (m1 (dXf ["BadWorld"] "world") (mV 0)) (mNil))))))) (sNx)) (sSeq (sIf (mH (mT (m2 dIx (mV 1) (mC (.int 1))))) (sRet (mH (mA dTup (mCons (mC (.str "refused")) (mCons (mC (.str "BadNames")) (mCons (m1 (dXf ["BadNames"] "names") (mV 0)) (mNil))))))) (sNx)) (sRet (mH (mA dTup (mCons (mC (.str "refused")) (mCons (mC (.str "odd")) (mCons (mC (.int 0)) (mNil))))))))))
def g__law_error (ds : List D) : R D := runF 3 m__law_error ds
def m__law_asked : SM := sTry 2 yes_NewsError (sRet (mH (mA dTup (mCons (mC (.str "told")) (mCons (mA g_compare_differences (mCons (mV 0) (mCons (m2 dIx (mV 1) (mC (.int 0))) (mCons (m2 dIx (mV 1) (mC (.int 1))) (mCons (m2 dIx (mV 1) (mC (.int 2))) (mCons (m2 dIx (mV 1) (mC (.int 3))) (mNil))))))) (mNil)))))) (sRet (mH (mA g__law_error (mCons (mV 2) mNil))))
def g__law_asked (ds : List D) : R D := runF 3 m__law_asked ds
def tbl_int : Tbl := [(.b "NoneType", false), (.b "bool", true), (.b "int", true), (.b "str", false), (.b "tuple", false), (.b "list", false), (.o "Numbers", false), (.x "NewsError", false), (.x "BadSize", false), (.x "BadNumber", false), (.x "BadWorld", false), (.x "BadLot", false), (.x "EmptyLot", false), (.x "BadNames", false), (.x "TooMany", false), (.x "CannotGiveUp", false), (.x "BadLevels", false)]
def tbl_bool : Tbl := [(.b "NoneType", false), (.b "bool", true), (.b "int", false), (.b "str", false), (.b "tuple", false), (.b "list", false), (.o "Numbers", false), (.x "NewsError", false), (.x "BadSize", false), (.x "BadNumber", false), (.x "BadWorld", false), (.x "BadLot", false), (.x "EmptyLot", false), (.x "BadNames", false), (.x "TooMany", false), (.x "CannotGiveUp", false), (.x "BadLevels", false)]
def tbl_str : Tbl := [(.b "NoneType", false), (.b "bool", false), (.b "int", false), (.b "str", true), (.b "tuple", false), (.b "list", false), (.o "Numbers", false), (.x "NewsError", false), (.x "BadSize", false), (.x "BadNumber", false), (.x "BadWorld", false), (.x "BadLot", false), (.x "EmptyLot", false), (.x "BadNames", false), (.x "TooMany", false), (.x "CannotGiveUp", false), (.x "BadLevels", false)]
def tbl_list : Tbl := [(.b "NoneType", false), (.b "bool", false), (.b "int", false), (.b "str", false), (.b "tuple", false), (.b "list", true), (.o "Numbers", false), (.x "NewsError", false), (.x "BadSize", false), (.x "BadNumber", false), (.x "BadWorld", false), (.x "BadLot", false), (.x "EmptyLot", false), (.x "BadNames", false), (.x "TooMany", false), (.x "CannotGiveUp", false), (.x "BadLevels", false)]
def tbl_tuple : Tbl := [(.b "NoneType", false), (.b "bool", false), (.b "int", false), (.b "str", false), (.b "tuple", true), (.b "list", false), (.o "Numbers", false), (.x "NewsError", false), (.x "BadSize", false), (.x "BadNumber", false), (.x "BadWorld", false), (.x "BadLot", false), (.x "EmptyLot", false), (.x "BadNames", false), (.x "TooMany", false), (.x "CannotGiveUp", false), (.x "BadLevels", false)]
def b__law_same_1 (rec : List D → R D) : SM := sIf (mH (mNot (mT (mA rec (mCons (m2 dIx (mV 0) (mV 2)) (mCons (m2 dIx (mV 1) (mV 2)) (mNil))))))) (sRet (mH (mC (.bl false)))) (sNx)
def l__law_same_2 (rec : List D → R D) : SM := sFor (.nm 2) (mH (fun e => ((mCons (mA (one1 dLen) (mCons (mV 1) (mNil))) (mNil)) e).bd dRange1)) ((b__law_same_1 rec))
def m__law_same (rec : List D → R D) : SM := sSeq (sIf (mH (mB (m2 dIs (mV 1) (mC .non)))) (sRet (mH (m2 dIs (mV 0) (mC .non)))) (sNx)) (sSeq (sIf (mH (mB (m2 dIs (mV 1) (mC (.bl true))))) (sRet (mH (m2 dIs (mV 0) (mC (.bl true))))) (sNx)) (sSeq (sIf (mH (mB (m2 dIs (mV 1) (mC (.bl false))))) (sRet (mH (m2 dIs (mV 0) (mC (.bl false))))) (sNx)) (sSeq (sIf (mH (mT (m1 (dIsi tbl_int) (mV 1)))) (sRet (mH (mAndV (m1 (dIsi tbl_int) (mV 0)) (mAndV (m1 dNot (m1 (dIsi tbl_bool) (mV 0))) (m2 dEq (mV 0) (mV 1)))))) (sNx)) (sSeq (sIf (mH (mT (m1 (dIsi tbl_str) (mV 1)))) (sRet (mH (mAndV (m1 (dIsi tbl_str) (mV 0)) (m2 dEq (mV 0) (mV 1))))) (sNx)) (sSeq (sIf (mH (mOr (mAnd (mT (m1 (dIsi tbl_tuple) (mV 1))) (mNot (mT (m1 (dIsi tbl_tuple) (mV 0))))) (mAnd (mT (m1 (dIsi tbl_list) (mV 1))) (mNot (mT (m1 (dIsi tbl_list) (mV 0))))))) (sRet (mH (mC (.bl false)))) (sNx)) (sSeq (sIf (mH (mB (m2 dNe (mA (one1 dLen) (mCons (mV 0) (mNil))) (mA (one1 dLen) (mCons (mV 1) (mNil)))))) (sRet (mH (mC (.bl false)))) (sNx)) (sSeq ((l__law_same_2 rec)) (sRet (mH (mC (.bl true)))))))))))
def g__law_same : Nat → List D → R D
  | 0 => fun _ => .bad
  | n + 1 => runF 3 (m__law_same (g__law_same n))
def c_Numbers_times_1 : EM := mLc (.nm 2) [2] (fun e => ((m1 (dFld ["Numbers"] "levels") (mV 0)) e).bd dItems) (mYes) (m2 dMul (mV 2) (mV 1))
def m_Numbers_times : SM := sSeq (sIf (mH (mB (m2 dLt (mV 1) (mC (.int 1))))) (sRz1 "BadNumber" "number" (mH (mV 1))) (sNx)) (sRet (mH (mA (dMk "Numbers" g_Numbers___init__) (mCons (c_Numbers_times_1) (mNil)))))
def g_Numbers_times (ds : List D) : R D := runF 3 m_Numbers_times ds
def b_check_names_1 : SM := sIf (mH (mB (m2 dNotIn (mV 1) (mV 0)))) (sRz1 "BadNames" "names" (mH (mV 0))) (sNx)
def l_check_names_2 : SM := sFor (.nm 1) (mH (fun e => ((mCons (mA (one1 dLen) (mCons (mV 0) (mNil))) (mNil)) e).bd dRange1)) (b_check_names_1)
def m_check_names : SM := l_check_names_2
def g_check_names (ds : List D) : R D := runF 2 m_check_names ds
def c_Numbers_renamed_1 : EM := mLc (.nm 2) [2] (fun e => ((mCons (m1 (dFld ["Numbers"] "size") (mV 0)) (mNil)) e).bd dRange1) (mYes) (m2 dIx (m1 (dFld ["Numbers"] "levels") (mV 0)) (m2 dIndex (m1 asL (mV 1)) (mV 2)))
def m_Numbers_renamed : SM := sSeq (sIf (mH (mB (m2 dNe (mA (one1 dLen) (mCons (mV 1) (mNil))) (m1 (dFld ["Numbers"] "size") (mV 0))))) (sRz1 "BadNames" "names" (mH (mV 1))) (sNx)) (sSeq (sEx (mH (mA g_check_names (mCons (mV 1) (mNil))))) (sRet (mH (mA (dMk "Numbers" g_Numbers___init__) (mCons (c_Numbers_renamed_1) (mNil))))))
def g_Numbers_renamed (ds : List D) : R D := runF 3 m_Numbers_renamed ds
def tbl_Numbers : Tbl := [(.b "NoneType", false), (.b "bool", false), (.b "int", false), (.b "str", false), (.b "tuple", false), (.b "list", false), (.o "Numbers", true), (.x "NewsError", false), (.x "BadSize", false), (.x "BadNumber", false), (.x "BadWorld", false), (.x "BadLot", false), (.x "EmptyLot", false), (.x "BadNames", false), (.x "TooMany", false), (.x "CannotGiveUp", false), (.x "BadLevels", false)]
def m__law_is_numbers : SM := sSeq (sIf (mH (mOr (mNot (mT (m1 (dIsi tbl_Numbers) (mV 0)))) (mNot (mT (mA (g__law_same 6) (mCons (m1 (dFld ["Numbers"] "size") (mV 0)) (mCons (mA (one1 dLen) (mCons (mV 1) (mNil))) (mNil)))))))) (sRet (mH (mC (.bl false)))) (sNx)) (sRet (mH (mA (g__law_same 6) (mCons (m1 (dFld ["Numbers"] "levels") (mV 0)) (mCons (mA (one1 dTuple) (mCons (mV 1) (mNil))) (mNil))))))
def g__law_is_numbers (ds : List D) : R D := runF 2 m__law_is_numbers ds
def c_law_1 : EM := mLc (.nm 20) [20] (fun e => ((mA g__law_levels (mCons (mV 2) (mCons (mA g__law_row (mCons (mV 0) (mCons (mC (.int 1)) (mCons (mC (.int 9)) (mNil))))) (mCons (mC (.int 9)) (mNil))))) e).bd dItems) (mYes) (m2 dMul (mV 20) (mV 3))
def c_law_2 : EM := mLc (.nm 21) [21] (fun e => ((mCons (mV 2) (mNil)) e).bd dRange1) (mYes) (mV 21)
def c_law_3 : EM := mLc (.nm 21) [21] (fun e => ((mV 9) e).bd dItems) (mYes) (mA dTup (mCons (m2 dIx (mV 4) (mV 21)) (mCons (mV 21) (mNil))))
def c_law_4 : EM := mLc (.nm 17) [17] (fun e => ((mA dLst (mCons (m2 dSub (mV 2) (mC (.int 1))) (mCons (m2 dSub (mV 2) (mC (.int 3))) (mCons (m2 dSub (mV 2) (mC (.int 2))) (mCons (m2 dSub (mV 2) (mC (.int 4))) (mNil)))))) e).bd dItems) (mYes) (m2 dIx (m2 dIx (mA (one1 dSorted) (mCons (c_law_3) (mNil))) (mV 17)) (mC (.int 1)))
def i_law_5 : SM := sIf (mH (mAnd (mB (m2 dEq (mV 7) (mC (.int 2)))) (mB (m2 dEq (m2 dMod (m2 dIx (mV 1) (mC (.int 6))) (mC (.int 2))) (mC (.int 0)))))) (sSeq (sSet 9 (mH (c_law_2))) (sSet 8 (mH (c_law_4)))) (sNx)
def c_law_6 : EM := mLc (.nm 21) [21] (fun e => ((mV 8) e).bd dItems) (mYes) (m2 dIx (mV 6) (mV 21))
def c_law_7 : EM := mLc (.nm 21) [21] (fun e => ((mCons (mV 2) (mNil)) e).bd dRange1) (mB (m2 dNotIn (mV 21) (mV 14))) (mV 21)
def b_law_8 : SM := sApp 13 (mH (mA (one1 dTuple) (mCons (c_law_7) (mNil))))
def l_law_9 : SM := sFor (.nm 14) (mH (fun e => ((mA dLst (mCons (mA dTup (mCons (m2 dIx (mV 8) (mC (.int 0))) (mCons (m2 dIx (mV 8) (mC (.int 1))) (mNil)))) (mCons (mA dTup (mCons (m2 dIx (mV 8) (mC (.int 2))) (mCons (m2 dIx (mV 8) (mC (.int 3))) (mNil)))) (mCons (mA dTup (mCons (m2 dIx (mV 8) (mC (.int 0))) (mCons (m2 dIx (mV 8) (mC (.int 2))) (mNil)))) (mNil))))) e).bd dItems)) (b_law_8)
def b_law_10 : SM := sSeq (sSet 8 (mH (mSl (mA g__law_worlds (mCons (mV 2) (mCons (m2 dIx (mV 1) (m2 dAdd (mC (.int 3)) (mV 7))) (mNil)))) none (some (mC (.int 4)))))) (sSeq (i_law_5) (sSeq (sSet 10 (mH (mA (dMax) (mCons (mC (.int 0)) (mCons (m2 dSub (m2 dIx (mV 4) (m2 dIx (mV 8) (mC (.int 0)))) (m2 dIx (mV 4) (m2 dIx (mV 8) (mC (.int 1))))) (mNil)))))) (sSeq (sSet 11 (mH (mA (dMax) (mCons (mC (.int 0)) (mCons (m2 dSub (m2 dIx (mV 4) (m2 dIx (mV 8) (mC (.int 2)))) (m2 dIx (mV 4) (m2 dIx (mV 8) (mC (.int 3))))) (mNil)))))) (sSeq (sSet 12 (mH (mA g__law_sign (mCons (mV 10) (mCons (mV 11) (mNil)))))) (sSeq (sIf (mH (mNot (mT (mA (g__law_same 6) (mCons (mA g__law_asked (mCons (mV 5) (mCons (mV 8) (mNil)))) (mCons (mA dTup (mCons (mC (.str "told")) (mCons (mV 12) (mNil)))) (mNil))))))) (sRet (mH (mC (.bl false)))) (sNx)) (sSeq (sIf (mH (mNot (mT (mA (g__law_same 6) (mCons (mA g__law_asked (mCons (mMeth "times" [("Numbers", g_Numbers_times)] (mV 5) (mCons (mC (.int 3)) (mNil))) (mCons (mV 8) (mNil)))) (mCons (mA dTup (mCons (mC (.str "told")) (mCons (mV 12) (mNil)))) (mNil))))))) (sRet (mH (mC (.bl false)))) (sNx)) (sSeq (sIf (mH (mNot (mT (mA (g__law_same 6) (mCons (mA g__law_asked (mCons (mMeth "renamed" [("Numbers", g_Numbers_renamed)] (mV 5) (mCons (mV 6) (mNil))) (mCons (c_law_6) (mNil)))) (mCons (mA dTup (mCons (mC (.str "told")) (mCons (mV 12) (mNil)))) (mNil))))))) (sRet (mH (mC (.bl false)))) (sNx)) (sSeq (sIf (mH (mNot (mT (mA (g__law_same 6) (mCons (mA g__law_asked (mCons (mV 5) (mCons (mA dLst (mCons (m2 dIx (mV 8) (mC (.int 2))) (mCons (m2 dIx (mV 8) (mC (.int 3))) (mCons (m2 dIx (mV 8) (mC (.int 0))) (mCons (m2 dIx (mV 8) (mC (.int 1))) (mNil)))))) (mNil)))) (mCons (mA dTup (mCons (mC (.str "told")) (mCons (m2 dSub (mC (.int 0)) (mV 12)) (mNil)))) (mNil))))))) (sRet (mH (mC (.bl false)))) (sNx)) (sSeq (sOwn 13 (mHN (mA dLst (mNil)))) (sSeq (l_law_9) (sSeq (sFrz 13 (sSet 15 (mH (m1 (dProp [("Numbers", g_Numbers_believed)]) (mA g_run_givings (mCons (mV 5) (mCons (mV 13) (mNil)))))))) (sIf (mH (mOr (mB (m2 dNe (m2 dIn (m2 dIx (mV 8) (mC (.int 0))) (mV 15)) (m2 dLe (mV 12) (mC (.int 0))))) (mB (m2 dNe (m2 dIn (m2 dIx (mV 8) (mC (.int 2))) (mV 15)) (m2 dGe (mV 12) (mC (.int 0))))))) (sRet (mH (mC (.bl false)))) (sNx)))))))))))))
def l_law_11 : SM := sFor (.nm 7) (mH (fun e => ((mCons (mC (.int 3)) (mNil)) e).bd dRange1)) (b_law_10)
def c_law_12 : EM := mLc (.nm 22) [22] (fun e => ((mV 18) e).bd dItems) (mOr (mB (m2 dLt (mV 22) (mC (.int 0)))) (mB (m2 dGe (mV 22) (mV 2)))) (mV 22)
def m_law : SM := sSeq (sSet 1 (mH (mA g__law_row (mCons (mV 0) (mCons (mC (.int 0)) (mCons (mC (.int 12)) (mNil))))))) (sSeq (sSet 2 (mH (m2 dAdd (mC (.int 4)) (m2 dMod (m2 dIx (mV 1) (mC (.int 0))) (mC (.int 5)))))) (sSeq (sSet 3 (mH (m2 dIx (mA dLst (mCons (mC (.int 1)) (mCons (mC (.int 1)) (mCons (mC (.int 1)) (mCons (mC (.int 1000000007)) (mNil)))))) (m2 dMod (m2 dIx (mV 1) (mC (.int 1))) (mC (.int 4)))))) (sSeq (sSet 4 (mH (c_law_1))) (sSeq (sSet 5 (mH (mA (dMk "Numbers" g_Numbers___init__) (mCons (mV 4) (mNil))))) (sSeq (sSet 6 (mH (mA g__law_worlds (mCons (mV 2) (mCons (m2 dIx (mV 1) (mC (.int 2))) (mNil)))))) (sSeq (l_law_11) (sSeq (sSet 16 (mH (m2 dAdd (mV 2) (m2 dMod (m2 dIx (mV 1) (mC (.int 7))) (mC (.int 3)))))) (sSeq (sSet 17 (mH (m2 dMod (m2 dIx (mV 1) (mC (.int 8))) (mC (.int 4))))) (sSeq (sOwn 18 (mHN (m2 dAdd (m2 dAdd (mSl (mV 8) none (some (mV 17))) (mA dLst (mCons (mV 16) (mNil)))) (mSl (mV 8) (some (m2 dAdd (mV 17) (mC (.int 1)))) none)))) (sSeq (sIf (mLB (mNot (mT (mA (g__law_same 6) (mCons (mA g__law_asked (mCons (mV 5) (mCons (mV 18) (mNil)))) (mCons (mA dTup (mCons (mC (.str "refused")) (mCons (mC (.str "BadWorld")) (mCons (mV 16) (mNil))))) (mNil))))))) (sRet (mH (mC (.bl false)))) (sNx)) (sSeq (sIxS 18 (mH (m2 dMod (m2 dAdd (mV 17) (mC (.int 1))) (mC (.int 4)))) (mH (m2 dSub (m1 dNeg (mC (.int 1))) (m2 dMod (m2 dIx (mV 1) (mC (.int 9))) (mC (.int 3)))))) (sSeq (sFrz 18 (sIf (mH (mNot (mT (mA (g__law_same 6) (mCons (mA g__law_asked (mCons (mV 5) (mCons (mV 18) (mNil)))) (mCons (mA dTup (mCons (mC (.str "refused")) (mCons (mC (.str "BadWorld")) (mCons (m2 dIx (c_law_12) (mC (.int 0))) (mNil))))) (mNil))))))) (sRet (mH (mC (.bl false)))) (sNx))) (sSeq (sOwn 19 (mHN (mA dLst (mCons (m2 dIx (mV 8) (mC (.int 0))) (mCons (m2 dIx (mV 8) (mC (.int 1))) (mCons (m2 dIx (mV 8) (mC (.int 2))) (mCons (m2 dIx (mV 8) (mC (.int 3))) (mNil)))))))) (sSeq (sIxS 19 (mH (mV 17)) (mH (m2 dIx (mV 8) (m2 dMod (m2 dAdd (m2 dAdd (mV 17) (mC (.int 1))) (m2 dMod (m2 dIx (mV 1) (mC (.int 10))) (mC (.int 3)))) (mC (.int 4)))))) (sSeq (sFrz 19 (sIf (mH (mNot (mT (mA (g__law_same 6) (mCons (mA g__law_asked (mCons (mV 5) (mCons (mV 19) (mNil)))) (mCons (mA dTup (mCons (mC (.str "refused")) (mCons (mC (.str "BadNames")) (mCons (mA (one1 dTuple) (mCons (mV 19) (mNil))) (mNil))))) (mNil))))))) (sRet (mH (mC (.bl false)))) (sNx))) (sRet (mH (mA g__law_is_numbers (mCons (mV 5) (mCons (mV 4) (mNil)))))))))))))))))))))
def g_law (ds : List D) : R D := runF 23 m_law ds
end T

end
section
set_option Elab.async false
set_option linter.all false
set_option maxRecDepth 100000
set_option maxHeartbeats 0
namespace T
open PySem PySem.Spec L2 DL
open PyProof.Rows hiding St
abbrev prg : Program := PySem.Challenge.pw_strengthofnews_k56_differences_compared
def top (i : Nat) : Stmt := PySem.Challenge.pw_strengthofnews_k56_differences_compared.main.body.getD i (.Pass ⟨0, 0, 0, 0⟩)
abbrev s__law_row : Stmt := top 32
def N__law_row : List Str := ["script", "at", "many", "cell", "rest", "row", "k", "mixed"]
theorem nd__law_row : N__law_row.Nodup := by decide +kernel
abbrev s__law_levels : Stmt := top 34
def N__law_levels : List Str := ["size", "draws", "most", "levels", "world"]
theorem nd__law_levels : N__law_levels.Nodup := by decide +kernel
abbrev sx_BadSize : Stmt := inCls (top 3) 0
abbrev s_check_size : Stmt := top 14
def N_check_size : List Str := ["size"]
theorem nd_check_size : N_check_size.Nodup := by decide +kernel
abbrev sx_BadLevels : Stmt := inCls (top 11) 0
abbrev s_Numbers___init__ : Stmt := inCls (top 24) 0
def N_Numbers___init__ : List Str := ["self", "levels"]
theorem nd_Numbers___init__ : N_Numbers___init__.Nodup := by decide +kernel
abbrev s__law_worlds : Stmt := top 36
def N__law_worlds : List Str := ["size", "draw", "rest", "left", "row", "k", "at", "world"]
theorem nd__law_worlds : N__law_worlds.Nodup := by decide +kernel
abbrev s__law_sign : Stmt := top 37
def N__law_sign : List Str := ["first", "second"]
theorem nd__law_sign : N__law_sign.Nodup := by decide +kernel
abbrev sx_BadWorld : Stmt := inCls (top 5) 0
abbrev sx_BadNames : Stmt := inCls (top 8) 0
abbrev sx_TooMany : Stmt := inCls (top 9) 0
abbrev s_is_lot : Stmt := top 15
def N_is_lot : List Str := ["size", "lot", "last", "world"]
theorem nd_is_lot : N_is_lot.Nodup := by decide +kernel
abbrev sx_BadLot : Stmt := inCls (top 6) 0
abbrev s_check_lot : Stmt := top 16
def N_check_lot : List Str := ["size", "lot"]
theorem nd_check_lot : N_check_lot.Nodup := by decide +kernel
abbrev s_all_worlds : Stmt := top 17
def N_all_worlds : List Str := ["size"]
theorem nd_all_worlds : N_all_worlds.Nodup := by decide +kernel
abbrev s_without : Stmt := top 18
def N_without : List Str := ["lot", "other", "world"]
theorem nd_without : N_without.Nodup := by decide +kernel
abbrev s_rest_of : Stmt := top 23
def N_rest_of : List Str := ["size", "lot"]
theorem nd_rest_of : N_rest_of.Nodup := by decide +kernel
abbrev s_check_full_lot : Stmt := top 20
def N_check_full_lot : List Str := ["size", "lot"]
theorem nd_check_full_lot : N_check_full_lot.Nodup := by decide +kernel
abbrev s_Numbers_level : Stmt := inCls (top 24) 8
def N_Numbers_level : List Str := ["self", "lot", "world"]
theorem nd_Numbers_level : N_Numbers_level.Nodup := by decide +kernel
abbrev s_give_up_lot : Stmt := top 27
def N_give_up_lot : List Str := ["numbers", "lot", "outside", "least", "world", "level"]
theorem nd_give_up_lot : N_give_up_lot.Nodup := by decide +kernel
abbrev s_run_givings : Stmt := top 28
def N_run_givings : List Str := ["numbers", "lots", "lot"]
theorem nd_run_givings : N_run_givings.Nodup := by decide +kernel
abbrev s_Numbers_believed : Stmt := inCls (top 24) 7
def N_Numbers_believed : List Str := ["self", "world", "level"]
theorem nd_Numbers_believed : N_Numbers_believed.Nodup := by decide +kernel
abbrev s_sign_of : Stmt := top 30
def N_sign_of : List Str := ["first", "second"]
theorem nd_sign_of : N_sign_of.Nodup := by decide +kernel
abbrev s_compare_differences : Stmt := top 29
def N_compare_differences : List Str := ["numbers", "world", "below", "other", "beneath", "four", "number", "rows", "lots", "left", "pair", "at"]
theorem nd_compare_differences : N_compare_differences.Nodup := by decide +kernel
abbrev s__law_error : Stmt := top 38
def N__law_error : List Str := ["e", "fits", "fit"]
theorem nd__law_error : N__law_error.Nodup := by decide +kernel
abbrev s__law_asked : Stmt := top 39
def N__law_asked : List Str := ["numbers", "four", "e"]
theorem nd__law_asked : N__law_asked.Nodup := by decide +kernel
abbrev s__law_same : Stmt := top 33
def N__law_same : List Str := ["told", "due", "at"]
theorem nd__law_same : N__law_same.Nodup := by decide +kernel
abbrev sx_BadNumber : Stmt := inCls (top 4) 0
abbrev s_Numbers_times : Stmt := inCls (top 24) 6
def N_Numbers_times : List Str := ["self", "factor", "level"]
theorem nd_Numbers_times : N_Numbers_times.Nodup := by decide +kernel
abbrev s_check_names : Stmt := top 21
def N_check_names : List Str := ["names", "number"]
theorem nd_check_names : N_check_names.Nodup := by decide +kernel
abbrev s_Numbers_renamed : Stmt := inCls (top 24) 12
def N_Numbers_renamed : List Str := ["self", "names", "world"]
theorem nd_Numbers_renamed : N_Numbers_renamed.Nodup := by decide +kernel
abbrev s__law_is_numbers : Stmt := top 35
def N__law_is_numbers : List Str := ["told", "levels"]
theorem nd__law_is_numbers : N__law_is_numbers.Nodup := by decide +kernel
abbrev s_law : Stmt := top 40
def N_law : List Str := ["script", "head", "size", "scale", "levels", "numbers", "names", "turn", "four", "row", "first", "second", "due", "lots", "pair", "left", "far", "at", "bad", "twice", "level", "world", "number"]
theorem nd_law : N_law.Nodup := by decide +kernel
def fs : List Fct := [fGlo "_law_row",
  fFree "len",
  fFree "abs",
  fFree "int",
  fFree "range",
  fun _ => true,
  fGlo "_law_levels",
  fun _ => true,
  fGlo "check_size",
  fInt "SIZE_LIMIT" (8),
  fGlo "BadSize",
  fEx1 "/claim/cut.py" "BadSize" "size",
  fFree "super",
  fun _ => true,
  fFree "min",
  fGlo "BadLevels",
  fEx1 "/claim/cut.py" "BadLevels" "levels",
  fFree "tuple",
  fCls "Numbers",
  fNo "Numbers" "size",
  fNo "Numbers" "levels",
  fun _ => true,
  fMkr "Numbers",
  fGlo "Numbers",
  fGlo "_law_worlds",
  fun _ => true,
  fFree "sorted",
  fFree "max",
  fGlo "_law_sign",
  fun _ => true,
  fGlo "_law_asked",
  fGlo "NewsError",
  fExm "NewsError" "NewsError" true,
  fExm "BadSize" "NewsError" true,
  fExm "BadNumber" "NewsError" true,
  fExm "BadWorld" "NewsError" true,
  fExm "BadLot" "NewsError" true,
  fExm "EmptyLot" "NewsError" true,
  fExm "BadNames" "NewsError" true,
  fExm "TooMany" "NewsError" true,
  fExm "CannotGiveUp" "NewsError" true,
  fExm "BadLevels" "NewsError" true,
  fGlo "compare_differences",
  fGlo "BadWorld",
  fEx1 "/claim/cut.py" "BadWorld" "world",
  fFree "set",
  fGlo "BadNames",
  fEx1 "/claim/cut.py" "BadNames" "names",
  fGlo "run_givings",
  fInt "GIVING_LIMIT" (20),
  fGlo "TooMany",
  fEx1 "/claim/cut.py" "TooMany" "limit",
  fGlo "give_up_lot",
  fGlo "check_lot",
  fGlo "is_lot",
  fun _ => true,
  fGlo "BadLot",
  fEx1 "/claim/cut.py" "BadLot" "lot",
  fun _ => true,
  fGlo "rest_of",
  fGlo "all_worlds",
  fun _ => true,
  fGlo "without",
  fun _ => true,
  fun _ => true,
  fGlo "CannotGiveUp",
  fExc "CannotGiveUp",
  fGlo "check_full_lot",
  fGlo "EmptyLot",
  fExc "EmptyLot",
  fun _ => true,
  fun _ => true,
  fMeth "Numbers" "level",
  fFree "enumerate",
  fun _ => true,
  fun _ => true,
  fun _ => true,
  fPro "Numbers" "believed",
  fGlo "sign_of",
  fun _ => true,
  fun _ => true,
  fExcC "NewsError",
  fExcC "BadSize",
  fExcC "BadNumber",
  fExcC "BadWorld",
  fExcC "BadLot",
  fExcC "EmptyLot",
  fExcC "BadNames",
  fExcC "TooMany",
  fExcC "CannotGiveUp",
  fExcC "BadLevels",
  fIsO "Numbers",
  fTbl (.inr "BadWorld") tbl_BadWorld,
  fFree "isinstance",
  fTbl (.inr "BadNames") tbl_BadNames,
  fTbl (.inl "ValueError") tbl_ValueError,
  fFree "ValueError",
  fun _ => true,
  fGlo "_law_error",
  fun _ => true,
  fGlo "_law_same",
  fTbl (.inl "int") tbl_int,
  fTbl (.inl "bool") tbl_bool,
  fFree "bool",
  fTbl (.inl "str") tbl_str,
  fFree "str",
  fTbl (.inl "list") tbl_list,
  fFree "list",
  fTbl (.inl "tuple") tbl_tuple,
  fun _ => true,
  fGlo "BadNumber",
  fEx1 "/claim/cut.py" "BadNumber" "number",
  fun _ => true,
  fMeth "Numbers" "times",
  fGlo "check_names",
  fun _ => true,
  fun _ => true,
  fMeth "Numbers" "renamed",
  fGlo "_law_is_numbers",
  fTbl (.inr "Numbers") tbl_Numbers,
  fun _ => true,
  fun _ => true,
  fGlo "law"]
def fn : List DefX := [⟨fun K => He.ga K "_law_row", "_law_row", "_law_row", defArgs s__law_row, defBody s__law_row, defScope s__law_row, []⟩,
  ⟨fun K => He.ga K "_law_levels", "_law_levels", "_law_levels", defArgs s__law_levels, defBody s__law_levels, defScope s__law_levels, []⟩,
  ⟨fun K => He.ma K (He.ga K "BadSize") "__init__", "__init__", "BadSize.__init__", defArgs sx_BadSize, defBody sx_BadSize, defScope sx_BadSize, ["__class__"]⟩,
  ⟨fun K => He.ga K "check_size", "check_size", "check_size", defArgs s_check_size, defBody s_check_size, defScope s_check_size, []⟩,
  ⟨fun K => He.ma K (He.ga K "BadLevels") "__init__", "__init__", "BadLevels.__init__", defArgs sx_BadLevels, defBody sx_BadLevels, defScope sx_BadLevels, ["__class__"]⟩,
  ⟨fun K => He.ma K (He.ga K "Numbers") "__init__", "__init__", "Numbers.__init__", defArgs s_Numbers___init__, defBody s_Numbers___init__, defScope s_Numbers___init__, []⟩,
  ⟨fun K => He.ga K "_law_worlds", "_law_worlds", "_law_worlds", defArgs s__law_worlds, defBody s__law_worlds, defScope s__law_worlds, []⟩,
  ⟨fun K => He.ga K "_law_sign", "_law_sign", "_law_sign", defArgs s__law_sign, defBody s__law_sign, defScope s__law_sign, []⟩,
  ⟨fun K => He.ma K (He.ga K "BadWorld") "__init__", "__init__", "BadWorld.__init__", defArgs sx_BadWorld, defBody sx_BadWorld, defScope sx_BadWorld, ["__class__"]⟩,
  ⟨fun K => He.ma K (He.ga K "BadNames") "__init__", "__init__", "BadNames.__init__", defArgs sx_BadNames, defBody sx_BadNames, defScope sx_BadNames, ["__class__"]⟩,
  ⟨fun K => He.ma K (He.ga K "TooMany") "__init__", "__init__", "TooMany.__init__", defArgs sx_TooMany, defBody sx_TooMany, defScope sx_TooMany, ["__class__"]⟩,
  ⟨fun K => He.ga K "is_lot", "is_lot", "is_lot", defArgs s_is_lot, defBody s_is_lot, defScope s_is_lot, []⟩,
  ⟨fun K => He.ma K (He.ga K "BadLot") "__init__", "__init__", "BadLot.__init__", defArgs sx_BadLot, defBody sx_BadLot, defScope sx_BadLot, ["__class__"]⟩,
  ⟨fun K => He.ga K "check_lot", "check_lot", "check_lot", defArgs s_check_lot, defBody s_check_lot, defScope s_check_lot, []⟩,
  ⟨fun K => He.ga K "all_worlds", "all_worlds", "all_worlds", defArgs s_all_worlds, defBody s_all_worlds, defScope s_all_worlds, []⟩,
  ⟨fun K => He.ga K "without", "without", "without", defArgs s_without, defBody s_without, defScope s_without, []⟩,
  ⟨fun K => He.ga K "rest_of", "rest_of", "rest_of", defArgs s_rest_of, defBody s_rest_of, defScope s_rest_of, []⟩,
  ⟨fun K => He.ga K "check_full_lot", "check_full_lot", "check_full_lot", defArgs s_check_full_lot, defBody s_check_full_lot, defScope s_check_full_lot, []⟩,
  ⟨fun K => He.ma K (He.ga K "Numbers") "level", "level", "Numbers.level", defArgs s_Numbers_level, defBody s_Numbers_level, defScope s_Numbers_level, []⟩,
  ⟨fun K => He.ga K "give_up_lot", "give_up_lot", "give_up_lot", defArgs s_give_up_lot, defBody s_give_up_lot, defScope s_give_up_lot, []⟩,
  ⟨fun K => He.ga K "run_givings", "run_givings", "run_givings", defArgs s_run_givings, defBody s_run_givings, defScope s_run_givings, []⟩,
  ⟨fun K => pra K "Numbers" "believed", "believed", "Numbers.believed", defArgs s_Numbers_believed, defBody s_Numbers_believed, defScope s_Numbers_believed, []⟩,
  ⟨fun K => He.ga K "sign_of", "sign_of", "sign_of", defArgs s_sign_of, defBody s_sign_of, defScope s_sign_of, []⟩,
  ⟨fun K => He.ga K "compare_differences", "compare_differences", "compare_differences", defArgs s_compare_differences, defBody s_compare_differences, defScope s_compare_differences, []⟩,
  ⟨fun K => He.ga K "_law_error", "_law_error", "_law_error", defArgs s__law_error, defBody s__law_error, defScope s__law_error, []⟩,
  ⟨fun K => He.ga K "_law_asked", "_law_asked", "_law_asked", defArgs s__law_asked, defBody s__law_asked, defScope s__law_asked, []⟩,
  ⟨fun K => He.ga K "_law_same", "_law_same", "_law_same", defArgs s__law_same, defBody s__law_same, defScope s__law_same, []⟩,
  ⟨fun K => He.ma K (He.ga K "BadNumber") "__init__", "__init__", "BadNumber.__init__", defArgs sx_BadNumber, defBody sx_BadNumber, defScope sx_BadNumber, ["__class__"]⟩,
  ⟨fun K => He.ma K (He.ga K "Numbers") "times", "times", "Numbers.times", defArgs s_Numbers_times, defBody s_Numbers_times, defScope s_Numbers_times, []⟩,
  ⟨fun K => He.ga K "check_names", "check_names", "check_names", defArgs s_check_names, defBody s_check_names, defScope s_check_names, []⟩,
  ⟨fun K => He.ma K (He.ga K "Numbers") "renamed", "renamed", "Numbers.renamed", defArgs s_Numbers_renamed, defBody s_Numbers_renamed, defScope s_Numbers_renamed, []⟩,
  ⟨fun K => He.ga K "_law_is_numbers", "_law_is_numbers", "_law_is_numbers", defArgs s__law_is_numbers, defBody s__law_is_numbers, defScope s__law_is_numbers, []⟩,
  ⟨fun K => He.ga K "law", "law", "law", defArgs s_law, defBody s_law, defScope s_law, []⟩]
def looseN : List PySem.Str := (["_wall", "__name__", "NewsError", "BadSize", "BadNumber", "BadWorld", "BadLot", "EmptyLot", "BadNames", "TooMany", "CannotGiveUp", "BadLevels", "SIZE_LIMIT", "check_size", "is_lot", "check_lot", "all_worlds", "without", "check_full_lot", "check_names", "rest_of", "Numbers", "GIVING_LIMIT", "give_up_lot", "run_givings", "compare_differences", "sign_of", "_law_row", "_law_same", "_law_levels"] : List PySem.Str) ++ (["_law_is_numbers", "_law_worlds", "_law_sign", "_law_error", "_law_asked"] : List PySem.Str)
abbrev RR : PySem.W.OpenRow := PySem.W.OpenLaw.row PySem.Challenge.rw_strengthofnews_k56_differences_compared
def asA : List Addr := [3, 2, 6, 4, 21, 31, 53, 74, 95, 116, 128, 149, 170, 182, 203, 212, 219, 226, 233, 238, 245, 252, 259, 350, 359, 366, 371, 378, 385, 392, 397, 404, 409, 416, 421, 428, 433, 0, 20, 30, 52, 73, 94, 115, 127, 148, 169, 181, 202, 211, 218, 225, 232, 237, 244, 251, 258, 349, 358, 365, 370, 377, 384, 391, 396, 403, 408, 415, 420, 427, 432, 15, 16, 17, 18, 19, 29, 32, 50, 51, 71, 72, 92, 93, 113, 114, 126, 146, 147, 167, 168, 180, 200, 201, 206, 207, 208, 209, 210, 213, 214, 215, 216, 217, 220, 221, 222, 223, 224, 227, 228, 229, 230, 231, 234, 235, 236, 239, 240, 241, 242, 243, 246, 247, 248, 249, 250, 253, 254, 255, 256, 257, 273, 280, 288, 295, 300, 305, 310, 316, 321, 328, 335, 342, 347, 348, 351, 352, 355, 356, 357, 360, 361, 362, 363, 364, 367, 368, 369, 372, 373, 374, 375, 376, 379, 380, 381, 382, 383, 386, 387, 388, 389, 390, 393, 394, 395, 398, 399, 400, 401, 402, 405, 406, 407, 410, 411, 412, 413, 414, 417, 418, 419, 422, 423, 424, 425, 426, 429, 430, 431, 49, 38, 70, 59, 91, 80, 112, 101, 145, 134, 166, 155, 199, 188, 272, 278, 279, 287, 294, 299, 304, 309, 315, 320, 327, 334, 341, 346, 44, 45, 46, 47, 48, 65, 66, 67, 68, 69, 86, 87, 88, 89, 90, 107, 108, 109, 110, 111, 140, 141, 142, 143, 144, 161, 162, 163, 164, 165, 194, 195, 196, 197, 198, 267, 268, 269, 270, 271, 277, 281, 282, 283, 284, 285, 286, 289, 290, 291, 292, 293, 296, 297, 298, 301, 302, 303, 306, 307, 308, 314, 317, 318, 319, 322, 323, 324, 325, 326, 329, 330, 331, 332, 333, 336, 337, 338, 339, 340, 343, 344, 345, 274, 275, 276, 311, 312, 313]
abbrev hk : PySem.W.Hook := hookL asA fs fn
def ob (s : PySem.W.SharedT) : AlX := obsL asA fs fn (HandSHeadRun.getT s)
theorem ob_eq (s : PySem.W.SharedT) : ob s = hk.obs s.abs := obsL_eq (HandSHeadRun.getT_eq s)
open HandSHeadRun PySem.W PySem.Calls in
theorem run1 (w : World) (os : OsState) : (endF (stepQ (denQ tabQ) RR.prog w) 20000 RR.prog w os).map (fun s => looksF RR.prog (boot_heap w.params) s.abs) = some true := by
  kernel_rfl
open HandSHeadRun PySem.W PySem.Calls in
theorem run2 (w : World) (os : OsState) : (endF (stepQ (denQ tabQ) RR.prog w) 20000 RR.prog w os).map (fun s => seenQ (PySem.W.view RR.prog [40]) looseN (importedModules RR.prog.main.body) (fun s => xlAt (PySem.W.view RR.prog [40]) [] s && recOk RR.toRowW.records s) s.abs) = some (openGood (PySem.W.view RR.prog [40]) looseN) := by
  kernel_rfl
open HandSHeadRun PySem.W PySem.Calls in
theorem run3 (w : World) (os : OsState) : (endF (stepQ (denQ tabQ) RR.prog w) 20000 RR.prog w os).map ob = some (hk.val w) := by
  kernel_rfl
theorem run (w : World) : HandSHeadRun.RunEq RR (PySem.W.view RR.prog [40]) hk ob 20000 looseN w := fun os => three (run1 w os) (run2 w os) (run3 w os)

end T

end
section
set_option Elab.async false
set_option linter.all false
set_option maxRecDepth 100000
set_option maxHeartbeats 0
namespace T
open PySem PySem.Spec L2 DL
open PyProof.Rows hiding St
structure Kf (K : PySem.W.Frag) (mg : Str → Option Value) : Prop where
  g__law_row : mg "_law_row" = some (.ref (He.ga K "_law_row"))
  b_len : mg "len" = none
  b_abs : mg "abs" = none
  b_int : mg "int" = none
  b_range : mg "range" = none
  d__law_row : ∃ fd, FunD K "_law_row" "_law_row" (defArgs s__law_row) (defBody s__law_row) (defScope s__law_row) [] [] (He.ga K "_law_row") fd
  g__law_levels : mg "_law_levels" = some (.ref (He.ga K "_law_levels"))
  d__law_levels : ∃ fd, FunD K "_law_levels" "_law_levels" (defArgs s__law_levels) (defBody s__law_levels) (defScope s__law_levels) [] [] (He.ga K "_law_levels") fd
  g_check_size : mg "check_size" = some (.ref (He.ga K "check_size"))
  i_SIZE_LIMIT : ∃ t, mg "SIZE_LIMIT" = some (.int (8) t)
  g_BadSize : mg "BadSize" = some (.ref (He.ga K "BadSize"))
  e1_BadSize : Ex1 prg K "BadSize" "size" "__init__" "BadSize.__init__" (defArgs sx_BadSize) (defBody sx_BadSize) (defScope sx_BadSize)
  b_super : mg "super" = none
  d_check_size : ∃ fd, FunD K "check_size" "check_size" (defArgs s_check_size) (defBody s_check_size) (defScope s_check_size) [] [] (He.ga K "check_size") fd
  b_min : mg "min" = none
  g_BadLevels : mg "BadLevels" = some (.ref (He.ga K "BadLevels"))
  e1_BadLevels : Ex1 prg K "BadLevels" "levels" "__init__" "BadLevels.__init__" (defArgs sx_BadLevels) (defBody sx_BadLevels) (defScope sx_BadLevels)
  b_tuple : mg "tuple" = none
  c_Numbers : Cls K (He.ga K "Numbers")
  no_Numbers_size : NoAttr K (He.ga K "Numbers") "size"
  no_Numbers_levels : NoAttr K (He.ga K "Numbers") "levels"
  d_Numbers___init__ : ∃ fd, FunD K "__init__" "Numbers.__init__" (defArgs s_Numbers___init__) (defBody s_Numbers___init__) (defScope s_Numbers___init__) [] [] (He.ma K (He.ga K "Numbers") "__init__") fd
  k_Numbers : Mk K (He.ga K "Numbers") (He.ma K (He.ga K "Numbers") "__init__")
  g_Numbers : mg "Numbers" = some (.ref (He.ga K "Numbers"))
  g__law_worlds : mg "_law_worlds" = some (.ref (He.ga K "_law_worlds"))
  d__law_worlds : ∃ fd, FunD K "_law_worlds" "_law_worlds" (defArgs s__law_worlds) (defBody s__law_worlds) (defScope s__law_worlds) [] [] (He.ga K "_law_worlds") fd
  b_sorted : mg "sorted" = none
  b_max : mg "max" = none
  g__law_sign : mg "_law_sign" = some (.ref (He.ga K "_law_sign"))
  d__law_sign : ∃ fd, FunD K "_law_sign" "_law_sign" (defArgs s__law_sign) (defBody s__law_sign) (defScope s__law_sign) [] [] (He.ga K "_law_sign") fd
  g__law_asked : mg "_law_asked" = some (.ref (He.ga K "_law_asked"))
  g_NewsError : mg "NewsError" = some (.ref (He.ga K "NewsError"))
  xm_NewsError_NewsError : PySem.W.exmOne K (.ref (He.ga K "NewsError")) (.ref (He.ga K "NewsError")) = some true
  xm_BadSize_NewsError : PySem.W.exmOne K (.ref (He.ga K "BadSize")) (.ref (He.ga K "NewsError")) = some true
  xm_BadNumber_NewsError : PySem.W.exmOne K (.ref (He.ga K "BadNumber")) (.ref (He.ga K "NewsError")) = some true
  xm_BadWorld_NewsError : PySem.W.exmOne K (.ref (He.ga K "BadWorld")) (.ref (He.ga K "NewsError")) = some true
  xm_BadLot_NewsError : PySem.W.exmOne K (.ref (He.ga K "BadLot")) (.ref (He.ga K "NewsError")) = some true
  xm_EmptyLot_NewsError : PySem.W.exmOne K (.ref (He.ga K "EmptyLot")) (.ref (He.ga K "NewsError")) = some true
  xm_BadNames_NewsError : PySem.W.exmOne K (.ref (He.ga K "BadNames")) (.ref (He.ga K "NewsError")) = some true
  xm_TooMany_NewsError : PySem.W.exmOne K (.ref (He.ga K "TooMany")) (.ref (He.ga K "NewsError")) = some true
  xm_CannotGiveUp_NewsError : PySem.W.exmOne K (.ref (He.ga K "CannotGiveUp")) (.ref (He.ga K "NewsError")) = some true
  xm_BadLevels_NewsError : PySem.W.exmOne K (.ref (He.ga K "BadLevels")) (.ref (He.ga K "NewsError")) = some true
  g_compare_differences : mg "compare_differences" = some (.ref (He.ga K "compare_differences"))
  g_BadWorld : mg "BadWorld" = some (.ref (He.ga K "BadWorld"))
  e1_BadWorld : Ex1 prg K "BadWorld" "world" "__init__" "BadWorld.__init__" (defArgs sx_BadWorld) (defBody sx_BadWorld) (defScope sx_BadWorld)
  b_set : mg "set" = none
  g_BadNames : mg "BadNames" = some (.ref (He.ga K "BadNames"))
  e1_BadNames : Ex1 prg K "BadNames" "names" "__init__" "BadNames.__init__" (defArgs sx_BadNames) (defBody sx_BadNames) (defScope sx_BadNames)
  g_run_givings : mg "run_givings" = some (.ref (He.ga K "run_givings"))
  i_GIVING_LIMIT : ∃ t, mg "GIVING_LIMIT" = some (.int (20) t)
  g_TooMany : mg "TooMany" = some (.ref (He.ga K "TooMany"))
  e1_TooMany : Ex1 prg K "TooMany" "limit" "__init__" "TooMany.__init__" (defArgs sx_TooMany) (defBody sx_TooMany) (defScope sx_TooMany)
  g_give_up_lot : mg "give_up_lot" = some (.ref (He.ga K "give_up_lot"))
  g_check_lot : mg "check_lot" = some (.ref (He.ga K "check_lot"))
  g_is_lot : mg "is_lot" = some (.ref (He.ga K "is_lot"))
  d_is_lot : ∃ fd, FunD K "is_lot" "is_lot" (defArgs s_is_lot) (defBody s_is_lot) (defScope s_is_lot) [] [] (He.ga K "is_lot") fd
  g_BadLot : mg "BadLot" = some (.ref (He.ga K "BadLot"))
  e1_BadLot : Ex1 prg K "BadLot" "lot" "__init__" "BadLot.__init__" (defArgs sx_BadLot) (defBody sx_BadLot) (defScope sx_BadLot)
  d_check_lot : ∃ fd, FunD K "check_lot" "check_lot" (defArgs s_check_lot) (defBody s_check_lot) (defScope s_check_lot) [] [] (He.ga K "check_lot") fd
  g_rest_of : mg "rest_of" = some (.ref (He.ga K "rest_of"))
  g_all_worlds : mg "all_worlds" = some (.ref (He.ga K "all_worlds"))
  d_all_worlds : ∃ fd, FunD K "all_worlds" "all_worlds" (defArgs s_all_worlds) (defBody s_all_worlds) (defScope s_all_worlds) [] [] (He.ga K "all_worlds") fd
  g_without : mg "without" = some (.ref (He.ga K "without"))
  d_without : ∃ fd, FunD K "without" "without" (defArgs s_without) (defBody s_without) (defScope s_without) [] [] (He.ga K "without") fd
  d_rest_of : ∃ fd, FunD K "rest_of" "rest_of" (defArgs s_rest_of) (defBody s_rest_of) (defScope s_rest_of) [] [] (He.ga K "rest_of") fd
  g_CannotGiveUp : mg "CannotGiveUp" = some (.ref (He.ga K "CannotGiveUp"))
  x0_CannotGiveUp : Xc0 K "CannotGiveUp"
  g_check_full_lot : mg "check_full_lot" = some (.ref (He.ga K "check_full_lot"))
  g_EmptyLot : mg "EmptyLot" = some (.ref (He.ga K "EmptyLot"))
  x0_EmptyLot : Xc0 K "EmptyLot"
  d_check_full_lot : ∃ fd, FunD K "check_full_lot" "check_full_lot" (defArgs s_check_full_lot) (defBody s_check_full_lot) (defScope s_check_full_lot) [] [] (He.ga K "check_full_lot") fd
  d_Numbers_level : ∃ fd, FunD K "level" "Numbers.level" (defArgs s_Numbers_level) (defBody s_Numbers_level) (defScope s_Numbers_level) [] [] (He.ma K (He.ga K "Numbers") "level") fd
  m_Numbers_level : Meth K (He.ga K "Numbers") "level" (He.ma K (He.ga K "Numbers") "level")
  b_enumerate : mg "enumerate" = none
  d_give_up_lot : ∃ fd, FunD K "give_up_lot" "give_up_lot" (defArgs s_give_up_lot) (defBody s_give_up_lot) (defScope s_give_up_lot) [] [] (He.ga K "give_up_lot") fd
  d_run_givings : ∃ fd, FunD K "run_givings" "run_givings" (defArgs s_run_givings) (defBody s_run_givings) (defScope s_run_givings) [] [] (He.ga K "run_givings") fd
  d_Numbers_believed : ∃ fd, FunD K "believed" "Numbers.believed" (defArgs s_Numbers_believed) (defBody s_Numbers_believed) (defScope s_Numbers_believed) [] [] (pra K "Numbers" "believed") fd
  p_Numbers_believed : ∃ p, PropOf K (He.ga K "Numbers") "believed" p (pra K "Numbers" "believed")
  g_sign_of : mg "sign_of" = some (.ref (He.ga K "sign_of"))
  d_sign_of : ∃ fd, FunD K "sign_of" "sign_of" (defArgs s_sign_of) (defBody s_sign_of) (defScope s_sign_of) [] [] (He.ga K "sign_of") fd
  d_compare_differences : ∃ fd, FunD K "compare_differences" "compare_differences" (defArgs s_compare_differences) (defBody s_compare_differences) (defScope s_compare_differences) [] [] (He.ga K "compare_differences") fd
  xc_NewsError : ExcC K (He.ga K "NewsError")
  xc_BadSize : ExcC K (He.ga K "BadSize")
  xc_BadNumber : ExcC K (He.ga K "BadNumber")
  xc_BadWorld : ExcC K (He.ga K "BadWorld")
  xc_BadLot : ExcC K (He.ga K "BadLot")
  xc_EmptyLot : ExcC K (He.ga K "EmptyLot")
  xc_BadNames : ExcC K (He.ga K "BadNames")
  xc_TooMany : ExcC K (He.ga K "TooMany")
  xc_CannotGiveUp : ExcC K (He.ga K "CannotGiveUp")
  xc_BadLevels : ExcC K (He.ga K "BadLevels")
  o_Numbers : IsO K (He.ga K "Numbers")
  t_BadWorld : TblOk K (clsV K (.inr "BadWorld")) tbl_BadWorld
  b_isinstance : mg "isinstance" = none
  t_BadNames : TblOk K (clsV K (.inr "BadNames")) tbl_BadNames
  t_ValueError : TblOk K (clsV K (.inl "ValueError")) tbl_ValueError
  b_ValueError : mg "ValueError" = none
  d__law_error : ∃ fd, FunD K "_law_error" "_law_error" (defArgs s__law_error) (defBody s__law_error) (defScope s__law_error) [] [] (He.ga K "_law_error") fd
  g__law_error : mg "_law_error" = some (.ref (He.ga K "_law_error"))
  d__law_asked : ∃ fd, FunD K "_law_asked" "_law_asked" (defArgs s__law_asked) (defBody s__law_asked) (defScope s__law_asked) [] [] (He.ga K "_law_asked") fd
  g__law_same : mg "_law_same" = some (.ref (He.ga K "_law_same"))
  t_int : TblOk K (clsV K (.inl "int")) tbl_int
  t_bool : TblOk K (clsV K (.inl "bool")) tbl_bool
  b_bool : mg "bool" = none
  t_str : TblOk K (clsV K (.inl "str")) tbl_str
  b_str : mg "str" = none
  t_list : TblOk K (clsV K (.inl "list")) tbl_list
  b_list : mg "list" = none
  t_tuple : TblOk K (clsV K (.inl "tuple")) tbl_tuple
  d__law_same : ∃ fd, FunD K "_law_same" "_law_same" (defArgs s__law_same) (defBody s__law_same) (defScope s__law_same) [] [] (He.ga K "_law_same") fd
  g_BadNumber : mg "BadNumber" = some (.ref (He.ga K "BadNumber"))
  e1_BadNumber : Ex1 prg K "BadNumber" "number" "__init__" "BadNumber.__init__" (defArgs sx_BadNumber) (defBody sx_BadNumber) (defScope sx_BadNumber)
  d_Numbers_times : ∃ fd, FunD K "times" "Numbers.times" (defArgs s_Numbers_times) (defBody s_Numbers_times) (defScope s_Numbers_times) [] [] (He.ma K (He.ga K "Numbers") "times") fd
  m_Numbers_times : Meth K (He.ga K "Numbers") "times" (He.ma K (He.ga K "Numbers") "times")
  g_check_names : mg "check_names" = some (.ref (He.ga K "check_names"))
  d_check_names : ∃ fd, FunD K "check_names" "check_names" (defArgs s_check_names) (defBody s_check_names) (defScope s_check_names) [] [] (He.ga K "check_names") fd
  d_Numbers_renamed : ∃ fd, FunD K "renamed" "Numbers.renamed" (defArgs s_Numbers_renamed) (defBody s_Numbers_renamed) (defScope s_Numbers_renamed) [] [] (He.ma K (He.ga K "Numbers") "renamed") fd
  m_Numbers_renamed : Meth K (He.ga K "Numbers") "renamed" (He.ma K (He.ga K "Numbers") "renamed")
  g__law_is_numbers : mg "_law_is_numbers" = some (.ref (He.ga K "_law_is_numbers"))
  t_Numbers : TblOk K (clsV K (.inr "Numbers")) tbl_Numbers
  d__law_is_numbers : ∃ fd, FunD K "_law_is_numbers" "_law_is_numbers" (defArgs s__law_is_numbers) (defBody s__law_is_numbers) (defScope s__law_is_numbers) [] [] (He.ga K "_law_is_numbers") fd
  d_law : ∃ fd, FunD K "law" "law" (defArgs s_law) (defBody s_law) (defScope s_law) [] [] (He.ga K "law") fd
  g_law : mg "law" = some (.ref (He.ga K "law"))
theorem w__law_row {w : World} {K : PySem.W.Frag} {mg : Str → Option Value} {base : Heap} (Z : Kf K mg) : FnP prg w K mg base 1 (He.ga K "_law_row") 3 g__law_row := by
  obtain ⟨fd, F⟩ := Z.d__law_row
  exact fnp_ofC (N := N__law_row) (ps := ["script", "at", "many"]) F ⟨rfl, rfl, rfl, nd__law_row, rfl, by decide +kernel, by decide +kernel⟩ (F.bindsN fun _ _ _ _ _ _ us hl => match us, hl with | [_, _, _], _ => rfl) rfl fun cdv A outer s H E hr hp tk => (ss_cons (s_set 3 nd__law_row (x_h (e_op op_addAll sv_add (e_op op_mulAll sv_mul e_int (e_v 1)) e_int)))
    (ss_cons (s_if (b_h (t_cmp op_lt sv_lt (e_v 1) (e_bi call_lenA sv_len rfl Z.b_len (by decide +kernel) (a_cons (e_v 0) a_nil)) rfl)) (ss_one (s_set 3 nd__law_row (x_h (e_bi call_abs sv_abs rfl Z.b_abs (by decide +kernel) (a_cons (e_ty call_int1 sv_int rfl Z.b_int (by decide +kernel) (a_cons (e_ix ix_seq sv_ix (e_v 0) (e_v 1) (fun _ _ => rfl)) a_nil)) a_nil))))) ss_nil)
    (ss_cons (s_set 4 nd__law_row (x_h (e_v 3)))
    (ss_cons (s_own 5 nd__law_row (f_lst a_nil))
    (ss_cons (s_for hp rfl (i_h (i_range1 (by rfl) Z.b_range (a_cons (e_v 2) a_nil))) (g_nm 6 nd__law_row) (ss_one (s_if (b_h (t_w (w_and (t_cmp op_ge sv_ge (e_v 3) (e_op op_pow sv_pow e_int e_int) rfl) (w_and1 (t_cmp op_gt sv_gt (e_v 4) e_int rfl))))) (ss_cons (s_app (i := 5) (x_h (e_op op_modN sv_mod (e_ty call_int1 sv_int rfl Z.b_int (by decide +kernel) (a_cons (e_v 4) a_nil)) e_int)))
    (ss_one (s_set 4 nd__law_row (x_h (e_op op_fdivN sv_fdiv (e_v 4) e_int))))) (ss_cons (s_set 7 nd__law_row (x_h (e_op op_modN sv_mod (e_ty call_int1 sv_int rfl Z.b_int (by decide +kernel) (a_cons (e_op op_addAll sv_add (e_op op_addAll sv_add (e_op op_addAll sv_add (e_op op_mulAll sv_mul (e_v 3) e_int) (e_op op_mulAll sv_mul (e_v 6) e_int)) (e_op op_mulAll sv_mul (e_v 1) e_int)) e_int) a_nil)) e_int)))
    (ss_one (s_app (i := 5) (x_h (e_op op_modN sv_mod (e_op op_fdivN sv_fdiv (e_op op_modN sv_mod (e_ty call_int1 sv_int rfl Z.b_int (by decide +kernel) (a_cons (e_op op_addAll sv_add (e_op op_mulAll sv_mul (e_v 7) (e_v 7)) (e_v 6)) a_nil)) e_int) e_int) e_int))))))))
    (ss_one (s_frz 5 (s_ret (x_h (e_v 5))))))))))
theorem w__law_levels {w : World} {K : PySem.W.Frag} {mg : Str → Option Value} {base : Heap} (Z : Kf K mg) : FnP prg w K mg base 1 (He.ga K "_law_levels") 3 g__law_levels := by
  obtain ⟨fd, F⟩ := Z.d__law_levels
  exact fnp_ofC (N := N__law_levels) (ps := ["size", "draws", "most"]) F ⟨rfl, rfl, rfl, nd__law_levels, rfl, by decide +kernel, by decide +kernel⟩ (F.bindsN fun _ _ _ _ _ _ us hl => match us, hl with | [_, _, _], _ => rfl) rfl fun cdv A outer s H E hr hp tk => (ss_cons (s_lcO 3 rfl nd__law_levels (i_range1 (by rfl) Z.b_range (a_cons (e_v 0) a_nil)) (blkOk_by (own := [("world", 4)]) (by rfl)) (by decide) (fun _ _ _ _ _ => (g_nm 4 nd__law_levels)) (fun _ _ _ _ _ => ts_nil) (fun _ _ _ _ _ => (e_op op_modN sv_mod (e_ty call_int1 sv_int rfl Z.b_int (by decide +kernel) (a_cons (e_ix ix_seq sv_ix (e_v 1) (e_v 4) (fun _ _ => rfl)) a_nil)) (e_op op_addAll sv_add (e_v 2) e_int))))
    (ss_cons (s_ixs (i := 3) (x_h e_int) (x_h (e_op op_modN sv_mod (e_ty call_int1 sv_int rfl Z.b_int (by decide +kernel) (a_cons (e_ix ix_seq sv_ix (e_v 1) e_int (fun _ _ => rfl)) a_nil)) (e_v 0))))
    (ss_one (s_frz 3 (s_ret (x_h (e_v 3)))))))
theorem w_exc_BadSize {w : World} {K : PySem.W.Frag} {mg : Str → Option Value} {base : Heap} (Z : Kf K mg) : XcP prg w K mg base 1 "BadSize" "size" := by
  have E := Z.e1_BadSize
  obtain ⟨fd, h1, h2⟩ := exinit_ok (w := w) (mg := mg) (base := base) (CT := L2N.CX prg w) (k := 0) (self := "self") (x := "size") E (NdefX.nscope_by (by decide +kernel)) (by decide +kernel) rfl rfl Z.b_super (by decide +kernel) (by decide) (by decide) (by decide) (by decide) (by decide) (fun _ _ _ _ _ _ _ us hl => match us, hl with | [_, _], _ => rfl) (fun _ => rfl)
  exact ⟨E.T, E.iC, E.tI, fd, _, h1, h2⟩
theorem w_check_size {w : World} {K : PySem.W.Frag} {mg : Str → Option Value} {base : Heap} (Z : Kf K mg) : FnP prg w K mg base 3 (He.ga K "check_size") 1 g_check_size := by
  obtain ⟨fd, F⟩ := Z.d_check_size
  exact fnp_ofC (N := N_check_size) (ps := ["size"]) F ⟨rfl, rfl, rfl, nd_check_size, rfl, by decide +kernel, by decide +kernel⟩ (F.bindsN fun _ _ _ _ _ _ us hl => match us, hl with | [_], _ => rfl) rfl fun cdv A outer s H E hr hp tk => (ss_one (s_if (b_h (t_w (w_or (t_cmp op_lt sv_lt (e_v 0) e_int rfl) (w_or1 (t_cmp op_gt sv_gt (e_v 0) (e_glI rfl Z.i_SIZE_LIMIT) rfl))))) (ss_one (s_raise1 (w_exc_BadSize Z) (hr.mono (by decide)) tk rfl rfl Z.g_BadSize (x_h (e_v 0)))) ss_nil))
theorem w_exc_BadLevels {w : World} {K : PySem.W.Frag} {mg : Str → Option Value} {base : Heap} (Z : Kf K mg) : XcP prg w K mg base 1 "BadLevels" "levels" := by
  have E := Z.e1_BadLevels
  obtain ⟨fd, h1, h2⟩ := exinit_ok (w := w) (mg := mg) (base := base) (CT := L2N.CX prg w) (k := 0) (self := "self") (x := "levels") E (NdefX.nscope_by (by decide +kernel)) (by decide +kernel) rfl rfl Z.b_super (by decide +kernel) (by decide) (by decide) (by decide) (by decide) (by decide) (fun _ _ _ _ _ _ _ us hl => match us, hl with | [_, _], _ => rfl) (fun _ => rfl)
  exact ⟨E.T, E.iC, E.tI, fd, _, h1, h2⟩
theorem w_Numbers___init__ {w : World} {K : PySem.W.Frag} {mg : Str → Option Value} {base : Heap} (Z : Kf K mg) : MkC prg w K mg base 4 "Numbers" 1 g_Numbers___init__ := by
  obtain ⟨fd, F⟩ := Z.d_Numbers___init__
  exact mkp_of (N := N_Numbers___init__) (ps := ["self", "levels"]) Z.k_Numbers F ⟨rfl, rfl, rfl, nd_Numbers___init__, rfl, by decide +kernel, by decide +kernel⟩ (F.bindsN fun _ _ _ _ _ _ us hl => match us, hl with | [_, _], _ => rfl) rfl fun cdv A outer s H E hr hp tk => (ss_cons (s_expr (x_h (e_call (w_check_size Z) (hr.mono (by decide)) tk rfl Z.g_check_size (a_cons (e_bi call_lenA sv_len rfl Z.b_len (by decide +kernel) (a_cons (e_v 1) a_nil)) a_nil) (cnt_cons cnt_nil))))
    (ss_cons (s_if (b_h (t_cmp (op_neD hr.units) sv_ne (e_bi (call_minA rfl hr.units) sv_best rfl Z.b_min (by decide +kernel) (a_cons (e_v 1) a_nil)) e_int rfl)) (ss_one (s_raise1 (w_exc_BadLevels Z) (hr.mono (by decide)) tk rfl rfl Z.g_BadLevels (x_h (e_ty call_tuple_of sv_tuple rfl Z.b_tuple (by decide +kernel) (a_cons (e_v 1) a_nil))))) ss_nil)
    (ss_cons (s_fldS (i := 0) (x_h (e_bi call_lenA sv_len rfl Z.b_len (by decide +kernel) (a_cons (e_v 1) a_nil))) (fld_cons Z.c_Numbers Z.no_Numbers_size fld_nil))
    (ss_one (s_fldS (i := 0) (x_h (e_ty call_tuple_of sv_tuple rfl Z.b_tuple (by decide +kernel) (a_cons (e_v 1) a_nil))) (fld_cons Z.c_Numbers Z.no_Numbers_levels fld_nil))))))
theorem w__law_worlds {w : World} {K : PySem.W.Frag} {mg : Str → Option Value} {base : Heap} (Z : Kf K mg) : FnP prg w K mg base 1 (He.ga K "_law_worlds") 2 g__law_worlds := by
  obtain ⟨fd, F⟩ := Z.d__law_worlds
  exact fnp_ofC (N := N__law_worlds) (ps := ["size", "draw"]) F ⟨rfl, rfl, rfl, nd__law_worlds, rfl, by decide +kernel, by decide +kernel⟩ (F.bindsN fun _ _ _ _ _ _ us hl => match us, hl with | [_, _], _ => rfl) rfl fun cdv A outer s H E hr hp tk => (ss_cons (s_set 2 nd__law_worlds (x_h (e_ty call_int1 sv_int rfl Z.b_int (by decide +kernel) (a_cons (e_v 1) a_nil))))
    (ss_cons (s_lc 3 rfl nd__law_worlds (i_range1 (by rfl) Z.b_range (a_cons (e_v 0) a_nil)) (blkOk_by (own := [("world", 7)]) (by rfl)) (by decide) (fun _ _ _ _ _ => (g_nm 7 nd__law_worlds)) (fun _ _ _ _ _ => ts_nil) (fun _ _ _ _ _ => (e_v 7)))
    (ss_cons (s_own 4 nd__law_worlds (f_lst a_nil))
    (ss_cons (s_for hp rfl (i_h (i_range1 (by rfl) Z.b_range (a_cons (e_v 0) a_nil))) (g_nm 5 nd__law_worlds) (ss_cons (s_set 6 nd__law_worlds (x_h (e_op op_modN sv_mod (e_v 2) (e_bi call_lenA sv_len rfl Z.b_len (by decide +kernel) (a_cons (e_v 3) a_nil)))))
    (ss_cons (s_set 2 nd__law_worlds (x_h (e_op op_fdivN sv_fdiv (e_v 2) (e_bi call_lenA sv_len rfl Z.b_len (by decide +kernel) (a_cons (e_v 3) a_nil)))))
    (ss_cons (s_app (i := 4) (x_h (e_ix ix_seq sv_ix (e_v 3) (e_v 6) (fun _ _ => rfl))))
    (ss_one (s_set 3 nd__law_worlds (x_h (e_op op_addAll sv_add (e_sl (e_v 3) o_none (o_some (e_v 6))) (e_sl (e_v 3) (o_some (e_op op_addAll sv_add (e_v 6) e_int)) o_none)))))))))
    (ss_one (s_frz 4 (s_ret (x_h (e_v 4)))))))))
theorem w__law_sign {w : World} {K : PySem.W.Frag} {mg : Str → Option Value} {base : Heap} (Z : Kf K mg) : FnP prg w K mg base 1 (He.ga K "_law_sign") 2 g__law_sign := by
  obtain ⟨fd, F⟩ := Z.d__law_sign
  exact fnp_ofC (N := N__law_sign) (ps := ["first", "second"]) F ⟨rfl, rfl, rfl, nd__law_sign, rfl, by decide +kernel, by decide +kernel⟩ (F.bindsN fun _ _ _ _ _ _ us hl => match us, hl with | [_, _], _ => rfl) rfl fun cdv A outer s H E hr hp tk => (ss_cons (s_if (b_h (t_cmp (op_eqD hr.units) sv_eq (e_v 0) (e_v 1) rfl)) (ss_one (s_ret (x_h e_int))) ss_nil)
    (ss_cons (s_if (b_h (t_cmp op_lt sv_lt (e_v 0) (e_v 1) rfl)) (ss_one (s_ret (x_h (e_un un_neg sv_neg e_int)))) ss_nil)
    (ss_one (s_ret (x_h e_int)))))
theorem yes_NewsError_ok {K : PySem.W.Frag} {mg : Str → Option Value} (Z : Kf K mg) : ∀ q ∈ yes_NewsError, PySem.W.exmOne K (.ref (He.ga K q.1)) (.ref (He.ga K "NewsError")) = some q.2 := by
  intro q hq
  simp only [yes_NewsError, List.mem_cons, List.not_mem_nil, or_false] at hq
  rcases hq with rfl | rfl | rfl | rfl | rfl | rfl | rfl | rfl | rfl | rfl
  · exact Z.xm_NewsError_NewsError
  · exact Z.xm_BadSize_NewsError
  · exact Z.xm_BadNumber_NewsError
  · exact Z.xm_BadWorld_NewsError
  · exact Z.xm_BadLot_NewsError
  · exact Z.xm_EmptyLot_NewsError
  · exact Z.xm_BadNames_NewsError
  · exact Z.xm_TooMany_NewsError
  · exact Z.xm_CannotGiveUp_NewsError
  · exact Z.xm_BadLevels_NewsError
theorem w_exc_BadWorld {w : World} {K : PySem.W.Frag} {mg : Str → Option Value} {base : Heap} (Z : Kf K mg) : XcP prg w K mg base 1 "BadWorld" "world" := by
  have E := Z.e1_BadWorld
  obtain ⟨fd, h1, h2⟩ := exinit_ok (w := w) (mg := mg) (base := base) (CT := L2N.CX prg w) (k := 0) (self := "self") (x := "world") E (NdefX.nscope_by (by decide +kernel)) (by decide +kernel) rfl rfl Z.b_super (by decide +kernel) (by decide) (by decide) (by decide) (by decide) (by decide) (fun _ _ _ _ _ _ _ us hl => match us, hl with | [_, _], _ => rfl) (fun _ => rfl)
  exact ⟨E.T, E.iC, E.tI, fd, _, h1, h2⟩
theorem w_exc_BadNames {w : World} {K : PySem.W.Frag} {mg : Str → Option Value} {base : Heap} (Z : Kf K mg) : XcP prg w K mg base 1 "BadNames" "names" := by
  have E := Z.e1_BadNames
  obtain ⟨fd, h1, h2⟩ := exinit_ok (w := w) (mg := mg) (base := base) (CT := L2N.CX prg w) (k := 0) (self := "self") (x := "names") E (NdefX.nscope_by (by decide +kernel)) (by decide +kernel) rfl rfl Z.b_super (by decide +kernel) (by decide) (by decide) (by decide) (by decide) (by decide) (fun _ _ _ _ _ _ _ us hl => match us, hl with | [_, _], _ => rfl) (fun _ => rfl)
  exact ⟨E.T, E.iC, E.tI, fd, _, h1, h2⟩
theorem w_exc_TooMany {w : World} {K : PySem.W.Frag} {mg : Str → Option Value} {base : Heap} (Z : Kf K mg) : XcP prg w K mg base 1 "TooMany" "limit" := by
  have E := Z.e1_TooMany
  obtain ⟨fd, h1, h2⟩ := exinit_ok (w := w) (mg := mg) (base := base) (CT := L2N.CX prg w) (k := 0) (self := "self") (x := "limit") E (NdefX.nscope_by (by decide +kernel)) (by decide +kernel) rfl rfl Z.b_super (by decide +kernel) (by decide) (by decide) (by decide) (by decide) (by decide) (fun _ _ _ _ _ _ _ us hl => match us, hl with | [_, _], _ => rfl) (fun _ => rfl)
  exact ⟨E.T, E.iC, E.tI, fd, _, h1, h2⟩
theorem w_is_lot {w : World} {K : PySem.W.Frag} {mg : Str → Option Value} {base : Heap} (Z : Kf K mg) : FnP prg w K mg base 1 (He.ga K "is_lot") 2 g_is_lot := by
  obtain ⟨fd, F⟩ := Z.d_is_lot
  exact fnp_ofC (N := N_is_lot) (ps := ["size", "lot"]) F ⟨rfl, rfl, rfl, nd_is_lot, rfl, by decide +kernel, by decide +kernel⟩ (F.bindsN fun _ _ _ _ _ _ us hl => match us, hl with | [_, _], _ => rfl) rfl fun cdv A outer s H E hr hp tk => (ss_cons (s_set 2 nd_is_lot (x_h (e_un un_neg sv_neg e_int)))
    (ss_cons (s_for hp rfl (i_h (i_seq (e_v 1))) (g_nm 3 nd_is_lot) (ss_cons (s_if (b_h (t_w (w_or (t_cmp op_le sv_le (e_v 3) (e_v 2) rfl) (w_or1 (t_cmp op_ge sv_ge (e_v 3) (e_v 0) rfl))))) (ss_one (s_ret (x_h e_bl))) ss_nil)
    (ss_one (s_set 2 nd_is_lot (x_h (e_v 3))))))
    (ss_one (s_ret (x_h e_bl)))))
theorem w_exc_BadLot {w : World} {K : PySem.W.Frag} {mg : Str → Option Value} {base : Heap} (Z : Kf K mg) : XcP prg w K mg base 1 "BadLot" "lot" := by
  have E := Z.e1_BadLot
  obtain ⟨fd, h1, h2⟩ := exinit_ok (w := w) (mg := mg) (base := base) (CT := L2N.CX prg w) (k := 0) (self := "self") (x := "lot") E (NdefX.nscope_by (by decide +kernel)) (by decide +kernel) rfl rfl Z.b_super (by decide +kernel) (by decide) (by decide) (by decide) (by decide) (by decide) (fun _ _ _ _ _ _ _ us hl => match us, hl with | [_, _], _ => rfl) (fun _ => rfl)
  exact ⟨E.T, E.iC, E.tI, fd, _, h1, h2⟩
theorem w_check_lot {w : World} {K : PySem.W.Frag} {mg : Str → Option Value} {base : Heap} (Z : Kf K mg) : FnP prg w K mg base 4 (He.ga K "check_lot") 2 g_check_lot := by
  obtain ⟨fd, F⟩ := Z.d_check_lot
  exact fnp_ofC (N := N_check_lot) (ps := ["size", "lot"]) F ⟨rfl, rfl, rfl, nd_check_lot, rfl, by decide +kernel, by decide +kernel⟩ (F.bindsN fun _ _ _ _ _ _ us hl => match us, hl with | [_, _], _ => rfl) rfl fun cdv A outer s H E hr hp tk => (ss_cons (s_expr (x_h (e_call (w_check_size Z) (hr.mono (by decide)) tk rfl Z.g_check_size (a_cons (e_v 0) a_nil) (cnt_cons cnt_nil))))
    (ss_one (s_if (b_h (t_not (t_of (e_call (w_is_lot Z) (hr.mono (by decide)) tk rfl Z.g_is_lot (a_cons (e_v 0) (a_cons (e_v 1) a_nil)) (cnt_cons (cnt_cons cnt_nil)))))) (ss_one (s_raise1 (w_exc_BadLot Z) (hr.mono (by decide)) tk rfl rfl Z.g_BadLot (x_h (e_v 1)))) ss_nil)))
theorem w_all_worlds {w : World} {K : PySem.W.Frag} {mg : Str → Option Value} {base : Heap} (Z : Kf K mg) : FnP prg w K mg base 4 (He.ga K "all_worlds") 1 g_all_worlds := by
  obtain ⟨fd, F⟩ := Z.d_all_worlds
  exact fnp_ofC (N := N_all_worlds) (ps := ["size"]) F ⟨rfl, rfl, rfl, nd_all_worlds, rfl, by decide +kernel, by decide +kernel⟩ (F.bindsN fun _ _ _ _ _ _ us hl => match us, hl with | [_], _ => rfl) rfl fun cdv A outer s H E hr hp tk => (ss_cons (s_expr (x_h (e_call (w_check_size Z) (hr.mono (by decide)) tk rfl Z.g_check_size (a_cons (e_v 0) a_nil) (cnt_cons cnt_nil))))
    (ss_one (s_ret (x_h (e_tupRg rfl rfl Z.b_range rfl Z.b_tuple (e_v 0))))))
theorem w_without {w : World} {K : PySem.W.Frag} {mg : Str → Option Value} {base : Heap} (Z : Kf K mg) : FnP prg w K mg base 1 (He.ga K "without") 2 g_without := by
  obtain ⟨fd, F⟩ := Z.d_without
  exact fnp_ofC (N := N_without) (ps := ["lot", "other"]) F ⟨rfl, rfl, rfl, nd_without, rfl, by decide +kernel, by decide +kernel⟩ (F.bindsN fun _ _ _ _ _ _ us hl => match us, hl with | [_, _], _ => rfl) rfl fun cdv A outer s H E hr hp tk => (ss_one (s_ret (x_h (e_ty call_tuple_of sv_tuple rfl Z.b_tuple (by decide +kernel) (a_cons (DF.de (f_lc rfl nd_without (i_seq (e_v 0)) (blkOk_by (own := [("world", 2)]) (by rfl)) (by decide) (fun _ _ _ _ _ => (g_nm 2 nd_without)) (fun _ _ _ _ _ => (ts_one (t_cmp op_notIn_seq sv_notIn (e_v 2) (e_v 1) rfl))) (fun _ _ _ _ _ => (e_v 2)))) a_nil)))))
theorem w_rest_of {w : World} {K : PySem.W.Frag} {mg : Str → Option Value} {base : Heap} (Z : Kf K mg) : FnP prg w K mg base 5 (He.ga K "rest_of") 2 g_rest_of := by
  obtain ⟨fd, F⟩ := Z.d_rest_of
  exact fnp_ofC (N := N_rest_of) (ps := ["size", "lot"]) F ⟨rfl, rfl, rfl, nd_rest_of, rfl, by decide +kernel, by decide +kernel⟩ (F.bindsN fun _ _ _ _ _ _ us hl => match us, hl with | [_, _], _ => rfl) rfl fun cdv A outer s H E hr hp tk => (ss_one (s_ret (x_h (e_call (w_without Z) (hr.mono (by decide)) tk rfl Z.g_without (a_cons (e_call (w_all_worlds Z) (hr.mono (by decide)) tk rfl Z.g_all_worlds (a_cons (e_v 0) a_nil) (cnt_cons cnt_nil)) (a_cons (e_v 1) a_nil)) (cnt_cons (cnt_cons cnt_nil))))))
theorem w_check_full_lot {w : World} {K : PySem.W.Frag} {mg : Str → Option Value} {base : Heap} (Z : Kf K mg) : FnP prg w K mg base 5 (He.ga K "check_full_lot") 2 g_check_full_lot := by
  obtain ⟨fd, F⟩ := Z.d_check_full_lot
  exact fnp_ofC (N := N_check_full_lot) (ps := ["size", "lot"]) F ⟨rfl, rfl, rfl, nd_check_full_lot, rfl, by decide +kernel, by decide +kernel⟩ (F.bindsN fun _ _ _ _ _ _ us hl => match us, hl with | [_, _], _ => rfl) rfl fun cdv A outer s H E hr hp tk => (ss_cons (s_expr (x_h (e_call (w_check_lot Z) (hr.mono (by decide)) tk rfl Z.g_check_lot (a_cons (e_v 0) (a_cons (e_v 1) a_nil)) (cnt_cons (cnt_cons cnt_nil)))))
    (ss_one (s_if (b_h (t_cmp (op_eqD hr.units) sv_eq (e_bi call_lenA sv_len rfl Z.b_len (by decide +kernel) (a_cons (e_v 1) a_nil)) e_int rfl)) (ss_one (s_raise0 Z.x0_EmptyLot tk rfl rfl Z.g_EmptyLot)) ss_nil)))
theorem w_Numbers_level {w : World} {K : PySem.W.Frag} {mg : Str → Option Value} {base : Heap} (Z : Kf K mg) : FnP prg w K mg base 6 (He.ma K (He.ga K "Numbers") "level") 2 g_Numbers_level := by
  obtain ⟨fd, F⟩ := Z.d_Numbers_level
  exact fnp_ofC (N := N_Numbers_level) (ps := ["self", "lot"]) F ⟨rfl, rfl, rfl, nd_Numbers_level, rfl, by decide +kernel, by decide +kernel⟩ (F.bindsN fun _ _ _ _ _ _ us hl => match us, hl with | [_, _], _ => rfl) rfl fun cdv A outer s H E hr hp tk => (ss_cons (s_expr (x_h (e_call (w_check_full_lot Z) (hr.mono (by decide)) tk rfl Z.g_check_full_lot (a_cons (e_fld (e_v 0) (fld_cons Z.c_Numbers Z.no_Numbers_size fld_nil)) (a_cons (e_v 1) a_nil)) (cnt_cons (cnt_cons cnt_nil)))))
    (ss_one (s_ret (x_h (e_bi (call_minA rfl hr.units) sv_best rfl Z.b_min (by decide +kernel) (a_cons (DF.de (f_lc rfl nd_Numbers_level (i_seq (e_v 1)) (blkOk_by (own := [("world", 2)]) (by rfl)) (by decide) (fun _ _ _ _ _ => (g_nm 2 nd_Numbers_level)) (fun _ _ _ _ _ => ts_nil) (fun _ _ _ _ _ => (e_ix ix_seq sv_ix (e_fld (e_v 0) (fld_cons Z.c_Numbers Z.no_Numbers_levels fld_nil)) (e_v 2) (fun _ _ => rfl))))) a_nil))))))
theorem w_give_up_lot {w : World} {K : PySem.W.Frag} {mg : Str → Option Value} {base : Heap} (Z : Kf K mg) : FnP prg w K mg base 7 (He.ga K "give_up_lot") 2 g_give_up_lot := by
  obtain ⟨fd, F⟩ := Z.d_give_up_lot
  exact fnp_ofC (N := N_give_up_lot) (ps := ["numbers", "lot"]) F ⟨rfl, rfl, rfl, nd_give_up_lot, rfl, by decide +kernel, by decide +kernel⟩ (F.bindsN fun _ _ _ _ _ _ us hl => match us, hl with | [_, _], _ => rfl) rfl fun cdv A outer s H E hr hp tk => (ss_cons (s_expr (x_h (e_call (w_check_lot Z) (hr.mono (by decide)) tk rfl Z.g_check_lot (a_cons (e_fld (e_v 0) (fld_cons Z.c_Numbers Z.no_Numbers_size fld_nil)) (a_cons (e_v 1) a_nil)) (cnt_cons (cnt_cons cnt_nil)))))
    (ss_cons (s_set 2 nd_give_up_lot (x_h (e_call (w_rest_of Z) (hr.mono (by decide)) tk rfl Z.g_rest_of (a_cons (e_fld (e_v 0) (fld_cons Z.c_Numbers Z.no_Numbers_size fld_nil)) (a_cons (e_v 1) a_nil)) (cnt_cons (cnt_cons cnt_nil)))))
    (ss_cons (s_if (b_h (t_cmp (op_eqD hr.units) sv_eq (e_bi call_lenA sv_len rfl Z.b_len (by decide +kernel) (a_cons (e_v 2) a_nil)) e_int rfl)) (ss_one (s_raise0 Z.x0_CannotGiveUp tk rfl rfl Z.g_CannotGiveUp)) ss_nil)
    (ss_cons (s_set 3 nd_give_up_lot (x_h (e_meth (k := 6) (alts := [("Numbers", g_Numbers_level)]) (e_v 0) (alts_cons ⟨Z.c_Numbers, Z.m_Numbers_level, (w_Numbers_level Z).mono (by decide)⟩ alts_nil) (hr.mono (by decide)) tk (a_cons (e_v 2) a_nil) (cnt_cons cnt_nil))))
    (ss_one (s_ret (x_h (e_make (w_Numbers___init__ Z) (hr.mono (by decide)) tk rfl Z.g_Numbers (a_cons (DF.de (f_lc rfl nd_give_up_lot (i_enum (by rfl) Z.b_enumerate (a_cons (e_fld (e_v 0) (fld_cons Z.c_Numbers Z.no_Numbers_levels fld_nil)) a_nil)) (blkOk_by (own := [("world", 4), ("level", 5)]) (by rfl)) (by decide) (fun _ _ _ _ _ => (g_tp rfl (g_cons (g_nm 4 nd_give_up_lot) (g_cons (g_nm 5 nd_give_up_lot) g_nil)))) (fun _ _ _ _ _ => ts_nil) (fun _ _ _ _ _ => (e_if (t_cmp op_in_seq sv_in (e_v 4) (e_v 1) rfl) (e_v 5) (e_op op_sub sv_sub (e_v 5) (e_v 3)))))) a_nil) (cnt_cons cnt_nil)))))))))
theorem w_run_givings {w : World} {K : PySem.W.Frag} {mg : Str → Option Value} {base : Heap} (Z : Kf K mg) : FnP prg w K mg base 8 (He.ga K "run_givings") 2 g_run_givings := by
  obtain ⟨fd, F⟩ := Z.d_run_givings
  exact fnp_ofC (N := N_run_givings) (ps := ["numbers", "lots"]) F ⟨rfl, rfl, rfl, nd_run_givings, rfl, by decide +kernel, by decide +kernel⟩ (F.bindsN fun _ _ _ _ _ _ us hl => match us, hl with | [_, _], _ => rfl) rfl fun cdv A outer s H E hr hp tk => (ss_cons (s_if (b_h (t_cmp op_gt sv_gt (e_bi call_lenA sv_len rfl Z.b_len (by decide +kernel) (a_cons (e_v 1) a_nil)) (e_glI rfl Z.i_GIVING_LIMIT) rfl)) (ss_one (s_raise1 (w_exc_TooMany Z) (hr.mono (by decide)) tk rfl rfl Z.g_TooMany (x_h (e_glI rfl Z.i_GIVING_LIMIT)))) ss_nil)
    (ss_cons (s_for hp rfl (i_h (i_seq (e_v 1))) (g_nm 2 nd_run_givings) (ss_one (s_set 0 nd_run_givings (x_h (e_call (w_give_up_lot Z) (hr.mono (by decide)) tk rfl Z.g_give_up_lot (a_cons (e_v 0) (a_cons (e_v 2) a_nil)) (cnt_cons (cnt_cons cnt_nil)))))))
    (ss_one (s_ret (x_h (e_v 0))))))
theorem w_Numbers_believed {w : World} {K : PySem.W.Frag} {mg : Str → Option Value} {base : Heap} (Z : Kf K mg) : FnP prg w K mg base 1 (pra K "Numbers" "believed") 1 g_Numbers_believed := by
  obtain ⟨fd, F⟩ := Z.d_Numbers_believed
  exact fnp_ofC (N := N_Numbers_believed) (ps := ["self"]) F ⟨rfl, rfl, rfl, nd_Numbers_believed, rfl, by decide +kernel, by decide +kernel⟩ (F.bindsN fun _ _ _ _ _ _ us hl => match us, hl with | [_], _ => rfl) rfl fun cdv A outer s H E hr hp tk => (ss_one (s_ret (x_h (e_ty call_tuple_of sv_tuple rfl Z.b_tuple (by decide +kernel) (a_cons (DF.de (f_lc rfl nd_Numbers_believed (i_enum (by rfl) Z.b_enumerate (a_cons (e_fld (e_v 0) (fld_cons Z.c_Numbers Z.no_Numbers_levels fld_nil)) a_nil)) (blkOk_by (own := [("world", 1), ("level", 2)]) (by rfl)) (by decide) (fun _ _ _ _ _ => (g_tp rfl (g_cons (g_nm 1 nd_Numbers_believed) (g_cons (g_nm 2 nd_Numbers_believed) g_nil)))) (fun _ _ _ _ _ => (ts_one (t_cmp (op_eqD hr.units) sv_eq (e_v 2) e_int rfl))) (fun _ _ _ _ _ => (e_v 1)))) a_nil)))))
theorem w_sign_of {w : World} {K : PySem.W.Frag} {mg : Str → Option Value} {base : Heap} (Z : Kf K mg) : FnP prg w K mg base 1 (He.ga K "sign_of") 2 g_sign_of := by
  obtain ⟨fd, F⟩ := Z.d_sign_of
  exact fnp_ofC (N := N_sign_of) (ps := ["first", "second"]) F ⟨rfl, rfl, rfl, nd_sign_of, rfl, by decide +kernel, by decide +kernel⟩ (F.bindsN fun _ _ _ _ _ _ us hl => match us, hl with | [_, _], _ => rfl) rfl fun cdv A outer s H E hr hp tk => (ss_cons (s_if (b_h (t_w (w_and (t_of (e_v 0)) (w_and1 (t_of (e_v 1)))))) (ss_one (s_ret (x_h e_int))) ss_nil)
    (ss_one (s_ret (x_h (e_if (t_of (e_v 0)) (e_un un_neg sv_neg e_int) e_int)))))
theorem w_compare_differences {w : World} {K : PySem.W.Frag} {mg : Str → Option Value} {base : Heap} (Z : Kf K mg) : FnP prg w K mg base 9 (He.ga K "compare_differences") 5 g_compare_differences := by
  obtain ⟨fd, F⟩ := Z.d_compare_differences
  exact fnp_ofC (N := N_compare_differences) (ps := ["numbers", "world", "below", "other", "beneath"]) F ⟨rfl, rfl, rfl, nd_compare_differences, rfl, by decide +kernel, by decide +kernel⟩ (F.bindsN fun _ _ _ _ _ _ us hl => match us, hl with | [_, _, _, _, _], _ => rfl) rfl fun cdv A outer s H E hr hp tk => (ss_cons (s_set 5 nd_compare_differences (x_h (e_tup (a_cons (e_v 1) (a_cons (e_v 2) (a_cons (e_v 3) (a_cons (e_v 4) a_nil)))))))
    (ss_cons (s_for hp rfl (i_h (i_seq (e_v 5))) (g_nm 6 nd_compare_differences) (ss_one (s_if (b_h (t_w (w_or (t_cmp op_lt sv_lt (e_v 6) e_int rfl) (w_or1 (t_cmp op_ge sv_ge (e_v 6) (e_fld (e_v 0) (fld_cons Z.c_Numbers Z.no_Numbers_size fld_nil)) rfl))))) (ss_one (s_raise1 (w_exc_BadWorld Z) (hr.mono (by decide)) tk rfl rfl Z.g_BadWorld (x_h (e_v 6)))) ss_nil)))
    (ss_cons (s_if (b_h (t_cmp op_lt sv_lt (e_lenSet rfl rfl Z.b_len (by decide +kernel) rfl Z.b_set (by decide +kernel) (e_v 5)) e_int rfl)) (ss_one (s_raise1 (w_exc_BadNames Z) (hr.mono (by decide)) tk rfl rfl Z.g_BadNames (x_h (e_v 5)))) ss_nil)
    (ss_cons (s_set 7 nd_compare_differences (x_h (e_lst (a_cons (e_tup (a_cons (e_v 1) (a_cons (e_v 2) a_nil))) (a_cons (e_tup (a_cons (e_v 3) (a_cons (e_v 4) a_nil))) (a_cons (e_tup (a_cons (e_v 1) (a_cons (e_v 3) a_nil))) a_nil))))))
    (ss_cons (s_lc 8 rfl nd_compare_differences (i_seq (e_v 7)) (blkOk_by (own := [("pair", 10)]) (by rfl)) (by decide) (fun _ _ _ _ _ => (g_nm 10 nd_compare_differences)) (fun _ _ _ _ _ => ts_nil) (fun _ _ _ _ _ => (e_ty call_tuple_of sv_tuple rfl Z.b_tuple (by decide +kernel) (a_cons (DF.de (f_lc rfl nd_compare_differences (i_range1 (by rfl) Z.b_range (a_cons (e_fld (e_v 0) (fld_cons Z.c_Numbers Z.no_Numbers_size fld_nil)) a_nil)) (blkOk_by (own := [("at", 11)]) (by rfl)) (by decide) (fun _ _ _ _ _ => (g_nm 11 nd_compare_differences)) (fun _ _ _ _ _ => (ts_one (t_cmp op_notIn_seq sv_notIn (e_v 11) (e_v 10) rfl))) (fun _ _ _ _ _ => (e_v 11)))) a_nil))))
    (ss_cons (s_set 9 nd_compare_differences (x_h (e_prop (k := 1) (alts := [("Numbers", g_Numbers_believed)]) (e_call (w_run_givings Z) (hr.mono (by decide)) tk rfl Z.g_run_givings (a_cons (e_v 0) (a_cons (e_v 8) a_nil)) (cnt_cons (cnt_cons cnt_nil))) (altp_cons ⟨Z.c_Numbers, let ⟨p, hp⟩ := Z.p_Numbers_believed; ⟨p, _, hp, (w_Numbers_believed Z).mono (by decide)⟩⟩ altp_nil) (hr.mono (by decide)))))
    (ss_one (s_ret (x_h (e_call (w_sign_of Z) (hr.mono (by decide)) tk rfl Z.g_sign_of (a_cons (e_cmp op_in_seq sv_in (e_v 1) (e_v 9) rfl) (a_cons (e_cmp op_in_seq sv_in (e_v 3) (e_v 9) rfl) a_nil)) (cnt_cons (cnt_cons cnt_nil))))))))))))
theorem excs_NewsError {K : PySem.W.Frag} {mg : Str → Option Value} (Z : Kf K mg) : ∀ c ∈ yes_NewsError.map (·.1), ExcC K (He.ga K c) := by
  intro q hq
  simp only [yes_NewsError, List.map_cons, List.map_nil, List.mem_cons, List.not_mem_nil, or_false] at hq
  rcases hq with rfl | rfl | rfl | rfl | rfl | rfl | rfl | rfl | rfl | rfl
  · exact Z.xc_NewsError
  · exact Z.xc_BadSize
  · exact Z.xc_BadNumber
  · exact Z.xc_BadWorld
  · exact Z.xc_BadLot
  · exact Z.xc_EmptyLot
  · exact Z.xc_BadNames
  · exact Z.xc_TooMany
  · exact Z.xc_CannotGiveUp
  · exact Z.xc_BadLevels
theorem xf_world {K : PySem.W.Frag} {mg : Str → Option Value} (Z : Kf K mg) : ∀ x ∈ (["BadWorld"] : List Str), XfOk K x "world" := fun x hx => by
    simp only [List.mem_cons, List.not_mem_nil, or_false] at hx
    rcases hx with rfl
    · exact ExcC.xf Z.xc_BadWorld Z.e1_BadWorld.no
theorem xf_names {K : PySem.W.Frag} {mg : Str → Option Value} (Z : Kf K mg) : ∀ x ∈ (["BadNames"] : List Str), XfOk K x "names" := fun x hx => by
    simp only [List.mem_cons, List.not_mem_nil, or_false] at hx
    rcases hx with rfl
    · exact ExcC.xf Z.xc_BadNames Z.e1_BadNames.no
theorem w__law_error {w : World} {K : PySem.W.Frag} {mg : Str → Option Value} {base : Heap} (Z : Kf K mg) : FnE prg w K mg base 1 (He.ga K "_law_error") 1 (yes_NewsError.map (·.1)) g__law_error := by
  obtain ⟨fd, F⟩ := Z.d__law_error
  exact fne_of (N := N__law_error) (ps := ["e"]) F ⟨rfl, rfl, rfl, nd__law_error, rfl, by decide +kernel, by decide +kernel⟩ (F.bindsN fun _ _ _ _ _ _ us hl => match us, hl with | [_], _ => rfl) rfl fun cdv A outer s H p a dd c hc hr hot P =>
    have hxc := excs_NewsError Z
    (ss_cons (s_set 1 nd__law_error (x_h (e_lst (a_cons (e_isO (isiR_hot P (hxc c hc)) rfl Z.b_isinstance rfl Z.g_BadWorld Z.t_BadWorld (e_v 0)) (a_cons (e_isO (isiR_hot P (hxc c hc)) rfl Z.b_isinstance rfl Z.g_BadNames Z.t_BadNames (e_v 0)) a_nil)))))
    (ss_cons (s_if (b_h (t_w (w_or (t_not (t_of (e_isB (n := "ValueError") (isiR_hot P (hxc c hc)) rfl Z.b_isinstance rfl Z.b_ValueError (by decide +kernel) Z.t_ValueError (e_v 0)))) (w_or1 (t_cmp (op_neD (hotU hr)) sv_ne (e_bi call_lenA sv_len rfl Z.b_len (by decide +kernel) (a_cons (DF.de (f_lcH hot nd__law_error (e_v 1) (blkOk_by (own := [("fit", 2)]) (by rfl)) (by decide) (fun _ _ _ _ _ => (g_nm 2 nd__law_error)) (fun _ _ _ _ _ => (ts_one (t_of (e_v 2)))) (fun _ _ _ _ _ => (e_v 2)))) a_nil)) e_int rfl))))) (ss_one (s_ret (x_h (e_tup (a_cons e_str (a_cons e_str (a_cons e_int a_nil))))))) ss_nil)
    (ss_cons (s_if (b_h (t_of (e_ix ix_seq sv_ix (e_v 1) e_int (fun _ _ => rfl)))) (ss_one (s_ret (x_h (e_tup (a_cons e_str (a_cons e_str (a_cons (e_xf P (xf_world Z) (e_v 0)) a_nil))))))) ss_nil)
    (ss_cons (s_if (b_h (t_of (e_ix ix_seq sv_ix (e_v 1) e_int (fun _ _ => rfl)))) (ss_one (s_ret (x_h (e_tup (a_cons e_str (a_cons e_str (a_cons (e_xf P (xf_names Z) (e_v 0)) a_nil))))))) ss_nil)
    (ss_one (s_ret (x_h (e_tup (a_cons e_str (a_cons e_str (a_cons e_int a_nil)))))))))))
theorem w__law_asked {w : World} {K : PySem.W.Frag} {mg : Str → Option Value} {base : Heap} (Z : Kf K mg) : FnP prg w K mg base 10 (He.ga K "_law_asked") 2 g__law_asked := by
  obtain ⟨fd, F⟩ := Z.d__law_asked
  exact fnp_ofC (N := N__law_asked) (ps := ["numbers", "four"]) F ⟨rfl, rfl, rfl, nd__law_asked, rfl, by decide +kernel, by decide +kernel⟩ (F.bindsN fun _ _ _ _ _ _ us hl => match us, hl with | [_, _], _ => rfl) rfl fun cdv A outer s H E hr hp tk => (ss_one (s_try rfl rfl nd__law_asked (i := 2) rfl rfl rfl Z.g_NewsError (by decide) tk (yes_NewsError_ok Z) (fun W pn xe tk hp => (ss_one (s_ret (x_h (e_tup (a_cons e_str (a_cons (e_call (w_compare_differences Z) (hr.mono (by decide)) tk rfl Z.g_compare_differences (a_cons (e_v 0) (a_cons (e_ix ix_seq sv_ix (e_v 1) e_int (fun _ _ => rfl)) (a_cons (e_ix ix_seq sv_ix (e_v 1) e_int (fun _ _ => rfl)) (a_cons (e_ix ix_seq sv_ix (e_v 1) e_int (fun _ _ => rfl)) (a_cons (e_ix ix_seq sv_ix (e_v 1) e_int (fun _ _ => rfl)) a_nil))))) (cnt_cons (cnt_cons (cnt_cons (cnt_cons (cnt_cons cnt_nil)))))) a_nil))))))) (fun a oe dd c pn hc P => ss_one (s_ret (x_h (e_callE (w__law_error Z) hc (roomH_suite (hr.mono (by decide))) rfl P rfl Z.g__law_error (a_cons (e_v 2) a_nil) (cnt_cons cnt_nil)))))))
theorem w__law_same {w : World} {K : PySem.W.Frag} {mg : Str → Option Value} {base : Heap} (Z : Kf K mg) : ∀ n : Nat, FnP prg w K mg base (0 + n) (He.ga K "_law_same") 2 (g__law_same n)
  | 0 => by
    obtain ⟨fd, F⟩ := Z.d__law_same
    exact fnp_bad F (ps := ["told", "due"]) (F.bindsN fun _ _ _ _ _ _ us hl => match us, hl with | [_, _], _ => rfl) rfl
  | n + 1 => by
    obtain ⟨fd, F⟩ := Z.d__law_same
    have ih := w__law_same (w := w) (base := base) Z n
    exact fnp_ofC (N := N__law_same) (ps := ["told", "due"]) F ⟨rfl, rfl, rfl, nd__law_same, rfl, by decide +kernel, by decide +kernel⟩ (F.bindsN fun _ _ _ _ _ _ us hl => match us, hl with | [_, _], _ => rfl) rfl fun cdv A outer s H E hr hp tk => (ss_cons (s_if (b_h (t_cmp op_is sv_is (e_v 1) e_non rfl)) (ss_one (s_ret (x_h (e_cmp op_is sv_is (e_v 0) e_non rfl)))) ss_nil)
    (ss_cons (s_if (b_h (t_cmp op_is sv_is (e_v 1) e_bl rfl)) (ss_one (s_ret (x_h (e_cmp op_is sv_is (e_v 0) e_bl rfl)))) ss_nil)
    (ss_cons (s_if (b_h (t_cmp op_is sv_is (e_v 1) e_bl rfl)) (ss_one (s_ret (x_h (e_cmp op_is sv_is (e_v 0) e_bl rfl)))) ss_nil)
    (ss_cons (s_if (b_h (t_of (e_isB (n := "int") isiR_none rfl Z.b_isinstance rfl Z.b_int (by decide +kernel) Z.t_int (e_v 1)))) (ss_one (s_ret (x_h (e_and (e_isB (n := "int") isiR_none rfl Z.b_isinstance rfl Z.b_int (by decide +kernel) Z.t_int (e_v 0)) (e_and (e_not (e_isB (n := "bool") isiR_none rfl Z.b_isinstance rfl Z.b_bool (by decide +kernel) Z.t_bool (e_v 0))) (e_and1 (e_cmp (op_eqD hr.units) sv_eq (e_v 0) (e_v 1) rfl))))))) ss_nil)
    (ss_cons (s_if (b_h (t_of (e_isB (n := "str") isiR_none rfl Z.b_isinstance rfl Z.b_str (by decide +kernel) Z.t_str (e_v 1)))) (ss_one (s_ret (x_h (e_and (e_isB (n := "str") isiR_none rfl Z.b_isinstance rfl Z.b_str (by decide +kernel) Z.t_str (e_v 0)) (e_and1 (e_cmp (op_eqD hr.units) sv_eq (e_v 0) (e_v 1) rfl)))))) ss_nil)
    (ss_cons (s_if (b_h (t_w (w_or (t_w (w_and (t_of (e_isB (n := "tuple") isiR_none rfl Z.b_isinstance rfl Z.b_tuple (by decide +kernel) Z.t_tuple (e_v 1))) (w_and1 (t_not (t_of (e_isB (n := "tuple") isiR_none rfl Z.b_isinstance rfl Z.b_tuple (by decide +kernel) Z.t_tuple (e_v 0))))))) (w_or1 (t_w (w_and (t_of (e_isB (n := "list") isiR_none rfl Z.b_isinstance rfl Z.b_list (by decide +kernel) Z.t_list (e_v 1))) (w_and1 (t_not (t_of (e_isB (n := "list") isiR_none rfl Z.b_isinstance rfl Z.b_list (by decide +kernel) Z.t_list (e_v 0))))))))))) (ss_one (s_ret (x_h e_bl))) ss_nil)
    (ss_cons (s_if (b_h (t_cmp (op_neD hr.units) sv_ne (e_bi call_lenA sv_len rfl Z.b_len (by decide +kernel) (a_cons (e_v 0) a_nil)) (e_bi call_lenA sv_len rfl Z.b_len (by decide +kernel) (a_cons (e_v 1) a_nil)) rfl)) (ss_one (s_ret (x_h e_bl))) ss_nil)
    (ss_cons (s_for hp rfl (i_h (i_range1 (by rfl) Z.b_range (a_cons (e_bi call_lenA sv_len rfl Z.b_len (by decide +kernel) (a_cons (e_v 1) a_nil)) a_nil))) (g_nm 2 nd__law_same) (ss_one (s_if (b_h (t_not (t_of (e_call ih (hr.mono (Nat.le_refl _)) tk rfl Z.g__law_same (a_cons (e_ix ix_seq sv_ix (e_v 0) (e_v 2) (fun _ _ => rfl)) (a_cons (e_ix ix_seq sv_ix (e_v 1) (e_v 2) (fun _ _ => rfl)) a_nil)) (cnt_cons (cnt_cons cnt_nil)))))) (ss_one (s_ret (x_h e_bl))) ss_nil)))
    (ss_one (s_ret (x_h e_bl)))))))))))
theorem w__law_same_f {w : World} {K : PySem.W.Frag} {mg : Str → Option Value} {base : Heap} (Z : Kf K mg) : FnP prg w K mg base 6 (He.ga K "_law_same") 2 (g__law_same 6) := w__law_same Z 6
theorem w_exc_BadNumber {w : World} {K : PySem.W.Frag} {mg : Str → Option Value} {base : Heap} (Z : Kf K mg) : XcP prg w K mg base 1 "BadNumber" "number" := by
  have E := Z.e1_BadNumber
  obtain ⟨fd, h1, h2⟩ := exinit_ok (w := w) (mg := mg) (base := base) (CT := L2N.CX prg w) (k := 0) (self := "self") (x := "number") E (NdefX.nscope_by (by decide +kernel)) (by decide +kernel) rfl rfl Z.b_super (by decide +kernel) (by decide) (by decide) (by decide) (by decide) (by decide) (fun _ _ _ _ _ _ _ us hl => match us, hl with | [_, _], _ => rfl) (fun _ => rfl)
  exact ⟨E.T, E.iC, E.tI, fd, _, h1, h2⟩
theorem w_Numbers_times {w : World} {K : PySem.W.Frag} {mg : Str → Option Value} {base : Heap} (Z : Kf K mg) : FnP prg w K mg base 6 (He.ma K (He.ga K "Numbers") "times") 2 g_Numbers_times := by
  obtain ⟨fd, F⟩ := Z.d_Numbers_times
  exact fnp_ofC (N := N_Numbers_times) (ps := ["self", "factor"]) F ⟨rfl, rfl, rfl, nd_Numbers_times, rfl, by decide +kernel, by decide +kernel⟩ (F.bindsN fun _ _ _ _ _ _ us hl => match us, hl with | [_, _], _ => rfl) rfl fun cdv A outer s H E hr hp tk => (ss_cons (s_if (b_h (t_cmp op_lt sv_lt (e_v 1) e_int rfl)) (ss_one (s_raise1 (w_exc_BadNumber Z) (hr.mono (by decide)) tk rfl rfl Z.g_BadNumber (x_h (e_v 1)))) ss_nil)
    (ss_one (s_ret (x_h (e_make (w_Numbers___init__ Z) (hr.mono (by decide)) tk rfl Z.g_Numbers (a_cons (DF.de (f_lc rfl nd_Numbers_times (i_seq (e_fld (e_v 0) (fld_cons Z.c_Numbers Z.no_Numbers_levels fld_nil))) (blkOk_by (own := [("level", 2)]) (by rfl)) (by decide) (fun _ _ _ _ _ => (g_nm 2 nd_Numbers_times)) (fun _ _ _ _ _ => ts_nil) (fun _ _ _ _ _ => (e_op op_mulAll sv_mul (e_v 2) (e_v 1))))) a_nil) (cnt_cons cnt_nil))))))
theorem w_check_names {w : World} {K : PySem.W.Frag} {mg : Str → Option Value} {base : Heap} (Z : Kf K mg) : FnP prg w K mg base 3 (He.ga K "check_names") 1 g_check_names := by
  obtain ⟨fd, F⟩ := Z.d_check_names
  exact fnp_ofC (N := N_check_names) (ps := ["names"]) F ⟨rfl, rfl, rfl, nd_check_names, rfl, by decide +kernel, by decide +kernel⟩ (F.bindsN fun _ _ _ _ _ _ us hl => match us, hl with | [_], _ => rfl) rfl fun cdv A outer s H E hr hp tk => (ss_one (s_for hp rfl (i_h (i_range1 (by rfl) Z.b_range (a_cons (e_bi call_lenA sv_len rfl Z.b_len (by decide +kernel) (a_cons (e_v 0) a_nil)) a_nil))) (g_nm 1 nd_check_names) (ss_one (s_if (b_h (t_cmp op_notIn_seq sv_notIn (e_v 1) (e_v 0) rfl)) (ss_one (s_raise1 (w_exc_BadNames Z) (hr.mono (by decide)) tk rfl rfl Z.g_BadNames (x_h (e_v 0)))) ss_nil))))
theorem w_Numbers_renamed {w : World} {K : PySem.W.Frag} {mg : Str → Option Value} {base : Heap} (Z : Kf K mg) : FnP prg w K mg base 6 (He.ma K (He.ga K "Numbers") "renamed") 2 g_Numbers_renamed := by
  obtain ⟨fd, F⟩ := Z.d_Numbers_renamed
  exact fnp_ofC (N := N_Numbers_renamed) (ps := ["self", "names"]) F ⟨rfl, rfl, rfl, nd_Numbers_renamed, rfl, by decide +kernel, by decide +kernel⟩ (F.bindsN fun _ _ _ _ _ _ us hl => match us, hl with | [_, _], _ => rfl) rfl fun cdv A outer s H E hr hp tk => (ss_cons (s_if (b_h (t_cmp (op_neD hr.units) sv_ne (e_bi call_lenA sv_len rfl Z.b_len (by decide +kernel) (a_cons (e_v 1) a_nil)) (e_fld (e_v 0) (fld_cons Z.c_Numbers Z.no_Numbers_size fld_nil)) rfl)) (ss_one (s_raise1 (w_exc_BadNames Z) (hr.mono (by decide)) tk rfl rfl Z.g_BadNames (x_h (e_v 1)))) ss_nil)
    (ss_cons (s_expr (x_h (e_call (w_check_names Z) (hr.mono (by decide)) tk rfl Z.g_check_names (a_cons (e_v 1) a_nil) (cnt_cons cnt_nil))))
    (ss_one (s_ret (x_h (e_make (w_Numbers___init__ Z) (hr.mono (by decide)) tk rfl Z.g_Numbers (a_cons (DF.de (f_lc rfl nd_Numbers_renamed (i_range1 (by rfl) Z.b_range (a_cons (e_fld (e_v 0) (fld_cons Z.c_Numbers Z.no_Numbers_size fld_nil)) a_nil)) (blkOk_by (own := [("world", 2)]) (by rfl)) (by decide) (fun _ _ _ _ _ => (g_nm 2 nd_Numbers_renamed)) (fun _ _ _ _ _ => ts_nil) (fun _ _ _ _ _ => (e_ix ix_seq sv_ix (e_fld (e_v 0) (fld_cons Z.c_Numbers Z.no_Numbers_levels fld_nil)) (e_index (e_v 1) (e_v 2)) (fun _ _ => rfl))))) a_nil) (cnt_cons cnt_nil)))))))
theorem w__law_is_numbers {w : World} {K : PySem.W.Frag} {mg : Str → Option Value} {base : Heap} (Z : Kf K mg) : FnP prg w K mg base 7 (He.ga K "_law_is_numbers") 2 g__law_is_numbers := by
  obtain ⟨fd, F⟩ := Z.d__law_is_numbers
  exact fnp_ofC (N := N__law_is_numbers) (ps := ["told", "levels"]) F ⟨rfl, rfl, rfl, nd__law_is_numbers, rfl, by decide +kernel, by decide +kernel⟩ (F.bindsN fun _ _ _ _ _ _ us hl => match us, hl with | [_, _], _ => rfl) rfl fun cdv A outer s H E hr hp tk => (ss_cons (s_if (b_h (t_w (w_or (t_not (t_of (e_isO isiR_none rfl Z.b_isinstance rfl Z.g_Numbers Z.t_Numbers (e_v 0)))) (w_or1 (t_not (t_of (e_call (w__law_same_f Z) (hr.mono (by decide)) tk rfl Z.g__law_same (a_cons (e_fld (e_v 0) (fld_cons Z.c_Numbers Z.no_Numbers_size fld_nil)) (a_cons (e_bi call_lenA sv_len rfl Z.b_len (by decide +kernel) (a_cons (e_v 1) a_nil)) a_nil)) (cnt_cons (cnt_cons cnt_nil))))))))) (ss_one (s_ret (x_h e_bl))) ss_nil)
    (ss_one (s_ret (x_h (e_call (w__law_same_f Z) (hr.mono (by decide)) tk rfl Z.g__law_same (a_cons (e_fld (e_v 0) (fld_cons Z.c_Numbers Z.no_Numbers_levels fld_nil)) (a_cons (e_ty call_tuple_of sv_tuple rfl Z.b_tuple (by decide +kernel) (a_cons (e_v 1) a_nil)) a_nil)) (cnt_cons (cnt_cons cnt_nil)))))))
theorem ok_law {w : World} {K : PySem.W.Frag} {mg : Str → Option Value} {base : Heap} {fd : FuncData} (Z : Kf K mg) (F : FunD K "law" "law" (defArgs s_law) (defBody s_law) (defScope s_law) [] [] (He.ga K "law") fd) : FnOk prg w K mg base (L2N.CX prg w) 11 (He.ga K "law") fd ["script"] (SpP K 1 g_law) :=
  fnok_of (N := N_law) (ps := ["script"]) F ⟨rfl, rfl, rfl, nd_law, rfl, by decide +kernel, by decide +kernel⟩ rfl fun cdv A outer s H E hr hp tk => (ss_cons (s_set 1 nd_law (x_h (e_call (w__law_row Z) (hr.mono (by decide)) tk rfl Z.g__law_row (a_cons (e_v 0) (a_cons e_int (a_cons e_int a_nil))) (cnt_cons (cnt_cons (cnt_cons cnt_nil))))))
    (ss_cons (s_set 2 nd_law (x_h (e_op op_addAll sv_add e_int (e_op op_modN sv_mod (e_ix ix_seq sv_ix (e_v 1) e_int (fun _ _ => rfl)) e_int))))
    (ss_cons (s_set 3 nd_law (x_h (e_ix ix_seq sv_ix (e_lst (a_cons e_int (a_cons e_int (a_cons e_int (a_cons e_int a_nil))))) (e_op op_modN sv_mod (e_ix ix_seq sv_ix (e_v 1) e_int (fun _ _ => rfl)) e_int) (fun _ _ => rfl))))
    (ss_cons (s_set 4 nd_law (x_h (DF.de (f_lc rfl nd_law (i_seq (e_call (w__law_levels Z) (hr.mono (by decide)) tk (by rfl) Z.g__law_levels (a_cons (e_v 2) (a_cons (e_call (w__law_row Z) (hr.mono (by decide)) tk (by rfl) Z.g__law_row (a_cons (e_v 0) (a_cons e_int (a_cons e_int a_nil))) (cnt_cons (cnt_cons (cnt_cons cnt_nil)))) (a_cons e_int a_nil))) (cnt_cons (cnt_cons (cnt_cons cnt_nil))))) (blkOk_by (own := [("level", 20)]) (by rfl)) (by decide) (fun _ _ _ _ _ => (g_nm 20 nd_law)) (fun _ _ _ _ _ => ts_nil) (fun _ _ _ _ _ => (e_op op_mulAll sv_mul (e_v 20) (e_v 3)))))))
    (ss_cons (s_set 5 nd_law (x_h (e_make (w_Numbers___init__ Z) (hr.mono (by decide)) tk rfl Z.g_Numbers (a_cons (e_v 4) a_nil) (cnt_cons cnt_nil))))
    (ss_cons (s_set 6 nd_law (x_h (e_call (w__law_worlds Z) (hr.mono (by decide)) tk rfl Z.g__law_worlds (a_cons (e_v 2) (a_cons (e_ix ix_seq sv_ix (e_v 1) e_int (fun _ _ => rfl)) a_nil)) (cnt_cons (cnt_cons cnt_nil)))))
    (ss_cons (s_for hp rfl (i_h (i_range1 (by rfl) Z.b_range (a_cons e_int a_nil))) (g_nm 7 nd_law) (ss_cons (s_set 8 nd_law (x_h (e_sl (e_call (w__law_worlds Z) (hr.mono (by decide)) tk rfl Z.g__law_worlds (a_cons (e_v 2) (a_cons (e_ix ix_seq sv_ix (e_v 1) (e_op op_addAll sv_add e_int (e_v 7)) (fun _ _ => rfl)) a_nil)) (cnt_cons (cnt_cons cnt_nil))) o_none (o_some e_int))))
    (ss_cons (s_if (b_h (t_w (w_and (t_cmp (op_eqD hr.units) sv_eq (e_v 7) e_int rfl) (w_and1 (t_cmp (op_eqD hr.units) sv_eq (e_op op_modN sv_mod (e_ix ix_seq sv_ix (e_v 1) e_int (fun _ _ => rfl)) e_int) e_int rfl))))) (ss_cons (s_set 9 nd_law (x_h (DF.de (f_lc rfl nd_law (i_range1 (by rfl) Z.b_range (a_cons (e_v 2) a_nil)) (blkOk_by (own := [("world", 21)]) (by rfl)) (by decide) (fun _ _ _ _ _ => (g_nm 21 nd_law)) (fun _ _ _ _ _ => ts_nil) (fun _ _ _ _ _ => (e_v 21))))))
    (ss_one (s_lc 8 rfl nd_law (i_seq (e_lst (a_cons (e_op op_sub sv_sub (e_v 2) e_int) (a_cons (e_op op_sub sv_sub (e_v 2) e_int) (a_cons (e_op op_sub sv_sub (e_v 2) e_int) (a_cons (e_op op_sub sv_sub (e_v 2) e_int) a_nil)))))) (blkOk_by (own := [("at", 17)]) (by rfl)) (by decide) (fun _ _ _ _ _ => (g_nm 17 nd_law)) (fun _ _ _ _ _ => ts_nil) (fun _ _ _ _ _ => (e_ix ix_seq sv_ix (e_ix ix_seq sv_ix (e_bi cr_sortedA sv_sorted rfl Z.b_sorted (by decide +kernel) (a_cons (DF.de (f_lc rfl nd_law (i_seq (e_v 9)) (blkOk_by (own := [("world", 21)]) (by rfl)) (by decide) (fun _ _ _ _ _ => (g_nm 21 nd_law)) (fun _ _ _ _ _ => ts_nil) (fun _ _ _ _ _ => (e_tup (a_cons (e_ix ix_seq sv_ix (e_v 4) (e_v 21) (fun _ _ => rfl)) (a_cons (e_v 21) a_nil)))))) a_nil)) (e_v 17) (fun _ _ => rfl)) e_int (fun _ _ => rfl)))))) ss_nil)
    (ss_cons (s_set 10 nd_law (x_h (e_bi (call_maxA rfl hr.units) sv_best rfl Z.b_max (by decide +kernel) (a_cons e_int (a_cons (e_op op_sub sv_sub (e_ix ix_seq sv_ix (e_v 4) (e_ix ix_seq sv_ix (e_v 8) e_int (fun _ _ => rfl)) (fun _ _ => rfl)) (e_ix ix_seq sv_ix (e_v 4) (e_ix ix_seq sv_ix (e_v 8) e_int (fun _ _ => rfl)) (fun _ _ => rfl))) a_nil)))))
    (ss_cons (s_set 11 nd_law (x_h (e_bi (call_maxA rfl hr.units) sv_best rfl Z.b_max (by decide +kernel) (a_cons e_int (a_cons (e_op op_sub sv_sub (e_ix ix_seq sv_ix (e_v 4) (e_ix ix_seq sv_ix (e_v 8) e_int (fun _ _ => rfl)) (fun _ _ => rfl)) (e_ix ix_seq sv_ix (e_v 4) (e_ix ix_seq sv_ix (e_v 8) e_int (fun _ _ => rfl)) (fun _ _ => rfl))) a_nil)))))
    (ss_cons (s_set 12 nd_law (x_h (e_call (w__law_sign Z) (hr.mono (by decide)) tk rfl Z.g__law_sign (a_cons (e_v 10) (a_cons (e_v 11) a_nil)) (cnt_cons (cnt_cons cnt_nil)))))
    (ss_cons (s_if (b_h (t_not (t_of (e_call (w__law_same_f Z) (hr.mono (by decide)) tk rfl Z.g__law_same (a_cons (e_call (w__law_asked Z) (hr.mono (by decide)) tk rfl Z.g__law_asked (a_cons (e_v 5) (a_cons (e_v 8) a_nil)) (cnt_cons (cnt_cons cnt_nil))) (a_cons (e_tup (a_cons e_str (a_cons (e_v 12) a_nil))) a_nil)) (cnt_cons (cnt_cons cnt_nil)))))) (ss_one (s_ret (x_h e_bl))) ss_nil)
    (ss_cons (s_if (b_h (t_not (t_of (e_call (w__law_same_f Z) (hr.mono (by decide)) tk rfl Z.g__law_same (a_cons (e_call (w__law_asked Z) (hr.mono (by decide)) tk rfl Z.g__law_asked (a_cons (e_meth (k := 6) (alts := [("Numbers", g_Numbers_times)]) (e_v 5) (alts_cons ⟨Z.c_Numbers, Z.m_Numbers_times, (w_Numbers_times Z).mono (by decide)⟩ alts_nil) (hr.mono (by decide)) tk (a_cons e_int a_nil) (cnt_cons cnt_nil)) (a_cons (e_v 8) a_nil)) (cnt_cons (cnt_cons cnt_nil))) (a_cons (e_tup (a_cons e_str (a_cons (e_v 12) a_nil))) a_nil)) (cnt_cons (cnt_cons cnt_nil)))))) (ss_one (s_ret (x_h e_bl))) ss_nil)
    (ss_cons (s_if (b_h (t_not (t_of (e_call (w__law_same_f Z) (hr.mono (by decide)) tk rfl Z.g__law_same (a_cons (e_call (w__law_asked Z) (hr.mono (by decide)) tk rfl Z.g__law_asked (a_cons (e_meth (k := 6) (alts := [("Numbers", g_Numbers_renamed)]) (e_v 5) (alts_cons ⟨Z.c_Numbers, Z.m_Numbers_renamed, (w_Numbers_renamed Z).mono (by decide)⟩ alts_nil) (hr.mono (by decide)) tk (a_cons (e_v 6) a_nil) (cnt_cons cnt_nil)) (a_cons (DF.de (f_lc rfl nd_law (i_seq (e_v 8)) (blkOk_by (own := [("world", 21)]) (by rfl)) (by decide) (fun _ _ _ _ _ => (g_nm 21 nd_law)) (fun _ _ _ _ _ => ts_nil) (fun _ _ _ _ _ => (e_ix ix_seq sv_ix (e_v 6) (e_v 21) (fun _ _ => rfl))))) a_nil)) (cnt_cons (cnt_cons cnt_nil))) (a_cons (e_tup (a_cons e_str (a_cons (e_v 12) a_nil))) a_nil)) (cnt_cons (cnt_cons cnt_nil)))))) (ss_one (s_ret (x_h e_bl))) ss_nil)
    (ss_cons (s_if (b_h (t_not (t_of (e_call (w__law_same_f Z) (hr.mono (by decide)) tk rfl Z.g__law_same (a_cons (e_call (w__law_asked Z) (hr.mono (by decide)) tk rfl Z.g__law_asked (a_cons (e_v 5) (a_cons (e_lst (a_cons (e_ix ix_seq sv_ix (e_v 8) e_int (fun _ _ => rfl)) (a_cons (e_ix ix_seq sv_ix (e_v 8) e_int (fun _ _ => rfl)) (a_cons (e_ix ix_seq sv_ix (e_v 8) e_int (fun _ _ => rfl)) (a_cons (e_ix ix_seq sv_ix (e_v 8) e_int (fun _ _ => rfl)) a_nil))))) a_nil)) (cnt_cons (cnt_cons cnt_nil))) (a_cons (e_tup (a_cons e_str (a_cons (e_op op_sub sv_sub e_int (e_v 12)) a_nil))) a_nil)) (cnt_cons (cnt_cons cnt_nil)))))) (ss_one (s_ret (x_h e_bl))) ss_nil)
    (ss_cons (s_own 13 nd_law (f_lst a_nil))
    (ss_cons (s_for hp rfl (i_h (i_seq (e_lst (a_cons (e_tup (a_cons (e_ix ix_seq sv_ix (e_v 8) e_int (fun _ _ => rfl)) (a_cons (e_ix ix_seq sv_ix (e_v 8) e_int (fun _ _ => rfl)) a_nil))) (a_cons (e_tup (a_cons (e_ix ix_seq sv_ix (e_v 8) e_int (fun _ _ => rfl)) (a_cons (e_ix ix_seq sv_ix (e_v 8) e_int (fun _ _ => rfl)) a_nil))) (a_cons (e_tup (a_cons (e_ix ix_seq sv_ix (e_v 8) e_int (fun _ _ => rfl)) (a_cons (e_ix ix_seq sv_ix (e_v 8) e_int (fun _ _ => rfl)) a_nil))) a_nil)))))) (g_nm 14 nd_law) (ss_one (s_app (i := 13) (x_h (e_ty call_tuple_of sv_tuple rfl Z.b_tuple (by decide +kernel) (a_cons (DF.de (f_lc rfl nd_law (i_range1 (by rfl) Z.b_range (a_cons (e_v 2) a_nil)) (blkOk_by (own := [("world", 21)]) (by rfl)) (by decide) (fun _ _ _ _ _ => (g_nm 21 nd_law)) (fun _ _ _ _ _ => (ts_one (t_cmp op_notIn_seq sv_notIn (e_v 21) (e_v 14) rfl))) (fun _ _ _ _ _ => (e_v 21)))) a_nil))))))
    (ss_cons (s_frz 13 (s_set 15 nd_law (x_h (e_prop (k := 1) (alts := [("Numbers", g_Numbers_believed)]) (e_call (w_run_givings Z) (hr.mono (by decide)) tk rfl Z.g_run_givings (a_cons (e_v 5) (a_cons (e_v 13) a_nil)) (cnt_cons (cnt_cons cnt_nil))) (altp_cons ⟨Z.c_Numbers, let ⟨p, hp⟩ := Z.p_Numbers_believed; ⟨p, _, hp, (w_Numbers_believed Z).mono (by decide)⟩⟩ altp_nil) (hr.mono (by decide))))))
    (ss_one (s_if (b_h (t_w (w_or (t_cmp (op_neD hr.units) sv_ne (e_cmp op_in_seq sv_in (e_ix ix_seq sv_ix (e_v 8) e_int (fun _ _ => rfl)) (e_v 15) rfl) (e_cmp op_le sv_le (e_v 12) e_int rfl) rfl) (w_or1 (t_cmp (op_neD hr.units) sv_ne (e_cmp op_in_seq sv_in (e_ix ix_seq sv_ix (e_v 8) e_int (fun _ _ => rfl)) (e_v 15) rfl) (e_cmp op_ge sv_ge (e_v 12) e_int rfl) rfl))))) (ss_one (s_ret (x_h e_bl))) ss_nil)))))))))))))))
    (ss_cons (s_set 16 nd_law (x_h (e_op op_addAll sv_add (e_v 2) (e_op op_modN sv_mod (e_ix ix_seq sv_ix (e_v 1) e_int (fun _ _ => rfl)) e_int))))
    (ss_cons (s_set 17 nd_law (x_h (e_op op_modN sv_mod (e_ix ix_seq sv_ix (e_v 1) e_int (fun _ _ => rfl)) e_int)))
    (ss_cons (s_own 18 nd_law (f_op op_addAll sv_addF (e_op op_addAll sv_add (e_sl (e_v 8) o_none (o_some (e_v 17))) (e_lst (a_cons (e_v 16) a_nil))) (e_sl (e_v 8) (o_some (e_op op_addAll sv_add (e_v 17) e_int)) o_none)))
    (ss_cons (s_if (b_l (t_not (t_of (e_call (w__law_same_f Z) (hr.mono (by decide)) tk rfl Z.g__law_same (a_cons (e_call (w__law_asked Z) (hr.mono (by decide)) tk rfl Z.g__law_asked (a_cons (e_v 5) (a_cons (e_v 18) a_nil)) (cnt_cons (cnt_cons cnt_nil))) (a_cons (e_tup (a_cons e_str (a_cons e_str (a_cons (e_v 16) a_nil)))) a_nil)) (cnt_cons (cnt_cons cnt_nil)))))) (ss_one (s_ret (x_h e_bl))) ss_nil)
    (ss_cons (s_ixs (i := 18) (x_h (e_op op_sub sv_sub (e_un un_neg sv_neg e_int) (e_op op_modN sv_mod (e_ix ix_seq sv_ix (e_v 1) e_int (fun _ _ => rfl)) e_int))) (x_h (e_op op_modN sv_mod (e_op op_addAll sv_add (e_v 17) e_int) e_int)))
    (ss_cons (s_frz 18 (s_if (b_h (t_not (t_of (e_call (w__law_same_f Z) (hr.mono (by decide)) tk rfl Z.g__law_same (a_cons (e_call (w__law_asked Z) (hr.mono (by decide)) tk rfl Z.g__law_asked (a_cons (e_v 5) (a_cons (e_v 18) a_nil)) (cnt_cons (cnt_cons cnt_nil))) (a_cons (e_tup (a_cons e_str (a_cons e_str (a_cons (e_ix ix_seq sv_ix (DF.de (f_lc rfl nd_law (i_seq (e_v 18)) (blkOk_by (own := [("number", 22)]) (by rfl)) (by decide) (fun _ _ _ _ _ => (g_nm 22 nd_law)) (fun _ _ _ _ _ => (ts_one (t_w (w_or (t_cmp op_lt sv_lt (e_v 22) e_int rfl) (w_or1 (t_cmp op_ge sv_ge (e_v 22) (e_v 2) rfl)))))) (fun _ _ _ _ _ => (e_v 22)))) e_int (fun _ _ => rfl)) a_nil)))) a_nil)) (cnt_cons (cnt_cons cnt_nil)))))) (ss_one (s_ret (x_h e_bl))) ss_nil))
    (ss_cons (s_own 19 nd_law (f_lst (a_cons (e_ix ix_seq sv_ix (e_v 8) e_int (fun _ _ => rfl)) (a_cons (e_ix ix_seq sv_ix (e_v 8) e_int (fun _ _ => rfl)) (a_cons (e_ix ix_seq sv_ix (e_v 8) e_int (fun _ _ => rfl)) (a_cons (e_ix ix_seq sv_ix (e_v 8) e_int (fun _ _ => rfl)) a_nil))))))
    (ss_cons (s_ixs (i := 19) (x_h (e_ix ix_seq sv_ix (e_v 8) (e_op op_modN sv_mod (e_op op_addAll sv_add (e_op op_addAll sv_add (e_v 17) e_int) (e_op op_modN sv_mod (e_ix ix_seq sv_ix (e_v 1) e_int (fun _ _ => rfl)) e_int)) e_int) (fun _ _ => rfl))) (x_h (e_v 17)))
    (ss_cons (s_frz 19 (s_if (b_h (t_not (t_of (e_call (w__law_same_f Z) (hr.mono (by decide)) tk rfl Z.g__law_same (a_cons (e_call (w__law_asked Z) (hr.mono (by decide)) tk rfl Z.g__law_asked (a_cons (e_v 5) (a_cons (e_v 19) a_nil)) (cnt_cons (cnt_cons cnt_nil))) (a_cons (e_tup (a_cons e_str (a_cons e_str (a_cons (e_ty call_tuple_of sv_tuple rfl Z.b_tuple (by decide +kernel) (a_cons (e_v 19) a_nil)) a_nil)))) a_nil)) (cnt_cons (cnt_cons cnt_nil)))))) (ss_one (s_ret (x_h e_bl))) ss_nil))
    (ss_one (s_ret (x_h (e_call (w__law_is_numbers Z) (hr.mono (by decide)) tk rfl Z.g__law_is_numbers (a_cons (e_v 5) (a_cons (e_v 4) a_nil)) (cnt_cons (cnt_cons cnt_nil))))))))))))))))))))))
/-! the head -/
theorem isos {K : PySem.W.Frag} (c : SaysX fs fn K) : ∀ x ∈ (["Numbers"] : List Str), IsO K (He.ga K x) := by
  intro x hx
  simp only [List.mem_cons, List.not_mem_nil, or_false] at hx
  rcases hx with rfl
  · exact isO_ok (c.fact 91 rfl)
theorem kf {K : PySem.W.Frag} {h : Heap} {mg : Str → Option Value} (X : K.In h) (G : h.Ns mainGlobals mg) (c : SaysX fs fn K) : Kf K mg where
  g__law_row := He.glo_ok X G (c.fact 0 rfl)
  b_len := He.free_ok X G (c.fact 1 rfl)
  b_abs := He.free_ok X G (c.fact 2 rfl)
  b_int := He.free_ok X G (c.fact 3 rfl)
  b_range := He.free_ok X G (c.fact 4 rfl)
  d__law_row := (fun _ => c.def_ 0 rfl rfl) (c.fact 5 rfl)
  g__law_levels := He.glo_ok X G (c.fact 6 rfl)
  d__law_levels := (fun _ => c.def_ 1 rfl rfl) (c.fact 7 rfl)
  g_check_size := He.glo_ok X G (c.fact 8 rfl)
  i_SIZE_LIMIT := He.int_ok X G (c.fact 9 rfl)
  g_BadSize := He.glo_ok X G (c.fact 10 rfl)
  e1_BadSize := ex1_ok (c.fact 11 rfl) rfl (c.def1 2 rfl rfl)
  b_super := He.free_ok X G (c.fact 12 rfl)
  d_check_size := (fun _ => c.def_ 3 rfl rfl) (c.fact 13 rfl)
  b_min := He.free_ok X G (c.fact 14 rfl)
  g_BadLevels := He.glo_ok X G (c.fact 15 rfl)
  e1_BadLevels := ex1_ok (c.fact 16 rfl) rfl (c.def1 4 rfl rfl)
  b_tuple := He.free_ok X G (c.fact 17 rfl)
  c_Numbers := He.cls_ok (c.fact 18 rfl)
  no_Numbers_size := He.noat_ok (c.fact 19 rfl)
  no_Numbers_levels := He.noat_ok (c.fact 20 rfl)
  d_Numbers___init__ := (fun _ => c.def_ 5 rfl rfl) (c.fact 21 rfl)
  k_Numbers := He.mkr_ok (c.fact 22 rfl)
  g_Numbers := He.glo_ok X G (c.fact 23 rfl)
  g__law_worlds := He.glo_ok X G (c.fact 24 rfl)
  d__law_worlds := (fun _ => c.def_ 6 rfl rfl) (c.fact 25 rfl)
  b_sorted := He.free_ok X G (c.fact 26 rfl)
  b_max := He.free_ok X G (c.fact 27 rfl)
  g__law_sign := He.glo_ok X G (c.fact 28 rfl)
  d__law_sign := (fun _ => c.def_ 7 rfl rfl) (c.fact 29 rfl)
  g__law_asked := He.glo_ok X G (c.fact 30 rfl)
  g_NewsError := He.glo_ok X G (c.fact 31 rfl)
  xm_NewsError_NewsError := He.exm_ok (c.fact 32 rfl)
  xm_BadSize_NewsError := He.exm_ok (c.fact 33 rfl)
  xm_BadNumber_NewsError := He.exm_ok (c.fact 34 rfl)
  xm_BadWorld_NewsError := He.exm_ok (c.fact 35 rfl)
  xm_BadLot_NewsError := He.exm_ok (c.fact 36 rfl)
  xm_EmptyLot_NewsError := He.exm_ok (c.fact 37 rfl)
  xm_BadNames_NewsError := He.exm_ok (c.fact 38 rfl)
  xm_TooMany_NewsError := He.exm_ok (c.fact 39 rfl)
  xm_CannotGiveUp_NewsError := He.exm_ok (c.fact 40 rfl)
  xm_BadLevels_NewsError := He.exm_ok (c.fact 41 rfl)
  g_compare_differences := He.glo_ok X G (c.fact 42 rfl)
  g_BadWorld := He.glo_ok X G (c.fact 43 rfl)
  e1_BadWorld := ex1_ok (c.fact 44 rfl) rfl (c.def1 8 rfl rfl)
  b_set := He.free_ok X G (c.fact 45 rfl)
  g_BadNames := He.glo_ok X G (c.fact 46 rfl)
  e1_BadNames := ex1_ok (c.fact 47 rfl) rfl (c.def1 9 rfl rfl)
  g_run_givings := He.glo_ok X G (c.fact 48 rfl)
  i_GIVING_LIMIT := He.int_ok X G (c.fact 49 rfl)
  g_TooMany := He.glo_ok X G (c.fact 50 rfl)
  e1_TooMany := ex1_ok (c.fact 51 rfl) rfl (c.def1 10 rfl rfl)
  g_give_up_lot := He.glo_ok X G (c.fact 52 rfl)
  g_check_lot := He.glo_ok X G (c.fact 53 rfl)
  g_is_lot := He.glo_ok X G (c.fact 54 rfl)
  d_is_lot := (fun _ => c.def_ 11 rfl rfl) (c.fact 55 rfl)
  g_BadLot := He.glo_ok X G (c.fact 56 rfl)
  e1_BadLot := ex1_ok (c.fact 57 rfl) rfl (c.def1 12 rfl rfl)
  d_check_lot := (fun _ => c.def_ 13 rfl rfl) (c.fact 58 rfl)
  g_rest_of := He.glo_ok X G (c.fact 59 rfl)
  g_all_worlds := He.glo_ok X G (c.fact 60 rfl)
  d_all_worlds := (fun _ => c.def_ 14 rfl rfl) (c.fact 61 rfl)
  g_without := He.glo_ok X G (c.fact 62 rfl)
  d_without := (fun _ => c.def_ 15 rfl rfl) (c.fact 63 rfl)
  d_rest_of := (fun _ => c.def_ 16 rfl rfl) (c.fact 64 rfl)
  g_CannotGiveUp := He.glo_ok X G (c.fact 65 rfl)
  x0_CannotGiveUp := xc0_ok (c.fact 66 rfl)
  g_check_full_lot := He.glo_ok X G (c.fact 67 rfl)
  g_EmptyLot := He.glo_ok X G (c.fact 68 rfl)
  x0_EmptyLot := xc0_ok (c.fact 69 rfl)
  d_check_full_lot := (fun _ => c.def_ 17 rfl rfl) (c.fact 70 rfl)
  d_Numbers_level := (fun _ => c.def_ 18 rfl rfl) (c.fact 71 rfl)
  m_Numbers_level := He.meth_ok (c.fact 72 rfl)
  b_enumerate := He.free_ok X G (c.fact 73 rfl)
  d_give_up_lot := (fun _ => c.def_ 19 rfl rfl) (c.fact 74 rfl)
  d_run_givings := (fun _ => c.def_ 20 rfl rfl) (c.fact 75 rfl)
  d_Numbers_believed := (fun _ => c.def_ 21 rfl rfl) (c.fact 76 rfl)
  p_Numbers_believed := pro_ok (c.fact 77 rfl)
  g_sign_of := He.glo_ok X G (c.fact 78 rfl)
  d_sign_of := (fun _ => c.def_ 22 rfl rfl) (c.fact 79 rfl)
  d_compare_differences := (fun _ => c.def_ 23 rfl rfl) (c.fact 80 rfl)
  xc_NewsError := excC_ok (c.fact 81 rfl)
  xc_BadSize := excC_ok (c.fact 82 rfl)
  xc_BadNumber := excC_ok (c.fact 83 rfl)
  xc_BadWorld := excC_ok (c.fact 84 rfl)
  xc_BadLot := excC_ok (c.fact 85 rfl)
  xc_EmptyLot := excC_ok (c.fact 86 rfl)
  xc_BadNames := excC_ok (c.fact 87 rfl)
  xc_TooMany := excC_ok (c.fact 88 rfl)
  xc_CannotGiveUp := excC_ok (c.fact 89 rfl)
  xc_BadLevels := excC_ok (c.fact 90 rfl)
  o_Numbers := isO_ok (c.fact 91 rfl)
  t_BadWorld := tbl_ok (u := .inr "BadWorld") (c.fact 92 rfl) (isos c) (by decide +kernel)
  b_isinstance := He.free_ok X G (c.fact 93 rfl)
  t_BadNames := tbl_ok (u := .inr "BadNames") (c.fact 94 rfl) (isos c) (by decide +kernel)
  t_ValueError := tbl_ok (u := .inl "ValueError") (c.fact 95 rfl) (isos c) (by decide +kernel)
  b_ValueError := He.free_ok X G (c.fact 96 rfl)
  d__law_error := (fun _ => c.def_ 24 rfl rfl) (c.fact 97 rfl)
  g__law_error := He.glo_ok X G (c.fact 98 rfl)
  d__law_asked := (fun _ => c.def_ 25 rfl rfl) (c.fact 99 rfl)
  g__law_same := He.glo_ok X G (c.fact 100 rfl)
  t_int := tbl_ok (u := .inl "int") (c.fact 101 rfl) (isos c) (by decide +kernel)
  t_bool := tbl_ok (u := .inl "bool") (c.fact 102 rfl) (isos c) (by decide +kernel)
  b_bool := He.free_ok X G (c.fact 103 rfl)
  t_str := tbl_ok (u := .inl "str") (c.fact 104 rfl) (isos c) (by decide +kernel)
  b_str := He.free_ok X G (c.fact 105 rfl)
  t_list := tbl_ok (u := .inl "list") (c.fact 106 rfl) (isos c) (by decide +kernel)
  b_list := He.free_ok X G (c.fact 107 rfl)
  t_tuple := tbl_ok (u := .inl "tuple") (c.fact 108 rfl) (isos c) (by decide +kernel)
  d__law_same := (fun _ => c.def_ 26 rfl rfl) (c.fact 109 rfl)
  g_BadNumber := He.glo_ok X G (c.fact 110 rfl)
  e1_BadNumber := ex1_ok (c.fact 111 rfl) rfl (c.def1 27 rfl rfl)
  d_Numbers_times := (fun _ => c.def_ 28 rfl rfl) (c.fact 112 rfl)
  m_Numbers_times := He.meth_ok (c.fact 113 rfl)
  g_check_names := He.glo_ok X G (c.fact 114 rfl)
  d_check_names := (fun _ => c.def_ 29 rfl rfl) (c.fact 115 rfl)
  d_Numbers_renamed := (fun _ => c.def_ 30 rfl rfl) (c.fact 116 rfl)
  m_Numbers_renamed := He.meth_ok (c.fact 117 rfl)
  g__law_is_numbers := He.glo_ok X G (c.fact 118 rfl)
  t_Numbers := tbl_ok (u := .inr "Numbers") (c.fact 119 rfl) (isos c) (by decide +kernel)
  d__law_is_numbers := (fun _ => c.def_ 31 rfl rfl) (c.fact 120 rfl)
  d_law := (fun _ => c.def_ 32 rfl rfl) (c.fact 121 rfl)
  g_law := He.glo_ok X G (c.fact 122 rfl)
end T

end
section
set_option Elab.async false
set_option linter.all false
set_option maxRecDepth 100000
set_option maxHeartbeats 0
namespace T
open PySem PySem.Spec L2 DL
open PyProof.Rows hiding St
theorem facts {w : World} {K : PySem.W.Frag} {h : Heap} {mg : Str → Option Value} {f : Addr} (X : K.In h) (G : h.Ns mainGlobals mg) (hfa : mg ("law" : Str) = some (.ref f)) (c : SaysX fs fn K) :
    ∃ fd : FuncData, (∀ (s : Shared) (v : Value), BindsTo s fd ⟨[v], []⟩ [("script", v)]) ∧ ∀ base : Heap, K.In base → base.Ns mainGlobals mg → FnOk prg w K mg base (L2N.CX prg w) 11 f fd ["script"] (SpP K 1 g_law) := by
  have Z := kf X G c
  obtain ⟨fd, F⟩ := Z.d_law
  have e := hfa.symm.trans Z.g_law
  cases e
  have b := FunD.bindsA (ps := ["script"]) F fun _ _ _ _ _ _ us hl => match us, hl with | [_], _ => rfl
  refine ⟨fd, fun s v => b s [v] rfl, fun base _ _ => ?_⟩
  exact ok_law Z F
end T
open PySem PySem.W PySem.Calls PyProof.Rows
theorem T.law_fin (hL : ∀ ns : List Int, ns.length ≤ 63 → T.g_law [DL.D.scr ns] = .ok (.bl true)) : PySem.Challenge.rw_strengthofnews_k56_differences_compared.Holds := by
  w_on; o_law
  refine HandSHeadRun.head_any (r := OpenLaw.row PySem.Challenge.rw_strengthofnews_k56_differences_compared) (q := view (OpenLaw.row PySem.Challenge.rw_strengthofnews_k56_differences_compared).prog [40]) (H := T.hk) (ob := T.ob) (M := 20000) (loose := T.looseN) (d := HandSHeadRun.topDef (OpenLaw.row PySem.Challenge.rw_strengthofnews_k56_differences_compared).prog 40) (kwd := []) T.ob_eq
    (by kernel_rfl) (fun s => by kernel_rfl) T.run (by kernel_rfl) (by kernel_rfl) (by kernel_rfl) (by rfl) (by first | assumption | decide +kernel) (by decide +kernel) ⟨rfl, rfl, rfl, rfl, rfl, by decide +kernel⟩ ?hw ?hc
  case hw => w_witness2
  case hc =>
    refine L2.walk_ofE (l := PySem.Challenge.rw_strengthofnews_k56_differences_compared) (n := 63) (k := 11) (x := "script") (CX := fun o H s E e s2 => ∃ P w, L2N.CX P w o H s E e s2) rfl (by decide) (by kernel_rfl) ⟨rfl, by decide, by decide⟩ ?F ?G
    case G =>
      intro H s e s2 z
      obtain ⟨_, _, _, _, _, _, _, _, _, _, _, _, _, _, z⟩ := z
      exact z
    case F =>
      intro w mg fa h Y G hmg0
      obtain ⟨K, KX, c⟩ := Y
      have hmg : mg ("law" : PySem.Str) = some (.ref fa) := by
        have e : (HandSHeadRun.topDef (OpenLaw.row PySem.Challenge.rw_strengthofnews_k56_differences_compared).prog 40).name = ("law" : PySem.Str) := by kernel_rfl
        rw [← e]
        exact hmg0
      obtain ⟨fd, hb, hF⟩ := T.facts (w := w) KX G hmg c
      refine ⟨K, fd, DL.SpP K 1 T.g_law, KX, hb, fun H a ns hl hO hS => ?_, fun base b1 b2 => ?_⟩
      · refine ⟨fun _ => False, [.scr ns], rfl, DL.Reps.one (DL.rep_scr hO hS), ?_⟩
        rw [hL ns hl]
        exact fun v H2 _ r => r
      · exact DL.fnok_weak (hF base b1 b2) fun o H s E e s2 z => ⟨_, _, z⟩


end
section
set_option Elab.async false
set_option linter.all false
set_option maxRecDepth 100000
namespace DL
open PySem PySem.Spec L2
open PyProof.Rows hiding St
/-! ### the mirrors, evaluated -/
abbrev di (l : List Int) : List D := l.map D.int
section
variable {e : EnvD} {s : SEnv}
@[simp] theorem ev_V {i : Nat} {d : D} (h : e[i]? = some (some d)) : mV i e = .ok d := by
  unfold mV
  rw [h]
@[simp] theorem ev_C {d : D} : mC d e = .ok d := id rfl
@[simp] theorem ev_1 {f : D → R D} {a : EM} : m1 f a e = (a e).bd f := id rfl
@[simp] theorem ev_2 {f : D → D → R D} {a b : EM} : m2 f a b e = (a e).bd fun x => (b e).bd fun y => f x y := id rfl
@[simp] theorem ev_A {f : List D → R D} {a : EMs} : mA f a e = (a e).bd f := id rfl
@[simp] theorem ev_nil : mNil e = .ok [] := id rfl
@[simp] theorem ev_cons {a : EM} {r : EMs} : mCons a r e = (a e).bd fun x => (r e).bd fun xs => .ok (x :: xs) := id rfl
@[simp] theorem ev_T {a : EM} : mT a e = (a e).bd dTru := id rfl
@[simp] theorem ev_B {a : EM} : mB a e = (a e).bd fun d => match d with
  | .bl b => .ok b
  | _ => .bad := id rfl
@[simp] theorem ev_And {a b : EnvD → R Bool} : mAnd a b e = (a e).bd fun x => if x = true then b e else .ok false := id rfl
@[simp] theorem ev_Or {a b : EnvD → R Bool} : mOr a b e = (a e).bd fun x => if x = true then .ok true else b e := id rfl
@[simp] theorem ev_Not {a : EnvD → R Bool} : mNot a e = (a e).bd fun x => .ok (!x) := id rfl
@[simp] theorem ev_Yes : mYes e = .ok true := id rfl
@[simp] theorem ev_If {t : EnvD → R Bool} {a b : EM} : mIf t a b e = (t e).bd fun x => if x = true then a e else b e := id rfl
@[simp] theorem ev_AndV {a b : EM} : mAndV a b e = (a e).bd fun x => (dTru x).bd fun k => if k = true then b e else .ok x := id rfl
@[simp] theorem ev_OrV {a b : EM} : mOrV a b e = (a e).bd fun x => (dTru x).bd fun k => if k = true then .ok x else b e := id rfl
@[simp] theorem ev_H {α : Type} {m : EnvD → R α} : mH m s = m (hide s) := id rfl
@[simp] theorem ev_Seq {a b : SM} : sSeq a b s = (a s).then b := id rfl
@[simp] theorem then_nx {b : SM} : (Out.nx s).then b = b s := id rfl
@[simp] theorem then_rt {b : SM} {d : D} : (Out.rt d).then b = .rt d := id rfl
@[simp] theorem then_er {b : SM} {c : Str} {ns : List Str} {ds : List D} : (Out.er c ns ds s).then b = .er c ns ds s := id rfl
@[simp] theorem then_br {b : SM} : (Out.br s).then b = .br s := id rfl
@[simp] theorem then_ct {b : SM} : (Out.ct s).then b = .ct s := id rfl
@[simp] theorem ev_Nx : sNx s = .nx s := id rfl
@[simp] theorem ev_Ret {m : SEM} : sRet m s = (m s).on s fun d => .rt d := id rfl
@[simp] theorem ev_Set {i : Nat} {m : SEM} : sSet i m s = (m s).on s fun d => .nx (s.set i (.fz d)) := id rfl
@[simp] theorem ev_Ex {m : SEM} : sEx m s = (m s).on s fun _ => .nx s := id rfl
@[simp] theorem ev_SIf {t : SEnv → R Bool} {a b : SM} : sIf t a b s = (t s).on s fun k => if k = true then a s else b s := id rfl
@[simp] theorem ev_Rz1 {c f : Str} {m : SEM} : sRz1 c f m s = (m s).on s fun d => .er c [f] [d] s := id rfl
@[simp] theorem ev_Rz0 {c : Str} : sRz0 c s = .er c [] [] s := id rfl
@[simp] theorem hid_fz {d : D} : hide1 (.fz d) = some d := id rfl
@[simp] theorem hid_no : hide1 .no = none := id rfl
@[simp] theorem hid_ow {d : List D} : hide1 (.ow d) = none := id rfl
@[simp] theorem hid_ob {c : Str} {n : List Str} {d : List D} : hide1 (.ob c n d) = none := id rfl
@[simp] theorem wipe_nil' : wipeD e [] = e := id rfl
@[simp] theorem wipe_cons' {v : Nat} {vs : List Nat} : wipeD e (v :: vs) = (wipeD e vs).set v none := id rfl
theorem ev_V0 {d : D} : mV 0 (some d :: e) = .ok d := id rfl
theorem ev_VS {i : Nat} {x : Option D} : mV (i + 1) (x :: e) = mV i e := id rfl
theorem set_0 {α : Type} {x y : α} {l : List α} : (x :: l).set 0 y = y :: l := id rfl
theorem set_S {α : Type} {x y : α} {l : List α} {i : Nat} : (x :: l).set (i + 1) y = x :: l.set i y := id rfl
theorem get_0 {α : Type} {x : α} {l : List α} : (x :: l)[0]? = some x := id rfl
theorem get_S {α : Type} {x : α} {l : List α} {i : Nat} : (x :: l)[i + 1]? = l[i]? := id rfl
theorem hd_nil : hide [] = [] := id rfl
theorem hd_cons {x : Sl} {l : SEnv} : hide (x :: l) = hide1 x :: hide l := id rfl
theorem ld_nil : lend [] = [] := id rfl
theorem ld_cons {x : Sl} {l : SEnv} : lend (x :: l) = lend1 x :: lend l := id rfl
theorem ld_fz {d : D} : lend1 (.fz d) = some d := id rfl
theorem ld_no : lend1 .no = none := id rfl
theorem ld_ow {d : List D} : lend1 (.ow d) = some (.lst d) := id rfl
theorem ld_ob {c : Str} {n : List Str} {d : List D} : lend1 (.ob c n d) = some (.obj c n d) := id rfl
theorem if_t {α : Type} {a b : α} : (if true = true then a else b) = a := id rfl
theorem if_f {α : Type} {a b : α} : (if false = true then a else b) = b := id rfl
theorem if_T {α : Type} {a b : α} : (if True then a else b) = a := if_pos trivial
theorem if_F {α : Type} {a b : α} : (if False then a else b) = b := if_neg id
theorem dec_T {h : Decidable True} : @decide True h = true := by simp
theorem dec_F {h : Decidable False} : @decide False h = false := by simp
theorem mb_ok {b : Bool} : (match (D.bl b) with
  | .bl b => R.ok b
  | _ => R.bad) = .ok b := id rfl
theorem en_nx {s : SEnv} : endF (.nx s) = .ok .non := id rfl
theorem en_rt {d : D} : endF (.rt d) = .ok d := id rfl
theorem en_er {c : Str} {ns : List Str} {ds : List D} {s : SEnv} : endF (.er c ns ds s) = .er c ns ds := id rfl
theorem run_F {n : Nat} {m : SM} {ds : List D} {s : SEnv} (h : env0 n ds = s) : runF n m ds = endF (m s) := by
  unfold runF
  rw [h]
theorem ev_B' {a : EM} {b : Bool} (h : a e = .ok (.bl b)) : mB a e = .ok b := by
  unfold mB
  rw [h] <;> rfl
theorem not_t : (!true) = false := id rfl
theorem not_f : (!false) = true := id rfl
theorem own_nil {s : SEnv} : mHN (mA dLst mNil) s = .ok (.lst []) := id rfl
theorem ev_Own {i : Nat} {m : SEM} {s : SEnv} {ds : List D} (hm : m s = .ok (.lst ds)) (hi : i < s.length) : sOwn i m s = .nx (s.set i (.ow ds)) := by
  unfold sOwn
  rw [hm, on_ok]
  exact if_pos hi
theorem sub_len : ∀ (a b : List Int), a.Nodup → (∀ x ∈ a, x ∈ b) → a.length ≤ b.length
  | [], b, _, _ => Nat.zero_le _
  | x :: a, b, h, s => by
    rw [List.nodup_cons] at h
    have xb := s x List.mem_cons_self
    have ih := sub_len a (b.erase x) h.2 fun y hy => (List.mem_erase_of_ne fun z => h.1 (by rw [← z]; exact hy)).mpr (s y (List.mem_cons_of_mem _ hy))
    rw [List.length_erase_of_mem xb] at ih
    have := List.length_pos_of_mem xb
    rw [List.length_cons]
    omega
/-! values -/
@[simp] theorem d_tru_bl {b : Bool} : dTru (.bl b) = .ok b := id rfl
@[simp] theorem d_add {i j : Int} : dAdd (.int i) (.int j) = .ok (.int (i + j)) := id rfl
@[simp] theorem d_sub {i j : Int} : dSub (.int i) (.int j) = .ok (.int (i - j)) := id rfl
@[simp] theorem d_lt {i j : Int} : dLt (.int i) (.int j) = .ok (.bl (decide (i < j))) := id rfl
@[simp] theorem d_le {i j : Int} : dLe (.int i) (.int j) = .ok (.bl (decide (i ≤ j))) := id rfl
@[simp] theorem d_gt {i j : Int} : dGt (.int i) (.int j) = .ok (.bl (decide (j < i))) := id rfl
@[simp] theorem d_ge {i j : Int} : dGe (.int i) (.int j) = .ok (.bl (decide (j ≤ i))) := id rfl
@[simp] theorem d_neg {i : Int} : dNeg (.int i) = .ok (.int (-i)) := id rfl
theorem d_mod {i j : Int} (h : 0 < j) : dMod (.int i) (.int j) = .ok (.int (i % j)) := by
  have e : (decide (j ≠ 0)) = true := decide_eq_true (by omega)
  show (if (decide (j ≠ 0)) = true then R.ok (D.int (i.fmod j)) else .bad) = _
  rw [if_pos e, Int.fmod_eq_emod_of_nonneg _ (Int.le_of_lt h)]
theorem d_div {i j : Int} (h : 0 < j) (h2 : j < 1073741824) : dFdiv (.int i) (.int j) = .ok (.int (i / j)) := by
  have e : cFd i j = true := by
    unfold cFd
    rw [Bool.and_eq_true]
    exact ⟨decide_eq_true (by omega), decide_eq_true (by omega)⟩
  show (if cFd i j = true then R.ok (D.int (i.fdiv j)) else .bad) = _
  rw [if_pos e, Int.fdiv_eq_ediv_of_nonneg _ (Int.le_of_lt h)]
theorem d_mulL {i j : Int} (h1 : -(2 ^ 64) < i) (h2 : i < 2 ^ 64) : dMul (.int i) (.int j) = .ok (.int (i * j)) := by
  have e : cMu i j = true := by
    unfold cMu
    rw [decide_eq_true h1, decide_eq_true h2] <;> rfl
  show (if cMu i j = true then R.ok (D.int (i * j)) else .bad) = _
  rw [if_pos e]
theorem d_mulR {i j : Int} (h1 : -(2 ^ 64) < j) (h2 : j < 2 ^ 64) : dMul (.int i) (.int j) = .ok (.int (i * j)) := by
  have e : cMu i j = true := by
    unfold cMu
    rw [decide_eq_true h1, decide_eq_true h2]
    simp
  show (if cMu i j = true then R.ok (D.int (i * j)) else .bad) = _
  rw [if_pos e]
theorem pyd_di (l : List Int) : pyds (di l) = some (l.map PyData.int) := by
  induction l with
  | nil => rfl
  | cons x l ih =>
    show (pyd (.int x)).bind (fun p => (pyds (di l)).map fun ps => p :: ps) = _
    rw [ih] <;> rfl
theorem eqv_ints : ∀ a b : List Int, PyData.eqvAll (a.map PyData.int) (b.map PyData.int) = decide (a = b)
  | [], [] => rfl
  | [], _ :: _ => rfl
  | _ :: _, [] => rfl
  | x :: a, y :: b => by
    show ((x == y) && PyData.eqvAll (a.map PyData.int) (b.map PyData.int)) = _
    rw [eqv_ints a b]
    by_cases h : x = y
    · subst h
      by_cases h2 : a = b
      · subst h2
        simp
      · simp [h2]
    · have e : (x == y) = false := by simpa using h
      simp [h, e]
@[simp] theorem d_eqI {i j : Int} : dEq (.int i) (.int j) = .ok (.bl (decide (i = j))) := by
  have e : PyData.eqv (.int i) (.int j) = decide (i = j) := by
    show (i == j) = _
    by_cases h : i = j
    · subst h
      simp
    · have e : (i == j) = false := by simpa using h
      rw [e]
      simp [h]
  show R.bd (if SeqAt.shaped (.int i) = true ∧ SeqAt.shaped (.int j) = true then R.ok (PyData.eqv (.int i) (.int j)) else .bad) _ = _
  rw [if_pos ⟨rfl, rfl⟩, e] <;> rfl
@[simp] theorem d_neI {i j : Int} : dNe (.int i) (.int j) = .ok (.bl (!decide (i = j))) := by
  have e : PyData.eqv (.int i) (.int j) = decide (i = j) := by
    show (i == j) = _
    by_cases h : i = j
    · subst h
      simp
    · have e : (i == j) = false := by simpa using h
      rw [e]
      simp [h]
  show R.bd (if SeqAt.shaped (.int i) = true ∧ SeqAt.shaped (.int j) = true then R.ok (PyData.eqv (.int i) (.int j)) else .bad) _ = _
  rw [if_pos ⟨rfl, rfl⟩, e] <;> rfl
theorem d_eqS {i j : Str} (hi : SeqAt.shaped (.str i) = true) (hj : SeqAt.shaped (.str j) = true) : dEq (.str i) (.str j) = .ok (.bl (i == j)) := by
  show R.bd (if SeqAt.shaped (.str i) = true ∧ SeqAt.shaped (.str j) = true then R.ok (PyData.eqv (.str i) (.str j)) else .bad) _ = _
  rw [if_pos ⟨hi, hj⟩] <;> rfl
theorem d_neS {i j : Str} (hi : SeqAt.shaped (.str i) = true) (hj : SeqAt.shaped (.str j) = true) : dNe (.str i) (.str j) = .ok (.bl (!(i == j))) := by
  show R.bd (if SeqAt.shaped (.str i) = true ∧ SeqAt.shaped (.str j) = true then R.ok (PyData.eqv (.str i) (.str j)) else .bad) _ = _
  rw [if_pos ⟨hi, hj⟩] <;> rfl
@[simp] theorem d_eqB {i j : Bool} : dEq (.bl i) (.bl j) = .ok (.bl (i == j)) := by
  show R.bd (if SeqAt.shaped (.bool i) = true ∧ SeqAt.shaped (.bool j) = true then R.ok (PyData.eqv (.bool i) (.bool j)) else .bad) _ = _
  rw [if_pos ⟨rfl, rfl⟩] <;> rfl
@[simp] theorem d_neB {i j : Bool} : dNe (.bl i) (.bl j) = .ok (.bl (!(i == j))) := by
  show R.bd (if SeqAt.shaped (.bool i) = true ∧ SeqAt.shaped (.bool j) = true then R.ok (PyData.eqv (.bool i) (.bool j)) else .bad) _ = _
  rw [if_pos ⟨rfl, rfl⟩] <;> rfl
@[simp] theorem d_lenT {ds : List D} : dLen (.tup ds) = .ok (.int ds.length) := id rfl
@[simp] theorem d_lenL {ds : List D} : dLen (.lst ds) = .ok (.int ds.length) := id rfl
@[simp] theorem d_one {f : D → R D} {x : D} : one1 f [x] = f x := id rfl
@[simp] theorem d_int {i : Int} : dInt (.int i) = .ok (.int i) := id rfl
@[simp] theorem d_tupL {ds : List D} : dTuple (.lst ds) = .ok (.tup ds) := id rfl
@[simp] theorem d_tupT {ds : List D} : dTuple (.tup ds) = .ok (.tup ds) := id rfl
@[simp] theorem d_itT {ds : List D} : dItems (.tup ds) = .ok ds := id rfl
@[simp] theorem d_itL {ds : List D} : dItems (.lst ds) = .ok ds := id rfl
theorem d_tup {ds : List D} (h : ds.length ≤ 16777216) : dTup ds = .ok (.tup ds) := if_pos h
theorem d_lst {ds : List D} (h : ds.length ≤ 16777216) : dLst ds = .ok (.lst ds) := if_pos h
theorem in_ints (x : Int) (l : List Int) : inD (.int x) (di l) = decide (x ∈ l) := by
  induction l with
  | nil => simp [inD]
  | cons y l ih =>
    have e : inD (.int x) (di (y :: l)) = ((y == x) || inD (.int x) (di l)) := rfl
    rw [e, ih]
    by_cases h : x = y
    · subst h
      simp
    · have e : (y == x) = false := by simpa using fun z => h z.symm
      simp [e, h]
theorem flat_di (l : List Int) : (di l).all flatD = true := by
  rw [List.all_eq_true]
  intro x hx
  obtain ⟨i, _, rfl⟩ := List.mem_map.mp hx
  rfl
@[simp] theorem d_inT {x : Int} {l : List Int} : dIn (.int x) (.tup (di l)) = .ok (.bl (decide (x ∈ l))) := by
  show R.bd (if flatD (.int x) = true ∧ (di l).all flatD = true then R.ok (inD (.int x) (di l)) else .bad) _ = _
  rw [if_pos ⟨rfl, flat_di l⟩, in_ints] <;> rfl
@[simp] theorem d_notInT {x : Int} {l : List Int} : dNotIn (.int x) (.tup (di l)) = .ok (.bl (!decide (x ∈ l))) := by
  show R.bd (if flatD (.int x) = true ∧ (di l).all flatD = true then R.ok (inD (.int x) (di l)) else .bad) _ = _
  rw [if_pos ⟨rfl, flat_di l⟩, in_ints] <;> rfl
/-! subscripts: i a natural number within -/
theorem at_nat {α : Type} {l : List α} {i : Nat} {x : α} (h : l[i]? = some x) : atI l (i : Int) = some x := by
  have hi := lt_of_get h
  unfold atI ixN
  rw [if_pos (by omega), if_pos (by omega)]
  simpa using h
theorem d_ixT {ds : List D} {i : Nat} {d : D} (h : ds[i]? = some d) : dIx (.tup ds) (.int (i : Nat)) = .ok d := by
  show (match atI ds (i : Int) with | some d => R.ok d | none => .bad) = _
  rw [at_nat h]
theorem d_ixL {ds : List D} {i : Nat} {d : D} (h : ds[i]? = some d) : dIx (.lst ds) (.int (i : Nat)) = .ok d := by
  show (match atI ds (i : Int) with | some d => R.ok d | none => .bad) = _
  rw [at_nat h]
theorem d_ixS {ns : List Int} {i : Nat} {d : Int} (h : ns[i]? = some d) : dIx (.scr ns) (.int (i : Nat)) = .ok (.int d) := by
  show (match atI ns (i : Int) with | some d => R.ok (D.int d) | none => .bad) = _
  rw [at_nat h]
/-! the least -/
def lmin : List Int → Int
  | [] => 0
  | x :: xs => minI x xs
theorem ints_di (l : List Int) : intsD (di l) = some l := by
  induction l with
  | nil => rfl
  | cons x l ih =>
    show (intsD (di l)).map (fun is => x :: is) = _
    rw [ih] <;> rfl
theorem d_minL {l : List Int} (h : l ≠ []) : dMin [.lst (di l)] = .ok (.int (lmin l)) := by
  cases l with
  | nil => exact absurd rfl h
  | cons x l =>
    have e := ints_di (x :: l)
    unfold dMin dBest
    simp only [int2, itemsOf, Option.bind_some, e]
    rfl
theorem d_minT {l : List Int} (h : l ≠ []) : dMin [.tup (di l)] = .ok (.int (lmin l)) := by
  cases l with
  | nil => exact absurd rfl h
  | cons x l =>
    have e := ints_di (x :: l)
    unfold dMin dBest
    simp only [int2, itemsOf, Option.bind_some, e]
    rfl
@[simp] theorem d_max2 {i j : Int} : dMax [.int i, .int j] = .ok (.int (if j > i then j else i)) := id rfl
@[simp] theorem d_min2 {i j : Int} : dMin [.int i, .int j] = .ok (.int (if j < i then j else i)) := id rfl
theorem minI_le (x : Int) (l : List Int) : minI x l ≤ x ∧ (∀ y ∈ l, minI x l ≤ y) ∧ (minI x l = x ∨ minI x l ∈ l) := by
  induction l generalizing x with
  | nil => exact ⟨Int.le_refl _, fun y h => (by cases h), .inl rfl⟩
  | cons z l ih =>
    have e : minI x (z :: l) = minI (if z < x then z else x) l := rfl
    obtain ⟨h1, h2, h3⟩ := ih (if z < x then z else x)
    rw [e]
    refine ⟨?_, fun y hy => ?_, ?_⟩
    · by_cases c : z < x
      · rw [if_pos c] at h1 ⊢
        omega
      · rw [if_neg c] at h1 ⊢
        exact h1
    · rcases List.mem_cons.mp hy with rfl | hy
      · by_cases c : y < x
        · rw [if_pos c] at h1 ⊢
          exact h1
        · rw [if_neg c] at h1 ⊢
          omega
      · exact h2 y hy
    · rcases h3 with h3 | h3
      · by_cases c : z < x
        · rw [if_pos c] at h3 ⊢
          exact .inr (by rw [h3]; exact List.mem_cons_self)
        · rw [if_neg c] at h3 ⊢
          exact .inl h3
      · exact .inr (List.mem_cons_of_mem _ h3)
theorem lmin_le {l : List Int} {y : Int} (h : y ∈ l) : lmin l ≤ y := by
  cases l with
  | nil => cases h
  | cons x l =>
    obtain ⟨h1, h2, _⟩ := minI_le x l
    rcases List.mem_cons.mp h with rfl | h
    · exact h1
    · exact h2 y h
theorem lmin_mem {l : List Int} (h : l ≠ []) : lmin l ∈ l := by
  cases l with
  | nil => exact absurd rfl h
  | cons x l =>
    obtain ⟨_, _, h3⟩ := minI_le x l
    rcases h3 with h3 | h3
    · rw [show lmin (x :: l) = minI x l from rfl, h3]
      exact List.mem_cons_self
    · exact List.mem_cons_of_mem _ h3
theorem lmin_eq {l : List Int} {m : Int} (h1 : m ∈ l) (h2 : ∀ y ∈ l, m ≤ y) : lmin l = m := by
  have n : l ≠ [] := fun z => by rw [z] at h1; cases h1
  exact Int.le_antisymm (lmin_le h1) (h2 _ (lmin_mem n))
end
/-! ### comprehensions, loops -/
theorem compL_map {α : Type} {T : Tg} {mt : EnvD → R Bool} {me : EM} {e : EnvD} (c : α → D) (p : α → Bool) (f : α → D) : ∀ xs : List α, (∀ x ∈ xs, ∃ l, flat T (c x) = some l ∧ mt (setE e l) = .ok (p x) ∧ (p x = true → me (setE e l) = .ok (f x))) →
    compL T mt me e (xs.map c) = .ok ((xs.filter p).map f)
  | [], _ => rfl
  | x :: xs, h => by
    obtain ⟨l, h1, h2, h3⟩ := h x List.mem_cons_self
    have ih := compL_map (T := T) (mt := mt) (me := me) (e := e) c p f xs fun y hy => h y (List.mem_cons_of_mem _ hy)
    rw [List.map_cons]
    unfold compL
    simp only [h1, h2, bd_ok]
    cases hp : p x with
    | true => simp [h3 hp, ih, hp]
    | false => simp [ih, hp]
/-- [f(x) for x in ..] over the ints is -/
theorem ev_lc {i : Nat} {vs : List Nat} {mi : EnvD → R (List D)} {mt : EnvD → R Bool} {me : EM} {e : EnvD} {is : List Int} (p : Int → Bool) (f : Int → D) (hi : mi e = .ok (di is)) (hl : is.length ≤ 16777216)
    (h : ∀ x ∈ is, mt ((wipeD e vs).set i (some (.int x))) = .ok (p x) ∧ (p x = true → me ((wipeD e vs).set i (some (.int x))) = .ok (f x))) : mLc (.nm i) vs mi mt me e = .ok (.lst ((is.filter p).map f)) := by
  have z := compL_map (T := .nm i) (mt := mt) (me := me) (e := wipeD e vs) D.int p f is fun x hx => ⟨[(i, .int x)], rfl, (h x hx).1, (h x hx).2⟩
  unfold mLc
  rw [hi]
  simp only [bd_ok]
  rw [if_pos (by rw [List.length_map]; exact hl), z] <;> rfl
theorem loop_inv {T : Tg} {body : SM} {P : Nat → SEnv → Prop} : ∀ (xs : List D) (k : Nat) (s : SEnv), P k s → (∀ i x s, xs[i]? = some x → P (k + i) s → ∃ l s2, flat T x = some l ∧ (body (setS s l) = .nx s2 ∨ body (setS s l) = .ct s2) ∧ P (k + i + 1) s2) →
    ∃ s2, loopL T body xs s = .nx s2 ∧ P (k + xs.length) s2
  | [], k, s, h, _ => ⟨s, rfl, h⟩
  | x :: xs, k, s, h, hs => by
    obtain ⟨l, s2, h1, h2, h3⟩ := hs 0 x s rfl h
    obtain ⟨s3, e3, p3⟩ := loop_inv xs (k + 1) s2 h3 fun i y t hy hp => by
      have z := hs (i + 1) y t (by simpa using hy) (by rw [show k + (i + 1) = k + 1 + i by omega]; exact hp)
      rw [show k + (i + 1) + 1 = k + 1 + i + 1 by omega] at z
      exact z
    refine ⟨s3, ?_, by rw [List.length_cons, show k + (xs.length + 1) = k + 1 + xs.length by omega]; exact p3⟩
    unfold loopL
    rw [h1]
    rcases h2 with h2 | h2 <;> (simp only [h2]; exact e3)
/-- the loop is left by a return at turn j -/
theorem loop_rt {T : Tg} {body : SM} {P : Nat → SEnv → Prop} {d : D} : ∀ (xs : List D) (k j : Nat) (s : SEnv), P k s → j < xs.length → (∀ i x s, i < j → xs[i]? = some x → P (k + i) s → ∃ l s2, flat T x = some l ∧ (body (setS s l) = .nx s2 ∨ body (setS s l) = .ct s2) ∧ P (k + i + 1) s2) →
    (∀ x s, xs[j]? = some x → P (k + j) s → ∃ l, flat T x = some l ∧ body (setS s l) = .rt d) → loopL T body xs s = .rt d
  | [], _, _, _, _, hj, _, _ => by simp at hj
  | x :: xs, k, 0, s, h, _, _, hr => by
    obtain ⟨l, h1, h2⟩ := hr x s rfl h
    unfold loopL
    rw [h1]
    simp only [h2]
  | x :: xs, k, j + 1, s, h, hj, hs, hr => by
    obtain ⟨l, s2, h1, h2, h3⟩ := hs 0 x s (Nat.succ_pos _) rfl h
    have z := loop_rt (d := d) xs (k + 1) j s2 h3 (by simpa using hj) (fun i y t hi hy hp => by
      have z := hs (i + 1) y t (by omega) (by simpa using hy) (by rw [show k + (i + 1) = k + 1 + i by omega]; exact hp)
      rw [show k + (i + 1) + 1 = k + 1 + i + 1 by omega] at z
      exact z) fun y t hy hp => hr y t (by simpa using hy) (by rw [show k + (j + 1) = k + 1 + j by omega]; exact hp)
    unfold loopL
    rw [h1]
    rcases h2 with h2 | h2 <;> (simp only [h2]; exact z)
theorem ev_for {T : Tg} {mi : EnvD → R (List D)} {body : SM} {s : SEnv} {items : List D} (h : mi (hide s) = .ok items) : sFor T (mH mi) body s = loopL T body items s := by
  show (mi (hide s)).on s _ = _
  rw [h] <;> rfl
end DL

end
section
set_option Elab.async false
set_option linter.all false
set_option maxRecDepth 100000
namespace DL
open PySem PySem.Spec L2
open PyProof.Rows hiding St
/-! ### more of the mirrors, evaluated by rewriting alone -/
/-- a loop's turn at one item -/
def turn (T : Tg) (body : SM) (x : D) (s : SEnv) : Out := match flat T x with
  | some l => body (setS s l)
  | none => .bad
section
variable {e : EnvD} {s : SEnv}
theorem ev_sOwn {i : Nat} {m : SEM} : sOwn i m s = (m s).on s fun d => match d with
  | .lst ds => if i < s.length then .nx (s.set i (.ow ds)) else .bad
  | _ => .bad := id rfl
theorem ev_sApp {i : Nat} {m : SEM} : sApp i m s = match s[i]? with
  | some (.ow ds) => (m s).on s fun d => if ds.length < 16777216 then .nx (s.set i (.ow (ds ++ [d]))) else .bad
  | _ => .bad := id rfl
theorem ev_sExt {i : Nat} {m : SEM} : sExt i m s = match s[i]? with
  | some (.ow ds) => (m s).on s fun d => (match d with
    | .lst es => if ds.length + es.length ≤ 16777216 then .nx (s.set i (.ow (ds ++ es))) else .bad
    | _ => .bad)
  | _ => .bad := id rfl
theorem ev_sRev {i : Nat} : sRev i s = match s[i]? with
  | some (.ow ds) => .nx (s.set i (.ow ds.reverse))
  | _ => .bad := id rfl
theorem ev_sIxS {i : Nat} {k a : SEM} : sIxS i k a s = (a s).on s fun d => match s[i]? with
  | some (.ow ds) => (k s).on s fun n => (match n with
    | .int n => (match ixN ds.length n with
      | some j => .nx (s.set i (.ow (ds.set j d)))
      | none => .bad)
    | _ => .bad)
  | _ => .bad := id rfl
theorem ev_sAug {i : Nat} {f : Int → Int → Int} {m : SEM} : sAug i f m s = match s[i]? with
  | some (.fz (.int a)) => (m s).on s fun d => (match d with
    | .int b => .nx (s.set i (.fz (.int (f a b))))
    | _ => .bad)
  | _ => .bad := id rfl
theorem ev_sTup {T : Tg} {m : SEM} : sTup T m s = (m s).on s fun d => turn T (fun s => .nx s) d s := id rfl
theorem ev_sFrz {i : Nat} {m : SM} : sFrz i m s = m (match s[i]? with
  | some x => s.set i (frz1 x)
  | none => s) := id rfl
theorem frz_ow {ds : List D} : frz1 (.ow ds) = .fz (.lst ds) := id rfl
theorem frz_fz {d : D} : frz1 (.fz d) = .fz d := id rfl
theorem frz_ob {c : Str} {ns : List Str} {ds : List D} : frz1 (.ob c ns ds) = .fz (.obj c ns ds) := id rfl
theorem frz_no : frz1 .no = .no := id rfl
theorem ev_mHN {m : EM} : mHN m s = onlyL (m (hide s)) := id rfl
theorem only_l {ds : List D} : onlyL (.ok (.lst ds)) = .ok (.lst ds) := id rfl
theorem only_er {c : Str} {ns : List Str} {ds : List D} : onlyL (.er c ns ds) = .er c ns ds := id rfl
theorem ev_sFor {T : Tg} {mi : SEnv → R (List D)} {body : SM} : sFor T mi body s = (mi s).on s fun items => loopL T body items s := id rfl
theorem ev_sRetO {i : Nat} : sRetO i s = match s[i]? with
  | some (.ow ds) => .rtF ds
  | _ => .bad := id rfl
theorem ev_sRetF {m : SEM} : sRetF m s = (m s).on s fun d => match d with
  | .lst ds => .rtF ds
  | _ => .bad := id rfl
theorem then_rtF {b : SM} {ds : List D} : (Out.rtF ds).then b = .rtF ds := id rfl
theorem en_rtF {ds : List D} : endF (.rtF ds) = .ok (.lst ds) := id rfl
theorem fF_rtF {ds : List D} : endFF (.rtF ds) = .ok (.lst ds) := id rfl
theorem fF_er {c : Str} {ns : List Str} {ds : List D} : endFF (.er c ns ds s) = .er c ns ds := id rfl
theorem fF_nx : endFF (.nx s) = .ok .non := id rfl
theorem run_FF {n : Nat} {m : SM} {ds : List D} (h : env0 n ds = s) : runFF n m ds = endFF (m s) := by
  unfold runFF
  rw [h]
theorem ev_sRetN : sRetN s = .rt .non := id rfl
theorem ev_mL {m : EM} : mL m s = match m (lend s) with
  | .ok d => if okFor s d = true then .ok d else .bad
  | .er c ns ds => if okFors s ds = true then .er c ns ds else .bad
  | .bad => .bad := id rfl
theorem ev_mLB {m : EnvD → R Bool} : mLB m s = match m (lend s) with
  | .ok b => .ok b
  | .er c ns ds => if okFors s ds = true then .er c ns ds else .bad
  | .bad => .bad := id rfl
theorem ev_mLN {m : EM} : mLN m s = match m (lend s) with
  | .ok (.lst ds) => if okFors s ds = true then .ok (.lst ds) else .bad
  | .ok _ => .bad
  | .er c ns ds => if okFors s ds = true then .er c ns ds else .bad
  | .bad => .bad := id rfl
theorem ev_mLN' {m : EM} {ds : List D} (h : m (lend s) = .ok (.lst ds)) (hk : okFors s ds = true) : mLN m s = .ok (.lst ds) := by
  unfold mLN
  rw [h]
  simp only [hk, if_T]
theorem okFor_of {d : D} (h1 : noL d = true) (h2 : noO d = true) : okFor s d = true := by
  unfold okFor
  rw [h1, h2]
  simp
theorem okFors_of {d : List D} (h1 : noLs d = true) (h2 : noOs d = true) : okFors s d = true := by
  unfold okFors
  rw [h1, h2]
  simp
theorem noLs_di (l : List Int) : noLs (di l) = true := by
  induction l with
  | nil => rfl
  | cons x l ih =>
    show (noL (.int x) && noLs (di l)) = true
    rw [ih] <;> rfl
theorem noOs_di (l : List Int) : noOs (di l) = true := by
  induction l with
  | nil => rfl
  | cons x l ih =>
    show (noO (.int x) && noOs (di l)) = true
    rw [ih] <;> rfl
theorem okF_int {i : Int} : okFor s (.int i) = true := okFor_of rfl rfl
theorem okF_bl {i : Bool} : okFor s (.bl i) = true := okFor_of rfl rfl
theorem okF_str {i : Str} : okFor s (.str i) = true := okFor_of rfl rfl
theorem okF_non : okFor s .non = true := okFor_of rfl rfl
theorem okF_tup {l : List Int} : okFor s (.tup (di l)) = true := okFor_of (noLs_di l) (noOs_di l)
theorem okFs_di {l : List Int} : okFors s (di l) = true := okFors_of (noLs_di l) (noOs_di l)
theorem ev_meth {m : Str} {alts : Alts} {o : EM} {a : EMs} : mMeth m alts o a e = (o e).bd fun x => match dPick m alts x with
  | some g => (a e).bd fun xs => g (x :: xs)
  | none => .bad := id rfl
theorem ev_mIsN {d : D} : dIs d .non = .ok (.bl (isN d)) := id rfl
theorem ev_mIsNotN {d : D} : dIsNot d .non = .ok (.bl (!isN d)) := id rfl
theorem isN_non : isN .non = true := id rfl
theorem isN_int {i : Int} : isN (.int i) = false := id rfl
theorem isN_tup {i : List D} : isN (.tup i) = false := id rfl
theorem isN_lst {i : List D} : isN (.lst i) = false := id rfl
theorem isN_obj {c : Str} {n : List Str} {i : List D} : isN (.obj c n i) = false := id rfl
theorem isN_bl {i : Bool} : isN (.bl i) = false := id rfl
theorem isN_str {i : Str} : isN (.str i) = false := id rfl
theorem d_not_bl {b : Bool} : dNot (.bl b) = .ok (.bl (!b)) := id rfl
theorem d_tru_int {i : Int} : dTru (.int i) = .ok (i != 0) := id rfl
theorem d_en_t {ds : List D} : dEnum [.tup ds] = .ok (enD ds) := id rfl
theorem d_en_l {ds : List D} : dEnum [.lst ds] = .ok (enD ds) := id rfl
theorem d_zip_t {a b : List D} : dZip [.tup a, .tup b] = .ok (zipD a b) := id rfl
theorem d_zip_l {a b : List D} : dZip [.lst a, .lst b] = .ok (zipD a b) := id rfl
theorem d_list_l {ds : List D} : dList (.lst ds) = .ok (.lst ds) := id rfl
theorem d_list_t {ds : List D} : dList (.tup ds) = .ok (.lst ds) := id rfl
theorem d_absI {i : Int} : dAbs (.int i) = .ok (.int (if i < 0 then -i else i)) := id rfl
theorem turn_nm {i : Nat} {body : SM} {x : D} : turn (.nm i) body x s = body (s.set i (.fz x)) := id rfl
theorem turn_tp2 {i j : Nat} {body : SM} {a b : D} : turn (.tp [.nm i, .nm j]) body (.tup [a, b]) s = body ((s.set i (.fz a)).set j (.fz b)) := id rfl
theorem turn_tp3 {i j k : Nat} {body : SM} {a b c : D} : turn (.tp [.nm i, .nm j, .nm k]) body (.tup [a, b, c]) s = body (((s.set i (.fz a)).set j (.fz b)).set k (.fz c)) := id rfl
theorem turn_tp4 {i j k l : Nat} {body : SM} {a b c d : D} : turn (.tp [.nm i, .nm j, .nm k, .nm l]) body (.tup [a, b, c, d]) s = body ((((s.set i (.fz a)).set j (.fz b)).set k (.fz c)).set l (.fz d)) := id rfl
theorem loopL_nil {T : Tg} {body : SM} : loopL T body [] s = .nx s := id rfl
theorem loopL_cons {T : Tg} {body : SM} {x : D} {xs : List D} : loopL T body (x :: xs) s = match turn T body x s with
  | .nx e => loopL T body xs e
  | .ct e => loopL T body xs e
  | .br e => .nx e
  | o => o := by
  unfold turn
  conv => lhs; unfold loopL
  cases flat T x <;> rfl
end
/-- an element's part at one item -/
def turnE {α : Type} (T : Tg) (m : EnvD → R α) (x : D) (e : EnvD) : R α := match flat T x with
  | some l => m (setE e l)
  | none => .bad
theorem tE_nm {α : Type} {i : Nat} {m : EnvD → R α} {x : D} {e : EnvD} : turnE (.nm i) m x e = m (e.set i (some x)) := id rfl
theorem tE_tp2 {α : Type} {i j : Nat} {m : EnvD → R α} {a b : D} {e : EnvD} : turnE (.tp [.nm i, .nm j]) m (.tup [a, b]) e = m ((e.set i (some a)).set j (some b)) := id rfl
theorem tE_tp3 {α : Type} {i j k : Nat} {m : EnvD → R α} {a b c : D} {e : EnvD} : turnE (.tp [.nm i, .nm j, .nm k]) m (.tup [a, b, c]) e = m (((e.set i (some a)).set j (some b)).set k (some c)) := id rfl
/-- [f b for b in as if p b] -/
theorem ev_lcT {β : Type} {T : Tg} {vs : List Nat} {mi : EnvD → R (List D)} {mt : EnvD → R Bool} {me : EM} {e : EnvD} {c : β → D} (as : List β) (p : β → Bool) (f : β → D) (hi : mi e = .ok (as.map c)) (hl : as.length ≤ 16777216)
    (h : ∀ b ∈ as, turnE T mt (c b) (wipeD e vs) = .ok (p b)) (h2 : ∀ b ∈ as, p b = true → turnE T me (c b) (wipeD e vs) = .ok (f b)) : mLc T vs mi mt me e = .ok (.lst ((as.filter p).map f)) := by
  have z := compL_map (T := T) (mt := mt) (me := me) (e := wipeD e vs) c p f as fun x hx => by
    have a := h x hx
    have b := h2 x hx
    unfold turnE at a b
    cases hf : flat T (c x) with
    | none => rw [hf] at a; cases a
    | some l =>
      rw [hf] at a b
      exact ⟨l, rfl, a, b⟩
  unfold mLc
  rw [hi]
  simp only [bd_ok]
  rw [if_pos (by rw [List.length_map]; exact hl), z] <;> rfl
/-- [f b for b in as] -/
theorem ev_lcM {β : Type} {T : Tg} {vs : List Nat} {mi : EnvD → R (List D)} {me : EM} {e : EnvD} {c : β → D} (as : List β) (f : β → D) (hi : mi e = .ok (as.map c)) (hl : as.length ≤ 16777216)
    (h2 : ∀ b ∈ as, turnE T me (c b) (wipeD e vs) = .ok (f b)) : mLc T vs mi mYes me e = .ok (.lst (as.map f)) := by
  have z := ev_lcT (T := T) (vs := vs) (mt := mYes) as (fun _ => true) f hi hl (fun b hb => by
    have a := h2 b hb
    unfold turnE at a ⊢
    cases hf : flat T (c b) with
    | none => rw [hf] at a; cases a
    | some l => rfl) fun b hb _ => h2 b hb
  rw [z, List.filter_eq_self.mpr fun _ _ => rfl]
/-! #### loops -/
section
variable {β τ : Type} {T : Tg} {body : SM} {c : β → D}
/-- each turn lengthens a list -/
theorem loop_appG {E : List D → τ → SEnv} (g : β → List D) (u : β → τ) : ∀ (as : List β) (acc : List D) (t0 : τ), (acc ++ as.flatMap g).length ≤ 16777216 →
    (∀ b ∈ as, ∀ acc t, acc.length + (g b).length ≤ 16777216 → turn T body (c b) (E acc t) = .nx (E (acc ++ g b) (u b)) ∨ turn T body (c b) (E acc t) = .ct (E (acc ++ g b) (u b))) → ∃ t, loopL T body (as.map c) (E acc t0) = .nx (E (acc ++ as.flatMap g) t)
  | [], acc, t0, _, _ => ⟨t0, by simp [loopL_nil]⟩
  | b :: as, acc, t0, hz, h => by
    have e : acc ++ (b :: as).flatMap g = (acc ++ g b) ++ as.flatMap g := by simp
    have z := h b List.mem_cons_self acc t0 (by rw [e, List.length_append, List.length_append] at hz; omega)
    obtain ⟨t, ih⟩ := loop_appG (E := E) g u as (acc ++ g b) (u b) (by rw [← e]; exact hz) fun b hb => h b (List.mem_cons_of_mem _ hb)
    refine ⟨t, ?_⟩
    rw [List.map_cons, loopL_cons, e, ← ih]
    rcases z with z | z <;> rw [z]
theorem flat1 (f : β → D) (as : List β) : (as.flatMap fun b => [f b]) = as.map f := by
  induction as with
  | nil => rfl
  | cons a as ih => rw [List.flatMap_cons, ih] <;> rfl
theorem loop_appM {E : List D → τ → SEnv} (f : β → D) (u : β → τ) (as : List β) (t0 : τ) (hz : as.length ≤ 16777216)
    (h : ∀ b ∈ as, ∀ acc t, acc.length < 16777216 → turn T body (c b) (E acc t) = .nx (E (acc ++ [f b]) (u b))) : ∃ t, loopL T body (as.map c) (E [] t0) = .nx (E (as.map f) t) := by
  obtain ⟨t, z⟩ := loop_appG (T := T) (body := body) (c := c) (E := E) (fun b => [f b]) u as [] t0 (by rw [flat1, List.nil_append, List.length_map]; exact hz) fun b hb acc t hl => .inl (h b hb acc t hl)
  rw [flat1, List.nil_append] at z
  exact ⟨t, z⟩
/-- each turn leaves all as it is -/
theorem loop_chk {E : τ → SEnv} (u : β → τ → τ) : ∀ (as : List β) (t0 : τ), (∀ b ∈ as, ∀ t, turn T body (c b) (E t) = .nx (E (u b t)) ∨ turn T body (c b) (E t) = .ct (E (u b t))) → ∃ t, loopL T body (as.map c) (E t0) = .nx (E t)
  | [], t0, _ => ⟨t0, rfl⟩
  | b :: as, t0, h => by
    obtain ⟨t, ih⟩ := loop_chk (E := E) u as (u b t0) fun b hb => h b (List.mem_cons_of_mem _ hb)
    refine ⟨t, ?_⟩
    rw [List.map_cons, loopL_cons, ← ih]
    rcases h b List.mem_cons_self t0 with z | z <;> rw [z]
/-- the same, what is left behind not told -/
theorem loop_chkX {E : τ → SEnv} : ∀ (as : List β) (t0 : τ), (∀ b ∈ as, ∀ t, ∃ t', turn T body (c b) (E t) = .nx (E t') ∨ turn T body (c b) (E t) = .ct (E t')) → ∃ t, loopL T body (as.map c) (E t0) = .nx (E t)
  | [], t0, _ => ⟨t0, rfl⟩
  | b :: as, t0, h => by
    obtain ⟨t', z⟩ := h b List.mem_cons_self t0
    obtain ⟨t, ih⟩ := loop_chkX (E := E) as t' fun b hb => h b (List.mem_cons_of_mem _ hb)
    refine ⟨t, ?_⟩
    rw [List.map_cons, loopL_cons, ← ih]
    rcases z with z | z <;> rw [z]
/-- each turn changes a state -/
theorem loop_fold {α : Type} {E : α → τ → SEnv} (F : α → β → α) (I : α → Prop) : ∀ (as : List β) (a : α) (t0 : τ), I a → (∀ b ∈ as, ∀ a t, I a → I (F a b) ∧ ∃ t', turn T body (c b) (E a t) = .nx (E (F a b) t') ∨ turn T body (c b) (E a t) = .ct (E (F a b) t')) → ∃ t, loopL T body (as.map c) (E a t0) = .nx (E (as.foldl F a) t) ∧ I (as.foldl F a)
  | [], a, t0, i, _ => ⟨t0, rfl, i⟩
  | b :: as, a, t0, i, h => by
    obtain ⟨i2, t', z⟩ := h b List.mem_cons_self a t0 i
    obtain ⟨t, ih, i3⟩ := loop_fold (E := E) F I as (F a b) t' i2 fun b hb => h b (List.mem_cons_of_mem _ hb)
    refine ⟨t, ?_, i3⟩
    rw [List.map_cons, loopL_cons, List.foldl_cons, ← ih]
    rcases z with z | z <;> rw [z]
/-- an end by what was found -/
def outF {β : Type} (o : Option β) (r : β → D) (n : Out) : Out := match o with
  | some b => .rt (r b)
  | none => n
theorem out_s {β : Type} {b : β} {r : β → D} {n : Out} : outF (some b) r n = .rt (r b) := id rfl
theorem out_n {β : Type} {r : β → D} {n : Out} : outF none r n = n := id rfl
/-- the first item with p ends it -/
theorem loop_find {E : τ → SEnv} (p : β → Bool) (r : β → D) : ∀ (as : List β) (t0 : τ), (∀ b ∈ as, ∀ t, (p b = true → turn T body (c b) (E t) = .rt (r b)) ∧ (p b = false → ∃ t', turn T body (c b) (E t) = .nx (E t') ∨ turn T body (c b) (E t) = .ct (E t'))) →
    ∃ t, loopL T body (as.map c) (E t0) = outF (as.find? p) r (.nx (E t))
  | [], t0, _ => ⟨t0, rfl⟩
  | b :: as, t0, h => by
    obtain ⟨h1, h2⟩ := h b List.mem_cons_self t0
    cases hp : p b with
    | true =>
      refine ⟨t0, ?_⟩
      rw [List.map_cons, loopL_cons, h1 hp, List.find?_cons, hp]
      rfl
    | false =>
      obtain ⟨t', z⟩ := h2 hp
      obtain ⟨t, ih⟩ := loop_find (E := E) p r as t' fun b hb => h b (List.mem_cons_of_mem _ hb)
      refine ⟨t, ?_⟩
      rw [List.map_cons, loopL_cons, List.find?_cons, hp]
      dsimp only
      rw [← ih]
      rcases z with z | z <;> rw [z]
end
/-! #### items -/
theorem en_di (lv : List Int) : enD (di lv) = lv.zipIdx.map fun p => .tup [.int (p.2 : Nat), .int p.1] := by
  unfold enD di
  rw [List.zipIdx_map, List.map_map]
  rfl
theorem mem_zi {α : Type} {l : List α} {p : α × Nat} (h : p ∈ l.zipIdx) : l[p.2]? = some p.1 := List.mem_zipIdx_iff_getElem?.mp h
theorem d_ixLI {l : List Int} {i : Int} (h0 : 0 ≤ i) (h1 : i < (l.length : Nat)) : dIx (.lst (di l)) (.int i) = .ok (.int (l.getD i.toNat 0)) := by
  obtain ⟨k, rfl⟩ := Int.eq_ofNat_of_zero_le h0
  have hk : k < l.length := by omega
  refine d_ixL ?_
  rw [List.getElem?_map, List.getElem?_eq_getElem hk, List.getD_eq_getElem?_getD]
  simp [hk]
theorem d_ixTI {l : List Int} {i : Int} (h0 : 0 ≤ i) (h1 : i < (l.length : Nat)) : dIx (.tup (di l)) (.int i) = .ok (.int (l.getD i.toNat 0)) := by
  obtain ⟨k, rfl⟩ := Int.eq_ofNat_of_zero_le h0
  have hk : k < l.length := by omega
  refine d_ixT ?_
  rw [List.getElem?_map, List.getElem?_eq_getElem hk, List.getD_eq_getElem?_getD]
  simp [hk]
theorem ix_t0 (a : D) (r : List D) : dIx (.tup (a :: r)) (.int 0) = .ok a := d_ixT (i := 0) rfl
theorem ix_t1 (a b : D) (r : List D) : dIx (.tup (a :: b :: r)) (.int 1) = .ok b := d_ixT (i := 1) rfl
theorem ix_t2 (a b c : D) (r : List D) : dIx (.tup (a :: b :: c :: r)) (.int 2) = .ok c := d_ixT (i := 2) rfl
theorem ix_t3 (a b c d : D) (r : List D) : dIx (.tup (a :: b :: c :: d :: r)) (.int 3) = .ok d := d_ixT (i := 3) rfl
theorem ix_l0 (a : D) (r : List D) : dIx (.lst (a :: r)) (.int 0) = .ok a := d_ixL (i := 0) rfl
theorem ix_l1 (a b : D) (r : List D) : dIx (.lst (a :: b :: r)) (.int 1) = .ok b := d_ixL (i := 1) rfl
theorem ix_l2 (a b c : D) (r : List D) : dIx (.lst (a :: b :: c :: r)) (.int 2) = .ok c := d_ixL (i := 2) rfl
theorem ix_l3 (a b c d : D) (r : List D) : dIx (.lst (a :: b :: c :: d :: r)) (.int 3) = .ok d := d_ixL (i := 3) rfl
theorem at_last {α : Type} {l : List α} {x : α} (h : l.getLast? = some x) : atI l (-1) = some x := by
  have ne : l ≠ [] := fun z => by rw [z] at h; cases h
  have hl := List.length_pos_iff.mpr ne
  have e : ixN l.length (-1) = some (l.length - 1) := by
    unfold ixN
    rw [if_neg (by omega)]
    simp
    omega
  unfold atI
  rw [e]
  rw [List.getLast?_eq_getElem?] at h
  exact h
theorem ix_lastL {l : List D} {x : D} (h : l.getLast? = some x) : dIx (.lst l) (.int (-1)) = .ok x := by
  show (match atI l (-1) with | some d => R.ok d | none => .bad) = _
  rw [at_last h]
theorem ix_lastT {l : List D} {x : D} (h : l.getLast? = some x) : dIx (.tup l) (.int (-1)) = .ok x := by
  show (match atI l (-1) with | some d => R.ok d | none => .bad) = _
  rw [at_last h]
theorem d_tupS {ds : List D} (h : ds.length ≤ 1000) : dTup ds = .ok (.tup ds) := d_tup (Nat.le_trans h (by decide))
theorem d_lstS {ds : List D} (h : ds.length ≤ 1000) : dLst ds = .ok (.lst ds) := d_lst (Nat.le_trans h (by decide))
theorem d_tu0 : dTup [] = .ok (.tup []) := d_tupS (by decide)
theorem d_tu1 (a : D) : dTup [a] = .ok (.tup [a]) := d_tupS (by show 1 ≤ 1000; decide)
theorem d_tu2 (a b : D) : dTup [a, b] = .ok (.tup [a, b]) := d_tupS (by show 2 ≤ 1000; decide)
theorem d_tu3 (a b c : D) : dTup [a, b, c] = .ok (.tup [a, b, c]) := d_tupS (by show 3 ≤ 1000; decide)
theorem d_tu4 (a b c d : D) : dTup [a, b, c, d] = .ok (.tup [a, b, c, d]) := d_tupS (by show 4 ≤ 1000; decide)
theorem d_ls0 : dLst [] = .ok (.lst []) := d_lstS (by decide)
theorem d_ls1 (a : D) : dLst [a] = .ok (.lst [a]) := d_lstS (by show 1 ≤ 1000; decide)
theorem d_ls2 (a b : D) : dLst [a, b] = .ok (.lst [a, b]) := d_lstS (by show 2 ≤ 1000; decide)
theorem d_ls3 (a b c : D) : dLst [a, b, c] = .ok (.lst [a, b, c]) := d_lstS (by show 3 ≤ 1000; decide)
theorem d_ls4 (a b c d : D) : dLst [a, b, c, d] = .ok (.lst [a, b, c, d]) := d_lstS (by show 4 ≤ 1000; decide)
/-! #### equality of plain data -/
theorem d_eqO {x y : D} {p q : PyData} {b : Bool} (hx : pyd x = some p) (hy : pyd y = some q) (sp : SeqAt.shaped p = true) (sq : SeqAt.shaped q = true) (he : PyData.eqv p q = b) : dEq x y = .ok (.bl b) := by
  unfold dEq dEqB
  rw [hx, hy]
  simp only [sp, sq, and_self, if_T, bd_ok, he]
theorem d_neO {x y : D} {p q : PyData} {b : Bool} (hx : pyd x = some p) (hy : pyd y = some q) (sp : SeqAt.shaped p = true) (sq : SeqAt.shaped q = true) (he : PyData.eqv p q = b) : dNe x y = .ok (.bl (!b)) := by
  unfold dNe dEqB
  rw [hx, hy]
  simp only [sp, sq, and_self, if_T, bd_ok, he]
/-! #### slices -/
theorem ev_mSl {m : EM} {lo hi : Option EM} {e : EnvD} : mSl m lo hi e = (m e).bd fun d => (mPart lo e).bd fun l => (mPart hi e).bd fun h => dSl d l h := id rfl
theorem pt_none {e : EnvD} : mPart none e = .ok none := id rfl
theorem pt_some {m : EM} {e : EnvD} : mPart (some m) e = (m e).bd fun d => match d with
  | .int i => .ok (some i)
  | _ => .bad := id rfl
theorem sl_t {ds : List D} {l h : Option Int} : dSl (.tup ds) l h = .ok (.tup (cutD ds l h)) := id rfl
theorem sl_l {ds : List D} {l h : Option Int} : dSl (.lst ds) l h = .ok (.lst (cutD ds l h)) := id rfl
theorem cut_m1 (l : List D) : cutD l none (some (-1)) = l.dropLast := by
  unfold cutD
  rw [List.dropLast_eq_take]
  show (l.drop 0).take (((-1 : Int) + (l.length : Int)).toNat - 0) = l.take (l.length - 1)
  rw [List.drop_zero, show ((-1 : Int) + (l.length : Int)).toNat - 0 = l.length - 1 by omega]
theorem cut_hi {l : List D} {k : Int} (h : 0 ≤ k) : cutD l none (some k) = l.take k.toNat := by
  unfold cutD HT.sIx
  simp only [show ¬ k < 0 by omega, if_F]
  rw [List.drop_zero, Nat.sub_zero, List.take_eq_take_iff]
  omega
theorem cut_lo {l : List D} {k : Int} (h : 0 ≤ k) : cutD l (some k) none = l.drop k.toNat := by
  unfold cutD HT.sIx
  simp only [show ¬ k < 0 by omega, if_F]
  by_cases c : k.toNat ≤ l.length
  · rw [Nat.min_eq_left c]
    exact List.take_of_length_le (by rw [List.length_drop]; exact Nat.le_refl _)
  · rw [Nat.min_eq_right (by omega), List.drop_of_length_le (by omega), List.drop_of_length_le (by omega)]
    simp
theorem di_take (l : List Int) (k : Nat) : (di l).take k = di (l.take k) := (List.map_take ..).symm
theorem di_drop (l : List Int) (k : Nat) : (di l).drop k = di (l.drop k) := (List.map_drop ..).symm
theorem di_dropLast (l : List Int) : (di l).dropLast = di l.dropLast := (List.map_dropLast ..).symm
theorem di_append (a b : List Int) : di a ++ di b = di (a ++ b) := (List.map_append ..).symm
theorem di_nil : ([] : List D) = di [] := rfl
theorem add_tt {a b : List D} (h : a.length + b.length ≤ 16777216) : dAdd (.tup a) (.tup b) = .ok (.tup (a ++ b)) := if_pos h
theorem add_ll {a b : List D} (h : a.length + b.length ≤ 16777216) : dAdd (.lst a) (.lst b) = .ok (.lst (a ++ b)) := if_pos h
/-! #### the greatest, all, any, sum -/
def lmax : List Int → Int
  | [] => 0
  | x :: xs => maxI x xs
theorem d_maxL {l : List Int} (h : l ≠ []) : dMax [.lst (di l)] = .ok (.int (lmax l)) := by
  cases l with
  | nil => exact absurd rfl h
  | cons x l =>
    have e := ints_di (x :: l)
    unfold dMax dBest
    simp only [int2, itemsOf, Option.bind_some, e]
    rfl
theorem d_maxT {l : List Int} (h : l ≠ []) : dMax [.tup (di l)] = .ok (.int (lmax l)) := by
  cases l with
  | nil => exact absurd rfl h
  | cons x l =>
    have e := ints_di (x :: l)
    unfold dMax dBest
    simp only [int2, itemsOf, Option.bind_some, e]
    rfl
theorem maxI_ge (x : Int) (l : List Int) : x ≤ maxI x l ∧ (∀ y ∈ l, y ≤ maxI x l) ∧ (maxI x l = x ∨ maxI x l ∈ l) := by
  induction l generalizing x with
  | nil => exact ⟨Int.le_refl _, fun y h => (by cases h), .inl rfl⟩
  | cons z l ih =>
    have e : maxI x (z :: l) = maxI (if x < z then z else x) l := rfl
    obtain ⟨h1, h2, h3⟩ := ih (if x < z then z else x)
    rw [e]
    by_cases c : x < z
    · rw [if_pos c] at h1 h2 h3 ⊢
      refine ⟨by omega, fun y hy => ?_, ?_⟩
      · rcases List.mem_cons.mp hy with rfl | hy
        · exact h1
        · exact h2 y hy
      · rcases h3 with h3 | h3
        · exact .inr (by rw [h3]; exact List.mem_cons_self)
        · exact .inr (List.mem_cons_of_mem _ h3)
    · rw [if_neg c] at h1 h2 h3 ⊢
      refine ⟨h1, fun y hy => ?_, ?_⟩
      · rcases List.mem_cons.mp hy with rfl | hy
        · omega
        · exact h2 y hy
      · rcases h3 with h3 | h3
        · exact .inl h3
        · exact .inr (List.mem_cons_of_mem _ h3)
theorem le_lmax {l : List Int} {y : Int} (h : y ∈ l) : y ≤ lmax l := by
  cases l with
  | nil => cases h
  | cons x l =>
    obtain ⟨h1, h2, _⟩ := maxI_ge x l
    rcases List.mem_cons.mp h with rfl | h
    · exact h1
    · exact h2 y h
theorem lmax_mem {l : List Int} (h : l ≠ []) : lmax l ∈ l := by
  cases l with
  | nil => exact absurd rfl h
  | cons x l =>
    obtain ⟨_, _, h3⟩ := maxI_ge x l
    rcases h3 with h3 | h3
    · rw [show lmax (x :: l) = maxI x l from rfl, h3]
      exact List.mem_cons_self
    · exact List.mem_cons_of_mem _ h3
theorem bools_map (l : List Bool) : boolsD (l.map D.bl) = some l := by
  induction l with
  | nil => rfl
  | cons x l ih =>
    show (boolsD (l.map D.bl)).map (fun is => x :: is) = _
    rw [ih] <;> rfl
theorem d_allB {β : Type} {l : List β} {p : β → Bool} : dAll (.lst (l.map fun x => .bl (p x))) = .ok (.bl (l.all p)) := by
  have e := bools_map (l.map p)
  rw [List.map_map] at e
  unfold dAll dAnyAll
  rw [show (l.map fun x => D.bl (p x)) = l.map (D.bl ∘ p) from rfl]
  simp only [e, List.all_map]
  rfl
theorem d_anyB {β : Type} {l : List β} {p : β → Bool} : dAny (.lst (l.map fun x => .bl (p x))) = .ok (.bl (l.any p)) := by
  have e := bools_map (l.map p)
  rw [List.map_map] at e
  unfold dAny dAnyAll
  rw [show (l.map fun x => D.bl (p x)) = l.map (D.bl ∘ p) from rfl]
  simp only [e, List.any_map]
  rfl
theorem d_all1 {b : Bool} : dAll (.lst [.bl b]) = .ok (.bl b) := by cases b <;> rfl
theorem d_sumI {l : List Int} : dSum (.lst (di l)) = .ok (.int l.sum) := by
  unfold dSum
  simp only [ints_di]
/-! #### sorted lists -/
theorem head_least {l : List Int} {x : Int} (h : l.Pairwise (· < ·)) (hx : x ∈ l) (hm : ∀ y ∈ l, x ≤ y) : l[0]? = some x := by
  cases l with
  | nil => cases hx
  | cons a l =>
    rw [List.pairwise_cons] at h
    rcases List.mem_cons.mp hx with e | hx
    · rw [e]
      rfl
    · have := h.1 x hx
      have := hm a List.mem_cons_self
      omega
theorem last_greatest {l : List Int} {x : Int} (h : l.Pairwise (· < ·)) (hx : x ∈ l) (hm : ∀ y ∈ l, y ≤ x) : l.getLast? = some x := by
  have ne : l ≠ [] := fun z => by rw [z] at hx; cases hx
  have h2 : l.reverse.Pairwise (· > ·) := List.pairwise_reverse.mpr h
  rw [← List.head?_reverse]
  cases hr : l.reverse with
  | nil => exact absurd (List.reverse_eq_nil_iff.mp hr) ne
  | cons a r =>
    rw [hr, List.pairwise_cons] at h2
    have hx2 : x ∈ a :: r := by rw [← hr]; exact List.mem_reverse.mpr hx
    rcases List.mem_cons.mp hx2 with e | hx3
    · rw [e]
      rfl
    · have := h2.1 x hx3
      have := hm a (List.mem_reverse.mp (by rw [hr]; exact List.mem_cons_self))
      omega
/-- the ints from a below b -/
def ir (a b : Int) : List Int := (List.range (b - a).toNat).map fun k : Nat => a + (k : Int)
theorem rngD_ir (a b : Int) : rngD a b = di (ir a b) := by
  unfold rngD di ir
  rw [List.map_map]
  rfl
theorem mem_ir {a b x : Int} : x ∈ ir a b ↔ a ≤ x ∧ x < b := by
  unfold ir
  rw [List.mem_map]
  constructor
  · rintro ⟨k, hk, rfl⟩
    have := List.mem_range.mp hk
    omega
  · rintro ⟨h1, h2⟩
    exact ⟨(x - a).toNat, List.mem_range.mpr (by omega), by omega⟩
theorem ir_sorted (a b : Int) : (ir a b).Pairwise (· < ·) := by
  unfold ir
  rw [List.pairwise_map]
  exact List.pairwise_lt_range.imp fun h => by omega
theorem ir_len (a b : Int) : (ir a b).length = (b - a).toNat := by
  unfold ir
  rw [List.length_map, List.length_range]
theorem d_rng2 {a b : Int} (h1 : -1000000 < a) (h2 : a < 1000000) (h3 : -1000000 < b) (h4 : b < 1000000) : dRange2 [.int a, .int b] = .ok (di (ir a b)) := by
  have e : (-1000000 : Int) < 2 ^ 62 := by decide
  unfold dRange2
  simp only [int2]
  rw [if_pos, rngD_ir]
  constructor <;> omega
end DL

end
section
set_option Elab.async false
set_option linter.all false
set_option maxRecDepth 100000
namespace DL
open PySem PySem.Spec L2
open PyProof.Rows hiding St
/-! ### equality of data without bools -/
def puD : Nat → D → Bool
  | 0 => fun _ => false
  | n + 1 => fun d => match d with
    | .non => true
    | .int _ => true
    | .str s => SeqAt.shaped (.str s)
    | .tup ds => ds.all (puD n)
    | .lst ds => ds.all (puD n)
    | _ => false
def toP (d : D) : PyData := (pyd d).getD .none
theorem pyds_of : ∀ {ds : List D}, (∀ d ∈ ds, pyd d = some (toP d)) → pyds ds = some (ds.map toP)
  | [], _ => rfl
  | d :: ds, h => by
    show (pyd d).bind (fun p => (pyds ds).map fun ps => p :: ps) = _
    rw [h d List.mem_cons_self, pyds_of fun x hx => h x (List.mem_cons_of_mem _ hx)]
    rfl
theorem canAll_of : ∀ {ps : List PyData}, (∀ p ∈ ps, p.canLay0 = true) → PyData.canLayAll0 ps = true
  | [], _ => by simp [PyData.canLayAll0]
  | p :: ps, h => by
    simp only [PyData.canLayAll0, h p List.mem_cons_self, canAll_of fun x hx => h x (List.mem_cons_of_mem _ hx), Bool.and_self]
theorem depAll_of {n : Nat} : ∀ {ps : List PyData}, (∀ p ∈ ps, p.depth ≤ n) → PyData.depthAll ps ≤ n
  | [], _ => by simp [PyData.depthAll]
  | p :: ps, h => by
    simp only [PyData.depthAll]
    exact Nat.max_le.mpr ⟨h p List.mem_cons_self, depAll_of fun x hx => h x (List.mem_cons_of_mem _ hx)⟩
theorem pu_ok : ∀ (n : Nat) (d : D), puD n d = true → pyd d = some (toP d) ∧ (toP d).canLay0 = true ∧ (toP d).depth ≤ n
  | 0, _, h => by cases h
  | n + 1, .non, _ => ⟨rfl, rfl, Nat.zero_le _⟩
  | n + 1, .bl _, h => by cases h
  | n + 1, .int i, _ => ⟨rfl, rfl, Nat.zero_le _⟩
  | n + 1, .str s, h => ⟨rfl, SeqAt.canLay_of_shaped h, Nat.zero_le _⟩
  | n + 1, .tup ds, h => by
    have a : ∀ d ∈ ds, puD n d = true := fun d hd => List.all_eq_true.mp h d hd
    have e : pyd (.tup ds) = some (.tuple (ds.map toP)) := by
      show (pyds ds).map PyData.tuple = _
      rw [pyds_of fun d hd => (pu_ok n d (a d hd)).1]
      rfl
    have e2 : toP (.tup ds) = .tuple (ds.map toP) := by rw [toP, e] <;> rfl
    rw [e2, e]
    refine ⟨rfl, ?_, ?_⟩
    · simp only [PyData.canLay0]
      exact canAll_of fun p hp => by
        obtain ⟨d, hd, rfl⟩ := List.mem_map.mp hp
        exact (pu_ok n d (a d hd)).2.1
    · simp only [PyData.depth]
      exact Nat.succ_le_succ (depAll_of fun p hp => by
        obtain ⟨d, hd, rfl⟩ := List.mem_map.mp hp
        exact (pu_ok n d (a d hd)).2.2)
  | n + 1, .lst ds, h => by
    have a : ∀ d ∈ ds, puD n d = true := fun d hd => List.all_eq_true.mp h d hd
    have e : pyd (.lst ds) = some (.list (ds.map toP)) := by
      show (pyds ds).map PyData.list = _
      rw [pyds_of fun d hd => (pu_ok n d (a d hd)).1]
      rfl
    have e2 : toP (.lst ds) = .list (ds.map toP) := by rw [toP, e] <;> rfl
    rw [e2, e]
    refine ⟨rfl, ?_, ?_⟩
    · simp only [PyData.canLay0]
      exact canAll_of fun p hp => by
        obtain ⟨d, hd, rfl⟩ := List.mem_map.mp hp
        exact (pu_ok n d (a d hd)).2.1
    · simp only [PyData.depth]
      exact Nat.succ_le_succ (depAll_of fun p hp => by
        obtain ⟨d, hd, rfl⟩ := List.mem_map.mp hp
        exact (pu_ok n d (a d hd)).2.2)
  | n + 1, .obj _ _ _, h => by cases h
  | n + 1, .exc _ _ _, h => by cases h
  | n + 1, .dct _ _, h => by cases h
  | n + 1, .scr _, h => by cases h
theorem pu_shaped {n : Nat} {d : D} (hn : n ≤ 64) (h : puD n d = true) : SeqAt.shaped (toP d) = true := by
  obtain ⟨_, a, b⟩ := pu_ok n d h
  unfold SeqAt.shaped
  rw [a, decide_eq_true (Nat.le_trans b hn)] <;> rfl
theorem toP_tup {n : Nat} {ds : List D} (h : puD (n + 1) (.tup ds) = true) : toP (.tup ds) = .tuple (ds.map toP) := by
  have a : ∀ d ∈ ds, puD n d = true := fun d hd => List.all_eq_true.mp h d hd
  have e : pyd (.tup ds) = some (.tuple (ds.map toP)) := by
    show (pyds ds).map PyData.tuple = _
    rw [pyds_of fun d hd => (pu_ok n d (a d hd)).1]
    rfl
  rw [toP, e] <;> rfl
theorem toP_lst {n : Nat} {ds : List D} (h : puD (n + 1) (.lst ds) = true) : toP (.lst ds) = .list (ds.map toP) := by
  have a : ∀ d ∈ ds, puD n d = true := fun d hd => List.all_eq_true.mp h d hd
  have e : pyd (.lst ds) = some (.list (ds.map toP)) := by
    show (pyds ds).map PyData.list = _
    rw [pyds_of fun d hd => (pu_ok n d (a d hd)).1]
    rfl
  rw [toP, e] <;> rfl
theorem eqAll_of : ∀ {xs ys : List D}, (∀ x ∈ xs, ∀ y ∈ ys, (PyData.eqv (toP x) (toP y) = true ↔ x = y)) → (PyData.eqvAll (xs.map toP) (ys.map toP) = true ↔ xs = ys)
  | [], [], _ => by simp [PyData.eqvAll]
  | [], _ :: _, _ => by simp [PyData.eqvAll]
  | _ :: _, [], _ => by simp [PyData.eqvAll]
  | x :: xs, y :: ys, h => by
    have ih := eqAll_of (xs := xs) (ys := ys) fun a ha b hb => h a (List.mem_cons_of_mem _ ha) b (List.mem_cons_of_mem _ hb)
    have h0 := h x List.mem_cons_self y List.mem_cons_self
    rw [List.map_cons, List.map_cons, PyData.eqvAll, Bool.and_eq_true, h0, ih, List.cons.injEq]
theorem pu_eqv : ∀ (n : Nat) (x y : D) (m : Nat), puD n x = true → puD m y = true → (PyData.eqv (toP x) (toP y) = true ↔ x = y)
  | 0, _, _, _, h, _ => by cases h
  | _ + 1, _, _, 0, _, h => by cases h
  | n + 1, .non, y, m + 1, _, h => by
    cases y with
    | non => exact ⟨fun _ => rfl, fun _ => rfl⟩
    | int i => exact iff_of_false (fun z => (by cases z)) (fun z => (by cases z))
    | str s => exact iff_of_false (fun z => (by cases z)) (fun z => (by cases z))
    | tup ds => rw [toP_tup h]; exact iff_of_false (fun z => (by cases z)) (fun z => (by cases z))
    | lst ds => rw [toP_lst h]; exact iff_of_false (fun z => (by cases z)) (fun z => (by cases z))
    | _ => cases h
  | n + 1, .int i, y, m + 1, _, h => by
    cases y with
    | non => exact iff_of_false (fun z => (by cases z)) (fun z => (by cases z))
    | int j =>
      show (i == j) = true ↔ _
      rw [beq_iff_eq, D.int.injEq]
    | str s => exact iff_of_false (fun z => (by cases z)) (fun z => (by cases z))
    | tup ds => rw [toP_tup h]; exact iff_of_false (fun z => (by cases z)) (fun z => (by cases z))
    | lst ds => rw [toP_lst h]; exact iff_of_false (fun z => (by cases z)) (fun z => (by cases z))
    | _ => cases h
  | n + 1, .str i, y, m + 1, _, h => by
    cases y with
    | non => exact iff_of_false (fun z => (by cases z)) (fun z => (by cases z))
    | int j => exact iff_of_false (fun z => (by cases z)) (fun z => (by cases z))
    | str s =>
      show (i == s) = true ↔ _
      rw [beq_iff_eq, D.str.injEq]
    | tup ds => rw [toP_tup h]; exact iff_of_false (fun z => (by cases z)) (fun z => (by cases z))
    | lst ds => rw [toP_lst h]; exact iff_of_false (fun z => (by cases z)) (fun z => (by cases z))
    | _ => cases h
  | n + 1, .tup xs, y, m + 1, h1, h => by
    rw [toP_tup h1]
    cases y with
    | non => exact iff_of_false (fun z => (by cases z)) (fun z => (by cases z))
    | int j => exact iff_of_false (fun z => (by cases z)) (fun z => (by cases z))
    | str s => exact iff_of_false (fun z => (by cases z)) (fun z => (by cases z))
    | tup ys =>
      rw [toP_tup h, PyData.eqv, D.tup.injEq]
      exact eqAll_of fun a ha b hb => pu_eqv n a b m (List.all_eq_true.mp h1 a ha) (List.all_eq_true.mp h b hb)
    | lst ds => rw [toP_lst h]; exact iff_of_false (fun z => (by cases z)) (fun z => (by cases z))
    | _ => cases h
  | n + 1, .lst xs, y, m + 1, h1, h => by
    rw [toP_lst h1]
    cases y with
    | non => exact iff_of_false (fun z => (by cases z)) (fun z => (by cases z))
    | int j => exact iff_of_false (fun z => (by cases z)) (fun z => (by cases z))
    | str s => exact iff_of_false (fun z => (by cases z)) (fun z => (by cases z))
    | tup ds => rw [toP_tup h]; exact iff_of_false (fun z => (by cases z)) (fun z => (by cases z))
    | lst ys =>
      rw [toP_lst h, PyData.eqv, D.lst.injEq]
      exact eqAll_of fun a ha b hb => pu_eqv n a b m (List.all_eq_true.mp h1 a ha) (List.all_eq_true.mp h b hb)
    | _ => cases h
  | n + 1, .bl _, _, _ + 1, h, _ => by cases h
  | n + 1, .obj _ _ _, _, _ + 1, h, _ => by cases h
  | n + 1, .exc _ _ _, _, _ + 1, h, _ => by cases h
  | n + 1, .dct _ _, _, _ + 1, h, _ => by cases h
  | n + 1, .scr _, _, _ + 1, h, _ => by cases h
section
variable {x y : D}
theorem d_eqP {b : Bool} (hx : puD 64 x = true) (hy : puD 64 y = true) (h : b = true ↔ x = y) : dEq x y = .ok (.bl b) := by
  refine d_eqO (pu_ok 64 x hx).1 (pu_ok 64 y hy).1 (pu_shaped (Nat.le_refl _) hx) (pu_shaped (Nat.le_refl _) hy) ?_
  have e := pu_eqv 64 x y 64 hx hy
  rw [← h] at e
  cases b <;> cases hq : PyData.eqv (toP x) (toP y) <;> rw [hq] at e <;> simp at e ⊢
theorem d_neP {b : Bool} (hx : puD 64 x = true) (hy : puD 64 y = true) (h : b = true ↔ x = y) : dNe x y = .ok (.bl (!b)) := by
  refine d_neO (pu_ok 64 x hx).1 (pu_ok 64 y hy).1 (pu_shaped (Nat.le_refl _) hx) (pu_shaped (Nat.le_refl _) hy) ?_
  have e := pu_eqv 64 x y 64 hx hy
  rw [← h] at e
  cases b <;> cases hq : PyData.eqv (toP x) (toP y) <;> rw [hq] at e <;> simp at e ⊢
theorem d_eqR (hx : puD 64 x = true) : dEq x x = .ok (.bl true) := d_eqP hx hx ⟨fun _ => rfl, fun _ => rfl⟩
theorem d_neR (hx : puD 64 x = true) : dNe x x = .ok (.bl false) := d_neP (b := true) hx hx ⟨fun _ => rfl, fun _ => rfl⟩
end
theorem pu_mono : ∀ {n m : Nat} {d : D}, n ≤ m → puD n d = true → puD m d = true
  | 0, _, _, _, h => by cases h
  | n + 1, 0, _, hm, _ => by omega
  | n + 1, m + 1, .non, _, _ => rfl
  | n + 1, m + 1, .int _, _, _ => rfl
  | n + 1, m + 1, .str _, _, h => h
  | n + 1, m + 1, .tup ds, hm, h => List.all_eq_true.mpr fun d hd => pu_mono (Nat.le_of_succ_le_succ hm) (List.all_eq_true.mp h d hd)
  | n + 1, m + 1, .lst ds, hm, h => List.all_eq_true.mpr fun d hd => pu_mono (Nat.le_of_succ_le_succ hm) (List.all_eq_true.mp h d hd)
  | n + 1, m + 1, .bl _, _, h => by cases h
  | n + 1, m + 1, .obj _ _ _, _, h => by cases h
  | n + 1, m + 1, .exc _ _ _, _, h => by cases h
  | n + 1, m + 1, .dct _ _, _, h => by cases h
  | n + 1, m + 1, .scr _, _, h => by cases h
theorem pu_di (n : Nat) (l : List Int) : (di l).all (puD (n + 1)) = true := by
  rw [List.all_eq_true]
  intro x hx
  obtain ⟨i, _, rfl⟩ := List.mem_map.mp hx
  rfl
theorem pu_ti (n : Nat) (l : List Int) : puD (n + 2) (.tup (di l)) = true := pu_di n l
theorem pu_li (n : Nat) (l : List Int) : puD (n + 2) (.lst (di l)) = true := pu_di n l
theorem di_inj {a b : List Int} : di a = di b ↔ a = b := by
  constructor
  · intro h
    exact List.map_inj_right (fun x y e => D.int.inj e) |>.mp h
  · intro h
    rw [h]
theorem d_eqTI {a b : List Int} : dEq (.tup (di a)) (.tup (di b)) = .ok (.bl (decide (a = b))) := d_eqP (pu_ti 62 a) (pu_ti 62 b) (by rw [decide_eq_true_iff, D.tup.injEq, di_inj])
theorem d_neTI {a b : List Int} : dNe (.tup (di a)) (.tup (di b)) = .ok (.bl (!decide (a = b))) := d_neP (pu_ti 62 a) (pu_ti 62 b) (by rw [decide_eq_true_iff, D.tup.injEq, di_inj])
theorem d_eqLI {a b : List Int} : dEq (.lst (di a)) (.lst (di b)) = .ok (.bl (decide (a = b))) := d_eqP (pu_li 62 a) (pu_li 62 b) (by rw [decide_eq_true_iff, D.lst.injEq, di_inj])
theorem d_neLI {a b : List Int} : dNe (.lst (di a)) (.lst (di b)) = .ok (.bl (!decide (a = b))) := d_neP (pu_li 62 a) (pu_li 62 b) (by rw [decide_eq_true_iff, D.lst.injEq, di_inj])
theorem d_eqSt {i j : Str} (hi : SeqAt.shaped (.str i) = true) (hj : SeqAt.shaped (.str j) = true) : dEq (.str i) (.str j) = .ok (.bl (decide (i = j))) := d_eqP (x := .str i) (y := .str j) hi hj (by rw [decide_eq_true_iff, D.str.injEq])
theorem d_neSt {i j : Str} (hi : SeqAt.shaped (.str i) = true) (hj : SeqAt.shaped (.str j) = true) : dNe (.str i) (.str j) = .ok (.bl (!decide (i = j))) := d_neP (x := .str i) (y := .str j) hi hj (by rw [decide_eq_true_iff, D.str.injEq])
theorem d_eqSN {i : Str} (hi : SeqAt.shaped (.str i) = true) : dEq (.str i) (.str i) = .ok (.bl true) := d_eqR (x := .str i) hi
theorem d_neSN {i : Str} (hi : SeqAt.shaped (.str i) = true) : dNe (.str i) (.str i) = .ok (.bl false) := d_neR (x := .str i) hi
/-! #### slices with both ends -/
theorem cut_lh {l : List D} {i j : Int} (h0 : 0 ≤ i) (h1 : i ≤ j) (h2 : j ≤ (l.length : Nat)) : cutD l (some i) (some j) = (l.drop i.toNat).take (j.toNat - i.toNat) := by
  unfold cutD HT.sIx
  simp only [show ¬ i < 0 by omega, show ¬ j < 0 by omega, if_F]
  rw [Nat.min_eq_left (by omega), Nat.min_eq_left (by omega)]
theorem zip_cons {a b : D} {as bs : List D} : zipD (a :: as) (b :: bs) = .tup [a, b] :: zipD as bs := id rfl
theorem zip_nil {bs : List D} : zipD [] bs = [] := by cases bs <;> rfl
theorem zip_nil2 {as : List D} : zipD as [] = [] := by cases as <;> rfl
theorem rep_len {k : Nat} {d : D} : (List.replicate k [d]).flatten = List.replicate k d := by
  induction k with
  | zero => rfl
  | succ k ih => rw [List.replicate_succ, List.flatten_cons, ih, List.replicate_succ] <;> rfl
/-- [d] * n -/
theorem d_mulRep {d : D} {n : Nat} (h : n ≤ 1000) : dMul (.lst [d]) (.int (n : Nat)) = .ok (.lst (List.replicate n d)) := by
  show (if (n : Int) < 16777216 ∧ -16777216 < (n : Int) ∧ [d].length * ((n : Nat) : Int).toNat ≤ 16777216 then R.ok (D.lst (List.replicate ((n : Nat) : Int).toNat [d]).flatten) else .bad) = _
  rw [if_pos ⟨by omega, by omega, by show 1 * ((n : Nat) : Int).toNat ≤ 16777216; omega⟩, show ((n : Nat) : Int).toNat = n by omega, rep_len]
theorem rep_di {n : Nat} {x : Int} : List.replicate n (D.int x) = di (List.replicate n x) := by
  unfold di
  rw [List.map_replicate]
theorem seq_two {x y z : SM} {e e2 : SEnv} (h : sSeq x y e = .nx e2) : sSeq x (sSeq y z) e = z e2 := by
  have h : (x e).then y = .nx e2 := h
  show (x e).then (sSeq y z) = _
  cases hx : x e with
  | nx e1 =>
    rw [hx] at h
    have h : y e1 = .nx e2 := h
    show (y e1).then z = _
    rw [h]
    rfl
  | _ => rw [hx] at h; cases h
section
variable {β τ α : Type} {T : Tg} {body : SM} {c : β → D}
/-- each turn finds a next state, by its place -/
theorem loop_ix {E : α → τ → SEnv} {P : Nat → α → Prop} : ∀ (as : List β) (k : Nat) (a0 : α) (t0 : τ), P k a0 → (∀ i b a t, as[i]? = some b → P (k + i) a → ∃ a' t', P (k + i + 1) a' ∧ (turn T body (c b) (E a t) = .nx (E a' t') ∨ turn T body (c b) (E a t) = .ct (E a' t'))) → ∃ a t, loopL T body (as.map c) (E a0 t0) = .nx (E a t) ∧ P (k + as.length) a
  | [], k, a0, t0, h, _ => ⟨a0, t0, rfl, h⟩
  | b :: as, k, a0, t0, h, hs => by
    obtain ⟨a1, t1, h1, z⟩ := hs 0 b a0 t0 rfl h
    obtain ⟨a, t, e, p⟩ := loop_ix (E := E) (P := P) as (k + 1) a1 t1 h1 fun i y a t hy hp => by
      have q := hs (i + 1) y a t (by simpa using hy) (by rw [show k + (i + 1) = k + 1 + i by omega]; exact hp)
      rw [show k + (i + 1) + 1 = k + 1 + i + 1 by omega] at q
      exact q
    refine ⟨a, t, ?_, by rw [List.length_cons, show k + (as.length + 1) = k + 1 + as.length by omega]; exact p⟩
    rw [List.map_cons, loopL_cons, ← e]
    rcases z with z | z <;> rw [z]
/-- all items pass but one, which raises -/
theorem loop_er {E : τ → SEnv} {x : D} {xs : List D} {cn : Str} {ns : List Str} {ds : List D} : ∀ (as : List β) (t0 : τ), (∀ b ∈ as, ∀ t, ∃ t', turn T body (c b) (E t) = .nx (E t') ∨ turn T body (c b) (E t) = .ct (E t')) → (∀ t, ∃ e, turn T body x (E t) = .er cn ns ds e) → ∃ e, loopL T body (as.map c ++ x :: xs) (E t0) = .er cn ns ds e
  | [], t0, _, h => by
    obtain ⟨e, z⟩ := h t0
    refine ⟨e, ?_⟩
    rw [List.map_nil, List.nil_append, loopL_cons, z]
  | b :: as, t0, hs, h => by
    obtain ⟨t', z⟩ := hs b List.mem_cons_self t0
    obtain ⟨e, ih⟩ := loop_er (E := E) (x := x) (xs := xs) as t' (fun b hb => hs b (List.mem_cons_of_mem _ hb)) h
    refine ⟨e, ?_⟩
    rw [List.map_cons, List.cons_append, loopL_cons, ← ih]
    rcases z with z | z <;> rw [z]
end
/-- a slot that is left behind -/
def optS : Option D → Sl
  | none => .no
  | some d => .fz d
theorem opt_some {d : D} : optS (some d) = .fz d := id rfl
theorem opt_none : optS none = .no := id rfl
theorem isOb_fz {d : D} : isOb (.fz d) = false := id rfl
theorem isOb_ow {d : List D} : isOb (.ow d) = false := id rfl
theorem isOb_no : isOb .no = false := id rfl
theorem isOb_opt {o : Option D} : isOb (optS o) = false := by cases o <;> rfl
theorem hid_opt {o : Option D} : hide1 (optS o) = o := by cases o <;> rfl
theorem ld_opt {o : Option D} : lend1 (optS o) = o := by cases o <;> rfl
theorem okF_obj {s : SEnv} {c : Str} {ns : List Str} {ds : List D} (h : s.any isOb = false) (h2 : noLs ds = true) : okFor s (.obj c ns ds) = true := by
  unfold okFor
  rw [h, show noL (.obj c ns ds) = noLs ds from rfl, h2]
  simp
/-- a list or a tuple of these -/
structure Sq (x : D) (ds : List D) : Prop where
  it : dItems x = .ok ds
  ln : dLen x = .ok (.int (ds.length : Nat))
  en : dEnum [x] = .ok (enD ds)
theorem sq_l (ds : List D) : Sq (.lst ds) ds := ⟨rfl, rfl, rfl⟩
theorem sq_t (ds : List D) : Sq (.tup ds) ds := ⟨rfl, rfl, rfl⟩
theorem en_map {β : Type} (c : β → D) (as : List β) : enD (as.map c) = as.zipIdx.map fun p => .tup [.int (p.2 : Nat), c p.1] := by
  unfold enD
  rw [List.zipIdx_map, List.map_map]
  rfl
theorem turn_tp13 {i j k l : Nat} {body : SM} {a b c d : D} {s : SEnv} : turn (.tp [.nm i, .tp [.nm j, .nm k, .nm l]]) body (.tup [a, .tup [b, c, d]]) s = body ((((s.set i (.fz a)).set j (.fz b)).set k (.fz c)).set l (.fz d)) := id rfl
theorem turn_tp12 {i j k : Nat} {body : SM} {a b c : D} {s : SEnv} : turn (.tp [.nm i, .tp [.nm j, .nm k]]) body (.tup [a, .tup [b, c]]) s = body (((s.set i (.fz a)).set j (.fz b)).set k (.fz c)) := id rfl
section
theorem ev_sExt2 {i : Nat} {m : SEM} {s : SEnv} : sExt2 i m s = match s[i]? with
  | some (.ow ds) => (m s).on s fun d => (match seqOf2 d with
    | some es => if ds.length + es.length ≤ 16777216 then .nx (s.set i (.ow (ds ++ es))) else .bad
    | none => .bad)
  | _ => .bad := id rfl
theorem sq2_l {ds : List D} : seqOf2 (.lst ds) = some ds := id rfl
theorem sq2_t {ds : List D} : seqOf2 (.tup ds) = some ds := id rfl
end
section
variable {s : SEnv}
theorem hid_pw {ds : List D} : hide1 (.pw ds) = none := id rfl
theorem ld_pw {ds : List D} : lend1 (.pw ds) = some (.lst ds) := id rfl
theorem isOb_pw {ds : List D} : isOb (.pw ds) = false := id rfl
theorem ev_sIxP {i : Nat} {k a : SEM} : sIxP i k a s = (a s).on s fun d => match s[i]? with
  | some (.pw ds) => (k s).on s fun n => (match n with
    | .int n => (match ixN ds.length n with
      | some j => .nx (s.set i (.pw (ds.set j d)))
      | none => .bad)
    | _ => .bad)
  | _ => .bad := id rfl
end
end DL

end
section
set_option Elab.async false
set_option linter.all false
set_option maxRecDepth 100000
set_option maxHeartbeats 1000000
namespace T
open PySem PySem.Spec L2 DL
open PyProof.Rows hiding St
/-! ### the plain law -/
def rng (n : Nat) : List Int := (List.range n).map fun k : Nat => (k : Int)
theorem rngD_nat (n : Nat) : rngD 0 (n : Int) = di (rng n) := by
  unfold rngD di rng
  rw [List.map_map, show ((n : Int) - 0).toNat = n by omega]
  refine List.map_congr_left fun k _ => ?_
  show D.int (0 + (k : Int)) = D.int (k : Int)
  rw [Int.zero_add]
theorem d_rng (n : Nat) (h : n < 1000000) : dRange1 [.int (n : Int)] = .ok (di (rng n)) := by
  unfold dRange1
  simp only [int1]
  rw [if_pos, rngD_nat]
  constructor
  · have : (0 : Int) ≤ n := by omega
    exact Int.le_trans (by decide) this
  · have : (n : Int) < 1000000 := by omega
    exact Int.lt_trans this (by decide)
theorem mem_rng {n : Nat} {x : Int} : x ∈ rng n ↔ 0 ≤ x ∧ x < n := by
  unfold rng
  rw [List.mem_map]
  constructor
  · rintro ⟨k, hk, rfl⟩
    have := List.mem_range.mp hk
    omega
  · rintro ⟨h1, h2⟩
    exact ⟨x.toNat, List.mem_range.mpr (by omega), by omega⟩
@[simp] theorem len_rng (n : Nat) : (rng n).length = n := by
  unfold rng
  rw [List.length_map, List.length_range]
theorem rng_get {n i : Nat} (h : i < n) : (rng n)[i]? = some (i : Int) := by
  unfold rng
  rw [List.getElem?_map, List.getElem?_range h]
  rfl
/-! checks -/
theorem e_check_size {n : Int} (h1 : 1 ≤ n) (h2 : n ≤ 8) : g_check_size [.int n] = .ok .non := by
  have a : ¬ n < 1 := by omega
  have b : ¬ 8 < n := by omega
  rw [g_check_size, run_F (s := [.fz (.int n)]) rfl, m_check_size]
  simp only [ev_V0, dec_T, dec_F, ev_VS, set_0, set_S, get_0, get_S, hd_nil, hd_cons, hid_fz, hid_no, hid_ow, hid_ob, if_t, if_f, if_T, if_F, not_t, not_f, ev_C, ev_1, ev_2, ev_A, ev_nil, ev_cons, ev_T, ev_B, ev_And, ev_Or, ev_Not, ev_Yes, ev_If, ev_AndV, ev_OrV, ev_H, ev_Seq, then_nx, then_rt, then_er, ev_Nx, ev_Ret, ev_Set, ev_Ex, ev_SIf, ev_Rz1, ev_Rz0, bd_ok, bd_er, on_ok, on_er, d_tru_bl, d_add, d_sub, d_lt, d_le, d_gt, d_ge, d_neg, d_eqI, d_neI, d_lenT, d_lenL, d_one, d_int, d_tupL, d_tupT, d_itT, d_itL, d_inT, d_notInT, d_max2, d_min2, en_nx, en_rt, en_er, wipe_nil', wipe_cons', mb_ok, decide_eq_false a, decide_eq_false b]
/-- the lot that a number stands for -/
def lotF (n : Int) : List Int := (rng 8).filter fun w => decide (n / ([1, 2, 4, 8, 16, 32, 64, 128] : List Int).getD w.toNat 0 % 2 = 1)
/-- a lot of n worlds -/
structure IsLot (n : Nat) (l : List Int) : Prop where
  so : l.Pairwise (· < ·)
  rg : ∀ x ∈ l, 0 ≤ x ∧ x < (n : Int)
theorem rng_sorted (n : Nat) : (rng n).Pairwise (· < ·) := by
  unfold rng
  rw [List.pairwise_map]
  exact List.pairwise_lt_range.imp fun h => by omega
def pw8 : List Nat := [0, 2, 4, 8, 16, 32, 64, 128, 256]
theorem lots_small : ∀ s ∈ ([1, 2, 3, 4, 5, 6, 7, 8] : List Nat), ∀ m ∈ List.range (pw8.getD s 0), ((lotF (m : Int)).all fun x => decide (x < s)) = true ∧ ((lotF (m : Int)).isEmpty = decide (m = 0)) ∧ (decide ((lotF (m : Int)).length = s) = decide (m + 1 = pw8.getD s 0)) := by
  decide +kernel
theorem lot_of {s m : Nat} (h1 : 1 ≤ s) (h8 : s ≤ 8) (hm : m < pw8.getD s 0) : IsLot s (lotF m) ∧ (lotF m = [] ↔ m = 0) ∧ ((lotF m).length = s ↔ m + 1 = pw8.getD s 0) := by
  have hs : s ∈ ([1, 2, 3, 4, 5, 6, 7, 8] : List Nat) := by
    simp only [List.mem_cons, List.not_mem_nil, or_false]
    omega
  obtain ⟨a, b, c⟩ := lots_small s hs m (List.mem_range.mpr hm)
  refine ⟨⟨(rng_sorted 8).sublist List.filter_sublist, fun x hx => ⟨?_, ?_⟩⟩, ?_, ?_⟩
  · exact (mem_rng.mp (List.mem_filter.mp hx).1).1
  · exact of_decide_eq_true (List.all_eq_true.mp a x hx)
  · rw [← List.isEmpty_iff, b, decide_eq_true_iff]
  · have := congrArg (· = true) c
    simpa using this
/-- the worlds that are not in the lot -/
def restF (n : Nat) (l : List Int) : List Int := (rng n).filter fun w => !decide (w ∈ l)
theorem small {n : Nat} (h : n ≤ 8) : n ≤ 16777216 := Nat.le_trans h (by decide)
theorem it_rng0 {n : Nat} {e : EnvD} (h : n ≤ 8) (he : e[0]? = some (some (.int n))) : (fun e => (mCons (mV 0) mNil e).bd dRange1) e = .ok (di (rng n)) := by
  simp [ev_V he, d_rng n (show n < 1000000 by omega)]
theorem e_without {n l : List Int} (h : n.length ≤ 8) : g_without [.tup (di n), .tup (di l)] = .ok (.tup (di (n.filter fun w => !decide (w ∈ l)))) := by
  have key : c_without_1 [some (.tup (di n)), some (.tup (di l)), none] = .ok (.lst ((n.filter fun w => !decide (w ∈ l)).map D.int)) :=
    ev_lc (is := n) (fun w => !decide (w ∈ l)) D.int (by simp only [ev_V0, dec_T, dec_F, ev_VS, set_0, set_S, get_0, get_S, hd_nil, hd_cons, hid_fz, hid_no, hid_ow, hid_ob, if_t, if_f, if_T, if_F, not_t, not_f, ev_C, ev_1, ev_2, ev_A, ev_nil, ev_cons, ev_T, ev_B, ev_And, ev_Or, ev_Not, ev_Yes, ev_If, ev_AndV, ev_OrV, ev_H, ev_Seq, then_nx, then_rt, then_er, ev_Nx, ev_Ret, ev_Set, ev_Ex, ev_SIf, ev_Rz1, ev_Rz0, bd_ok, bd_er, on_ok, on_er, d_tru_bl, d_add, d_sub, d_lt, d_le, d_gt, d_ge, d_neg, d_eqI, d_neI, d_lenT, d_lenL, d_one, d_int, d_tupL, d_tupT, d_itT, d_itL, d_inT, d_notInT, d_max2, d_min2, en_nx, en_rt, en_er, wipe_nil', wipe_cons', mb_ok]) (small h) fun x hx => ⟨by simp only [ev_V0, dec_T, dec_F, ev_VS, set_0, set_S, get_0, get_S, hd_nil, hd_cons, hid_fz, hid_no, hid_ow, hid_ob, if_t, if_f, if_T, if_F, not_t, not_f, ev_C, ev_1, ev_2, ev_A, ev_nil, ev_cons, ev_T, ev_B, ev_And, ev_Or, ev_Not, ev_Yes, ev_If, ev_AndV, ev_OrV, ev_H, ev_Seq, then_nx, then_rt, then_er, ev_Nx, ev_Ret, ev_Set, ev_Ex, ev_SIf, ev_Rz1, ev_Rz0, bd_ok, bd_er, on_ok, on_er, d_tru_bl, d_add, d_sub, d_lt, d_le, d_gt, d_ge, d_neg, d_eqI, d_neI, d_lenT, d_lenL, d_one, d_int, d_tupL, d_tupT, d_itT, d_itL, d_inT, d_notInT, d_max2, d_min2, en_nx, en_rt, en_er, wipe_nil', wipe_cons', mb_ok], fun _ => by simp only [ev_V0, dec_T, dec_F, ev_VS, set_0, set_S, get_0, get_S, hd_nil, hd_cons, hid_fz, hid_no, hid_ow, hid_ob, if_t, if_f, if_T, if_F, not_t, not_f, ev_C, ev_1, ev_2, ev_A, ev_nil, ev_cons, ev_T, ev_B, ev_And, ev_Or, ev_Not, ev_Yes, ev_If, ev_AndV, ev_OrV, ev_H, ev_Seq, then_nx, then_rt, then_er, ev_Nx, ev_Ret, ev_Set, ev_Ex, ev_SIf, ev_Rz1, ev_Rz0, bd_ok, bd_er, on_ok, on_er, d_tru_bl, d_add, d_sub, d_lt, d_le, d_gt, d_ge, d_neg, d_eqI, d_neI, d_lenT, d_lenL, d_one, d_int, d_tupL, d_tupT, d_itT, d_itL, d_inT, d_notInT, d_max2, d_min2, en_nx, en_rt, en_er, wipe_nil', wipe_cons', mb_ok]⟩
  rw [g_without, run_F (s := [.fz (.tup (di n)), .fz (.tup (di l)), .no]) rfl, m_without]
  simp only [ev_V0, dec_T, dec_F, ev_VS, set_0, set_S, get_0, get_S, hd_nil, hd_cons, hid_fz, hid_no, hid_ow, hid_ob, if_t, if_f, if_T, if_F, not_t, not_f, ev_C, ev_1, ev_2, ev_A, ev_nil, ev_cons, ev_T, ev_B, ev_And, ev_Or, ev_Not, ev_Yes, ev_If, ev_AndV, ev_OrV, ev_H, ev_Seq, then_nx, then_rt, then_er, ev_Nx, ev_Ret, ev_Set, ev_Ex, ev_SIf, ev_Rz1, ev_Rz0, bd_ok, bd_er, on_ok, on_er, d_tru_bl, d_add, d_sub, d_lt, d_le, d_gt, d_ge, d_neg, d_eqI, d_neI, d_lenT, d_lenL, d_one, d_int, d_tupL, d_tupT, d_itT, d_itL, d_inT, d_notInT, d_max2, d_min2, en_nx, en_rt, en_er, wipe_nil', wipe_cons', mb_ok, key]
theorem d_tupRg {n : Nat} (h : n ≤ 8) : dTupRg [.int n] = .ok (.tup (di (rng n))) := by
  rw [dTupRg, d_rng n (by omega), bd_ok, if_pos]
  rw [List.length_map, len_rng]
  exact small h
theorem e_all_worlds {n : Nat} (h1 : 1 ≤ n) (h8 : n ≤ 8) : g_all_worlds [.int n] = .ok (.tup (di (rng n))) := by
  have c := e_check_size (n := n) (by omega) (by omega)
  rw [g_all_worlds, run_F (s := [.fz (.int n)]) rfl, m_all_worlds]
  simp only [ev_V0, dec_T, dec_F, ev_VS, set_0, set_S, get_0, get_S, hd_nil, hd_cons, hid_fz, hid_no, hid_ow, hid_ob, if_t, if_f, if_T, if_F, not_t, not_f, ev_C, ev_1, ev_2, ev_A, ev_nil, ev_cons, ev_T, ev_B, ev_And, ev_Or, ev_Not, ev_Yes, ev_If, ev_AndV, ev_OrV, ev_H, ev_Seq, then_nx, then_rt, then_er, ev_Nx, ev_Ret, ev_Set, ev_Ex, ev_SIf, ev_Rz1, ev_Rz0, bd_ok, bd_er, on_ok, on_er, d_tru_bl, d_add, d_sub, d_lt, d_le, d_gt, d_ge, d_neg, d_eqI, d_neI, d_lenT, d_lenL, d_one, d_int, d_tupL, d_tupT, d_itT, d_itL, d_inT, d_notInT, d_max2, d_min2, en_nx, en_rt, en_er, wipe_nil', wipe_cons', mb_ok, c, d_tupRg h8]
theorem e_rest_of {n : Nat} {l : List Int} (h1 : 1 ≤ n) (h8 : n ≤ 8) : g_rest_of [.int n, .tup (di l)] = .ok (.tup (di (restF n l))) := by
  rw [g_rest_of, run_F (s := [.fz (.int n), .fz (.tup (di l))]) rfl, m_rest_of]
  simp only [ev_V0, dec_T, dec_F, ev_VS, set_0, set_S, get_0, get_S, hd_nil, hd_cons, hid_fz, hid_no, hid_ow, hid_ob, if_t, if_f, if_T, if_F, not_t, not_f, ev_C, ev_1, ev_2, ev_A, ev_nil, ev_cons, ev_T, ev_B, ev_And, ev_Or, ev_Not, ev_Yes, ev_If, ev_AndV, ev_OrV, ev_H, ev_Seq, then_nx, then_rt, then_er, ev_Nx, ev_Ret, ev_Set, ev_Ex, ev_SIf, ev_Rz1, ev_Rz0, bd_ok, bd_er, on_ok, on_er, d_tru_bl, d_add, d_sub, d_lt, d_le, d_gt, d_ge, d_neg, d_eqI, d_neI, d_lenT, d_lenL, d_one, d_int, d_tupL, d_tupT, d_itT, d_itL, d_inT, d_notInT, d_max2, d_min2, en_nx, en_rt, en_er, wipe_nil', wipe_cons', mb_ok, e_all_worlds h1 h8, e_without (n := rng n) (l := l) (by rw [len_rng]; exact h8)]
  rfl
/-- the levels of the lot's worlds -/
def sel (lv lot : List Int) : List Int := lot.map fun w => lv.getD w.toNat 0
theorem di_sel (lv lot : List Int) : di (sel lv lot) = lot.map fun w => .int (lv.getD w.toNat 0) := by
  unfold sel
  exact List.map_map ..
theorem get_sel {lv : List Int} {n : Nat} {lot : List Int} (L : IsLot n lot) (hn : lv.length = n) {x : Int} (hx : x ∈ lot) : ∃ k : Nat, x = (k : Int) ∧ k < n ∧ lv[k]? = some (lv.getD k 0) := by
  obtain ⟨h1, h2⟩ := L.rg x hx
  have : x.toNat < lv.length := by omega
  refine ⟨x.toNat, by omega, by omega, ?_⟩
  rw [List.getD_eq_getElem?_getD, List.getElem?_eq_getElem this]
  rfl
theorem ix_tup {lv : List Int} {k : Nat} {y : Int} (h : lv[k]? = some y) : dIx (.tup (di lv)) (.int (k : Nat)) = .ok (.int y) := d_ixT (by rw [List.getElem?_map, h]; rfl)
theorem ix_lst {lv : List Int} {k : Nat} {y : Int} (h : lv[k]? = some y) : dIx (.lst (di lv)) (.int (k : Nat)) = .ok (.int y) := d_ixL (by rw [List.getElem?_map, h]; rfl)
theorem filter_tt {α : Type} (l : List α) : l.filter (fun _ => true) = l := by simp
theorem sorted_len : ∀ (k n : Nat) (lot : List Int), lot.Pairwise (· < ·) → (∀ x ∈ lot, (k : Int) ≤ x ∧ x < (n : Int)) → lot.length + k ≤ n ∨ lot = []
  | _, _, [], _, _ => .inr rfl
  | k, n, x :: l, h, r => by
    obtain ⟨r1, r2⟩ := r x List.mem_cons_self
    rw [List.pairwise_cons] at h
    left
    rcases sorted_len (x.toNat + 1) n l h.2 fun y hy => ⟨by have := h.1 y hy; omega, (r y (List.mem_cons_of_mem _ hy)).2⟩ with z | z
    · rw [List.length_cons]
      omega
    · rw [z]
      simp
      omega
theorem lot_len {n : Nat} {lot : List Int} (L : IsLot n lot) (h : n ≤ 8) : lot.length ≤ 8 := by
  rcases sorted_len 0 n lot L.so L.rg with z | z
  · omega
  · rw [z]
    simp
theorem e_level {lv : List Int} {n : Nat} {lot : List Int} (L : IsLot n lot) (hn : lv.length = n) (h1 : 1 ≤ n) (h8 : n ≤ 8) (ne : lot ≠ [])
    (ck : g_check_full_lot [.int n, .tup (di lot)] = .ok .non) : g_Numbers_level [.obj "Numbers" ["size", "levels"] [.int n, .tup (di lv)], .tup (di lot)] = .ok (.int (lmin (sel lv lot))) := by
  have key : c_Numbers_level_1 [some (.obj "Numbers" ["size", "levels"] [.int n, .tup (di lv)]), some (.tup (di lot)), none] = .ok (.lst (di (sel lv lot))) := by
    have z := ev_lc (i := 2) (vs := [2]) (mi := fun e => ((mV 1) e).bd dItems) (mt := mYes) (me := m2 dIx (m1 (dFld ["Numbers"] "levels") (mV 0)) (mV 2)) (e := [some (.obj "Numbers" ["size", "levels"] [.int n, .tup (di lv)]), some (.tup (di lot)), none]) (is := lot) (fun _ => true) (fun w => .int (lv.getD w.toNat 0)) (by simp only [ev_V0, dec_T, dec_F, ev_VS, set_0, set_S, get_0, get_S, hd_nil, hd_cons, hid_fz, hid_no, hid_ow, hid_ob, if_t, if_f, if_T, if_F, not_t, not_f, ev_C, ev_1, ev_2, ev_A, ev_nil, ev_cons, ev_T, ev_B, ev_And, ev_Or, ev_Not, ev_Yes, ev_If, ev_AndV, ev_OrV, ev_H, ev_Seq, then_nx, then_rt, then_er, ev_Nx, ev_Ret, ev_Set, ev_Ex, ev_SIf, ev_Rz1, ev_Rz0, bd_ok, bd_er, on_ok, on_er, d_tru_bl, d_add, d_sub, d_lt, d_le, d_gt, d_ge, d_neg, d_eqI, d_neI, d_lenT, d_lenL, d_one, d_int, d_tupL, d_tupT, d_itT, d_itL, d_inT, d_notInT, d_max2, d_min2, en_nx, en_rt, en_er, wipe_nil', wipe_cons', mb_ok]) (small (lot_len L h8)) fun x hx => ?_
    · rw [filter_tt] at z
      rw [c_Numbers_level_1, z, di_sel]
    · obtain ⟨k, rfl, _, g1⟩ := get_sel L hn hx
      refine ⟨by simp, fun _ => ?_⟩
      have f : dFld ["Numbers"] "levels" (.obj "Numbers" ["size", "levels"] [.int n, .tup (di lv)]) = .ok (.tup (di lv)) := rfl
      simp only [ev_V0, dec_T, dec_F, ev_VS, set_0, set_S, get_0, get_S, hd_nil, hd_cons, hid_fz, hid_no, hid_ow, hid_ob, if_t, if_f, if_T, if_F, not_t, not_f, ev_C, ev_1, ev_2, ev_A, ev_nil, ev_cons, ev_T, ev_B, ev_And, ev_Or, ev_Not, ev_Yes, ev_If, ev_AndV, ev_OrV, ev_H, ev_Seq, then_nx, then_rt, then_er, ev_Nx, ev_Ret, ev_Set, ev_Ex, ev_SIf, ev_Rz1, ev_Rz0, bd_ok, bd_er, on_ok, on_er, d_tru_bl, d_add, d_sub, d_lt, d_le, d_gt, d_ge, d_neg, d_eqI, d_neI, d_lenT, d_lenL, d_one, d_int, d_tupL, d_tupT, d_itT, d_itL, d_inT, d_notInT, d_max2, d_min2, en_nx, en_rt, en_er, wipe_nil', wipe_cons', mb_ok, f]
      exact ix_tup g1
  have ne2 : sel lv lot ≠ [] := by
    unfold sel
    simpa using ne
  have f : dFld ["Numbers"] "size" (.obj "Numbers" ["size", "levels"] [.int n, .tup (di lv)]) = .ok (.int n) := rfl
  rw [g_Numbers_level, run_F (s := [.fz (.obj "Numbers" ["size", "levels"] [.int n, .tup (di lv)]), .fz (.tup (di lot)), .no]) rfl, m_Numbers_level]
  simp only [ev_V0, dec_T, dec_F, ev_VS, set_0, set_S, get_0, get_S, hd_nil, hd_cons, hid_fz, hid_no, hid_ow, hid_ob, if_t, if_f, if_T, if_F, not_t, not_f, ev_C, ev_1, ev_2, ev_A, ev_nil, ev_cons, ev_T, ev_B, ev_And, ev_Or, ev_Not, ev_Yes, ev_If, ev_AndV, ev_OrV, ev_H, ev_Seq, then_nx, then_rt, then_er, ev_Nx, ev_Ret, ev_Set, ev_Ex, ev_SIf, ev_Rz1, ev_Rz0, bd_ok, bd_er, on_ok, on_er, d_tru_bl, d_add, d_sub, d_lt, d_le, d_gt, d_ge, d_neg, d_eqI, d_neI, d_lenT, d_lenL, d_one, d_int, d_tupL, d_tupT, d_itT, d_itL, d_inT, d_notInT, d_max2, d_min2, en_nx, en_rt, en_er, wipe_nil', wipe_cons', mb_ok, key, f, ck, d_minL ne2]
/-! #### lots that are checked -/
theorem e_is_lot {n : Nat} {l : List Int} (L : IsLot n l) : g_is_lot [.int n, .tup (di l)] = .ok (.bl true) := by
  have lp : ∃ s2, l_is_lot_2 [.fz (.int n), .fz (.tup (di l)), .fz (.int (-1)), .no] = .nx s2 ∧ ∃ a b, s2 = [.fz (.int n), .fz (.tup (di l)), a, b] := by
    rw [l_is_lot_2, ev_for (items := di l) (by simp only [ev_V0, dec_T, dec_F, ev_VS, set_0, set_S, get_0, get_S, hd_nil, hd_cons, hid_fz, hid_no, hid_ow, hid_ob, if_t, if_f, if_T, if_F, not_t, not_f, ev_C, ev_1, ev_2, ev_A, ev_nil, ev_cons, ev_T, ev_B, ev_And, ev_Or, ev_Not, ev_Yes, ev_If, ev_AndV, ev_OrV, ev_H, ev_Seq, then_nx, then_rt, then_er, ev_Nx, ev_Ret, ev_Set, ev_Ex, ev_SIf, ev_Rz1, ev_Rz0, bd_ok, bd_er, on_ok, on_er, d_tru_bl, d_add, d_sub, d_lt, d_le, d_gt, d_ge, d_neg, d_eqI, d_neI, d_lenT, d_lenL, d_one, d_int, d_tupL, d_tupT, d_itT, d_itL, d_inT, d_notInT, d_max2, d_min2, en_nx, en_rt, en_er, wipe_nil', wipe_cons', mb_ok])]
    have z := loop_inv (T := .nm 3) (body := b_is_lot_1) (P := fun i s => ∃ (last : Int) (b : Sl), s = [.fz (.int n), .fz (.tup (di l)), .fz (.int last), b] ∧ (∀ j x, i ≤ j → l[j]? = some x → last < x)) (di l) 0 [.fz (.int n), .fz (.tup (di l)), .fz (.int (-1)), .no]
      ⟨-1, .no, rfl, fun j x _ hx => by have := (L.rg x (List.mem_of_getElem? hx)).1; omega⟩ ?step
    · obtain ⟨s2, e2, last, b, rfl, _⟩ := z
      exact ⟨_, e2, _, _, rfl⟩
    case step =>
      intro i x s hx hp
      obtain ⟨last, b, rfl, hq⟩ := hp
      rw [List.getElem?_map] at hx
      cases hl : l[i]? with
      | none => rw [hl] at hx; cases hx
      | some y =>
        rw [hl] at hx
        cases hx
        have a1 : ¬ y ≤ last := by have := hq i y (by omega) hl; omega
        have a2 : ¬ (n : Int) ≤ y := by have := (L.rg y (List.mem_of_getElem? hl)).2; omega
        refine ⟨[(3, .int y)], [.fz (.int n), .fz (.tup (di l)), .fz (.int y), .fz (.int y)], rfl, .inl ?_, y, _, rfl, fun j x hj hx => ?_⟩
        · show b_is_lot_1 [.fz (.int n), .fz (.tup (di l)), .fz (.int last), .fz (.int y)] = _
          rw [b_is_lot_1]
          simp only [ev_V0, dec_T, dec_F, ev_VS, set_0, set_S, get_0, get_S, hd_nil, hd_cons, hid_fz, hid_no, hid_ow, hid_ob, if_t, if_f, if_T, if_F, not_t, not_f, ev_C, ev_1, ev_2, ev_A, ev_nil, ev_cons, ev_T, ev_B, ev_And, ev_Or, ev_Not, ev_Yes, ev_If, ev_AndV, ev_OrV, ev_H, ev_Seq, then_nx, then_rt, then_er, ev_Nx, ev_Ret, ev_Set, ev_Ex, ev_SIf, ev_Rz1, ev_Rz0, bd_ok, bd_er, on_ok, on_er, d_tru_bl, d_add, d_sub, d_lt, d_le, d_gt, d_ge, d_neg, d_eqI, d_neI, d_lenT, d_lenL, d_one, d_int, d_tupL, d_tupT, d_itT, d_itL, d_inT, d_notInT, d_max2, d_min2, en_nx, en_rt, en_er, wipe_nil', wipe_cons', mb_ok, decide_eq_false a1, decide_eq_false a2]
        · have hlt : i < j := by omega
          obtain ⟨b1, e1⟩ := List.getElem?_eq_some_iff.mp hl
          obtain ⟨b2, e3⟩ := List.getElem?_eq_some_iff.mp hx
          rw [← e1, ← e3]
          exact List.pairwise_iff_getElem.mp L.so i j b1 b2 hlt
  obtain ⟨s2, e2, a, b, rfl⟩ := lp
  rw [g_is_lot, run_F (s := [.fz (.int n), .fz (.tup (di l)), .no, .no]) rfl, m_is_lot]
  simp only [ev_V0, dec_T, dec_F, ev_VS, set_0, set_S, get_0, get_S, hd_nil, hd_cons, hid_fz, hid_no, hid_ow, hid_ob, if_t, if_f, if_T, if_F, not_t, not_f, ev_C, ev_1, ev_2, ev_A, ev_nil, ev_cons, ev_T, ev_B, ev_And, ev_Or, ev_Not, ev_Yes, ev_If, ev_AndV, ev_OrV, ev_H, ev_Seq, then_nx, then_rt, then_er, ev_Nx, ev_Ret, ev_Set, ev_Ex, ev_SIf, ev_Rz1, ev_Rz0, bd_ok, bd_er, on_ok, on_er, d_tru_bl, d_add, d_sub, d_lt, d_le, d_gt, d_ge, d_neg, d_eqI, d_neI, d_lenT, d_lenL, d_one, d_int, d_tupL, d_tupT, d_itT, d_itL, d_inT, d_notInT, d_max2, d_min2, en_nx, en_rt, en_er, wipe_nil', wipe_cons', mb_ok, e2]
theorem e_check_lot {n : Nat} {l : List Int} (h1 : 1 ≤ n) (h8 : n ≤ 8) (L : IsLot n l) : g_check_lot [.int n, .tup (di l)] = .ok .non := by
  rw [g_check_lot, run_F (s := [.fz (.int n), .fz (.tup (di l))]) rfl, m_check_lot]
  simp only [ev_V0, dec_T, dec_F, ev_VS, set_0, set_S, get_0, get_S, hd_nil, hd_cons, hid_fz, hid_no, hid_ow, hid_ob, if_t, if_f, if_T, if_F, not_t, not_f, ev_C, ev_1, ev_2, ev_A, ev_nil, ev_cons, ev_T, ev_B, ev_And, ev_Or, ev_Not, ev_Yes, ev_If, ev_AndV, ev_OrV, ev_H, ev_Seq, then_nx, then_rt, then_er, ev_Nx, ev_Ret, ev_Set, ev_Ex, ev_SIf, ev_Rz1, ev_Rz0, bd_ok, bd_er, on_ok, on_er, d_tru_bl, d_add, d_sub, d_lt, d_le, d_gt, d_ge, d_neg, d_eqI, d_neI, d_lenT, d_lenL, d_one, d_int, d_tupL, d_tupT, d_itT, d_itL, d_inT, d_notInT, d_max2, d_min2, en_nx, en_rt, en_er, wipe_nil', wipe_cons', mb_ok, e_check_size (n := n) (by omega) (by omega), e_is_lot L]
theorem e_check_full {n : Nat} {l : List Int} (h1 : 1 ≤ n) (h8 : n ≤ 8) (L : IsLot n l) (ne : l ≠ []) : g_check_full_lot [.int n, .tup (di l)] = .ok .non := by
  have z : ¬ ((di l).length : Int) = 0 := by
    rw [List.length_map]
    have := List.length_pos_iff.mpr ne
    omega
  rw [g_check_full_lot, run_F (s := [.fz (.int n), .fz (.tup (di l))]) rfl, m_check_full_lot]
  simp only [ev_V0, dec_T, dec_F, ev_VS, set_0, set_S, get_0, get_S, hd_nil, hd_cons, hid_fz, hid_no, hid_ow, hid_ob, if_t, if_f, if_T, if_F, not_t, not_f, ev_C, ev_1, ev_2, ev_A, ev_nil, ev_cons, ev_T, ev_B, ev_And, ev_Or, ev_Not, ev_Yes, ev_If, ev_AndV, ev_OrV, ev_H, ev_Seq, then_nx, then_rt, then_er, ev_Nx, ev_Ret, ev_Set, ev_Ex, ev_SIf, ev_Rz1, ev_Rz0, bd_ok, bd_er, on_ok, on_er, d_tru_bl, d_add, d_sub, d_lt, d_le, d_gt, d_ge, d_neg, d_eqI, d_neI, d_lenT, d_lenL, d_one, d_int, d_tupL, d_tupT, d_itT, d_itL, d_inT, d_notInT, d_max2, d_min2, en_nx, en_rt, en_er, wipe_nil', wipe_cons', mb_ok, e_check_lot h1 h8 L, decide_eq_false z]
/-- the exceptions -/
theorem x_empty {n : Nat} (h1 : 1 ≤ n) (h8 : n ≤ 8) : g_check_full_lot [.int n, .tup []] = .er "EmptyLot" [] [] := by
  have L : IsLot n [] := ⟨.nil, fun x h => by cases h⟩
  have c := e_check_lot h1 h8 L
  have z : (([] : List D).length : Int) = 0 := rfl
  rw [g_check_full_lot, run_F (s := [.fz (.int n), .fz (.tup [])]) rfl, m_check_full_lot]
  have c : g_check_lot [.int n, .tup []] = .ok .non := c
  simp only [ev_V0, dec_T, dec_F, ev_VS, set_0, set_S, get_0, get_S, hd_nil, hd_cons, hid_fz, hid_no, hid_ow, hid_ob, if_t, if_f, if_T, if_F, not_t, not_f, ev_C, ev_1, ev_2, ev_A, ev_nil, ev_cons, ev_T, ev_B, ev_And, ev_Or, ev_Not, ev_Yes, ev_If, ev_AndV, ev_OrV, ev_H, ev_Seq, then_nx, then_rt, then_er, ev_Nx, ev_Ret, ev_Set, ev_Ex, ev_SIf, ev_Rz1, ev_Rz0, bd_ok, bd_er, on_ok, on_er, d_tru_bl, d_add, d_sub, d_lt, d_le, d_gt, d_ge, d_neg, d_eqI, d_neI, d_lenT, d_lenL, d_one, d_int, d_tupL, d_tupT, d_itT, d_itL, d_inT, d_notInT, d_max2, d_min2, en_nx, en_rt, en_er, wipe_nil', wipe_cons', mb_ok, c, decide_eq_true z]
/-- the numbers of these levels -/
abbrev num (lv : List Int) : D := .obj "Numbers" ["size", "levels"] [.int (lv.length : Nat), .tup (di lv)]
theorem fld_size (lv : List Int) : dFld ["Numbers"] "size" (num lv) = .ok (.int (lv.length : Nat)) := rfl
theorem fld_levels (lv : List Int) : dFld ["Numbers"] "levels" (num lv) = .ok (.tup (di lv)) := rfl
theorem ev_Fld {cs : List Str} {f c : Str} {m : SEM} {ns : List Str} {ds : List D} {r : SEnv} : sFldS cs 0 f m (.ob c ns ds :: r) = (m (.ob c ns ds :: r)).on (.ob c ns ds :: r) fun d => if c ∈ cs ∧ ¬ f ∈ ns ∧ ns.length < 900 ∧ ns.length = ds.length then .nx (.ob c (ns ++ [f]) (ds ++ [d]) :: r) else .bad := id rfl
theorem e_init {lv : List Int} (h1 : 1 ≤ lv.length) (h8 : lv.length ≤ 8) (h0 : lmin lv = 0) : dMk "Numbers" g_Numbers___init__ [.lst (di lv)] = .ok (num lv) := by
  have ne : lv ≠ [] := fun z => by rw [z] at h1; simp at h1
  have c : g_check_size [.int ((di lv).length : Nat)] = .ok .non := by rw [List.length_map]; exact e_check_size (by omega) (by omega)
  have g : g_Numbers___init__ [.lst (di lv)] = .ok (["size", "levels"], [.int ((di lv).length : Nat), .tup (di lv)]) := by
    rw [g_Numbers___init__, runI, show env0 (2 - 1) [.lst (di lv)] = [.fz (.lst (di lv))] from rfl, m_Numbers___init__]
    simp only [ev_V0, dec_T, dec_F, ev_VS, set_0, set_S, get_0, get_S, hd_nil, hd_cons, hid_fz, hid_no, hid_ow, hid_ob, if_t, if_f, if_T, if_F, not_t, not_f, ev_C, ev_1, ev_2, ev_A, ev_nil, ev_cons, ev_T, ev_B, ev_And, ev_Or, ev_Not, ev_Yes, ev_If, ev_AndV, ev_OrV, ev_H, ev_Seq, then_nx, then_rt, then_er, ev_Nx, ev_Ret, ev_Set, ev_Ex, ev_SIf, ev_Rz1, ev_Rz0, bd_ok, bd_er, on_ok, on_er, d_tru_bl, d_add, d_sub, d_lt, d_le, d_gt, d_ge, d_neg, d_eqI, d_neI, d_lenT, d_lenL, d_one, d_int, d_tupL, d_tupT, d_itT, d_itL, d_inT, d_notInT, d_max2, d_min2, en_nx, en_rt, en_er, wipe_nil', wipe_cons', mb_ok, c, d_minL ne, h0]
    rw [ev_Fld]
    simp only [ev_V0, dec_T, dec_F, ev_VS, set_0, set_S, get_0, get_S, hd_nil, hd_cons, hid_fz, hid_no, hid_ow, hid_ob, if_t, if_f, if_T, if_F, not_t, not_f, ev_C, ev_1, ev_2, ev_A, ev_nil, ev_cons, ev_T, ev_B, ev_And, ev_Or, ev_Not, ev_Yes, ev_If, ev_AndV, ev_OrV, ev_H, ev_Seq, then_nx, then_rt, then_er, ev_Nx, ev_Ret, ev_Set, ev_Ex, ev_SIf, ev_Rz1, ev_Rz0, bd_ok, bd_er, on_ok, on_er, d_tru_bl, d_add, d_sub, d_lt, d_le, d_gt, d_ge, d_neg, d_eqI, d_neI, d_lenT, d_lenL, d_one, d_int, d_tupL, d_tupT, d_itT, d_itL, d_inT, d_notInT, d_max2, d_min2, en_nx, en_rt, en_er, wipe_nil', wipe_cons', mb_ok]
    rw [if_pos (by decide), then_nx, ev_Fld]
    simp only [ev_V0, dec_T, dec_F, ev_VS, set_0, set_S, get_0, get_S, hd_nil, hd_cons, hid_fz, hid_no, hid_ow, hid_ob, if_t, if_f, if_T, if_F, not_t, not_f, ev_C, ev_1, ev_2, ev_A, ev_nil, ev_cons, ev_T, ev_B, ev_And, ev_Or, ev_Not, ev_Yes, ev_If, ev_AndV, ev_OrV, ev_H, ev_Seq, then_nx, then_rt, then_er, ev_Nx, ev_Ret, ev_Set, ev_Ex, ev_SIf, ev_Rz1, ev_Rz0, bd_ok, bd_er, on_ok, on_er, d_tru_bl, d_add, d_sub, d_lt, d_le, d_gt, d_ge, d_neg, d_eqI, d_neI, d_lenT, d_lenL, d_one, d_int, d_tupL, d_tupT, d_itT, d_itL, d_inT, d_notInT, d_max2, d_min2, en_nx, en_rt, en_er, wipe_nil', wipe_cons', mb_ok]
    rw [if_pos ⟨by decide, by decide, by decide, rfl⟩]
    rfl
  rw [dMk, g, bd_ok, List.length_map]
/-- values made by walking the levels -/
def walkF (lv : List Int) (f : Nat → Int → Int) : List Int := lv.zipIdx.map fun p => f p.2 p.1
theorem walk_len (lv : List Int) (f : Nat → Int → Int) : (walkF lv f).length = lv.length := by
  unfold walkF
  rw [List.length_map, List.length_zipIdx]
theorem walk_get {lv : List Int} {f : Nat → Int → Int} {k : Nat} {x : Int} (h : lv[k]? = some x) : (walkF lv f)[k]? = some (f k x) := by
  unfold walkF
  rw [List.getElem?_map, List.getElem?_zipIdx, h]
  simp
theorem walk_take {lv : List Int} {f : Nat → Int → Int} {k : Nat} {x : Int} (h : lv[k]? = some x) : (walkF lv f).take (k + 1) = (walkF lv f).take k ++ [f k x] := by
  rw [List.take_add_one, walk_get h]
  rfl
theorem en_get {lv : List Int} {i : Nat} {d : D} (h : (enD (di lv))[i]? = some d) : ∃ x, lv[i]? = some x ∧ d = .tup [.int (i : Nat), .int x] := by
  unfold enD at h
  rw [List.getElem?_map, List.getElem?_zipIdx, List.getElem?_map] at h
  cases hl : lv[i]? with
  | none => rw [hl] at h; cases h
  | some x =>
    rw [hl] at h
    refine ⟨x, rfl, ?_⟩
    have h := Option.some.inj h
    rw [← h]
    simp
theorem en_len (lv : List Int) : (enD (di lv)).length = lv.length := by
  unfold enD
  rw [List.length_map, List.length_zipIdx, List.length_map]
theorem ev_App {i : Nat} {m : SEM} {s : SEnv} {ds : List D} {d : D} (h : s[i]? = some (.ow ds)) (hm : m s = .ok d) (hl : ds.length < 16777216) : sApp i m s = .nx (s.set i (.ow (ds ++ [d]))) := by
  unfold sApp
  rw [h]
  simp only [hm, on_ok]
  rw [if_pos hl]
theorem small2 {n : Nat} (h : n ≤ 8) : n < 16777216 := Nat.lt_of_le_of_lt h (by decide)
theorem di_app (l : List Int) (x : Int) : di l ++ [.int x] = di (l ++ [x]) := by
  unfold di
  rw [List.map_append]
  rfl
/-- level - i within the lot, level - o outside -/
def shF (lot : List Int) (i o : Int) : Nat → Int → Int := fun w x => if ((w : Nat) : Int) ∈ lot then x - i else x - o
abbrev mx0 (j : Int) : Int := if j > 0 then j else 0
theorem ev_M {e : EnvD} {m : Str} {alts : Alts} {o : EM} {a : EMs} : mMeth m alts o a e = (o e).bd fun x => match dPick m alts x with
  | some g => (a e).bd fun xs => g (x :: xs)
  | none => .bad := id rfl
theorem pick_level (lv : List Int) : dPick "level" [("Numbers", g_Numbers_level)] (num lv) = some g_Numbers_level := rfl
theorem rest_lot {n : Nat} {lot : List Int} : IsLot n (restF n lot) := ⟨(rng_sorted n).sublist List.filter_sublist, fun x hx => mem_rng.mp (List.mem_filter.mp hx).1⟩
theorem mem_rest {n : Nat} {lot : List Int} {x : Int} : x ∈ restF n lot ↔ (0 ≤ x ∧ x < (n : Int)) ∧ x ∉ lot := by
  unfold restF
  rw [List.mem_filter, mem_rng]
  simp
theorem len_filter_ne {n : Nat} {lot : List Int} (L : IsLot n lot) (nw : lot.length ≠ n) : restF n lot ≠ [] := by
  intro z
  -- every world is in the lot
  have all : ∀ x, 0 ≤ x → x < (n : Int) → x ∈ lot := fun x h1 h2 => by
    by_cases c : x ∈ lot
    · exact c
    · have := mem_rest.mpr ⟨⟨h1, h2⟩, c⟩
      rw [z] at this
      cases this
  have sub : (rng n).length ≤ lot.length := by
    refine sub_len _ _ ((rng_sorted n).imp fun h => Int.ne_of_lt h) fun x hx => ?_
    obtain ⟨h1, h2⟩ := mem_rng.mp hx
    exact all x h1 h2
  rw [len_rng] at sub
  rcases sorted_len 0 n lot L.so L.rg with y | y
  · omega
  · rw [y] at sub nw
    simp at sub nw
    omega
/-- what shift leaves -/
def dueF (lv lot : List Int) (a : Int) : List Int := walkF lv (shF lot (lmin (sel lv lot) - mx0 (-a)) (lmin (sel lv (restF lv.length lot)) - mx0 a))
/-- so that the least is 0 -/
def lowF (v : List Int) : List Int := v.map fun x => x - lmin v
theorem low_len (v : List Int) : (lowF v).length = v.length := List.length_map ..
theorem low_min {v : List Int} (h : v ≠ []) : lmin (lowF v) = 0 := by
  refine lmin_eq ?_ fun y hy => ?_
  · exact List.mem_map.mpr ⟨lmin v, lmin_mem h, by omega⟩
  · obtain ⟨x, hx, rfl⟩ := List.mem_map.mp hy
    have := lmin_le hx
    omega
theorem ne_of_len {v : List Int} (h : 1 ≤ v.length) : v ≠ [] := fun z => by rw [z] at h; simp at h
theorem di_low (v : List Int) : di (lowF v) = v.map fun x => .int (x - lmin v) := by
  unfold lowF
  exact List.map_map ..
/-- weight outside -/
def puF (lot : List Int) (w : Int) : Nat → Int → Int := fun k x => if ((k : Nat) : Int) ∈ lot then x else x + w
/-! #### the law's own -/
theorem rng_d {n k : Nat} {d : D} (h : (di (rng n))[k]? = some d) : k < n ∧ d = .int (k : Nat) := by
  rw [List.getElem?_map] at h
  have hk : k < n := by
    cases hr : (rng n)[k]? with
    | none => rw [hr] at h; cases h
    | some y =>
      have := lt_of_get hr
      rw [len_rng] at this
      exact this
  rw [rng_get hk] at h
  exact ⟨hk, (Option.some.inj h).symm⟩
def sdF (lot : List Int) (a i o : Int) : Nat → Int → Int := fun k x => if ((k : Nat) : Int) ∈ lot then x - i + mx0 (0 - a) else x - o + mx0 a
theorem sd_sh (lot : List Int) (a i o : Int) : sdF lot a i o = shF lot (i - mx0 (-a)) (o - mx0 a) := by
  funext k x
  unfold sdF shF
  rw [Int.zero_sub]
  split <;> omega
/-! #### what the levels are then -/
theorem getD_some {l : List Int} {k : Nat} {x : Int} (h : l[k]? = some x) : l.getD k 0 = x := by
  rw [List.getD_eq_getElem?_getD, h]
  rfl
theorem sel_walk {lv lot : List Int} {F : Nat → Int → Int} {c : Int} (L : IsLot lv.length lot) (h : ∀ (k : Nat) (x : Int), (k : Int) ∈ lot → F k x = x - c) : sel (walkF lv F) lot = (sel lv lot).map fun x => x - c := by
  unfold sel
  rw [List.map_map]
  refine List.map_congr_left fun w hw => ?_
  obtain ⟨k, rfl, hk, g⟩ := get_sel L rfl hw
  show (walkF lv F).getD (k : Int).toNat 0 = lv.getD (k : Int).toNat 0 - c
  have e : (k : Int).toNat = k := by omega
  rw [e, getD_some (walk_get g), h k _ hw]
theorem lmin_sub {v : List Int} (ne : v ≠ []) (c : Int) : lmin (v.map fun x => x - c) = lmin v - c := by
  refine lmin_eq (List.mem_map.mpr ⟨lmin v, lmin_mem ne, rfl⟩) fun y hy => ?_
  obtain ⟨x, hx, rfl⟩ := List.mem_map.mp hy
  have := lmin_le hx
  omega
theorem sel_ne {lv lot : List Int} (ne : lot ≠ []) : sel lv lot ≠ [] := by
  unfold sel
  simpa using ne
theorem due_len (lv lot : List Int) (a : Int) : (dueF lv lot a).length = lv.length := walk_len ..
theorem due_in {lv lot : List Int} {a : Int} (L : IsLot lv.length lot) (ne : lot ≠ []) : lmin (sel (dueF lv lot a) lot) = mx0 (-a) := by
  unfold dueF
  rw [sel_walk L (c := lmin (sel lv lot) - mx0 (-a)) fun k x hk => by unfold shF; rw [if_pos hk], lmin_sub (sel_ne ne)]
  omega
theorem due_out {lv lot : List Int} {a : Int} (rne : restF lv.length lot ≠ []) : lmin (sel (dueF lv lot a) (restF lv.length lot)) = mx0 a := by
  unfold dueF
  rw [sel_walk rest_lot (c := lmin (sel lv (restF lv.length lot)) - mx0 a) fun k x hk => by unfold shF; rw [if_neg (mem_rest.mp hk).2], lmin_sub (sel_ne rne)]
  omega
theorem due_min {lv lot : List Int} {a : Int} (L : IsLot lv.length lot) (ne : lot ≠ []) (nw : lot.length ≠ lv.length) : lmin (dueF lv lot a) = 0 := by
  have rne := len_filter_ne L nw
  have h1 := due_in (a := a) L ne
  have h2 := due_out (lv := lv) (a := a) rne
  have inD : ∀ {l : List Int}, IsLot lv.length l → ∀ y, y ∈ sel (dueF lv lot a) l → y ∈ dueF lv lot a := fun {l} Ll y hy => by
    obtain ⟨w, hw, rfl⟩ := List.mem_map.mp hy
    obtain ⟨k, rfl, hk, g⟩ := get_sel (lv := dueF lv lot a) (n := lv.length) Ll (due_len ..) hw
    exact List.mem_of_getElem? g
  refine lmin_eq ?_ fun y hy => ?_
  · by_cases c : a > 0
    · have m := lmin_mem (sel_ne (lv := dueF lv lot a) ne)
      rw [h1, show mx0 (-a) = 0 by unfold mx0; rw [if_neg (by omega)]] at m
      exact inD L _ m
    · have m := lmin_mem (sel_ne (lv := dueF lv lot a) rne)
      rw [h2, show mx0 a = 0 by unfold mx0; rw [if_neg c]] at m
      exact inD rest_lot _ m
  · obtain ⟨k, hk⟩ := List.mem_iff_getElem?.mp hy
    have hl := lt_of_get hk
    rw [due_len] at hl
    have key : ∀ {l : List Int}, (k : Int) ∈ l → lmin (sel (dueF lv lot a) l) ≤ y := fun {l} hkl => by
      refine lmin_le (List.mem_map.mpr ⟨(k : Int), hkl, ?_⟩)
      show (dueF lv lot a).getD (k : Int).toNat 0 = y
      rw [show (k : Int).toNat = k by omega]
      exact getD_some hk
    by_cases c : (k : Int) ∈ lot
    · have := key c
      rw [h1] at this
      unfold mx0 at this
      split at this <;> omega
    · have := key (l := restF lv.length lot) (mem_rest.mpr ⟨⟨by omega, by omega⟩, c⟩)
      rw [h2] at this
      unfold mx0 at this
      split at this <;> omega
theorem due_firm {lv lot : List Int} {a : Int} (L : IsLot lv.length lot) (ne : lot ≠ []) (nw : lot.length ≠ lv.length) : lmin (sel (dueF lv lot a) (restF (dueF lv lot a).length lot)) - lmin (sel (dueF lv lot a) lot) = a := by
  rw [due_len, due_in L ne, due_out (len_filter_ne L nw)]
  unfold mx0
  split <;> split <;> omega
/-! #### the same -/
theorem is_n_int (i : Int) : dIs (.int i) .non = .ok (.bl false) := rfl
theorem is_b_int (i : Int) (b : Bool) : dIs (.int i) (.bl b) = .ok (.bl false) := rfl
theorem is_n_str (i : Str) : dIs (.str i) .non = .ok (.bl false) := rfl
theorem is_b_str (i : Str) (b : Bool) : dIs (.str i) (.bl b) = .ok (.bl false) := rfl
theorem is_n_tup (i : List D) : dIs (.tup i) .non = .ok (.bl false) := rfl
theorem is_b_tup (i : List D) (b : Bool) : dIs (.tup i) (.bl b) = .ok (.bl false) := rfl
theorem i_int (i : Int) : dIsi tbl_int (.int i) = .ok (.bl true) := rfl
theorem b_int (i : Int) : dIsi tbl_bool (.int i) = .ok (.bl false) := rfl
theorem i_str (i : Str) : dIsi tbl_int (.str i) = .ok (.bl false) := rfl
theorem s_str (i : Str) : dIsi tbl_str (.str i) = .ok (.bl true) := rfl
theorem i_tup (i : List D) : dIsi tbl_int (.tup i) = .ok (.bl false) := rfl
theorem s_tup (i : List D) : dIsi tbl_str (.tup i) = .ok (.bl false) := rfl
theorem t_tup (i : List D) : dIsi tbl_tuple (.tup i) = .ok (.bl true) := rfl
theorem l_tup (i : List D) : dIsi tbl_list (.tup i) = .ok (.bl false) := rfl
theorem d_notB (b : Bool) : dNot (.bl b) = .ok (.bl (!b)) := rfl
theorem same_int (n : Nat) (i j : Int) : g__law_same (n + 1) [.int i, .int j] = .ok (.bl (decide (i = j))) := by
  rw [g__law_same, run_F (s := [.fz (.int i), .fz (.int j), .no]) rfl, m__law_same]
  simp only [ev_V0, dec_T, dec_F, ev_VS, set_0, set_S, get_0, get_S, hd_nil, hd_cons, hid_fz, hid_no, hid_ow, hid_ob, if_t, if_f, if_T, if_F, not_t, not_f, ev_C, ev_1, ev_2, ev_A, ev_nil, ev_cons, ev_T, ev_B, ev_And, ev_Or, ev_Not, ev_Yes, ev_If, ev_AndV, ev_OrV, ev_H, ev_Seq, then_nx, then_rt, then_er, ev_Nx, ev_Ret, ev_Set, ev_Ex, ev_SIf, ev_Rz1, ev_Rz0, bd_ok, bd_er, on_ok, on_er, d_tru_bl, d_add, d_sub, d_lt, d_le, d_gt, d_ge, d_neg, d_eqI, d_neI, d_lenT, d_lenL, d_one, d_int, d_tupL, d_tupT, d_itT, d_itL, d_inT, d_notInT, d_max2, d_min2, en_nx, en_rt, en_er, wipe_nil', wipe_cons', mb_ok, is_n_int, is_b_int, i_int, b_int, d_notB, Bool.false_eq_true]
theorem same_str (n : Nat) (i : Str) (h : SeqAt.shaped (.str i) = true) : g__law_same (n + 1) [.str i, .str i] = .ok (.bl true) := by
  rw [g__law_same, run_F (s := [.fz (.str i), .fz (.str i), .no]) rfl, m__law_same]
  simp only [ev_V0, dec_T, dec_F, ev_VS, set_0, set_S, get_0, get_S, hd_nil, hd_cons, hid_fz, hid_no, hid_ow, hid_ob, if_t, if_f, if_T, if_F, not_t, not_f, ev_C, ev_1, ev_2, ev_A, ev_nil, ev_cons, ev_T, ev_B, ev_And, ev_Or, ev_Not, ev_Yes, ev_If, ev_AndV, ev_OrV, ev_H, ev_Seq, then_nx, then_rt, then_er, ev_Nx, ev_Ret, ev_Set, ev_Ex, ev_SIf, ev_Rz1, ev_Rz0, bd_ok, bd_er, on_ok, on_er, d_tru_bl, d_add, d_sub, d_lt, d_le, d_gt, d_ge, d_neg, d_eqI, d_neI, d_lenT, d_lenL, d_one, d_int, d_tupL, d_tupT, d_itT, d_itL, d_inT, d_notInT, d_max2, d_min2, en_nx, en_rt, en_er, wipe_nil', wipe_cons', mb_ok, is_n_str, is_b_str, i_str, s_str, d_eqS h h, Bool.false_eq_true, beq_self_eq_true]
theorem same_tup (n : Nat) (ds : List D) (hl : ds.length ≤ 8) (h : ∀ (i : Nat) (d : D), ds[i]? = some d → g__law_same n [d, d] = .ok (.bl true)) : g__law_same (n + 1) [.tup ds, .tup ds] = .ok (.bl true) := by
  have lp : ∃ x, l__law_same_2 (g__law_same n) [.fz (.tup ds), .fz (.tup ds), .no] = .nx [.fz (.tup ds), .fz (.tup ds), x] := by
    rw [l__law_same_2, ev_for (items := di (rng ds.length)) (by simp only [ev_V0, dec_T, dec_F, ev_VS, set_0, set_S, get_0, get_S, hd_nil, hd_cons, hid_fz, hid_no, hid_ow, hid_ob, if_t, if_f, if_T, if_F, not_t, not_f, ev_C, ev_1, ev_2, ev_A, ev_nil, ev_cons, ev_T, ev_B, ev_And, ev_Or, ev_Not, ev_Yes, ev_If, ev_AndV, ev_OrV, ev_H, ev_Seq, then_nx, then_rt, then_er, ev_Nx, ev_Ret, ev_Set, ev_Ex, ev_SIf, ev_Rz1, ev_Rz0, bd_ok, bd_er, on_ok, on_er, d_tru_bl, d_add, d_sub, d_lt, d_le, d_gt, d_ge, d_neg, d_eqI, d_neI, d_lenT, d_lenL, d_one, d_int, d_tupL, d_tupT, d_itT, d_itL, d_inT, d_notInT, d_max2, d_min2, en_nx, en_rt, en_er, wipe_nil', wipe_cons', mb_ok]; exact d_rng _ (by omega))]
    have z := loop_inv (T := .nm 2) (body := b__law_same_1 (g__law_same n)) (P := fun k s => ∃ x, s = [.fz (.tup ds), .fz (.tup ds), x]) (di (rng ds.length)) 0 [.fz (.tup ds), .fz (.tup ds), .no] ⟨.no, rfl⟩ ?step
    · obtain ⟨s2, e2, x, rfl⟩ := z
      exact ⟨x, e2⟩
    case step =>
      intro k d s hd hp
      obtain ⟨x0, rfl⟩ := hp
      obtain ⟨hk, rfl⟩ := rng_d hd
      obtain ⟨x, hx⟩ := get_lt hk
      refine ⟨[(2, .int (k : Nat))], _, rfl, .inl ?_, .fz (.int (k : Nat)), rfl⟩
      show b__law_same_1 (g__law_same n) [.fz (.tup ds), .fz (.tup ds), .fz (.int (k : Nat))] = _
      rw [b__law_same_1]
      simp only [ev_V0, dec_T, dec_F, ev_VS, set_0, set_S, get_0, get_S, hd_nil, hd_cons, hid_fz, hid_no, hid_ow, hid_ob, if_t, if_f, if_T, if_F, not_t, not_f, ev_C, ev_1, ev_2, ev_A, ev_nil, ev_cons, ev_T, ev_B, ev_And, ev_Or, ev_Not, ev_Yes, ev_If, ev_AndV, ev_OrV, ev_H, ev_Seq, then_nx, then_rt, then_er, ev_Nx, ev_Ret, ev_Set, ev_Ex, ev_SIf, ev_Rz1, ev_Rz0, bd_ok, bd_er, on_ok, on_er, d_tru_bl, d_add, d_sub, d_lt, d_le, d_gt, d_ge, d_neg, d_eqI, d_neI, d_lenT, d_lenL, d_one, d_int, d_tupL, d_tupT, d_itT, d_itL, d_inT, d_notInT, d_max2, d_min2, en_nx, en_rt, en_er, wipe_nil', wipe_cons', mb_ok, d_ixT hx, h k x hx]
  obtain ⟨x, lp⟩ := lp
  rw [g__law_same, run_F (s := [.fz (.tup ds), .fz (.tup ds), .no]) rfl, m__law_same]
  simp only [ev_V0, dec_T, dec_F, ev_VS, set_0, set_S, get_0, get_S, hd_nil, hd_cons, hid_fz, hid_no, hid_ow, hid_ob, if_t, if_f, if_T, if_F, not_t, not_f, ev_C, ev_1, ev_2, ev_A, ev_nil, ev_cons, ev_T, ev_B, ev_And, ev_Or, ev_Not, ev_Yes, ev_If, ev_AndV, ev_OrV, ev_H, ev_Seq, then_nx, then_rt, then_er, ev_Nx, ev_Ret, ev_Set, ev_Ex, ev_SIf, ev_Rz1, ev_Rz0, bd_ok, bd_er, on_ok, on_er, d_tru_bl, d_add, d_sub, d_lt, d_le, d_gt, d_ge, d_neg, d_eqI, d_neI, d_lenT, d_lenL, d_one, d_int, d_tupL, d_tupT, d_itT, d_itL, d_inT, d_notInT, d_max2, d_min2, en_nx, en_rt, en_er, wipe_nil', wipe_cons', mb_ok, is_n_tup, is_b_tup, i_tup, s_tup, t_tup, l_tup, Bool.false_eq_true, lp]
theorem same_ints (n : Nat) (l : List Int) (hl : l.length ≤ 8) : g__law_same (n + 2) [.tup (di l), .tup (di l)] = .ok (.bl true) := by
  refine same_tup (n + 1) (di l) (by rw [List.length_map]; exact hl) fun i d h => ?_
  rw [List.getElem?_map] at h
  cases hx : l[i]? with
  | none => rw [hx] at h; cases h
  | some x =>
    rw [hx] at h
    cases h
    show g__law_same (n + 1) [.int x, .int x] = _
    rw [same_int, decide_eq_true rfl]
/-- what is the same as itself, depth and widths told -/
def sgood : Nat → D → Bool
  | 0 => fun _ => false
  | n + 1 => fun d => match d with
    | .non => true
    | .bl _ => true
    | .int _ => true
    | .str s => SeqAt.shaped (.str s)
    | .tup ds => decide (ds.length ≤ 1000) && ds.all (sgood n)
    | .lst ds => decide (ds.length ≤ 1000) && ds.all (sgood n)
    | _ => false
theorem is_n_lst (i : List D) : dIs (.lst i) .non = .ok (.bl false) := rfl
theorem is_b_lst (i : List D) (b : Bool) : dIs (.lst i) (.bl b) = .ok (.bl false) := rfl
theorem i_lst (i : List D) : dIsi tbl_int (.lst i) = .ok (.bl false) := rfl
theorem s_lst (i : List D) : dIsi tbl_str (.lst i) = .ok (.bl false) := rfl
theorem t_lst (i : List D) : dIsi tbl_tuple (.lst i) = .ok (.bl false) := rfl
theorem l_lst (i : List D) : dIsi tbl_list (.lst i) = .ok (.bl true) := rfl
theorem same_loop {n : Nat} {ds : List D} {x : D} (hl : ds.length ≤ 1000) (lx : dLen x = .ok (.int (ds.length : Nat))) (ix : ∀ (i : Nat) (d : D), ds[i]? = some d → dIx x (.int (i : Nat)) = .ok d) (h : ∀ d ∈ ds, g__law_same n [d, d] = .ok (.bl true)) :
    ∃ t, l__law_same_2 (g__law_same n) [.fz x, .fz x, .no] = .nx [.fz x, .fz x, t] := by
  rw [l__law_same_2, ev_for (items := di (rng ds.length)) (by simp only [ev_V0, dec_T, dec_F, ev_VS, set_0, set_S, get_0, get_S, hd_nil, hd_cons, hid_fz, hid_no, hid_ow, hid_ob, if_t, if_f, if_T, if_F, not_t, not_f, ev_C, ev_1, ev_2, ev_A, ev_nil, ev_cons, ev_T, ev_B, ev_And, ev_Or, ev_Not, ev_Yes, ev_If, ev_AndV, ev_OrV, ev_H, ev_Seq, then_nx, then_rt, then_er, ev_Nx, ev_Ret, ev_Set, ev_Ex, ev_SIf, ev_Rz1, ev_Rz0, bd_ok, bd_er, on_ok, on_er, d_tru_bl, d_add, d_sub, d_lt, d_le, d_gt, d_ge, d_neg, d_eqI, d_neI, d_lenT, d_lenL, d_one, d_int, d_tupL, d_tupT, d_itT, d_itL, d_inT, d_notInT, d_max2, d_min2, en_nx, en_rt, en_er, wipe_nil', wipe_cons', mb_ok, ev_sOwn, ev_sApp, ev_sExt, ev_sRev, ev_sIxS, ev_sAug, ev_sTup, ev_sFrz, frz_ow, frz_fz, frz_ob, frz_no, ev_mHN, only_l, only_er, ev_sFor, ev_sRetN, ev_mL, ev_mLB, ld_nil, ld_cons, ld_fz, ld_no, ld_ow, ld_ob, okF_int, okF_bl, okF_str, okF_non, okF_tup, okFs_di, ev_meth, ev_mIsN, ev_mIsNotN, isN_non, isN_int, isN_tup, isN_lst, isN_obj, isN_bl, isN_str, d_not_bl, d_en_t, d_en_l, d_zip_t, d_zip_l, d_list_l, d_list_t, d_absI, turn_nm, turn_tp2, turn_tp3, turn_tp4, tE_nm, tE_tp2, tE_tp3, ix_t0, ix_t1, ix_t2, ix_t3, ix_l0, ix_l1, ix_l2, ix_l3, d_tu0, d_tu1, d_tu2, d_tu3, d_tu4, d_ls0, d_ls1, d_ls2, d_ls3, d_ls4, then_br, then_ct, List.length_cons, List.length_nil, Nat.reduceAdd, Nat.reduceLT, Bool.false_eq_true, Bool.true_eq_false, loopL_nil, ev_mSl, pt_none, pt_some, sl_t, sl_l, cut_m1, cut_hi, cut_lo, di_take, di_drop, di_dropLast, d_all1, List.length_map, Int.natCast_zero, Int.reduceLE, Int.reduceLT, Int.reduceEq, Int.reduceToNat, Int.reduceAdd, Int.reduceSub, Int.reduceMul, Int.reduceNeg, Nat.reduceSub, Nat.reduceMul, Nat.reduceLeDiff, Nat.reduceEqDiff, d_eqTI, d_neTI, d_eqLI, d_neLI, zip_cons, zip_nil, zip_nil2, rep_di, ev_sRetO, ev_sRetF, then_rtF, en_rtF, fF_rtF, fF_er, fF_nx, ev_mLN, opt_some, opt_none, isOb_fz, isOb_ow, isOb_no, isOb_opt, hid_opt, ld_opt, List.any_cons, List.any_nil, Bool.or_false, turn_tp13, turn_tp12, ev_sExt2, sq2_l, sq2_t, hid_pw, ld_pw, isOb_pw, ev_sIxP, lx]; exact d_rng _ (by omega))]
  refine loop_chk (c := D.int) (E := fun t : Sl => [.fz x, .fz x, t]) (fun b _ => .fz (.int b)) (rng ds.length) .no fun b hb t => .inl ?_
  obtain ⟨h1, h2⟩ := mem_rng.mp hb
  obtain ⟨k, rfl⟩ := Int.eq_ofNat_of_zero_le h1
  obtain ⟨d, hd⟩ := get_lt (show k < ds.length by omega)
  simp only [ev_V0, dec_T, dec_F, ev_VS, set_0, set_S, get_0, get_S, hd_nil, hd_cons, hid_fz, hid_no, hid_ow, hid_ob, if_t, if_f, if_T, if_F, not_t, not_f, ev_C, ev_1, ev_2, ev_A, ev_nil, ev_cons, ev_T, ev_B, ev_And, ev_Or, ev_Not, ev_Yes, ev_If, ev_AndV, ev_OrV, ev_H, ev_Seq, then_nx, then_rt, then_er, ev_Nx, ev_Ret, ev_Set, ev_Ex, ev_SIf, ev_Rz1, ev_Rz0, bd_ok, bd_er, on_ok, on_er, d_tru_bl, d_add, d_sub, d_lt, d_le, d_gt, d_ge, d_neg, d_eqI, d_neI, d_lenT, d_lenL, d_one, d_int, d_tupL, d_tupT, d_itT, d_itL, d_inT, d_notInT, d_max2, d_min2, en_nx, en_rt, en_er, wipe_nil', wipe_cons', mb_ok, ev_sOwn, ev_sApp, ev_sExt, ev_sRev, ev_sIxS, ev_sAug, ev_sTup, ev_sFrz, frz_ow, frz_fz, frz_ob, frz_no, ev_mHN, only_l, only_er, ev_sFor, ev_sRetN, ev_mL, ev_mLB, ld_nil, ld_cons, ld_fz, ld_no, ld_ow, ld_ob, okF_int, okF_bl, okF_str, okF_non, okF_tup, okFs_di, ev_meth, ev_mIsN, ev_mIsNotN, isN_non, isN_int, isN_tup, isN_lst, isN_obj, isN_bl, isN_str, d_not_bl, d_en_t, d_en_l, d_zip_t, d_zip_l, d_list_l, d_list_t, d_absI, turn_nm, turn_tp2, turn_tp3, turn_tp4, tE_nm, tE_tp2, tE_tp3, ix_t0, ix_t1, ix_t2, ix_t3, ix_l0, ix_l1, ix_l2, ix_l3, d_tu0, d_tu1, d_tu2, d_tu3, d_tu4, d_ls0, d_ls1, d_ls2, d_ls3, d_ls4, then_br, then_ct, List.length_cons, List.length_nil, Nat.reduceAdd, Nat.reduceLT, Bool.false_eq_true, Bool.true_eq_false, loopL_nil, ev_mSl, pt_none, pt_some, sl_t, sl_l, cut_m1, cut_hi, cut_lo, di_take, di_drop, di_dropLast, d_all1, List.length_map, Int.natCast_zero, Int.reduceLE, Int.reduceLT, Int.reduceEq, Int.reduceToNat, Int.reduceAdd, Int.reduceSub, Int.reduceMul, Int.reduceNeg, Nat.reduceSub, Nat.reduceMul, Nat.reduceLeDiff, Nat.reduceEqDiff, d_eqTI, d_neTI, d_eqLI, d_neLI, zip_cons, zip_nil, zip_nil2, rep_di, ev_sRetO, ev_sRetF, then_rtF, en_rtF, fF_rtF, fF_er, fF_nx, ev_mLN, opt_some, opt_none, isOb_fz, isOb_ow, isOb_no, isOb_opt, hid_opt, ld_opt, List.any_cons, List.any_nil, Bool.or_false, turn_tp13, turn_tp12, ev_sExt2, sq2_l, sq2_t, hid_pw, ld_pw, isOb_pw, ev_sIxP, b__law_same_1, ix k d hd, h d (List.mem_of_getElem? hd)]
theorem same_good : ∀ (n : Nat) (d : D), sgood n d = true → g__law_same n [d, d] = .ok (.bl true)
  | 0, _, h => by cases h
  | n + 1, .non, _ => rfl
  | n + 1, .bl b, _ => by cases b <;> rfl
  | n + 1, .int i, _ => by rw [same_int, decide_eq_true rfl]
  | n + 1, .str s, h => same_str n s h
  | n + 1, .tup ds, h => by
    have h : (decide (ds.length ≤ 1000) && ds.all (sgood n)) = true := h
    rw [Bool.and_eq_true] at h
    obtain ⟨t, lp⟩ := same_loop (x := .tup ds) (of_decide_eq_true h.1) rfl (fun i d hd => d_ixT hd) fun d hd => same_good n d (List.all_eq_true.mp h.2 d hd)
    rw [g__law_same, run_F (s := [.fz (.tup ds), .fz (.tup ds), .no]) rfl, m__law_same]
    simp only [ev_V0, dec_T, dec_F, ev_VS, set_0, set_S, get_0, get_S, hd_nil, hd_cons, hid_fz, hid_no, hid_ow, hid_ob, if_t, if_f, if_T, if_F, not_t, not_f, ev_C, ev_1, ev_2, ev_A, ev_nil, ev_cons, ev_T, ev_B, ev_And, ev_Or, ev_Not, ev_Yes, ev_If, ev_AndV, ev_OrV, ev_H, ev_Seq, then_nx, then_rt, then_er, ev_Nx, ev_Ret, ev_Set, ev_Ex, ev_SIf, ev_Rz1, ev_Rz0, bd_ok, bd_er, on_ok, on_er, d_tru_bl, d_add, d_sub, d_lt, d_le, d_gt, d_ge, d_neg, d_eqI, d_neI, d_lenT, d_lenL, d_one, d_int, d_tupL, d_tupT, d_itT, d_itL, d_inT, d_notInT, d_max2, d_min2, en_nx, en_rt, en_er, wipe_nil', wipe_cons', mb_ok, ev_sOwn, ev_sApp, ev_sExt, ev_sRev, ev_sIxS, ev_sAug, ev_sTup, ev_sFrz, frz_ow, frz_fz, frz_ob, frz_no, ev_mHN, only_l, only_er, ev_sFor, ev_sRetN, ev_mL, ev_mLB, ld_nil, ld_cons, ld_fz, ld_no, ld_ow, ld_ob, okF_int, okF_bl, okF_str, okF_non, okF_tup, okFs_di, ev_meth, ev_mIsN, ev_mIsNotN, isN_non, isN_int, isN_tup, isN_lst, isN_obj, isN_bl, isN_str, d_not_bl, d_en_t, d_en_l, d_zip_t, d_zip_l, d_list_l, d_list_t, d_absI, turn_nm, turn_tp2, turn_tp3, turn_tp4, tE_nm, tE_tp2, tE_tp3, ix_t0, ix_t1, ix_t2, ix_t3, ix_l0, ix_l1, ix_l2, ix_l3, d_tu0, d_tu1, d_tu2, d_tu3, d_tu4, d_ls0, d_ls1, d_ls2, d_ls3, d_ls4, then_br, then_ct, List.length_cons, List.length_nil, Nat.reduceAdd, Nat.reduceLT, Bool.false_eq_true, Bool.true_eq_false, loopL_nil, ev_mSl, pt_none, pt_some, sl_t, sl_l, cut_m1, cut_hi, cut_lo, di_take, di_drop, di_dropLast, d_all1, List.length_map, Int.natCast_zero, Int.reduceLE, Int.reduceLT, Int.reduceEq, Int.reduceToNat, Int.reduceAdd, Int.reduceSub, Int.reduceMul, Int.reduceNeg, Nat.reduceSub, Nat.reduceMul, Nat.reduceLeDiff, Nat.reduceEqDiff, d_eqTI, d_neTI, d_eqLI, d_neLI, zip_cons, zip_nil, zip_nil2, rep_di, ev_sRetO, ev_sRetF, then_rtF, en_rtF, fF_rtF, fF_er, fF_nx, ev_mLN, opt_some, opt_none, isOb_fz, isOb_ow, isOb_no, isOb_opt, hid_opt, ld_opt, List.any_cons, List.any_nil, Bool.or_false, turn_tp13, turn_tp12, ev_sExt2, sq2_l, sq2_t, hid_pw, ld_pw, isOb_pw, ev_sIxP, is_n_tup, is_b_tup, i_tup, s_tup, t_tup, l_tup, lp, decide_true]
  | n + 1, .lst ds, h => by
    have h : (decide (ds.length ≤ 1000) && ds.all (sgood n)) = true := h
    rw [Bool.and_eq_true] at h
    obtain ⟨t, lp⟩ := same_loop (x := .lst ds) (of_decide_eq_true h.1) rfl (fun i d hd => d_ixL hd) fun d hd => same_good n d (List.all_eq_true.mp h.2 d hd)
    rw [g__law_same, run_F (s := [.fz (.lst ds), .fz (.lst ds), .no]) rfl, m__law_same]
    simp only [ev_V0, dec_T, dec_F, ev_VS, set_0, set_S, get_0, get_S, hd_nil, hd_cons, hid_fz, hid_no, hid_ow, hid_ob, if_t, if_f, if_T, if_F, not_t, not_f, ev_C, ev_1, ev_2, ev_A, ev_nil, ev_cons, ev_T, ev_B, ev_And, ev_Or, ev_Not, ev_Yes, ev_If, ev_AndV, ev_OrV, ev_H, ev_Seq, then_nx, then_rt, then_er, ev_Nx, ev_Ret, ev_Set, ev_Ex, ev_SIf, ev_Rz1, ev_Rz0, bd_ok, bd_er, on_ok, on_er, d_tru_bl, d_add, d_sub, d_lt, d_le, d_gt, d_ge, d_neg, d_eqI, d_neI, d_lenT, d_lenL, d_one, d_int, d_tupL, d_tupT, d_itT, d_itL, d_inT, d_notInT, d_max2, d_min2, en_nx, en_rt, en_er, wipe_nil', wipe_cons', mb_ok, ev_sOwn, ev_sApp, ev_sExt, ev_sRev, ev_sIxS, ev_sAug, ev_sTup, ev_sFrz, frz_ow, frz_fz, frz_ob, frz_no, ev_mHN, only_l, only_er, ev_sFor, ev_sRetN, ev_mL, ev_mLB, ld_nil, ld_cons, ld_fz, ld_no, ld_ow, ld_ob, okF_int, okF_bl, okF_str, okF_non, okF_tup, okFs_di, ev_meth, ev_mIsN, ev_mIsNotN, isN_non, isN_int, isN_tup, isN_lst, isN_obj, isN_bl, isN_str, d_not_bl, d_en_t, d_en_l, d_zip_t, d_zip_l, d_list_l, d_list_t, d_absI, turn_nm, turn_tp2, turn_tp3, turn_tp4, tE_nm, tE_tp2, tE_tp3, ix_t0, ix_t1, ix_t2, ix_t3, ix_l0, ix_l1, ix_l2, ix_l3, d_tu0, d_tu1, d_tu2, d_tu3, d_tu4, d_ls0, d_ls1, d_ls2, d_ls3, d_ls4, then_br, then_ct, List.length_cons, List.length_nil, Nat.reduceAdd, Nat.reduceLT, Bool.false_eq_true, Bool.true_eq_false, loopL_nil, ev_mSl, pt_none, pt_some, sl_t, sl_l, cut_m1, cut_hi, cut_lo, di_take, di_drop, di_dropLast, d_all1, List.length_map, Int.natCast_zero, Int.reduceLE, Int.reduceLT, Int.reduceEq, Int.reduceToNat, Int.reduceAdd, Int.reduceSub, Int.reduceMul, Int.reduceNeg, Nat.reduceSub, Nat.reduceMul, Nat.reduceLeDiff, Nat.reduceEqDiff, d_eqTI, d_neTI, d_eqLI, d_neLI, zip_cons, zip_nil, zip_nil2, rep_di, ev_sRetO, ev_sRetF, then_rtF, en_rtF, fF_rtF, fF_er, fF_nx, ev_mLN, opt_some, opt_none, isOb_fz, isOb_ow, isOb_no, isOb_opt, hid_opt, ld_opt, List.any_cons, List.any_nil, Bool.or_false, turn_tp13, turn_tp12, ev_sExt2, sq2_l, sq2_t, hid_pw, ld_pw, isOb_pw, ev_sIxP, is_n_lst, is_b_lst, i_lst, s_lst, t_lst, l_lst, lp, decide_true]
  | n + 1, .obj _ _ _, h => by cases h
  | n + 1, .exc _ _ _, h => by cases h
  | n + 1, .dct _ _, h => by cases h
  | n + 1, .scr _, h => by cases h
theorem sg_di (n : Nat) (l : List Int) : (di l).all (sgood (n + 1)) = true := by
  rw [List.all_eq_true]
  intro x hx
  obtain ⟨i, _, rfl⟩ := List.mem_map.mp hx
  rfl
theorem sg_ti (n : Nat) {l : List Int} (h : l.length ≤ 1000) : sgood (n + 2) (.tup (di l)) = true := by
  show (decide ((di l).length ≤ 1000) && (di l).all (sgood (n + 1))) = true
  rw [sg_di, List.length_map, decide_eq_true h] <;> rfl
theorem sg_li (n : Nat) {l : List Int} (h : l.length ≤ 1000) : sgood (n + 2) (.lst (di l)) = true := by
  show (decide ((di l).length ≤ 1000) && (di l).all (sgood (n + 1))) = true
  rw [sg_di, List.length_map, decide_eq_true h] <;> rfl
theorem sg_t2 {n : Nat} {a b : D} (ha : sgood n a = true) (hb : sgood n b = true) : sgood (n + 1) (.tup [a, b]) = true := by
  show (decide (2 ≤ 1000) && (sgood n a && (sgood n b && true))) = true
  rw [ha, hb] <;> rfl
theorem sg_t3 {n : Nat} {a b c : D} (ha : sgood n a = true) (hb : sgood n b = true) (hc : sgood n c = true) : sgood (n + 1) (.tup [a, b, c]) = true := by
  show (decide (3 ≤ 1000) && (sgood n a && (sgood n b && (sgood n c && true)))) = true
  rw [ha, hb, hc] <;> rfl
theorem isN_num (l : List Int) : dIsi tbl_Numbers (num l) = .ok (.bl true) := rfl
theorem e_is_numbers {l : List Int} (h8 : l.length ≤ 8) : g__law_is_numbers [num l, .lst (di l)] = .ok (.bl true) := by
  have s1 : g__law_same 6 [.int (l.length : Nat), .int ((di l).length : Nat)] = .ok (.bl true) := by rw [List.length_map, same_int, decide_eq_true rfl]
  rw [g__law_is_numbers, run_F (s := [.fz (num l), .fz (.lst (di l))]) rfl, m__law_is_numbers]
  simp only [ev_V0, dec_T, dec_F, ev_VS, set_0, set_S, get_0, get_S, hd_nil, hd_cons, hid_fz, hid_no, hid_ow, hid_ob, if_t, if_f, if_T, if_F, not_t, not_f, ev_C, ev_1, ev_2, ev_A, ev_nil, ev_cons, ev_T, ev_B, ev_And, ev_Or, ev_Not, ev_Yes, ev_If, ev_AndV, ev_OrV, ev_H, ev_Seq, then_nx, then_rt, then_er, ev_Nx, ev_Ret, ev_Set, ev_Ex, ev_SIf, ev_Rz1, ev_Rz0, bd_ok, bd_er, on_ok, on_er, d_tru_bl, d_add, d_sub, d_lt, d_le, d_gt, d_ge, d_neg, d_eqI, d_neI, d_lenT, d_lenL, d_one, d_int, d_tupL, d_tupT, d_itT, d_itL, d_inT, d_notInT, d_max2, d_min2, en_nx, en_rt, en_er, wipe_nil', wipe_cons', mb_ok, isN_num, fld_size, fld_levels, s1, same_ints 4 l h8]
/-! #### refusals -/
theorem try_rt {i : Nat} {yes : List (Str × Bool)} {mb ms : SM} {e : SEnv} {d : D} (h : mb e = .rt d) : sTry i yes mb ms e = .rt d := by
  unfold sTry
  rw [h]
theorem try_er {i : Nat} {yes : List (Str × Bool)} {mb ms : SM} {e e2 : SEnv} {c : Str} {ns : List Str} {ds : List D} {d : D} (h : mb e = .er c ns ds e2) (hy : yes.lookup c = some true) (hm : ms (e2.set i (.fz (.exc c ns ds))) = .rt d) (hx : noX d = true) : sTry i yes mb ms e = .rt d := by
  unfold sTry
  rw [h]
  simp only [hy, hm, hx, if_T]
theorem d_tup2 (a b : D) : dTup [a, b] = .ok (.tup [a, b]) := d_tup (by show 2 ≤ 16777216; decide)
theorem d_tup3 (a b c : D) : dTup [a, b, c] = .ok (.tup [a, b, c]) := d_tup (by show 3 ≤ 16777216; decide)
section
variable {lv : List Int} {l a : D} {c : Str} {ns : List Str} {ds : List D}
end
theorem noX_di (l : List Int) : noXs (di l) = true := by
  induction l with
  | nil => rfl
  | cons x l ih =>
    show (noX (.int x) && noXs (di l)) = true
    rw [ih] <;> rfl
/-- a lot with a world too many -/
theorem e_is_lot_far {n : Nat} {pre : List Int} (L : IsLot n pre) : g_is_lot [.int n, .tup (di (pre ++ [(n : Int)]))] = .ok (.bl false) := by
  have lp : l_is_lot_2 [.fz (.int n), .fz (.tup (di (pre ++ [(n : Int)]))), .fz (.int (-1)), .no] = .rt (.bl false) := by
    rw [l_is_lot_2, ev_for (items := di (pre ++ [(n : Int)])) (by simp only [ev_V0, dec_T, dec_F, ev_VS, set_0, set_S, get_0, get_S, hd_nil, hd_cons, hid_fz, hid_no, hid_ow, hid_ob, if_t, if_f, if_T, if_F, not_t, not_f, ev_C, ev_1, ev_2, ev_A, ev_nil, ev_cons, ev_T, ev_B, ev_And, ev_Or, ev_Not, ev_Yes, ev_If, ev_AndV, ev_OrV, ev_H, ev_Seq, then_nx, then_rt, then_er, ev_Nx, ev_Ret, ev_Set, ev_Ex, ev_SIf, ev_Rz1, ev_Rz0, bd_ok, bd_er, on_ok, on_er, d_tru_bl, d_add, d_sub, d_lt, d_le, d_gt, d_ge, d_neg, d_eqI, d_neI, d_lenT, d_lenL, d_one, d_int, d_tupL, d_tupT, d_itT, d_itL, d_inT, d_notInT, d_max2, d_min2, en_nx, en_rt, en_er, wipe_nil', wipe_cons', mb_ok])]
    refine loop_rt (T := .nm 3) (body := b_is_lot_1) (P := fun i s => ∃ (last : Int) (b : Sl), s = [.fz (.int n), .fz (.tup (di (pre ++ [(n : Int)]))), .fz (.int last), b] ∧ (∀ (j : Nat) (x : Int), i ≤ j → pre[j]? = some x → last < x)) (di (pre ++ [(n : Int)])) 0 pre.length _
      ⟨-1, .no, rfl, fun j x _ hx => by have := (L.rg x (List.mem_of_getElem? hx)).1; omega⟩ (by rw [List.length_map, List.length_append]; exact Nat.lt_succ_self _) ?step ?stop
    case step =>
      intro i x s hi hx hp
      obtain ⟨last, b, rfl, hq⟩ := hp
      rw [List.getElem?_map, List.getElem?_append_left hi] at hx
      obtain ⟨y, hl⟩ := get_lt hi
      rw [hl] at hx
      cases hx
      have a1 : ¬ y ≤ last := by have := hq i y (by omega) hl; omega
      have a2 : ¬ (n : Int) ≤ y := by have := (L.rg y (List.mem_of_getElem? hl)).2; omega
      refine ⟨[(3, .int y)], [.fz (.int n), .fz (.tup (di (pre ++ [(n : Int)]))), .fz (.int y), .fz (.int y)], rfl, .inl ?_, y, _, rfl, fun j x hj hx => ?_⟩
      · show b_is_lot_1 [.fz (.int n), .fz (.tup (di (pre ++ [(n : Int)]))), .fz (.int last), .fz (.int y)] = _
        rw [b_is_lot_1]
        simp only [ev_V0, dec_T, dec_F, ev_VS, set_0, set_S, get_0, get_S, hd_nil, hd_cons, hid_fz, hid_no, hid_ow, hid_ob, if_t, if_f, if_T, if_F, not_t, not_f, ev_C, ev_1, ev_2, ev_A, ev_nil, ev_cons, ev_T, ev_B, ev_And, ev_Or, ev_Not, ev_Yes, ev_If, ev_AndV, ev_OrV, ev_H, ev_Seq, then_nx, then_rt, then_er, ev_Nx, ev_Ret, ev_Set, ev_Ex, ev_SIf, ev_Rz1, ev_Rz0, bd_ok, bd_er, on_ok, on_er, d_tru_bl, d_add, d_sub, d_lt, d_le, d_gt, d_ge, d_neg, d_eqI, d_neI, d_lenT, d_lenL, d_one, d_int, d_tupL, d_tupT, d_itT, d_itL, d_inT, d_notInT, d_max2, d_min2, en_nx, en_rt, en_er, wipe_nil', wipe_cons', mb_ok, decide_eq_false a1, decide_eq_false a2]
      · obtain ⟨b1, e1⟩ := List.getElem?_eq_some_iff.mp hl
        obtain ⟨b2, e3⟩ := List.getElem?_eq_some_iff.mp hx
        rw [← e1, ← e3]
        exact List.pairwise_iff_getElem.mp L.so i j b1 b2 (by omega)
    case stop =>
      intro x s hx hp
      obtain ⟨last, b, rfl, hq⟩ := hp
      rw [List.getElem?_map, List.getElem?_append_right (Nat.le_refl _), Nat.sub_self] at hx
      have hx : some (D.int (n : Int)) = some x := hx
      cases hx
      refine ⟨[(3, .int n)], rfl, ?_⟩
      show b_is_lot_1 [.fz (.int n), .fz (.tup (di (pre ++ [(n : Int)]))), .fz (.int last), .fz (.int n)] = _
      rw [b_is_lot_1]
      by_cases a1 : (n : Int) ≤ last
      · simp only [ev_V0, dec_T, dec_F, ev_VS, set_0, set_S, get_0, get_S, hd_nil, hd_cons, hid_fz, hid_no, hid_ow, hid_ob, if_t, if_f, if_T, if_F, not_t, not_f, ev_C, ev_1, ev_2, ev_A, ev_nil, ev_cons, ev_T, ev_B, ev_And, ev_Or, ev_Not, ev_Yes, ev_If, ev_AndV, ev_OrV, ev_H, ev_Seq, then_nx, then_rt, then_er, ev_Nx, ev_Ret, ev_Set, ev_Ex, ev_SIf, ev_Rz1, ev_Rz0, bd_ok, bd_er, on_ok, on_er, d_tru_bl, d_add, d_sub, d_lt, d_le, d_gt, d_ge, d_neg, d_eqI, d_neI, d_lenT, d_lenL, d_one, d_int, d_tupL, d_tupT, d_itT, d_itL, d_inT, d_notInT, d_max2, d_min2, en_nx, en_rt, en_er, wipe_nil', wipe_cons', mb_ok, decide_eq_true a1]
      · simp only [ev_V0, dec_T, dec_F, ev_VS, set_0, set_S, get_0, get_S, hd_nil, hd_cons, hid_fz, hid_no, hid_ow, hid_ob, if_t, if_f, if_T, if_F, not_t, not_f, ev_C, ev_1, ev_2, ev_A, ev_nil, ev_cons, ev_T, ev_B, ev_And, ev_Or, ev_Not, ev_Yes, ev_If, ev_AndV, ev_OrV, ev_H, ev_Seq, then_nx, then_rt, then_er, ev_Nx, ev_Ret, ev_Set, ev_Ex, ev_SIf, ev_Rz1, ev_Rz0, bd_ok, bd_er, on_ok, on_er, d_tru_bl, d_add, d_sub, d_lt, d_le, d_gt, d_ge, d_neg, d_eqI, d_neI, d_lenT, d_lenL, d_one, d_int, d_tupL, d_tupT, d_itT, d_itL, d_inT, d_notInT, d_max2, d_min2, en_nx, en_rt, en_er, wipe_nil', wipe_cons', mb_ok, decide_eq_false a1, decide_eq_true (Int.le_refl (n : Int))]
  rw [g_is_lot, run_F (s := [.fz (.int n), .fz (.tup (di (pre ++ [(n : Int)]))), .no, .no]) rfl, m_is_lot]
  simp only [ev_V0, dec_T, dec_F, ev_VS, set_0, set_S, get_0, get_S, hd_nil, hd_cons, hid_fz, hid_no, hid_ow, hid_ob, if_t, if_f, if_T, if_F, not_t, not_f, ev_C, ev_1, ev_2, ev_A, ev_nil, ev_cons, ev_T, ev_B, ev_And, ev_Or, ev_Not, ev_Yes, ev_If, ev_AndV, ev_OrV, ev_H, ev_Seq, then_nx, then_rt, then_er, ev_Nx, ev_Ret, ev_Set, ev_Ex, ev_SIf, ev_Rz1, ev_Rz0, bd_ok, bd_er, on_ok, on_er, d_tru_bl, d_add, d_sub, d_lt, d_le, d_gt, d_ge, d_neg, d_eqI, d_neI, d_lenT, d_lenL, d_one, d_int, d_tupL, d_tupT, d_itT, d_itL, d_inT, d_notInT, d_max2, d_min2, en_nx, en_rt, en_er, wipe_nil', wipe_cons', mb_ok, lp]
theorem x_far {n : Nat} {pre : List Int} (h1 : 1 ≤ n) (h8 : n ≤ 8) (L : IsLot n pre) : g_check_full_lot [.int n, .tup (di (pre ++ [(n : Int)]))] = .er "BadLot" ["lot"] [.tup (di (pre ++ [(n : Int)]))] := by
  have c : g_check_lot [.int n, .tup (di (pre ++ [(n : Int)]))] = .er "BadLot" ["lot"] [.tup (di (pre ++ [(n : Int)]))] := by
    rw [g_check_lot, run_F (s := [.fz (.int n), .fz (.tup (di (pre ++ [(n : Int)])))]) rfl, m_check_lot]
    simp only [ev_V0, dec_T, dec_F, ev_VS, set_0, set_S, get_0, get_S, hd_nil, hd_cons, hid_fz, hid_no, hid_ow, hid_ob, if_t, if_f, if_T, if_F, not_t, not_f, ev_C, ev_1, ev_2, ev_A, ev_nil, ev_cons, ev_T, ev_B, ev_And, ev_Or, ev_Not, ev_Yes, ev_If, ev_AndV, ev_OrV, ev_H, ev_Seq, then_nx, then_rt, then_er, ev_Nx, ev_Ret, ev_Set, ev_Ex, ev_SIf, ev_Rz1, ev_Rz0, bd_ok, bd_er, on_ok, on_er, d_tru_bl, d_add, d_sub, d_lt, d_le, d_gt, d_ge, d_neg, d_eqI, d_neI, d_lenT, d_lenL, d_one, d_int, d_tupL, d_tupT, d_itT, d_itL, d_inT, d_notInT, d_max2, d_min2, en_nx, en_rt, en_er, wipe_nil', wipe_cons', mb_ok, e_check_size (n := n) (by omega) (by omega), e_is_lot_far L]
  rw [g_check_full_lot, run_F (s := [.fz (.int n), .fz (.tup (di (pre ++ [(n : Int)])))]) rfl, m_check_full_lot]
  simp only [ev_V0, dec_T, dec_F, ev_VS, set_0, set_S, get_0, get_S, hd_nil, hd_cons, hid_fz, hid_no, hid_ow, hid_ob, if_t, if_f, if_T, if_F, not_t, not_f, ev_C, ev_1, ev_2, ev_A, ev_nil, ev_cons, ev_T, ev_B, ev_And, ev_Or, ev_Not, ev_Yes, ev_If, ev_AndV, ev_OrV, ev_H, ev_Seq, then_nx, then_rt, then_er, ev_Nx, ev_Ret, ev_Set, ev_Ex, ev_SIf, ev_Rz1, ev_Rz0, bd_ok, bd_er, on_ok, on_er, d_tru_bl, d_add, d_sub, d_lt, d_le, d_gt, d_ge, d_neg, d_eqI, d_neI, d_lenT, d_lenL, d_one, d_int, d_tupL, d_tupT, d_itT, d_itL, d_inT, d_notInT, d_max2, d_min2, en_nx, en_rt, en_er, wipe_nil', wipe_cons', mb_ok, c]
theorem d_lenS (ns : List Int) : dLen (.scr ns) = .ok (.int (ns.length : Nat)) := rfl
theorem d_abs (i : Int) : dAbs (.int i) = .ok (.int (if i < 0 then -i else i)) := rfl
theorem d_pow18 : dPow (.int 10) (.int 18) = .ok (.int 1000000000000000000) := by
  have c : cPw 10 18 = true := by decide
  show (if cPw 10 18 = true then R.ok (D.int (10 ^ (18 : Int).toNat)) else .bad) = _
  rw [if_pos c]
  rfl
/-- what a row of draws is -/
structure IsRow (many : Nat) (r : List Int) : Prop where
  len : r.length = many
  rg : ∀ x ∈ r, 0 ≤ x
theorem row_loop {ns : List Int} {at' many : Nat} {cell : Int} (hm : many ≤ 1000) : ∃ r a b c, l__law_row_2 [.fz (.scr ns), .fz (.int at'), .fz (.int many), .fz (.int cell), .fz (.int cell), .ow [], .no, .no] = .nx [.fz (.scr ns), .fz (.int at'), .fz (.int many), .fz (.int cell), a, .ow (di r), b, c] ∧ IsRow many r := by
  rw [l__law_row_2, ev_for (items := di (rng many)) (by simp only [ev_V0, dec_T, dec_F, ev_VS, set_0, set_S, get_0, get_S, hd_nil, hd_cons, hid_fz, hid_no, hid_ow, hid_ob, if_t, if_f, if_T, if_F, not_t, not_f, ev_C, ev_1, ev_2, ev_A, ev_nil, ev_cons, ev_T, ev_B, ev_And, ev_Or, ev_Not, ev_Yes, ev_If, ev_AndV, ev_OrV, ev_H, ev_Seq, then_nx, then_rt, then_er, ev_Nx, ev_Ret, ev_Set, ev_Ex, ev_SIf, ev_Rz1, ev_Rz0, bd_ok, bd_er, on_ok, on_er, d_tru_bl, d_add, d_sub, d_lt, d_le, d_gt, d_ge, d_neg, d_eqI, d_neI, d_lenT, d_lenL, d_one, d_int, d_tupL, d_tupT, d_itT, d_itL, d_inT, d_notInT, d_max2, d_min2, en_nx, en_rt, en_er, wipe_nil', wipe_cons', mb_ok]; exact d_rng _ (by omega))]
  have z := loop_inv (T := .nm 6) (body := b__law_row_1) (P := fun k s => ∃ (rest : Int) (r : List Int) (b c : Sl), s = [.fz (.scr ns), .fz (.int at'), .fz (.int many), .fz (.int cell), .fz (.int rest), .ow (di r), b, c] ∧ r.length = k ∧ k ≤ many ∧ ∀ x ∈ r, 0 ≤ x) (di (rng many)) 0 [.fz (.scr ns), .fz (.int at'), .fz (.int many), .fz (.int cell), .fz (.int cell), .ow [], .no, .no] ⟨cell, [], .no, .no, rfl, rfl, Nat.zero_le _, fun x h => by cases h⟩ ?step
  · obtain ⟨s2, e2, rest, r, b, c, rfl, l1, l2, l3⟩ := z
    rw [List.length_map, len_rng, Nat.zero_add] at l1
    exact ⟨r, _, b, c, e2, l1, l3⟩
  case step =>
    intro k d s hd hp
    obtain ⟨rest, r, b, c, rfl, l1, l2, l3⟩ := hp
    rw [Nat.zero_add] at l1 l2
    obtain ⟨hk, rfl⟩ := rng_d hd
    have hlen : (di r).length < 16777216 := by
      rw [List.length_map, l1]
      exact Nat.lt_of_le_of_lt (Nat.le_trans l2 hm) (by decide)
    by_cases t : cell ≥ 1000000000000000000 ∧ rest > 0
    · refine ⟨[(6, .int (k : Nat))], [.fz (.scr ns), .fz (.int at'), .fz (.int many), .fz (.int cell), .fz (.int (rest / 65536)), .ow (di (r ++ [rest % 65536])), .fz (.int (k : Nat)), c], rfl, .inl ?_, _, _, _, _, rfl, ?_, ?_, ?_⟩
      · show b__law_row_1 [.fz (.scr ns), .fz (.int at'), .fz (.int many), .fz (.int cell), .fz (.int rest), .ow (di r), .fz (.int (k : Nat)), c] = _
        have ap : sApp 5 (mH (m2 dMod (mA (one1 dInt) (mCons (mV 4) mNil)) (mC (D.int 65536)))) [.fz (.scr ns), .fz (.int at'), .fz (.int many), .fz (.int cell), .fz (.int rest), .ow (di r), .fz (.int (k : Nat)), c] = .nx [.fz (.scr ns), .fz (.int at'), .fz (.int many), .fz (.int cell), .fz (.int rest), .ow (di (r ++ [rest % 65536])), .fz (.int (k : Nat)), c] := by
          rw [ev_App (ds := di r) (d := .int (rest % 65536)) rfl (by simp only [ev_V0, dec_T, dec_F, ev_VS, set_0, set_S, get_0, get_S, hd_nil, hd_cons, hid_fz, hid_no, hid_ow, hid_ob, if_t, if_f, if_T, if_F, not_t, not_f, ev_C, ev_1, ev_2, ev_A, ev_nil, ev_cons, ev_T, ev_B, ev_And, ev_Or, ev_Not, ev_Yes, ev_If, ev_AndV, ev_OrV, ev_H, ev_Seq, then_nx, then_rt, then_er, ev_Nx, ev_Ret, ev_Set, ev_Ex, ev_SIf, ev_Rz1, ev_Rz0, bd_ok, bd_er, on_ok, on_er, d_tru_bl, d_add, d_sub, d_lt, d_le, d_gt, d_ge, d_neg, d_eqI, d_neI, d_lenT, d_lenL, d_one, d_int, d_tupL, d_tupT, d_itT, d_itL, d_inT, d_notInT, d_max2, d_min2, en_nx, en_rt, en_er, wipe_nil', wipe_cons', mb_ok, d_mod (show (0 : Int) < 65536 by decide)]) hlen, di_app]
          rfl
        rw [b__law_row_1]
        simp only [ev_V0, dec_T, dec_F, ev_VS, set_0, set_S, get_0, get_S, hd_nil, hd_cons, hid_fz, hid_no, hid_ow, hid_ob, if_t, if_f, if_T, if_F, not_t, not_f, ev_C, ev_1, ev_2, ev_A, ev_nil, ev_cons, ev_T, ev_B, ev_And, ev_Or, ev_Not, ev_Yes, ev_If, ev_AndV, ev_OrV, ev_H, ev_Seq, then_nx, then_rt, then_er, ev_Nx, ev_Ret, ev_Set, ev_Ex, ev_SIf, ev_Rz1, ev_Rz0, bd_ok, bd_er, on_ok, on_er, d_tru_bl, d_add, d_sub, d_lt, d_le, d_gt, d_ge, d_neg, d_eqI, d_neI, d_lenT, d_lenL, d_one, d_int, d_tupL, d_tupT, d_itT, d_itL, d_inT, d_notInT, d_max2, d_min2, en_nx, en_rt, en_er, wipe_nil', wipe_cons', mb_ok, d_pow18, decide_eq_true (show (1000000000000000000 : Int) ≤ cell from t.1), decide_eq_true (show (0 : Int) < rest from t.2), ap, d_div (show (0 : Int) < 65536 by decide) (by decide)]
      · rw [List.length_append, l1]
        show k + 1 = 0 + k + 1
        omega
      · omega
      · intro x hx
        rcases List.mem_append.mp hx with hx | hx
        · exact l3 x hx
        · rw [List.mem_singleton.mp hx]
          exact Int.emod_nonneg _ (by decide)
    · have tt : (if decide (1000000000000000000 ≤ cell) = true then (R.ok (decide (0 < rest)) : R Bool) else .ok false) = .ok false := by
        by_cases h1 : (1000000000000000000 : Int) ≤ cell
        · rw [if_pos (decide_eq_true h1)]
          rw [decide_eq_false fun h2 => t ⟨h1, h2⟩]
        · rw [if_neg (by rw [decide_eq_false h1]; exact Bool.false_ne_true)]
      generalize hmix : (cell * 48271 + (k : Int) * 69621 + (at' : Int) * 16807 + 11) % 2147483647 = mix
      have m0 : 0 ≤ mix := by rw [← hmix]; exact Int.emod_nonneg _ (by decide)
      have m1 : mix < 2147483647 := by rw [← hmix]; exact Int.emod_lt_of_pos _ (by decide)
      refine ⟨[(6, .int (k : Nat))], [.fz (.scr ns), .fz (.int at'), .fz (.int many), .fz (.int cell), .fz (.int rest), .ow (di (r ++ [(mix * mix + (k : Int)) % 2147483629 / 7 % 65536])), .fz (.int (k : Nat)), .fz (.int mix)], rfl, .inl ?_, _, _, _, _, rfl, ?_, ?_, ?_⟩
      · show b__law_row_1 [.fz (.scr ns), .fz (.int at'), .fz (.int many), .fz (.int cell), .fz (.int rest), .ow (di r), .fz (.int (k : Nat)), c] = _
        have ap : sApp 5 (mH (m2 dMod (m2 dFdiv (m2 dMod (mA (one1 dInt) (mCons (m2 dAdd (m2 dMul (mV 7) (mV 7)) (mV 6)) (mNil))) (mC (.int 2147483629))) (mC (.int 7))) (mC (.int 65536)))) [.fz (.scr ns), .fz (.int at'), .fz (.int many), .fz (.int cell), .fz (.int rest), .ow (di r), .fz (.int (k : Nat)), .fz (.int mix)] = .nx [.fz (.scr ns), .fz (.int at'), .fz (.int many), .fz (.int cell), .fz (.int rest), .ow (di (r ++ [(mix * mix + (k : Int)) % 2147483629 / 7 % 65536])), .fz (.int (k : Nat)), .fz (.int mix)] := by
          rw [ev_App (ds := di r) (d := .int ((mix * mix + (k : Int)) % 2147483629 / 7 % 65536)) rfl (by simp only [ev_V0, dec_T, dec_F, ev_VS, set_0, set_S, get_0, get_S, hd_nil, hd_cons, hid_fz, hid_no, hid_ow, hid_ob, if_t, if_f, if_T, if_F, not_t, not_f, ev_C, ev_1, ev_2, ev_A, ev_nil, ev_cons, ev_T, ev_B, ev_And, ev_Or, ev_Not, ev_Yes, ev_If, ev_AndV, ev_OrV, ev_H, ev_Seq, then_nx, then_rt, then_er, ev_Nx, ev_Ret, ev_Set, ev_Ex, ev_SIf, ev_Rz1, ev_Rz0, bd_ok, bd_er, on_ok, on_er, d_tru_bl, d_add, d_sub, d_lt, d_le, d_gt, d_ge, d_neg, d_eqI, d_neI, d_lenT, d_lenL, d_one, d_int, d_tupL, d_tupT, d_itT, d_itL, d_inT, d_notInT, d_max2, d_min2, en_nx, en_rt, en_er, wipe_nil', wipe_cons', mb_ok, d_mulL (show -(2 ^ 64) < mix by omega) (show mix < 2 ^ 64 by omega), d_mod (show (0 : Int) < 2147483629 by decide), d_mod (show (0 : Int) < 65536 by decide), d_div (show (0 : Int) < 7 by decide) (by decide)]) hlen, di_app]
          rfl
        rw [b__law_row_1]
        simp only [ev_V0, dec_T, dec_F, ev_VS, set_0, set_S, get_0, get_S, hd_nil, hd_cons, hid_fz, hid_no, hid_ow, hid_ob, if_t, if_f, if_T, if_F, not_t, not_f, ev_C, ev_1, ev_2, ev_A, ev_nil, ev_cons, ev_T, ev_B, ev_And, ev_Or, ev_Not, ev_Yes, ev_If, ev_AndV, ev_OrV, ev_H, ev_Seq, then_nx, then_rt, then_er, ev_Nx, ev_Ret, ev_Set, ev_Ex, ev_SIf, ev_Rz1, ev_Rz0, bd_ok, bd_er, on_ok, on_er, d_tru_bl, d_add, d_sub, d_lt, d_le, d_gt, d_ge, d_neg, d_eqI, d_neI, d_lenT, d_lenL, d_one, d_int, d_tupL, d_tupT, d_itT, d_itL, d_inT, d_notInT, d_max2, d_min2, en_nx, en_rt, en_er, wipe_nil', wipe_cons', mb_ok, d_pow18, tt, d_mulR (show -(2 ^ 64) < (48271 : Int) by decide) (by decide), d_mulR (show -(2 ^ 64) < (69621 : Int) by decide) (by decide), d_mulR (show -(2 ^ 64) < (16807 : Int) by decide) (by decide), d_mod (show (0 : Int) < 2147483647 by decide), hmix, ap, Bool.false_eq_true]
      · rw [List.length_append, l1]
        show k + 1 = 0 + k + 1
        omega
      · omega
      · intro x hx
        rcases List.mem_append.mp hx with hx | hx
        · exact l3 x hx
        · rw [List.mem_singleton.mp hx]
          exact Int.emod_nonneg _ (by decide)
theorem e_row {ns : List Int} {at' many : Nat} (hm : many ≤ 1000) : ∃ r, g__law_row [.scr ns, .int at', .int many] = .ok (.lst (di r)) ∧ IsRow many r := by
  have key : ∀ cell : Int, (∃ r, (sSeq (sSet 4 (mH (mV 3))) (sSeq (sOwn 5 (mHN (mA dLst (mNil)))) (sSeq (l__law_row_2) (sFrz 5 (sRet (mH (mV 5))))))) [.fz (.scr ns), .fz (.int at'), .fz (.int many), .fz (.int cell), .no, .no, .no, .no] = .rt (.lst (di r)) ∧ IsRow many r) := fun cell => by
    obtain ⟨r, a, b, c, lp, hr⟩ := row_loop (ns := ns) (at' := at') (many := many) (cell := cell) hm
    refine ⟨r, ?_, hr⟩
    simp only [ev_V0, dec_T, dec_F, ev_VS, set_0, set_S, get_0, get_S, hd_nil, hd_cons, hid_fz, hid_no, hid_ow, hid_ob, if_t, if_f, if_T, if_F, not_t, not_f, ev_C, ev_1, ev_2, ev_A, ev_nil, ev_cons, ev_T, ev_B, ev_And, ev_Or, ev_Not, ev_Yes, ev_If, ev_AndV, ev_OrV, ev_H, ev_Seq, then_nx, then_rt, then_er, ev_Nx, ev_Ret, ev_Set, ev_Ex, ev_SIf, ev_Rz1, ev_Rz0, bd_ok, bd_er, on_ok, on_er, d_tru_bl, d_add, d_sub, d_lt, d_le, d_gt, d_ge, d_neg, d_eqI, d_neI, d_lenT, d_lenL, d_one, d_int, d_tupL, d_tupT, d_itT, d_itL, d_inT, d_notInT, d_max2, d_min2, en_nx, en_rt, en_er, wipe_nil', wipe_cons', mb_ok]
    rw [ev_Own own_nil (by show 5 < 8; decide)]
    simp only [ev_V0, dec_T, dec_F, ev_VS, set_0, set_S, get_0, get_S, hd_nil, hd_cons, hid_fz, hid_no, hid_ow, hid_ob, if_t, if_f, if_T, if_F, not_t, not_f, ev_C, ev_1, ev_2, ev_A, ev_nil, ev_cons, ev_T, ev_B, ev_And, ev_Or, ev_Not, ev_Yes, ev_If, ev_AndV, ev_OrV, ev_H, ev_Seq, then_nx, then_rt, then_er, ev_Nx, ev_Ret, ev_Set, ev_Ex, ev_SIf, ev_Rz1, ev_Rz0, bd_ok, bd_er, on_ok, on_er, d_tru_bl, d_add, d_sub, d_lt, d_le, d_gt, d_ge, d_neg, d_eqI, d_neI, d_lenT, d_lenL, d_one, d_int, d_tupL, d_tupT, d_itT, d_itL, d_inT, d_notInT, d_max2, d_min2, en_nx, en_rt, en_er, wipe_nil', wipe_cons', mb_ok]
    rw [lp, then_nx, sFrz]
    show (((mH (mV 5)) [.fz (.scr ns), .fz (.int at'), .fz (.int many), .fz (.int cell), a, .fz (.lst (di r)), b, c]).on _ _) = _
    simp only [ev_V0, dec_T, dec_F, ev_VS, set_0, set_S, get_0, get_S, hd_nil, hd_cons, hid_fz, hid_no, hid_ow, hid_ob, if_t, if_f, if_T, if_F, not_t, not_f, ev_C, ev_1, ev_2, ev_A, ev_nil, ev_cons, ev_T, ev_B, ev_And, ev_Or, ev_Not, ev_Yes, ev_If, ev_AndV, ev_OrV, ev_H, ev_Seq, then_nx, then_rt, then_er, ev_Nx, ev_Ret, ev_Set, ev_Ex, ev_SIf, ev_Rz1, ev_Rz0, bd_ok, bd_er, on_ok, on_er, d_tru_bl, d_add, d_sub, d_lt, d_le, d_gt, d_ge, d_neg, d_eqI, d_neI, d_lenT, d_lenL, d_one, d_int, d_tupL, d_tupT, d_itT, d_itL, d_inT, d_notInT, d_max2, d_min2, en_nx, en_rt, en_er, wipe_nil', wipe_cons', mb_ok]
  by_cases c : at' < ns.length
  · obtain ⟨y, hy⟩ := get_lt c
    obtain ⟨r, e, hr⟩ := key (if y < 0 then -y else y)
    refine ⟨r, ?_, hr⟩
    rw [g__law_row, run_F (s := [.fz (.scr ns), .fz (.int at'), .fz (.int many), .no, .no, .no, .no, .no]) rfl, m__law_row]
    have c2 : ((at' : Nat) : Int) < (ns.length : Nat) := by omega
    rw [ev_Seq]
    simp only [ev_Set, ev_H, ev_2, ev_C, ev_V0, ev_VS, hd_cons, hd_nil, hid_fz, hid_no, bd_ok, on_ok, then_nx, set_0, set_S, d_add, d_mulL (show -(2 ^ 64) < (3 : Int) by decide) (by decide)]
    rw [ev_Seq]
    have s2 : (sIf (mH (mB (m2 dLt (mV 1) (mA (one1 dLen) (mCons (mV 0) (mNil)))))) (sSet 3 (mH (mA (one1 dAbs) (mCons (mA (one1 dInt) (mCons (m2 dIx (mV 0) (mV 1)) (mNil))) (mNil))))) (sNx)) [.fz (.scr ns), .fz (.int at'), .fz (.int many), .fz (.int (3 * (at' : Int) + 1)), .no, .no, .no, .no] = .nx [.fz (.scr ns), .fz (.int at'), .fz (.int many), .fz (.int (if y < 0 then -y else y)), .no, .no, .no, .no] := by
      simp only [ev_V0, dec_T, dec_F, ev_VS, set_0, set_S, get_0, get_S, hd_nil, hd_cons, hid_fz, hid_no, hid_ow, hid_ob, if_t, if_f, if_T, if_F, not_t, not_f, ev_C, ev_1, ev_2, ev_A, ev_nil, ev_cons, ev_T, ev_B, ev_And, ev_Or, ev_Not, ev_Yes, ev_If, ev_AndV, ev_OrV, ev_H, ev_Seq, then_nx, then_rt, then_er, ev_Nx, ev_Ret, ev_Set, ev_Ex, ev_SIf, ev_Rz1, ev_Rz0, bd_ok, bd_er, on_ok, on_er, d_tru_bl, d_add, d_sub, d_lt, d_le, d_gt, d_ge, d_neg, d_eqI, d_neI, d_lenT, d_lenL, d_one, d_int, d_tupL, d_tupT, d_itT, d_itL, d_inT, d_notInT, d_max2, d_min2, en_nx, en_rt, en_er, wipe_nil', wipe_cons', mb_ok, d_lenS, decide_eq_true c2, d_ixS hy, d_abs]
    rw [s2, then_nx, e, en_rt]
  · obtain ⟨r, e, hr⟩ := key (3 * (at' : Int) + 1)
    refine ⟨r, ?_, hr⟩
    rw [g__law_row, run_F (s := [.fz (.scr ns), .fz (.int at'), .fz (.int many), .no, .no, .no, .no, .no]) rfl, m__law_row]
    have c2 : ¬ ((at' : Nat) : Int) < (ns.length : Nat) := by omega
    rw [ev_Seq]
    simp only [ev_Set, ev_H, ev_2, ev_C, ev_V0, ev_VS, hd_cons, hd_nil, hid_fz, hid_no, bd_ok, on_ok, then_nx, set_0, set_S, d_add, d_mulL (show -(2 ^ 64) < (3 : Int) by decide) (by decide)]
    rw [ev_Seq]
    have s2 : (sIf (mH (mB (m2 dLt (mV 1) (mA (one1 dLen) (mCons (mV 0) (mNil)))))) (sSet 3 (mH (mA (one1 dAbs) (mCons (mA (one1 dInt) (mCons (m2 dIx (mV 0) (mV 1)) (mNil))) (mNil))))) (sNx)) [.fz (.scr ns), .fz (.int at'), .fz (.int many), .fz (.int (3 * (at' : Int) + 1)), .no, .no, .no, .no] = .nx [.fz (.scr ns), .fz (.int at'), .fz (.int many), .fz (.int (3 * (at' : Int) + 1)), .no, .no, .no, .no] := by
      simp only [ev_V0, dec_T, dec_F, ev_VS, set_0, set_S, get_0, get_S, hd_nil, hd_cons, hid_fz, hid_no, hid_ow, hid_ob, if_t, if_f, if_T, if_F, not_t, not_f, ev_C, ev_1, ev_2, ev_A, ev_nil, ev_cons, ev_T, ev_B, ev_And, ev_Or, ev_Not, ev_Yes, ev_If, ev_AndV, ev_OrV, ev_H, ev_Seq, then_nx, then_rt, then_er, ev_Nx, ev_Ret, ev_Set, ev_Ex, ev_SIf, ev_Rz1, ev_Rz0, bd_ok, bd_er, on_ok, on_er, d_tru_bl, d_add, d_sub, d_lt, d_le, d_gt, d_ge, d_neg, d_eqI, d_neI, d_lenT, d_lenL, d_one, d_int, d_tupL, d_tupT, d_itT, d_itL, d_inT, d_notInT, d_max2, d_min2, en_nx, en_rt, en_er, wipe_nil', wipe_cons', mb_ok, d_lenS, decide_eq_false c2, Bool.false_eq_true]
    rw [s2, then_nx, e, en_rt]
def lv0 (r : List Int) (n : Nat) (m : Int) : List Int := (rng n).map fun k => r.getD k.toNat 0 % (m + 1)
def lvF (r : List Int) (n : Nat) (m : Int) : List Int := (lv0 r n m).set (r.getD 8 0 % (n : Int)).toNat 0
theorem c_levels {n : Nat} {r : List Int} {m : Int} (h : n ≤ 8) (hr : r.length = 9) (hm : 0 < m + 1) : c__law_levels_1 [some (.int n), some (.lst (di r)), some (.int m), none, none] = .ok (.lst (di (lv0 r n m))) := by
  have z := ev_lcM (T := .nm 4) (vs := [4]) (mi := fun e => ((mCons (mV 0) (mNil)) e).bd dRange1) (me := m2 dMod (mA (one1 dInt) (mCons (m2 dIx (mV 1) (mV 4)) (mNil))) (m2 dAdd (mV 2) (mC (.int 1)))) (e := [some (.int n), some (.lst (di r)), some (.int m), none, none]) (c := D.int) (rng n) (fun k => .int (r.getD k.toNat 0 % (m + 1))) (it_rng0 h rfl) (by rw [len_rng]; exact small h) fun x hx => ?_
  · rw [c__law_levels_1, z, lv0, di, List.map_map]
    rfl
  · obtain ⟨h1, h2⟩ := mem_rng.mp hx
    simp only [ev_V0, dec_T, dec_F, ev_VS, set_0, set_S, get_0, get_S, hd_nil, hd_cons, hid_fz, hid_no, hid_ow, hid_ob, if_t, if_f, if_T, if_F, not_t, not_f, ev_C, ev_1, ev_2, ev_A, ev_nil, ev_cons, ev_T, ev_B, ev_And, ev_Or, ev_Not, ev_Yes, ev_If, ev_AndV, ev_OrV, ev_H, ev_Seq, then_nx, then_rt, then_er, ev_Nx, ev_Ret, ev_Set, ev_Ex, ev_SIf, ev_Rz1, ev_Rz0, bd_ok, bd_er, on_ok, on_er, d_tru_bl, d_add, d_sub, d_lt, d_le, d_gt, d_ge, d_neg, d_eqI, d_neI, d_lenT, d_lenL, d_one, d_int, d_tupL, d_tupT, d_itT, d_itL, d_inT, d_notInT, d_max2, d_min2, en_nx, en_rt, en_er, wipe_nil', wipe_cons', mb_ok, ev_sOwn, ev_sApp, ev_sExt, ev_sRev, ev_sIxS, ev_sAug, ev_sTup, ev_sFrz, frz_ow, frz_fz, frz_ob, frz_no, ev_mHN, only_l, only_er, ev_sFor, ev_sRetN, ev_mL, ev_mLB, ld_nil, ld_cons, ld_fz, ld_no, ld_ow, ld_ob, okF_int, okF_bl, okF_str, okF_non, okF_tup, okFs_di, ev_meth, ev_mIsN, ev_mIsNotN, isN_non, isN_int, isN_tup, isN_lst, isN_obj, isN_bl, isN_str, d_not_bl, d_en_t, d_en_l, d_zip_t, d_zip_l, d_list_l, d_list_t, d_absI, turn_nm, turn_tp2, turn_tp3, turn_tp4, tE_nm, tE_tp2, tE_tp3, ix_t0, ix_t1, ix_t2, ix_t3, ix_l0, ix_l1, ix_l2, ix_l3, d_tu0, d_tu1, d_tu2, d_tu3, d_tu4, d_ls0, d_ls1, d_ls2, d_ls3, d_ls4, then_br, then_ct, List.length_cons, List.length_nil, Nat.reduceAdd, Nat.reduceLT, Bool.false_eq_true, Bool.true_eq_false, loopL_nil, ev_mSl, pt_none, pt_some, sl_t, sl_l, cut_m1, cut_hi, cut_lo, di_take, di_drop, di_dropLast, d_all1, List.length_map, Int.natCast_zero, Int.reduceLE, Int.reduceLT, Int.reduceEq, Int.reduceToNat, Int.reduceAdd, Int.reduceSub, Int.reduceMul, Int.reduceNeg, Nat.reduceSub, Nat.reduceMul, Nat.reduceLeDiff, Nat.reduceEqDiff, d_eqTI, d_neTI, d_eqLI, d_neLI, zip_cons, zip_nil, zip_nil2, rep_di, ev_sRetO, ev_sRetF, then_rtF, en_rtF, fF_rtF, fF_er, fF_nx, ev_mLN, opt_some, opt_none, isOb_fz, isOb_ow, isOb_no, isOb_opt, hid_opt, ld_opt, List.any_cons, List.any_nil, Bool.or_false, turn_tp13, turn_tp12, ev_sExt2, sq2_l, sq2_t, hid_pw, ld_pw, isOb_pw, ev_sIxP, d_ixLI h1 (show x < (r.length : Nat) by omega), d_mod hm]
theorem ixN_nat {k n : Nat} (h : k < n) : ixN n (k : Int) = some k := by
  unfold ixN
  simp
  omega
theorem lv0_len (r : List Int) (n : Nat) (m : Int) : (lv0 r n m).length = n := by rw [lv0, List.length_map, len_rng]
theorem di_set (l : List Int) (k : Nat) (x : Int) : (di l).set k (.int x) = di (l.set k x) := by
  unfold di
  rw [List.map_set]
theorem e_levels {n : Nat} {r : List Int} {m : Int} (h1 : 1 ≤ n) (h : n ≤ 8) (hr : r.length = 9) (hm : 0 < m + 1) : g__law_levels [.int n, .lst (di r), .int m] = .ok (.lst (di (lvF r n m))) := by
  have p0 : (0 : Int) < (n : Int) := by omega
  have q0 : 0 ≤ r.getD 8 0 % (n : Int) := Int.emod_nonneg _ (by omega)
  have q1 : r.getD 8 0 % (n : Int) < n := Int.emod_lt_of_pos _ p0
  have hkn : (r.getD 8 0 % (n : Int)).toNat < (lv0 r n m).length := by
    rw [lv0_len]
    omega
  have hix : dIx (.lst (di r)) (.int 8) = .ok (.int (r.getD 8 0)) := d_ixLI (i := 8) (by decide) (by omega)
  have hn : ixN (lv0 r n m).length (r.getD 8 0 % (n : Int)) = some (r.getD 8 0 % (n : Int)).toNat := by
    have z := ixN_nat hkn
    rw [show (((r.getD 8 0 % (n : Int)).toNat : Nat) : Int) = r.getD 8 0 % (n : Int) by omega] at z
    exact z
  rw [g__law_levels, run_F (s := [.fz (.int n), .fz (.lst (di r)), .fz (.int m), .no, .no]) rfl, m__law_levels]
  simp only [ev_V0, dec_T, dec_F, ev_VS, set_0, set_S, get_0, get_S, hd_nil, hd_cons, hid_fz, hid_no, hid_ow, hid_ob, if_t, if_f, if_T, if_F, not_t, not_f, ev_C, ev_1, ev_2, ev_A, ev_nil, ev_cons, ev_T, ev_B, ev_And, ev_Or, ev_Not, ev_Yes, ev_If, ev_AndV, ev_OrV, ev_H, ev_Seq, then_nx, then_rt, then_er, ev_Nx, ev_Ret, ev_Set, ev_Ex, ev_SIf, ev_Rz1, ev_Rz0, bd_ok, bd_er, on_ok, on_er, d_tru_bl, d_add, d_sub, d_lt, d_le, d_gt, d_ge, d_neg, d_eqI, d_neI, d_lenT, d_lenL, d_one, d_int, d_tupL, d_tupT, d_itT, d_itL, d_inT, d_notInT, d_max2, d_min2, en_nx, en_rt, en_er, wipe_nil', wipe_cons', mb_ok, ev_sOwn, ev_sApp, ev_sExt, ev_sRev, ev_sIxS, ev_sAug, ev_sTup, ev_sFrz, frz_ow, frz_fz, frz_ob, frz_no, ev_mHN, only_l, only_er, ev_sFor, ev_sRetN, ev_mL, ev_mLB, ld_nil, ld_cons, ld_fz, ld_no, ld_ow, ld_ob, okF_int, okF_bl, okF_str, okF_non, okF_tup, okFs_di, ev_meth, ev_mIsN, ev_mIsNotN, isN_non, isN_int, isN_tup, isN_lst, isN_obj, isN_bl, isN_str, d_not_bl, d_en_t, d_en_l, d_zip_t, d_zip_l, d_list_l, d_list_t, d_absI, turn_nm, turn_tp2, turn_tp3, turn_tp4, tE_nm, tE_tp2, tE_tp3, ix_t0, ix_t1, ix_t2, ix_t3, ix_l0, ix_l1, ix_l2, ix_l3, d_tu0, d_tu1, d_tu2, d_tu3, d_tu4, d_ls0, d_ls1, d_ls2, d_ls3, d_ls4, then_br, then_ct, List.length_cons, List.length_nil, Nat.reduceAdd, Nat.reduceLT, Bool.false_eq_true, Bool.true_eq_false, loopL_nil, ev_mSl, pt_none, pt_some, sl_t, sl_l, cut_m1, cut_hi, cut_lo, di_take, di_drop, di_dropLast, d_all1, List.length_map, Int.natCast_zero, Int.reduceLE, Int.reduceLT, Int.reduceEq, Int.reduceToNat, Int.reduceAdd, Int.reduceSub, Int.reduceMul, Int.reduceNeg, Nat.reduceSub, Nat.reduceMul, Nat.reduceLeDiff, Nat.reduceEqDiff, d_eqTI, d_neTI, d_eqLI, d_neLI, zip_cons, zip_nil, zip_nil2, rep_di, ev_sRetO, ev_sRetF, then_rtF, en_rtF, fF_rtF, fF_er, fF_nx, ev_mLN, opt_some, opt_none, isOb_fz, isOb_ow, isOb_no, isOb_opt, hid_opt, ld_opt, List.any_cons, List.any_nil, Bool.or_false, turn_tp13, turn_tp12, ev_sExt2, sq2_l, sq2_t, hid_pw, ld_pw, isOb_pw, ev_sIxP, c_levels h hr hm, hix, d_mod p0, hn, di_set]
  rfl
theorem lv_len (r : List Int) (n : Nat) (m : Int) : (lvF r n m).length = n := by rw [lvF, List.length_set, lv0_len]
theorem lv_rg {r : List Int} {n : Nat} {m : Int} (hm : 0 < m + 1) : ∀ x ∈ lvF r n m, 0 ≤ x ∧ x ≤ m := fun y hy => by
  rcases List.mem_or_eq_of_mem_set hy with z | z
  · obtain ⟨k, _, rfl⟩ := List.mem_map.mp z
    have a := Int.emod_nonneg (r.getD k.toNat 0) (show m + 1 ≠ 0 by omega)
    have b := Int.emod_lt_of_pos (r.getD k.toNat 0) hm
    omega
  · rw [z]
    omega
theorem lv_min {n : Nat} {r : List Int} {m : Int} (h1 : 1 ≤ n) (hm : 0 < m + 1) : lmin (lvF r n m) = 0 := by
  have p0 : (0 : Int) < (n : Int) := by omega
  have q0 : 0 ≤ r.getD 8 0 % (n : Int) := Int.emod_nonneg _ (by omega)
  have q1 : r.getD 8 0 % (n : Int) < n := Int.emod_lt_of_pos _ p0
  refine lmin_eq ?_ fun y hy => (lv_rg hm y hy).1
  have : (r.getD 8 0 % (n : Int)).toNat < (lv0 r n m).length := by rw [lv0_len]; omega
  exact List.mem_of_getElem? (i := (r.getD 8 0 % (n : Int)).toNat) (by rw [lvF, List.getElem?_set_self this])
/-- the whole lot pushed changes nothing -/
theorem push_whole {lv : List Int} {a : Int} (h0 : lmin lv = 0) : lowF (walkF lv (puF (rng lv.length) a)) = lv := by
  have w : walkF lv (puF (rng lv.length) a) = lv := by
    apply List.ext_getElem?
    intro i
    by_cases hi : i < lv.length
    · obtain ⟨x, hx⟩ := get_lt hi
      rw [walk_get hx, hx]
      unfold puF
      rw [if_pos (mem_rng.mpr ⟨by omega, by omega⟩)]
    · rw [List.getElem?_eq_none (by rw [walk_len]; omega), List.getElem?_eq_none (by omega)]
  rw [w, lowF, h0]
  simp
theorem rng_lot (n : Nat) : IsLot n (rng n) := ⟨rng_sorted n, fun x hx => mem_rng.mp hx⟩


/-! ### more that several laws need -/
theorem sg_str {n : Nat} {s : Str} (h : SeqAt.shaped (.str s) = true) : sgood (n + 1) (.str s) = true := h
theorem sh_told : SeqAt.shaped (.str "told") = true := by first | rfl | decide +kernel
theorem sh_ref : SeqAt.shaped (.str "refused") = true := by first | rfl | decide +kernel
theorem sh_bad : SeqAt.shaped (.str "BadLot") = true := by first | rfl | decide +kernel
theorem sh_emp : SeqAt.shaped (.str "EmptyLot") = true := by first | rfl | decide +kernel
theorem sh_who : SeqAt.shaped (.str "WholeLot") = true := by first | rfl | decide +kernel
theorem sh_size : SeqAt.shaped (.str "BadSize") = true := by first | rfl | decide +kernel
theorem sh_many : SeqAt.shaped (.str "TooMany") = true := by first | rfl | decide +kernel
theorem noX_ref (d : D) (s : Str) (h : noX d = true) : noX (.tup [.str "refused", .str s, d]) = true := by
  show (noX (.str "refused") && (noX (.str s) && (noX d && noXs []))) = true
  rw [h] <;> rfl
theorem same_told (d : D) (h : sgood 5 d = true) : g__law_same 6 [.tup [.str "told", d], .tup [.str "told", d]] = .ok (.bl true) := same_good 6 _ (sg_t2 (sg_str sh_told) h)
theorem same_ref {s : Str} (d : D) (hs : SeqAt.shaped (.str s) = true) (h : sgood 5 d = true) : g__law_same 6 [.tup [.str "refused", .str s, d], .tup [.str "refused", .str s, d]] = .ok (.bl true) := same_good 6 _ (sg_t3 (sg_str sh_ref) (sg_str hs) h)
theorem tryF_ok {i : Nat} {yes : List (Str × Bool)} {mb ms : SM} {e : SEnv} {d : D} (h : mb e = .rt d) : endF (sTry i yes mb ms e) = .ok d := by
  rw [try_rt h]
  rfl
theorem tryF_er {i : Nat} {yes : List (Str × Bool)} {mb ms : SM} {e e2 : SEnv} {c : Str} {ns : List Str} {ds : List D} {d : D} (h : mb e = .er c ns ds e2) (hy : yes.lookup c = some true) (hm : ms (e2.set i (.fz (.exc c ns ds))) = .rt d) (hx : noX d = true) : endF (sTry i yes mb ms e) = .ok d := by
  rw [try_er h hy hm hx]
  rfl
/-- the law's lots of all worlds -/
theorem c_whole {c : EM} {i j : Nat} {n : Nat} {e : EnvD} (hc : c = mLc (.nm i) [i] (fun e => ((mCons (mV j) (mNil)) e).bd dRange1) mYes (mV i)) (h : n ≤ 8) (h2 : (wipeD e [i])[j]? = some (some (.int n)) ∧ e[j]? = some (some (.int n))) (hl : i < e.length) : c e = .ok (.lst (di (rng n))) := by
  rw [hc]
  refine ev_lcM (c := D.int) (rng n) D.int ?_ (by rw [len_rng]; exact small h) fun x hx => ?_
  · simp only [ev_V0, dec_T, dec_F, ev_VS, set_0, set_S, get_0, get_S, hd_nil, hd_cons, hid_fz, hid_no, hid_ow, hid_ob, if_t, if_f, if_T, if_F, not_t, not_f, ev_C, ev_1, ev_2, ev_A, ev_nil, ev_cons, ev_T, ev_B, ev_And, ev_Or, ev_Not, ev_Yes, ev_If, ev_AndV, ev_OrV, ev_H, ev_Seq, then_nx, then_rt, then_er, ev_Nx, ev_Ret, ev_Set, ev_Ex, ev_SIf, ev_Rz1, ev_Rz0, bd_ok, bd_er, on_ok, on_er, d_tru_bl, d_add, d_sub, d_lt, d_le, d_gt, d_ge, d_neg, d_eqI, d_neI, d_lenT, d_lenL, d_one, d_int, d_tupL, d_tupT, d_itT, d_itL, d_inT, d_notInT, d_max2, d_min2, en_nx, en_rt, en_er, wipe_nil', wipe_cons', mb_ok, ev_sOwn, ev_sApp, ev_sExt, ev_sRev, ev_sIxS, ev_sAug, ev_sTup, ev_sFrz, frz_ow, frz_fz, frz_ob, frz_no, ev_mHN, only_l, only_er, ev_sFor, ev_sRetN, ev_mL, ev_mLB, ld_nil, ld_cons, ld_fz, ld_no, ld_ow, ld_ob, okF_int, okF_bl, okF_str, okF_non, okF_tup, okFs_di, ev_meth, ev_mIsN, ev_mIsNotN, isN_non, isN_int, isN_tup, isN_lst, isN_obj, isN_bl, isN_str, d_not_bl, d_en_t, d_en_l, d_zip_t, d_zip_l, d_list_l, d_list_t, d_absI, turn_nm, turn_tp2, turn_tp3, turn_tp4, tE_nm, tE_tp2, tE_tp3, ix_t0, ix_t1, ix_t2, ix_t3, ix_l0, ix_l1, ix_l2, ix_l3, d_tu0, d_tu1, d_tu2, d_tu3, d_tu4, d_ls0, d_ls1, d_ls2, d_ls3, d_ls4, then_br, then_ct, List.length_cons, List.length_nil, Nat.reduceAdd, Nat.reduceLT, Bool.false_eq_true, Bool.true_eq_false, loopL_nil, ev_mSl, pt_none, pt_some, sl_t, sl_l, cut_m1, cut_hi, cut_lo, di_take, di_drop, di_dropLast, d_all1, List.length_map, Int.natCast_zero, Int.reduceLE, Int.reduceLT, Int.reduceEq, Int.reduceToNat, Int.reduceAdd, Int.reduceSub, Int.reduceMul, Int.reduceNeg, Nat.reduceSub, Nat.reduceMul, Nat.reduceLeDiff, Nat.reduceEqDiff, d_eqTI, d_neTI, d_eqLI, d_neLI, zip_cons, zip_nil, zip_nil2, rep_di, ev_sRetO, ev_sRetF, then_rtF, en_rtF, fF_rtF, fF_er, fF_nx, ev_mLN, opt_some, opt_none, isOb_fz, isOb_ow, isOb_no, isOb_opt, hid_opt, ld_opt, List.any_cons, List.any_nil, Bool.or_false, turn_tp13, turn_tp12, ev_sExt2, sq2_l, sq2_t, hid_pw, ld_pw, isOb_pw, ev_sIxP, ev_V h2.2]
    exact d_rng _ (by omega)
  · simp only [tE_nm]
    exact ev_V (by rw [List.getElem?_set_self (by simpa [wipeD] using hl)])
theorem pos_row {r : List Int} (hp : ∀ x ∈ r, 0 ≤ x) (k : Nat) : 0 ≤ r.getD k 0 := by
  by_cases h : k < r.length
  · obtain ⟨x, hx⟩ := get_lt h
    rw [getD_some hx]
    exact hp x (List.mem_of_getElem? hx)
  · rw [List.getD_eq_getElem?_getD, List.getElem?_eq_none (by omega)]
    exact Int.le_refl 0
theorem drop_lot {n : Nat} {a : List Int} (A : IsLot n a) : IsLot n a.dropLast := ⟨A.so.sublist (List.dropLast_sublist _), fun x hx => A.rg x ((List.dropLast_sublist _).mem hx)⟩
theorem lot_le {n : Nat} {a : List Int} (A : IsLot n a) : a.length ≤ n := by
  rcases sorted_len 0 n a A.so A.rg with z | z
  · omega
  · rw [z]
    exact Nat.zero_le _
theorem drop_lt {n : Nat} {a : List Int} (A : IsLot n a) (h : 1 ≤ n) : a.dropLast.length < n := by
  have := lot_le A
  rw [List.length_dropLast]
  omega
theorem add_far {l : List Int} {n : Nat} (h : l.length ≤ 1000) : dAdd (.tup (di l)) (.tup [.int (n : Nat)]) = .ok (.tup (di (l ++ [(n : Int)]))) := by
  rw [add_tt (by rw [List.length_map]; show l.length + 1 ≤ 16777216; omega), ← di_append]
  rfl
theorem sel_ge {lv : List Int} {n : Nat} {s : List Int} (S : IsLot n s) (hn : lv.length = n) {x : Int} (hx : x ∈ s) : 0 ≤ x ∧ x < (lv.length : Nat) := by
  have := S.rg x hx
  omega
abbrev absI (i : Int) : Int := if i < 0 then -i else i
/-- a lot of some worlds, not of all -/
structure IsNews (n : Nat) (l : List Int) : Prop where
  L : IsLot n l
  ne : l ≠ []
  nw : l.length ≠ n

theorem lot_sub {n : Nat} {a : List Int} {p : Int → Bool} (L : IsLot n a) : IsLot n (a.filter p) := ⟨L.so.sublist List.filter_sublist, fun x hx => L.rg x (List.mem_filter.mp hx).1⟩
theorem lot_ext {n : Nat} {x y : List Int} (X : IsLot n x) (Y : IsLot n y) (h : ∀ z, z ∈ x ↔ z ∈ y) : x = y := by
  have key : ∀ (x y : List Int), x.Pairwise (· < ·) → y.Pairwise (· < ·) → (∀ z, z ∈ x ↔ z ∈ y) → x = y := fun x => by
    induction x with
    | nil =>
      intro y _ _ h
      cases y with
      | nil => rfl
      | cons b y => exact absurd ((h b).mpr List.mem_cons_self) (by simp)
    | cons a x ih =>
      intro y hx hy h
      cases y with
      | nil => exact absurd ((h a).mp List.mem_cons_self) (by simp)
      | cons b y =>
        rw [List.pairwise_cons] at hx hy
        have e : a = b := by
          rcases List.mem_cons.mp ((h a).mp List.mem_cons_self) with z | z
          · exact z
          · rcases List.mem_cons.mp ((h b).mpr List.mem_cons_self) with q | q
            · exact q.symm
            · have := hx.1 b q
              have := hy.1 a z
              omega
        subst e
        rw [ih y hx.2 hy.2 fun z => ?_]
        constructor
        · intro hz
          rcases List.mem_cons.mp ((h z).mp (List.mem_cons_of_mem _ hz)) with q | q
          · have := hx.1 z hz
            omega
          · exact q
        · intro hz
          rcases List.mem_cons.mp ((h z).mpr (List.mem_cons_of_mem _ hz)) with q | q
          · have := hy.1 z hz
            omega
          · exact q
  exact key x y X.so Y.so h
theorem due_get {lv a : List Int} {f : Int} {k : Nat} {x : Int} (h : lv[k]? = some x) : (dueF lv a f)[k]? = some (if (k : Int) ∈ a then x - (lmin (sel lv a) - mx0 (-f)) else x - (lmin (sel lv (restF lv.length a)) - mx0 f)) := by
  unfold dueF
  rw [walk_get h]
  rfl
theorem sel_rg {lv s : List Int} {m : Int} (S : IsLot lv.length s) (ne : s ≠ []) (hl : ∀ x ∈ lv, 0 ≤ x ∧ x ≤ m) : 0 ≤ lmin (sel lv s) ∧ lmin (sel lv s) ≤ m ∧ lmin (sel lv s) ≤ lmax lv := by
  obtain ⟨w, hw, e⟩ := List.mem_map.mp (lmin_mem (sel_ne (lv := lv) ne))
  obtain ⟨k, rfl, hk, g⟩ := get_sel S rfl hw
  have e2 : lv.getD (k : Int).toNat 0 = lmin (sel lv s) := e
  rw [show (k : Int).toNat = k by omega] at e2
  rw [e2] at g
  have mm := List.mem_of_getElem? g
  exact ⟨(hl _ mm).1, (hl _ mm).2, le_lmax mm⟩

end T

end
section
set_option Elab.async false
set_option linter.all false
set_option maxRecDepth 100000
set_option maxHeartbeats 1000000
namespace T
open PySem PySem.Spec L2 DL
open PyProof.Rows hiding St
section
variable {β τ : Type} {T : Tg} {body : SM} {c : β → D}
theorem loop_appX {N : Nat} {E : List D → τ → SEnv} (g : β → List D) (u : β → τ) : ∀ (as : List β) (acc : List D) (t0 : τ), (acc ++ as.flatMap g).length < N →
    (∀ b ∈ as, ∀ acc t, acc.length < N → turn T body (c b) (E acc t) = .nx (E (acc ++ g b) (u b)) ∨ turn T body (c b) (E acc t) = .ct (E (acc ++ g b) (u b))) → ∃ t, loopL T body (as.map c) (E acc t0) = .nx (E (acc ++ as.flatMap g) t)
  | [], acc, t0, _, _ => ⟨t0, by simp [loopL_nil]⟩
  | b :: as, acc, t0, hz, h => by
    have e : acc ++ (b :: as).flatMap g = (acc ++ g b) ++ as.flatMap g := by simp
    have z := h b List.mem_cons_self acc t0 (by rw [e, List.length_append, List.length_append] at hz; omega)
    obtain ⟨t, ih⟩ := loop_appX (E := E) g u as (acc ++ g b) (u b) (by rw [← e]; exact hz) fun b hb => h b (List.mem_cons_of_mem _ hb)
    refine ⟨t, ?_⟩
    rw [List.map_cons, loopL_cons, e, ← ih]
    rcases z with z | z <;> rw [z]
end

theorem lot_mono {n m : Nat} {l : List Int} (h : n ≤ m) (L : IsLot n l) : IsLot m l := ⟨L.so, fun x hx => by have := L.rg x hx; omega⟩
def nearF (v lot : List Int) : List Int := lot.filter fun w => decide (v.getD w.toNat 0 = lmin (sel v lot))
def pows : List Int := [1, 2, 4, 8, 16, 32, 64, 128]
theorem pow_pos : ∀ k : Nat, k < 8 → 0 < pows.getD k 0 ∧ pows.getD k 0 < 1073741824 := by decide
theorem lot_one {n : Nat} {x : Int} (h : 0 ≤ x ∧ x < n) : IsLot n [x] := ⟨List.pairwise_singleton _ _, fun y hy => by rw [List.mem_singleton] at hy; subst hy; exact h⟩
theorem nz {l : List Int} (h : l ≠ []) : ¬ ((l.length : Nat) : Int) = 0 := by have := List.length_pos_iff.mpr h; omega

end T

end
section
set_option Elab.async false
set_option linter.all false
set_option maxRecDepth 100000
set_option maxHeartbeats 1000000
namespace T
open PySem PySem.Spec L2 DL
open PyProof.Rows hiding St
/-! ### places in a list -/
def idxI (x : Int) : List Int → Nat
  | [] => 0
  | y :: l => if y = x then 0 else idxI x l + 1
theorem idx_di {x : Int} : ∀ {l : List Int}, x ∈ l → idxD (.int x) (di l) = some (idxI x l)
  | [], h => by cases h
  | y :: l, h => by
    show (if eqV (valD (.int y)) (valD (.int x)) = true then some 0 else (idxD (.int x) (di l)).map (· + 1)) = _
    have e : eqV (valD (.int y)) (valD (.int x)) = (y == x) := rfl
    rw [e]
    unfold idxI
    by_cases c : y = x
    · rw [if_pos c, if_pos (by simpa using c)]
    · rw [if_neg c, if_neg (by simpa using c), idx_di (by
        rcases List.mem_cons.mp h with z | z
        · exact absurd z.symm c
        · exact z)]
      rfl
theorem idx_lt {x : Int} : ∀ {l : List Int}, x ∈ l → idxI x l < l.length
  | [], h => by cases h
  | y :: l, h => by
    unfold idxI
    split
    · exact Nat.zero_lt_succ _
    · rename_i c
      have := idx_lt (l := l) (by
        rcases List.mem_cons.mp h with z | z
        · exact absurd z.symm c
        · exact z)
      rw [List.length_cons]
      omega
theorem d_idx {x : Int} {l : List Int} (h : x ∈ l) : dIndex (.lst (di l)) (.int x) = .ok (.int (idxI x l : Nat)) := by
  have e : dIndex (.lst (di l)) (.int x) = if flatD (.int x) = true ∧ (di l).all flatD = true then (match idxD (.int x) (di l) with
    | some j => R.ok (.int (j : Nat))
    | none => .bad) else .bad := rfl
  rw [e, if_pos ⟨rfl, flat_di l⟩, idx_di h]
theorem asL_l (ds : List D) : asL (.lst ds) = .ok (.lst ds) := rfl
theorem sortSet_t {v : List Int} (h : v.length < 60) : dSortSet (.tup (di v)) = .ok (.lst (di (sortU v))) := by
  show (match intsD (di v) with
    | some ns => if ns.length < 60 then R.ok (D.lst ((sortU ns).map D.int)) else .bad
    | none => .bad) = _
  rw [ints_di]
  simp only
  rw [if_pos h]
theorem sortSet_l {v : List Int} (h : v.length < 60) : dSortSet (.lst (di v)) = .ok (.lst (di (sortU v))) := by
  show (match intsD (di v) with
    | some ns => if ns.length < 60 then R.ok (D.lst ((sortU ns).map D.int)) else .bad
    | none => .bad) = _
  rw [ints_di]
  simp only
  rw [if_pos h]

theorem di_walk (lv : List Int) (f : Nat → Int → Int) : di (walkF lv f) = lv.zipIdx.map fun p => .int (f p.2 p.1) := by
  unfold walkF
  rw [di, List.map_map]
  rfl
def atF (v : List Int) (m : Int) : List Int := (rng v.length).filter fun w => decide (v.getD w.toNat 0 = m)
theorem at_lot (v : List Int) (m : Int) : IsLot v.length (atF v m) := lot_sub (rng_lot _)
theorem mem_at {v : List Int} {m x : Int} : x ∈ atF v m ↔ (0 ≤ x ∧ x < (v.length : Nat)) ∧ v.getD x.toNat 0 = m := by
  unfold atF
  rw [List.mem_filter, mem_rng, decide_eq_true_iff]
theorem zip_rangeI (lv : List Int) : lv.zipIdx = (List.range lv.length).map fun k => (lv.getD k 0, k) := by
  apply List.ext_getElem?
  intro i
  rw [List.getElem?_zipIdx, List.getElem?_map]
  by_cases h : i < lv.length
  · obtain ⟨x, hx⟩ := get_lt h
    rw [hx, List.getElem?_range h]
    show some (x, 0 + i) = some (lv.getD i 0, i)
    rw [getD_some hx, Nat.zero_add]
  · rw [List.getElem?_eq_none (by omega), List.getElem?_eq_none (by rw [List.length_range]; omega)]
    rfl
theorem at_zip (v : List Int) : ((v.zipIdx.filter fun p => decide (p.1 = 0)).map fun p => D.int (p.2 : Nat)) = di (atF v 0) := by
  rw [zip_rangeI, List.filter_map, List.map_map]
  unfold atF rng di
  rw [List.filter_map, List.map_map]
  rfl
theorem e_numBel {v : List Int} (h8 : v.length ≤ 8) : g_Numbers_believed [num v] = .ok (.tup (di (atF v 0))) := by
  have f1 : dFld ["Numbers"] "levels" (num v) = .ok (.tup (di v)) := rfl
  have k1 : c_Numbers_believed_1 [some (num v), none, none] = .ok (.lst (di (atF v 0))) := by
    rw [c_Numbers_believed_1, ← at_zip]
    refine ev_lcT (c := fun p : Int × Nat => .tup [.int (p.2 : Nat), .int p.1]) v.zipIdx (fun p => decide (p.1 = 0)) _ ?_ (by rw [List.length_zipIdx]; exact small h8) (fun p hp => ?_) fun p hp _ => ?_
    · simp only [ev_V0, dec_T, dec_F, ev_VS, set_0, set_S, get_0, get_S, hd_nil, hd_cons, hid_fz, hid_no, hid_ow, hid_ob, if_t, if_f, if_T, if_F, not_t, not_f, ev_C, ev_1, ev_2, ev_A, ev_nil, ev_cons, ev_T, ev_B, ev_And, ev_Or, ev_Not, ev_Yes, ev_If, ev_AndV, ev_OrV, ev_H, ev_Seq, then_nx, then_rt, then_er, ev_Nx, ev_Ret, ev_Set, ev_Ex, ev_SIf, ev_Rz1, ev_Rz0, bd_ok, bd_er, on_ok, on_er, d_tru_bl, d_add, d_sub, d_lt, d_le, d_gt, d_ge, d_neg, d_eqI, d_neI, d_lenT, d_lenL, d_one, d_int, d_tupL, d_tupT, d_itT, d_itL, d_inT, d_notInT, d_max2, d_min2, en_nx, en_rt, en_er, wipe_nil', wipe_cons', mb_ok, ev_sOwn, ev_sApp, ev_sExt, ev_sRev, ev_sIxS, ev_sAug, ev_sTup, ev_sFrz, frz_ow, frz_fz, frz_ob, frz_no, ev_mHN, only_l, only_er, ev_sFor, ev_sRetN, ev_mL, ev_mLB, ld_nil, ld_cons, ld_fz, ld_no, ld_ow, ld_ob, okF_int, okF_bl, okF_str, okF_non, okF_tup, okFs_di, ev_meth, ev_mIsN, ev_mIsNotN, isN_non, isN_int, isN_tup, isN_lst, isN_obj, isN_bl, isN_str, d_not_bl, d_en_t, d_en_l, d_zip_t, d_zip_l, d_list_l, d_list_t, d_absI, turn_nm, turn_tp2, turn_tp3, turn_tp4, tE_nm, tE_tp2, tE_tp3, ix_t0, ix_t1, ix_t2, ix_t3, ix_l0, ix_l1, ix_l2, ix_l3, d_tu0, d_tu1, d_tu2, d_tu3, d_tu4, d_ls0, d_ls1, d_ls2, d_ls3, d_ls4, then_br, then_ct, List.length_cons, List.length_nil, Nat.reduceAdd, Nat.reduceLT, Bool.false_eq_true, Bool.true_eq_false, loopL_nil, ev_mSl, pt_none, pt_some, sl_t, sl_l, cut_m1, cut_hi, cut_lo, di_take, di_drop, di_dropLast, d_all1, List.length_map, Int.natCast_zero, Int.reduceLE, Int.reduceLT, Int.reduceEq, Int.reduceToNat, Int.reduceAdd, Int.reduceSub, Int.reduceMul, Int.reduceNeg, Nat.reduceSub, Nat.reduceMul, Nat.reduceLeDiff, Nat.reduceEqDiff, d_eqTI, d_neTI, d_eqLI, d_neLI, zip_cons, zip_nil, zip_nil2, rep_di, ev_sRetO, ev_sRetF, then_rtF, en_rtF, fF_rtF, fF_er, fF_nx, ev_mLN, opt_some, opt_none, isOb_fz, isOb_ow, isOb_no, isOb_opt, hid_opt, ld_opt, List.any_cons, List.any_nil, Bool.or_false, turn_tp13, turn_tp12, ev_sExt2, sq2_l, sq2_t, hid_pw, ld_pw, isOb_pw, ev_sIxP, f1]
      rw [en_di]
    · simp only [ev_V0, dec_T, dec_F, ev_VS, set_0, set_S, get_0, get_S, hd_nil, hd_cons, hid_fz, hid_no, hid_ow, hid_ob, if_t, if_f, if_T, if_F, not_t, not_f, ev_C, ev_1, ev_2, ev_A, ev_nil, ev_cons, ev_T, ev_B, ev_And, ev_Or, ev_Not, ev_Yes, ev_If, ev_AndV, ev_OrV, ev_H, ev_Seq, then_nx, then_rt, then_er, ev_Nx, ev_Ret, ev_Set, ev_Ex, ev_SIf, ev_Rz1, ev_Rz0, bd_ok, bd_er, on_ok, on_er, d_tru_bl, d_add, d_sub, d_lt, d_le, d_gt, d_ge, d_neg, d_eqI, d_neI, d_lenT, d_lenL, d_one, d_int, d_tupL, d_tupT, d_itT, d_itL, d_inT, d_notInT, d_max2, d_min2, en_nx, en_rt, en_er, wipe_nil', wipe_cons', mb_ok, ev_sOwn, ev_sApp, ev_sExt, ev_sRev, ev_sIxS, ev_sAug, ev_sTup, ev_sFrz, frz_ow, frz_fz, frz_ob, frz_no, ev_mHN, only_l, only_er, ev_sFor, ev_sRetN, ev_mL, ev_mLB, ld_nil, ld_cons, ld_fz, ld_no, ld_ow, ld_ob, okF_int, okF_bl, okF_str, okF_non, okF_tup, okFs_di, ev_meth, ev_mIsN, ev_mIsNotN, isN_non, isN_int, isN_tup, isN_lst, isN_obj, isN_bl, isN_str, d_not_bl, d_en_t, d_en_l, d_zip_t, d_zip_l, d_list_l, d_list_t, d_absI, turn_nm, turn_tp2, turn_tp3, turn_tp4, tE_nm, tE_tp2, tE_tp3, ix_t0, ix_t1, ix_t2, ix_t3, ix_l0, ix_l1, ix_l2, ix_l3, d_tu0, d_tu1, d_tu2, d_tu3, d_tu4, d_ls0, d_ls1, d_ls2, d_ls3, d_ls4, then_br, then_ct, List.length_cons, List.length_nil, Nat.reduceAdd, Nat.reduceLT, Bool.false_eq_true, Bool.true_eq_false, loopL_nil, ev_mSl, pt_none, pt_some, sl_t, sl_l, cut_m1, cut_hi, cut_lo, di_take, di_drop, di_dropLast, d_all1, List.length_map, Int.natCast_zero, Int.reduceLE, Int.reduceLT, Int.reduceEq, Int.reduceToNat, Int.reduceAdd, Int.reduceSub, Int.reduceMul, Int.reduceNeg, Nat.reduceSub, Nat.reduceMul, Nat.reduceLeDiff, Nat.reduceEqDiff, d_eqTI, d_neTI, d_eqLI, d_neLI, zip_cons, zip_nil, zip_nil2, rep_di, ev_sRetO, ev_sRetF, then_rtF, en_rtF, fF_rtF, fF_er, fF_nx, ev_mLN, opt_some, opt_none, isOb_fz, isOb_ow, isOb_no, isOb_opt, hid_opt, ld_opt, List.any_cons, List.any_nil, Bool.or_false, turn_tp13, turn_tp12, ev_sExt2, sq2_l, sq2_t, hid_pw, ld_pw, isOb_pw, ev_sIxP]
    · simp only [ev_V0, dec_T, dec_F, ev_VS, set_0, set_S, get_0, get_S, hd_nil, hd_cons, hid_fz, hid_no, hid_ow, hid_ob, if_t, if_f, if_T, if_F, not_t, not_f, ev_C, ev_1, ev_2, ev_A, ev_nil, ev_cons, ev_T, ev_B, ev_And, ev_Or, ev_Not, ev_Yes, ev_If, ev_AndV, ev_OrV, ev_H, ev_Seq, then_nx, then_rt, then_er, ev_Nx, ev_Ret, ev_Set, ev_Ex, ev_SIf, ev_Rz1, ev_Rz0, bd_ok, bd_er, on_ok, on_er, d_tru_bl, d_add, d_sub, d_lt, d_le, d_gt, d_ge, d_neg, d_eqI, d_neI, d_lenT, d_lenL, d_one, d_int, d_tupL, d_tupT, d_itT, d_itL, d_inT, d_notInT, d_max2, d_min2, en_nx, en_rt, en_er, wipe_nil', wipe_cons', mb_ok, ev_sOwn, ev_sApp, ev_sExt, ev_sRev, ev_sIxS, ev_sAug, ev_sTup, ev_sFrz, frz_ow, frz_fz, frz_ob, frz_no, ev_mHN, only_l, only_er, ev_sFor, ev_sRetN, ev_mL, ev_mLB, ld_nil, ld_cons, ld_fz, ld_no, ld_ow, ld_ob, okF_int, okF_bl, okF_str, okF_non, okF_tup, okFs_di, ev_meth, ev_mIsN, ev_mIsNotN, isN_non, isN_int, isN_tup, isN_lst, isN_obj, isN_bl, isN_str, d_not_bl, d_en_t, d_en_l, d_zip_t, d_zip_l, d_list_l, d_list_t, d_absI, turn_nm, turn_tp2, turn_tp3, turn_tp4, tE_nm, tE_tp2, tE_tp3, ix_t0, ix_t1, ix_t2, ix_t3, ix_l0, ix_l1, ix_l2, ix_l3, d_tu0, d_tu1, d_tu2, d_tu3, d_tu4, d_ls0, d_ls1, d_ls2, d_ls3, d_ls4, then_br, then_ct, List.length_cons, List.length_nil, Nat.reduceAdd, Nat.reduceLT, Bool.false_eq_true, Bool.true_eq_false, loopL_nil, ev_mSl, pt_none, pt_some, sl_t, sl_l, cut_m1, cut_hi, cut_lo, di_take, di_drop, di_dropLast, d_all1, List.length_map, Int.natCast_zero, Int.reduceLE, Int.reduceLT, Int.reduceEq, Int.reduceToNat, Int.reduceAdd, Int.reduceSub, Int.reduceMul, Int.reduceNeg, Nat.reduceSub, Nat.reduceMul, Nat.reduceLeDiff, Nat.reduceEqDiff, d_eqTI, d_neTI, d_eqLI, d_neLI, zip_cons, zip_nil, zip_nil2, rep_di, ev_sRetO, ev_sRetF, then_rtF, en_rtF, fF_rtF, fF_er, fF_nx, ev_mLN, opt_some, opt_none, isOb_fz, isOb_ow, isOb_no, isOb_opt, hid_opt, ld_opt, List.any_cons, List.any_nil, Bool.or_false, turn_tp13, turn_tp12, ev_sExt2, sq2_l, sq2_t, hid_pw, ld_pw, isOb_pw, ev_sIxP]
  rw [g_Numbers_believed, run_F (s := [.fz (num v), .no, .no]) rfl, m_Numbers_believed]
  simp only [ev_V0, dec_T, dec_F, ev_VS, set_0, set_S, get_0, get_S, hd_nil, hd_cons, hid_fz, hid_no, hid_ow, hid_ob, if_t, if_f, if_T, if_F, not_t, not_f, ev_C, ev_1, ev_2, ev_A, ev_nil, ev_cons, ev_T, ev_B, ev_And, ev_Or, ev_Not, ev_Yes, ev_If, ev_AndV, ev_OrV, ev_H, ev_Seq, then_nx, then_rt, then_er, ev_Nx, ev_Ret, ev_Set, ev_Ex, ev_SIf, ev_Rz1, ev_Rz0, bd_ok, bd_er, on_ok, on_er, d_tru_bl, d_add, d_sub, d_lt, d_le, d_gt, d_ge, d_neg, d_eqI, d_neI, d_lenT, d_lenL, d_one, d_int, d_tupL, d_tupT, d_itT, d_itL, d_inT, d_notInT, d_max2, d_min2, en_nx, en_rt, en_er, wipe_nil', wipe_cons', mb_ok, ev_sOwn, ev_sApp, ev_sExt, ev_sRev, ev_sIxS, ev_sAug, ev_sTup, ev_sFrz, frz_ow, frz_fz, frz_ob, frz_no, ev_mHN, only_l, only_er, ev_sFor, ev_sRetN, ev_mL, ev_mLB, ld_nil, ld_cons, ld_fz, ld_no, ld_ow, ld_ob, okF_int, okF_bl, okF_str, okF_non, okF_tup, okFs_di, ev_meth, ev_mIsN, ev_mIsNotN, isN_non, isN_int, isN_tup, isN_lst, isN_obj, isN_bl, isN_str, d_not_bl, d_en_t, d_en_l, d_zip_t, d_zip_l, d_list_l, d_list_t, d_absI, turn_nm, turn_tp2, turn_tp3, turn_tp4, tE_nm, tE_tp2, tE_tp3, ix_t0, ix_t1, ix_t2, ix_t3, ix_l0, ix_l1, ix_l2, ix_l3, d_tu0, d_tu1, d_tu2, d_tu3, d_tu4, d_ls0, d_ls1, d_ls2, d_ls3, d_ls4, then_br, then_ct, List.length_cons, List.length_nil, Nat.reduceAdd, Nat.reduceLT, Bool.false_eq_true, Bool.true_eq_false, loopL_nil, ev_mSl, pt_none, pt_some, sl_t, sl_l, cut_m1, cut_hi, cut_lo, di_take, di_drop, di_dropLast, d_all1, List.length_map, Int.natCast_zero, Int.reduceLE, Int.reduceLT, Int.reduceEq, Int.reduceToNat, Int.reduceAdd, Int.reduceSub, Int.reduceMul, Int.reduceNeg, Nat.reduceSub, Nat.reduceMul, Nat.reduceLeDiff, Nat.reduceEqDiff, d_eqTI, d_neTI, d_eqLI, d_neLI, zip_cons, zip_nil, zip_nil2, rep_di, ev_sRetO, ev_sRetF, then_rtF, en_rtF, fF_rtF, fF_er, fF_nx, ev_mLN, opt_some, opt_none, isOb_fz, isOb_ow, isOb_no, isOb_opt, hid_opt, ld_opt, List.any_cons, List.any_nil, Bool.or_false, turn_tp13, turn_tp12, ev_sExt2, sq2_l, sq2_t, hid_pw, ld_pw, isOb_pw, ev_sIxP, k1]
/-! ### giving up: what the numbers become -/
structure Lev (n : Nat) (v : List Int) : Prop where
  len : v.length = n
  mn : lmin v = 0
theorem Lev.pos {n : Nat} {v : List Int} (V : Lev n v) {x : Int} (h : x ∈ v) : 0 ≤ x := by
  have := lmin_le h
  rw [V.mn] at this
  exact this
theorem sel_mem {v lot : List Int} {n : Nat} (L : IsLot n lot) (hn : v.length = n) (ne : lot ≠ []) : lmin (sel v lot) ∈ v := by
  obtain ⟨w, hw, e⟩ := List.mem_map.mp (lmin_mem (sel_ne (lv := v) ne))
  obtain ⟨k, rfl, hk, hg⟩ := get_sel L hn hw
  have e : v.getD ((k : Nat) : Int).toNat 0 = lmin (sel v lot) := e
  rw [show ((k : Nat) : Int).toNat = k by omega] at e
  rw [← e]
  exact List.mem_of_getElem? hg
abbrev outL (v lot : List Int) : Int := lmin (sel v (restF v.length lot))
def gvF (v lot : List Int) : List Int := walkF v fun k x => if ((k : Nat) : Int) ∈ lot then x else x - outL v lot
theorem gv_len (v lot : List Int) : (gvF v lot).length = v.length := walk_len ..
theorem gv_get {v lot : List Int} {k : Nat} {x : Int} (h : v[k]? = some x) : (gvF v lot)[k]? = some (if ((k : Nat) : Int) ∈ lot then x else x - outL v lot) := walk_get h
theorem gv_min {n : Nat} {v lot : List Int} (V : Lev n v) (L : IsLot n lot) (nw : lot.length ≠ n) : lmin (gvF v lot) = 0 := by
  have hn := V.len
  subst hn
  have rn := len_filter_ne L nw
  obtain ⟨w, hw, e⟩ := List.mem_map.mp (lmin_mem (sel_ne (lv := v) rn))
  obtain ⟨k, rfl, hk, hg⟩ := get_sel rest_lot rfl hw
  have e : v.getD ((k : Nat) : Int).toNat 0 = outL v lot := e
  rw [show ((k : Nat) : Int).toNat = k by omega] at e
  rw [e] at hg
  have g := gv_get (lot := lot) hg
  rw [if_neg (mem_rest.mp hw).2] at g
  refine lmin_eq ?_ fun y hy => ?_
  · have := List.mem_of_getElem? g
    rwa [show outL v lot - outL v lot = 0 by omega] at this
  · obtain ⟨i, hi⟩ := List.getElem?_of_mem hy
    have hl := (List.getElem?_eq_some_iff.mp hi).1
    rw [gv_len] at hl
    obtain ⟨x, hx⟩ := get_lt hl
    rw [gv_get hx] at hi
    by_cases c : ((i : Nat) : Int) ∈ lot
    · rw [if_pos c] at hi
      cases hi
      exact V.pos (List.mem_of_getElem? hx)
    · rw [if_neg c] at hi
      cases hi
      have hr : ((i : Nat) : Int) ∈ restF v.length lot := mem_rest.mpr ⟨⟨by omega, by omega⟩, c⟩
      have : outL v lot ≤ x := lmin_le (List.mem_map.mpr ⟨_, hr, by rw [show ((i : Nat) : Int).toNat = i by omega, getD_some hx]⟩)
      omega
theorem gv_lev {n : Nat} {v lot : List Int} (V : Lev n v) (L : IsLot n lot) (nw : lot.length ≠ n) : Lev n (gvF v lot) := ⟨by rw [gv_len]; exact V.len, gv_min V L nw⟩
theorem e_give_up {v lot : List Int} (V : Lev v.length v) (h1 : 1 ≤ v.length) (h8 : v.length ≤ 8) (L : IsLot v.length lot) (nw : lot.length ≠ v.length) : g_give_up_lot [num v, .tup (di lot)] = .ok (num (gvF v lot)) := by
  have f1 : dFld ["Numbers"] "levels" (num v) = .ok (.tup (di v)) := rfl
  have f2 : dFld ["Numbers"] "size" (num v) = .ok (.int (v.length : Nat)) := rfl
  have rn := len_filter_ne L nw
  have c1 := e_check_lot h1 h8 L
  have c2 := e_rest_of (l := lot) h1 h8
  have c3 := e_level rest_lot rfl h1 h8 rn (e_check_full h1 h8 rest_lot rn)
  have pk : dPick "level" [("Numbers", g_Numbers_level)] (num v) = some g_Numbers_level := rfl
  have k1 : c_give_up_lot_1 [some (num v), some (.tup (di lot)), some (.tup (di (restF v.length lot))), some (.int (outL v lot)), none, none] = .ok (.lst (di (gvF v lot))) := by
    rw [c_give_up_lot_1, gvF, di_walk]
    refine ev_lcM (c := fun p : Int × Nat => .tup [.int (p.2 : Nat), .int p.1]) v.zipIdx _ ?_ (by rw [List.length_zipIdx]; exact small h8) fun p hp => ?_
    · simp only [ev_V0, dec_T, dec_F, ev_VS, set_0, set_S, get_0, get_S, hd_nil, hd_cons, hid_fz, hid_no, hid_ow, hid_ob, if_t, if_f, if_T, if_F, not_t, not_f, ev_C, ev_1, ev_2, ev_A, ev_nil, ev_cons, ev_T, ev_B, ev_And, ev_Or, ev_Not, ev_Yes, ev_If, ev_AndV, ev_OrV, ev_H, ev_Seq, then_nx, then_rt, then_er, ev_Nx, ev_Ret, ev_Set, ev_Ex, ev_SIf, ev_Rz1, ev_Rz0, bd_ok, bd_er, on_ok, on_er, d_tru_bl, d_add, d_sub, d_lt, d_le, d_gt, d_ge, d_neg, d_eqI, d_neI, d_lenT, d_lenL, d_one, d_int, d_tupL, d_tupT, d_itT, d_itL, d_inT, d_notInT, d_max2, d_min2, en_nx, en_rt, en_er, wipe_nil', wipe_cons', mb_ok, ev_sOwn, ev_sApp, ev_sExt, ev_sRev, ev_sIxS, ev_sAug, ev_sTup, ev_sFrz, frz_ow, frz_fz, frz_ob, frz_no, ev_mHN, only_l, only_er, ev_sFor, ev_sRetN, ev_mL, ev_mLB, ld_nil, ld_cons, ld_fz, ld_no, ld_ow, ld_ob, okF_int, okF_bl, okF_str, okF_non, okF_tup, okFs_di, ev_meth, ev_mIsN, ev_mIsNotN, isN_non, isN_int, isN_tup, isN_lst, isN_obj, isN_bl, isN_str, d_not_bl, d_en_t, d_en_l, d_zip_t, d_zip_l, d_list_l, d_list_t, d_absI, turn_nm, turn_tp2, turn_tp3, turn_tp4, tE_nm, tE_tp2, tE_tp3, ix_t0, ix_t1, ix_t2, ix_t3, ix_l0, ix_l1, ix_l2, ix_l3, d_tu0, d_tu1, d_tu2, d_tu3, d_tu4, d_ls0, d_ls1, d_ls2, d_ls3, d_ls4, then_br, then_ct, List.length_cons, List.length_nil, Nat.reduceAdd, Nat.reduceLT, Bool.false_eq_true, Bool.true_eq_false, loopL_nil, ev_mSl, pt_none, pt_some, sl_t, sl_l, cut_m1, cut_hi, cut_lo, di_take, di_drop, di_dropLast, d_all1, List.length_map, Int.natCast_zero, Int.reduceLE, Int.reduceLT, Int.reduceEq, Int.reduceToNat, Int.reduceAdd, Int.reduceSub, Int.reduceMul, Int.reduceNeg, Nat.reduceSub, Nat.reduceMul, Nat.reduceLeDiff, Nat.reduceEqDiff, d_eqTI, d_neTI, d_eqLI, d_neLI, zip_cons, zip_nil, zip_nil2, rep_di, ev_sRetO, ev_sRetF, then_rtF, en_rtF, fF_rtF, fF_er, fF_nx, ev_mLN, opt_some, opt_none, isOb_fz, isOb_ow, isOb_no, isOb_opt, hid_opt, ld_opt, List.any_cons, List.any_nil, Bool.or_false, turn_tp13, turn_tp12, ev_sExt2, sq2_l, sq2_t, hid_pw, ld_pw, isOb_pw, ev_sIxP, f1]
      rw [en_di]
    · by_cases c : ((p.2 : Nat) : Int) ∈ lot <;> simp only [ev_V0, dec_T, dec_F, ev_VS, set_0, set_S, get_0, get_S, hd_nil, hd_cons, hid_fz, hid_no, hid_ow, hid_ob, if_t, if_f, if_T, if_F, not_t, not_f, ev_C, ev_1, ev_2, ev_A, ev_nil, ev_cons, ev_T, ev_B, ev_And, ev_Or, ev_Not, ev_Yes, ev_If, ev_AndV, ev_OrV, ev_H, ev_Seq, then_nx, then_rt, then_er, ev_Nx, ev_Ret, ev_Set, ev_Ex, ev_SIf, ev_Rz1, ev_Rz0, bd_ok, bd_er, on_ok, on_er, d_tru_bl, d_add, d_sub, d_lt, d_le, d_gt, d_ge, d_neg, d_eqI, d_neI, d_lenT, d_lenL, d_one, d_int, d_tupL, d_tupT, d_itT, d_itL, d_inT, d_notInT, d_max2, d_min2, en_nx, en_rt, en_er, wipe_nil', wipe_cons', mb_ok, ev_sOwn, ev_sApp, ev_sExt, ev_sRev, ev_sIxS, ev_sAug, ev_sTup, ev_sFrz, frz_ow, frz_fz, frz_ob, frz_no, ev_mHN, only_l, only_er, ev_sFor, ev_sRetN, ev_mL, ev_mLB, ld_nil, ld_cons, ld_fz, ld_no, ld_ow, ld_ob, okF_int, okF_bl, okF_str, okF_non, okF_tup, okFs_di, ev_meth, ev_mIsN, ev_mIsNotN, isN_non, isN_int, isN_tup, isN_lst, isN_obj, isN_bl, isN_str, d_not_bl, d_en_t, d_en_l, d_zip_t, d_zip_l, d_list_l, d_list_t, d_absI, turn_nm, turn_tp2, turn_tp3, turn_tp4, tE_nm, tE_tp2, tE_tp3, ix_t0, ix_t1, ix_t2, ix_t3, ix_l0, ix_l1, ix_l2, ix_l3, d_tu0, d_tu1, d_tu2, d_tu3, d_tu4, d_ls0, d_ls1, d_ls2, d_ls3, d_ls4, then_br, then_ct, List.length_cons, List.length_nil, Nat.reduceAdd, Nat.reduceLT, Bool.false_eq_true, Bool.true_eq_false, loopL_nil, ev_mSl, pt_none, pt_some, sl_t, sl_l, cut_m1, cut_hi, cut_lo, di_take, di_drop, di_dropLast, d_all1, List.length_map, Int.natCast_zero, Int.reduceLE, Int.reduceLT, Int.reduceEq, Int.reduceToNat, Int.reduceAdd, Int.reduceSub, Int.reduceMul, Int.reduceNeg, Nat.reduceSub, Nat.reduceMul, Nat.reduceLeDiff, Nat.reduceEqDiff, d_eqTI, d_neTI, d_eqLI, d_neLI, zip_cons, zip_nil, zip_nil2, rep_di, ev_sRetO, ev_sRetF, then_rtF, en_rtF, fF_rtF, fF_er, fF_nx, ev_mLN, opt_some, opt_none, isOb_fz, isOb_ow, isOb_no, isOb_opt, hid_opt, ld_opt, List.any_cons, List.any_nil, Bool.or_false, turn_tp13, turn_tp12, ev_sExt2, sq2_l, sq2_t, hid_pw, ld_pw, isOb_pw, ev_sIxP, c, decide_true, decide_false]
  have i1 := e_init (lv := gvF v lot) (by rw [gv_len]; exact h1) (by rw [gv_len]; exact h8) (gv_min V L nw)
  rw [g_give_up_lot, run_F (s := [.fz (num v), .fz (.tup (di lot)), .no, .no, .no, .no]) rfl, m_give_up_lot]
  simp only [ev_V0, dec_T, dec_F, ev_VS, set_0, set_S, get_0, get_S, hd_nil, hd_cons, hid_fz, hid_no, hid_ow, hid_ob, if_t, if_f, if_T, if_F, not_t, not_f, ev_C, ev_1, ev_2, ev_A, ev_nil, ev_cons, ev_T, ev_B, ev_And, ev_Or, ev_Not, ev_Yes, ev_If, ev_AndV, ev_OrV, ev_H, ev_Seq, then_nx, then_rt, then_er, ev_Nx, ev_Ret, ev_Set, ev_Ex, ev_SIf, ev_Rz1, ev_Rz0, bd_ok, bd_er, on_ok, on_er, d_tru_bl, d_add, d_sub, d_lt, d_le, d_gt, d_ge, d_neg, d_eqI, d_neI, d_lenT, d_lenL, d_one, d_int, d_tupL, d_tupT, d_itT, d_itL, d_inT, d_notInT, d_max2, d_min2, en_nx, en_rt, en_er, wipe_nil', wipe_cons', mb_ok, ev_sOwn, ev_sApp, ev_sExt, ev_sRev, ev_sIxS, ev_sAug, ev_sTup, ev_sFrz, frz_ow, frz_fz, frz_ob, frz_no, ev_mHN, only_l, only_er, ev_sFor, ev_sRetN, ev_mL, ev_mLB, ld_nil, ld_cons, ld_fz, ld_no, ld_ow, ld_ob, okF_int, okF_bl, okF_str, okF_non, okF_tup, okFs_di, ev_meth, ev_mIsN, ev_mIsNotN, isN_non, isN_int, isN_tup, isN_lst, isN_obj, isN_bl, isN_str, d_not_bl, d_en_t, d_en_l, d_zip_t, d_zip_l, d_list_l, d_list_t, d_absI, turn_nm, turn_tp2, turn_tp3, turn_tp4, tE_nm, tE_tp2, tE_tp3, ix_t0, ix_t1, ix_t2, ix_t3, ix_l0, ix_l1, ix_l2, ix_l3, d_tu0, d_tu1, d_tu2, d_tu3, d_tu4, d_ls0, d_ls1, d_ls2, d_ls3, d_ls4, then_br, then_ct, List.length_cons, List.length_nil, Nat.reduceAdd, Nat.reduceLT, Bool.false_eq_true, Bool.true_eq_false, loopL_nil, ev_mSl, pt_none, pt_some, sl_t, sl_l, cut_m1, cut_hi, cut_lo, di_take, di_drop, di_dropLast, d_all1, List.length_map, Int.natCast_zero, Int.reduceLE, Int.reduceLT, Int.reduceEq, Int.reduceToNat, Int.reduceAdd, Int.reduceSub, Int.reduceMul, Int.reduceNeg, Nat.reduceSub, Nat.reduceMul, Nat.reduceLeDiff, Nat.reduceEqDiff, d_eqTI, d_neTI, d_eqLI, d_neLI, zip_cons, zip_nil, zip_nil2, rep_di, ev_sRetO, ev_sRetF, then_rtF, en_rtF, fF_rtF, fF_er, fF_nx, ev_mLN, opt_some, opt_none, isOb_fz, isOb_ow, isOb_no, isOb_opt, hid_opt, ld_opt, List.any_cons, List.any_nil, Bool.or_false, turn_tp13, turn_tp12, ev_sExt2, sq2_l, sq2_t, hid_pw, ld_pw, isOb_pw, ev_sIxP, f2, c1, c2, nz rn, decide_false, pk, c3, k1, i1]
structure Ok47 (n : Nat) (l : List Int) : Prop where
  L : IsLot n l
  nw : l.length ≠ n
abbrev tu (l : List Int) : D := .tup (di l)
theorem e_giveN {n : Nat} {v l : List Int} (V : Lev n v) (h1 : 1 ≤ n) (h8 : n ≤ 8) (K : Ok47 n l) : g_give_up_lot [num v, .tup (di l)] = .ok (num (gvF v l)) := by
  have hn := V.len
  subst hn
  exact e_give_up V h1 h8 K.L K.nw
theorem e_run {n : Nat} {v : List Int} {ls : List (List Int)} (V : Lev n v) (h1 : 1 ≤ n) (h8 : n ≤ 8) (hl : ls.length ≤ 20) (K : ∀ l ∈ ls, Ok47 n l) : g_run_givings [num v, .lst (ls.map tu)] = .ok (num (ls.foldl gvF v)) ∧ Lev n (ls.foldl gvF v) := by
  have q : ¬ 20 < ((ls.length : Nat) : Int) := by omega
  obtain ⟨t, lp, V2⟩ : ∃ t : Sl, l_run_givings_2 [.fz (num v), .fz (.lst (ls.map tu)), .no] = .nx [.fz (num (ls.foldl gvF v)), .fz (.lst (ls.map tu)), t] ∧ Lev n (ls.foldl gvF v) := by
    simp only [l_run_givings_2, ev_V0, dec_T, dec_F, ev_VS, set_0, set_S, get_0, get_S, hd_nil, hd_cons, hid_fz, hid_no, hid_ow, hid_ob, if_t, if_f, if_T, if_F, not_t, not_f, ev_C, ev_1, ev_2, ev_A, ev_nil, ev_cons, ev_T, ev_B, ev_And, ev_Or, ev_Not, ev_Yes, ev_If, ev_AndV, ev_OrV, ev_H, ev_Seq, then_nx, then_rt, then_er, ev_Nx, ev_Ret, ev_Set, ev_Ex, ev_SIf, ev_Rz1, ev_Rz0, bd_ok, bd_er, on_ok, on_er, d_tru_bl, d_add, d_sub, d_lt, d_le, d_gt, d_ge, d_neg, d_eqI, d_neI, d_lenT, d_lenL, d_one, d_int, d_tupL, d_tupT, d_itT, d_itL, d_inT, d_notInT, d_max2, d_min2, en_nx, en_rt, en_er, wipe_nil', wipe_cons', mb_ok, ev_sOwn, ev_sApp, ev_sExt, ev_sRev, ev_sIxS, ev_sAug, ev_sTup, ev_sFrz, frz_ow, frz_fz, frz_ob, frz_no, ev_mHN, only_l, only_er, ev_sFor, ev_sRetN, ev_mL, ev_mLB, ld_nil, ld_cons, ld_fz, ld_no, ld_ow, ld_ob, okF_int, okF_bl, okF_str, okF_non, okF_tup, okFs_di, ev_meth, ev_mIsN, ev_mIsNotN, isN_non, isN_int, isN_tup, isN_lst, isN_obj, isN_bl, isN_str, d_not_bl, d_en_t, d_en_l, d_zip_t, d_zip_l, d_list_l, d_list_t, d_absI, turn_nm, turn_tp2, turn_tp3, turn_tp4, tE_nm, tE_tp2, tE_tp3, ix_t0, ix_t1, ix_t2, ix_t3, ix_l0, ix_l1, ix_l2, ix_l3, d_tu0, d_tu1, d_tu2, d_tu3, d_tu4, d_ls0, d_ls1, d_ls2, d_ls3, d_ls4, then_br, then_ct, List.length_cons, List.length_nil, Nat.reduceAdd, Nat.reduceLT, Bool.false_eq_true, Bool.true_eq_false, loopL_nil, ev_mSl, pt_none, pt_some, sl_t, sl_l, cut_m1, cut_hi, cut_lo, di_take, di_drop, di_dropLast, d_all1, List.length_map, Int.natCast_zero, Int.reduceLE, Int.reduceLT, Int.reduceEq, Int.reduceToNat, Int.reduceAdd, Int.reduceSub, Int.reduceMul, Int.reduceNeg, Nat.reduceSub, Nat.reduceMul, Nat.reduceLeDiff, Nat.reduceEqDiff, d_eqTI, d_neTI, d_eqLI, d_neLI, zip_cons, zip_nil, zip_nil2, rep_di, ev_sRetO, ev_sRetF, then_rtF, en_rtF, fF_rtF, fF_er, fF_nx, ev_mLN, opt_some, opt_none, isOb_fz, isOb_ow, isOb_no, isOb_opt, hid_opt, ld_opt, List.any_cons, List.any_nil, Bool.or_false, turn_tp13, turn_tp12, ev_sExt2, sq2_l, sq2_t, hid_pw, ld_pw, isOb_pw, ev_sIxP]
    refine loop_fold (c := tu) (E := fun (a : List Int) (t : Sl) => [.fz (num a), .fz (.lst (ls.map tu)), t]) gvF (Lev n) ls v .no V fun b hb a t Va => ⟨gv_lev Va (K b hb).L (K b hb).nw, .fz (tu b), .inl ?_⟩
    simp only [b_run_givings_1, ev_V0, dec_T, dec_F, ev_VS, set_0, set_S, get_0, get_S, hd_nil, hd_cons, hid_fz, hid_no, hid_ow, hid_ob, if_t, if_f, if_T, if_F, not_t, not_f, ev_C, ev_1, ev_2, ev_A, ev_nil, ev_cons, ev_T, ev_B, ev_And, ev_Or, ev_Not, ev_Yes, ev_If, ev_AndV, ev_OrV, ev_H, ev_Seq, then_nx, then_rt, then_er, ev_Nx, ev_Ret, ev_Set, ev_Ex, ev_SIf, ev_Rz1, ev_Rz0, bd_ok, bd_er, on_ok, on_er, d_tru_bl, d_add, d_sub, d_lt, d_le, d_gt, d_ge, d_neg, d_eqI, d_neI, d_lenT, d_lenL, d_one, d_int, d_tupL, d_tupT, d_itT, d_itL, d_inT, d_notInT, d_max2, d_min2, en_nx, en_rt, en_er, wipe_nil', wipe_cons', mb_ok, ev_sOwn, ev_sApp, ev_sExt, ev_sRev, ev_sIxS, ev_sAug, ev_sTup, ev_sFrz, frz_ow, frz_fz, frz_ob, frz_no, ev_mHN, only_l, only_er, ev_sFor, ev_sRetN, ev_mL, ev_mLB, ld_nil, ld_cons, ld_fz, ld_no, ld_ow, ld_ob, okF_int, okF_bl, okF_str, okF_non, okF_tup, okFs_di, ev_meth, ev_mIsN, ev_mIsNotN, isN_non, isN_int, isN_tup, isN_lst, isN_obj, isN_bl, isN_str, d_not_bl, d_en_t, d_en_l, d_zip_t, d_zip_l, d_list_l, d_list_t, d_absI, turn_nm, turn_tp2, turn_tp3, turn_tp4, tE_nm, tE_tp2, tE_tp3, ix_t0, ix_t1, ix_t2, ix_t3, ix_l0, ix_l1, ix_l2, ix_l3, d_tu0, d_tu1, d_tu2, d_tu3, d_tu4, d_ls0, d_ls1, d_ls2, d_ls3, d_ls4, then_br, then_ct, List.length_cons, List.length_nil, Nat.reduceAdd, Nat.reduceLT, Bool.false_eq_true, Bool.true_eq_false, loopL_nil, ev_mSl, pt_none, pt_some, sl_t, sl_l, cut_m1, cut_hi, cut_lo, di_take, di_drop, di_dropLast, d_all1, List.length_map, Int.natCast_zero, Int.reduceLE, Int.reduceLT, Int.reduceEq, Int.reduceToNat, Int.reduceAdd, Int.reduceSub, Int.reduceMul, Int.reduceNeg, Nat.reduceSub, Nat.reduceMul, Nat.reduceLeDiff, Nat.reduceEqDiff, d_eqTI, d_neTI, d_eqLI, d_neLI, zip_cons, zip_nil, zip_nil2, rep_di, ev_sRetO, ev_sRetF, then_rtF, en_rtF, fF_rtF, fF_er, fF_nx, ev_mLN, opt_some, opt_none, isOb_fz, isOb_ow, isOb_no, isOb_opt, hid_opt, ld_opt, List.any_cons, List.any_nil, Bool.or_false, turn_tp13, turn_tp12, ev_sExt2, sq2_l, sq2_t, hid_pw, ld_pw, isOb_pw, ev_sIxP, e_giveN Va h1 h8 (K b hb)]
  refine ⟨?_, V2⟩
  rw [g_run_givings, run_F (s := [.fz (num v), .fz (.lst (ls.map tu)), .no]) rfl, m_run_givings]
  simp only [ev_V0, dec_T, dec_F, ev_VS, set_0, set_S, get_0, get_S, hd_nil, hd_cons, hid_fz, hid_no, hid_ow, hid_ob, if_t, if_f, if_T, if_F, not_t, not_f, ev_C, ev_1, ev_2, ev_A, ev_nil, ev_cons, ev_T, ev_B, ev_And, ev_Or, ev_Not, ev_Yes, ev_If, ev_AndV, ev_OrV, ev_H, ev_Seq, then_nx, then_rt, then_er, ev_Nx, ev_Ret, ev_Set, ev_Ex, ev_SIf, ev_Rz1, ev_Rz0, bd_ok, bd_er, on_ok, on_er, d_tru_bl, d_add, d_sub, d_lt, d_le, d_gt, d_ge, d_neg, d_eqI, d_neI, d_lenT, d_lenL, d_one, d_int, d_tupL, d_tupT, d_itT, d_itL, d_inT, d_notInT, d_max2, d_min2, en_nx, en_rt, en_er, wipe_nil', wipe_cons', mb_ok, ev_sOwn, ev_sApp, ev_sExt, ev_sRev, ev_sIxS, ev_sAug, ev_sTup, ev_sFrz, frz_ow, frz_fz, frz_ob, frz_no, ev_mHN, only_l, only_er, ev_sFor, ev_sRetN, ev_mL, ev_mLB, ld_nil, ld_cons, ld_fz, ld_no, ld_ow, ld_ob, okF_int, okF_bl, okF_str, okF_non, okF_tup, okFs_di, ev_meth, ev_mIsN, ev_mIsNotN, isN_non, isN_int, isN_tup, isN_lst, isN_obj, isN_bl, isN_str, d_not_bl, d_en_t, d_en_l, d_zip_t, d_zip_l, d_list_l, d_list_t, d_absI, turn_nm, turn_tp2, turn_tp3, turn_tp4, tE_nm, tE_tp2, tE_tp3, ix_t0, ix_t1, ix_t2, ix_t3, ix_l0, ix_l1, ix_l2, ix_l3, d_tu0, d_tu1, d_tu2, d_tu3, d_tu4, d_ls0, d_ls1, d_ls2, d_ls3, d_ls4, then_br, then_ct, List.length_cons, List.length_nil, Nat.reduceAdd, Nat.reduceLT, Bool.false_eq_true, Bool.true_eq_false, loopL_nil, ev_mSl, pt_none, pt_some, sl_t, sl_l, cut_m1, cut_hi, cut_lo, di_take, di_drop, di_dropLast, d_all1, List.length_map, Int.natCast_zero, Int.reduceLE, Int.reduceLT, Int.reduceEq, Int.reduceToNat, Int.reduceAdd, Int.reduceSub, Int.reduceMul, Int.reduceNeg, Nat.reduceSub, Nat.reduceMul, Nat.reduceLeDiff, Nat.reduceEqDiff, d_eqTI, d_neTI, d_eqLI, d_neLI, zip_cons, zip_nil, zip_nil2, rep_di, ev_sRetO, ev_sRetF, then_rtF, en_rtF, fF_rtF, fF_er, fF_nx, ev_mLN, opt_some, opt_none, isOb_fz, isOb_ow, isOb_no, isOb_opt, hid_opt, ld_opt, List.any_cons, List.any_nil, Bool.or_false, turn_tp13, turn_tp12, ev_sExt2, sq2_l, sq2_t, hid_pw, ld_pw, isOb_pw, ev_sIxP, q, decide_false, gt_iff_lt, lp]

end T

end
section
set_option Elab.async false
set_option linter.all false
set_option maxRecDepth 100000
set_option maxHeartbeats 1000000
namespace T
open PySem PySem.Spec L2 DL
open PyProof.Rows hiding St
theorem di_map (l : List Int) (f : Int → Int) : (l.map fun w => D.int (f w)) = di (l.map f) := by
  unfold di
  rw [List.map_map]
  rfl
theorem times_min {a : List Int} {f : Int} (hf : 1 ≤ f) (ne : a ≠ []) (h0 : lmin a = 0) : lmin (a.map fun x => x * f) = 0 := by
  have m := lmin_mem ne
  rw [h0] at m
  refine lmin_eq (List.mem_map.mpr ⟨0, m, Int.zero_mul f⟩) fun y hy => ?_
  obtain ⟨x, hx, rfl⟩ := List.mem_map.mp hy
  have := lmin_le hx
  exact Int.mul_nonneg (by omega) (by omega)
theorem e_times {a : List Int} {f : Int} (h1 : 1 ≤ a.length) (h8 : a.length ≤ 8) (hf : 1 ≤ f) (hf2 : f ≤ 1000) (h0 : lmin a = 0) : g_Numbers_times [num a, .int f] = .ok (num (a.map fun x => x * f)) := by
  have k : c_Numbers_times_1 [some (num a), some (.int f), none] = .ok (.lst (di (a.map fun x => x * f))) := by
    rw [c_Numbers_times_1, ← di_map]
    refine ev_lcM (c := D.int) a _ ?_ (by omega) fun x hx => ?_
    · simp only [ev_V0, dec_T, dec_F, ev_VS, set_0, set_S, get_0, get_S, hd_nil, hd_cons, hid_fz, hid_no, hid_ow, hid_ob, if_t, if_f, if_T, if_F, not_t, not_f, ev_C, ev_1, ev_2, ev_A, ev_nil, ev_cons, ev_T, ev_B, ev_And, ev_Or, ev_Not, ev_Yes, ev_If, ev_AndV, ev_OrV, ev_H, ev_Seq, then_nx, then_rt, then_er, ev_Nx, ev_Ret, ev_Set, ev_Ex, ev_SIf, ev_Rz1, ev_Rz0, bd_ok, bd_er, on_ok, on_er, d_tru_bl, d_add, d_sub, d_lt, d_le, d_gt, d_ge, d_neg, d_eqI, d_neI, d_lenT, d_lenL, d_one, d_int, d_tupL, d_tupT, d_itT, d_itL, d_inT, d_notInT, d_max2, d_min2, en_nx, en_rt, en_er, wipe_nil', wipe_cons', mb_ok, ev_sOwn, ev_sApp, ev_sExt, ev_sRev, ev_sIxS, ev_sAug, ev_sTup, ev_sFrz, frz_ow, frz_fz, frz_ob, frz_no, ev_mHN, only_l, only_er, ev_sFor, ev_sRetN, ev_mL, ev_mLB, ld_nil, ld_cons, ld_fz, ld_no, ld_ow, ld_ob, okF_int, okF_bl, okF_str, okF_non, okF_tup, okFs_di, ev_meth, ev_mIsN, ev_mIsNotN, isN_non, isN_int, isN_tup, isN_lst, isN_obj, isN_bl, isN_str, d_not_bl, d_en_t, d_en_l, d_zip_t, d_zip_l, d_list_l, d_list_t, d_absI, turn_nm, turn_tp2, turn_tp3, turn_tp4, tE_nm, tE_tp2, tE_tp3, ix_t0, ix_t1, ix_t2, ix_t3, ix_l0, ix_l1, ix_l2, ix_l3, d_tu0, d_tu1, d_tu2, d_tu3, d_tu4, d_ls0, d_ls1, d_ls2, d_ls3, d_ls4, then_br, then_ct, List.length_cons, List.length_nil, Nat.reduceAdd, Nat.reduceLT, Bool.false_eq_true, Bool.true_eq_false, loopL_nil, ev_mSl, pt_none, pt_some, sl_t, sl_l, cut_m1, cut_hi, cut_lo, di_take, di_drop, di_dropLast, d_all1, List.length_map, Int.natCast_zero, Int.reduceLE, Int.reduceLT, Int.reduceEq, Int.reduceToNat, Int.reduceAdd, Int.reduceSub, Int.reduceMul, Int.reduceNeg, Nat.reduceSub, Nat.reduceMul, Nat.reduceLeDiff, Nat.reduceEqDiff, d_eqTI, d_neTI, d_eqLI, d_neLI, zip_cons, zip_nil, zip_nil2, rep_di, ev_sRetO, ev_sRetF, then_rtF, en_rtF, fF_rtF, fF_er, fF_nx, ev_mLN, opt_some, opt_none, isOb_fz, isOb_ow, isOb_no, isOb_opt, hid_opt, ld_opt, List.any_cons, List.any_nil, Bool.or_false, turn_tp13, turn_tp12, ev_sExt2, sq2_l, sq2_t, hid_pw, ld_pw, isOb_pw, ev_sIxP, fld_levels]
    · simp only [ev_V0, dec_T, dec_F, ev_VS, set_0, set_S, get_0, get_S, hd_nil, hd_cons, hid_fz, hid_no, hid_ow, hid_ob, if_t, if_f, if_T, if_F, not_t, not_f, ev_C, ev_1, ev_2, ev_A, ev_nil, ev_cons, ev_T, ev_B, ev_And, ev_Or, ev_Not, ev_Yes, ev_If, ev_AndV, ev_OrV, ev_H, ev_Seq, then_nx, then_rt, then_er, ev_Nx, ev_Ret, ev_Set, ev_Ex, ev_SIf, ev_Rz1, ev_Rz0, bd_ok, bd_er, on_ok, on_er, d_tru_bl, d_add, d_sub, d_lt, d_le, d_gt, d_ge, d_neg, d_eqI, d_neI, d_lenT, d_lenL, d_one, d_int, d_tupL, d_tupT, d_itT, d_itL, d_inT, d_notInT, d_max2, d_min2, en_nx, en_rt, en_er, wipe_nil', wipe_cons', mb_ok, ev_sOwn, ev_sApp, ev_sExt, ev_sRev, ev_sIxS, ev_sAug, ev_sTup, ev_sFrz, frz_ow, frz_fz, frz_ob, frz_no, ev_mHN, only_l, only_er, ev_sFor, ev_sRetN, ev_mL, ev_mLB, ld_nil, ld_cons, ld_fz, ld_no, ld_ow, ld_ob, okF_int, okF_bl, okF_str, okF_non, okF_tup, okFs_di, ev_meth, ev_mIsN, ev_mIsNotN, isN_non, isN_int, isN_tup, isN_lst, isN_obj, isN_bl, isN_str, d_not_bl, d_en_t, d_en_l, d_zip_t, d_zip_l, d_list_l, d_list_t, d_absI, turn_nm, turn_tp2, turn_tp3, turn_tp4, tE_nm, tE_tp2, tE_tp3, ix_t0, ix_t1, ix_t2, ix_t3, ix_l0, ix_l1, ix_l2, ix_l3, d_tu0, d_tu1, d_tu2, d_tu3, d_tu4, d_ls0, d_ls1, d_ls2, d_ls3, d_ls4, then_br, then_ct, List.length_cons, List.length_nil, Nat.reduceAdd, Nat.reduceLT, Bool.false_eq_true, Bool.true_eq_false, loopL_nil, ev_mSl, pt_none, pt_some, sl_t, sl_l, cut_m1, cut_hi, cut_lo, di_take, di_drop, di_dropLast, d_all1, List.length_map, Int.natCast_zero, Int.reduceLE, Int.reduceLT, Int.reduceEq, Int.reduceToNat, Int.reduceAdd, Int.reduceSub, Int.reduceMul, Int.reduceNeg, Nat.reduceSub, Nat.reduceMul, Nat.reduceLeDiff, Nat.reduceEqDiff, d_eqTI, d_neTI, d_eqLI, d_neLI, zip_cons, zip_nil, zip_nil2, rep_di, ev_sRetO, ev_sRetF, then_rtF, en_rtF, fF_rtF, fF_er, fF_nx, ev_mLN, opt_some, opt_none, isOb_fz, isOb_ow, isOb_no, isOb_opt, hid_opt, ld_opt, List.any_cons, List.any_nil, Bool.or_false, turn_tp13, turn_tp12, ev_sExt2, sq2_l, sq2_t, hid_pw, ld_pw, isOb_pw, ev_sIxP, d_mulR (i := x) (show -(2 ^ 64) < f by omega) (show f < 2 ^ 64 by omega)]
  have mk := e_init (lv := a.map fun x => x * f) (by rw [List.length_map]; exact h1) (by rw [List.length_map]; exact h8) (times_min hf (ne_of_len h1) h0)
  have q : ¬ f < 1 := by omega
  rw [g_Numbers_times, run_F (s := [.fz (num a), .fz (.int f), .no]) rfl, m_Numbers_times]
  simp only [ev_V0, dec_T, dec_F, ev_VS, set_0, set_S, get_0, get_S, hd_nil, hd_cons, hid_fz, hid_no, hid_ow, hid_ob, if_t, if_f, if_T, if_F, not_t, not_f, ev_C, ev_1, ev_2, ev_A, ev_nil, ev_cons, ev_T, ev_B, ev_And, ev_Or, ev_Not, ev_Yes, ev_If, ev_AndV, ev_OrV, ev_H, ev_Seq, then_nx, then_rt, then_er, ev_Nx, ev_Ret, ev_Set, ev_Ex, ev_SIf, ev_Rz1, ev_Rz0, bd_ok, bd_er, on_ok, on_er, d_tru_bl, d_add, d_sub, d_lt, d_le, d_gt, d_ge, d_neg, d_eqI, d_neI, d_lenT, d_lenL, d_one, d_int, d_tupL, d_tupT, d_itT, d_itL, d_inT, d_notInT, d_max2, d_min2, en_nx, en_rt, en_er, wipe_nil', wipe_cons', mb_ok, ev_sOwn, ev_sApp, ev_sExt, ev_sRev, ev_sIxS, ev_sAug, ev_sTup, ev_sFrz, frz_ow, frz_fz, frz_ob, frz_no, ev_mHN, only_l, only_er, ev_sFor, ev_sRetN, ev_mL, ev_mLB, ld_nil, ld_cons, ld_fz, ld_no, ld_ow, ld_ob, okF_int, okF_bl, okF_str, okF_non, okF_tup, okFs_di, ev_meth, ev_mIsN, ev_mIsNotN, isN_non, isN_int, isN_tup, isN_lst, isN_obj, isN_bl, isN_str, d_not_bl, d_en_t, d_en_l, d_zip_t, d_zip_l, d_list_l, d_list_t, d_absI, turn_nm, turn_tp2, turn_tp3, turn_tp4, tE_nm, tE_tp2, tE_tp3, ix_t0, ix_t1, ix_t2, ix_t3, ix_l0, ix_l1, ix_l2, ix_l3, d_tu0, d_tu1, d_tu2, d_tu3, d_tu4, d_ls0, d_ls1, d_ls2, d_ls3, d_ls4, then_br, then_ct, List.length_cons, List.length_nil, Nat.reduceAdd, Nat.reduceLT, Bool.false_eq_true, Bool.true_eq_false, loopL_nil, ev_mSl, pt_none, pt_some, sl_t, sl_l, cut_m1, cut_hi, cut_lo, di_take, di_drop, di_dropLast, d_all1, List.length_map, Int.natCast_zero, Int.reduceLE, Int.reduceLT, Int.reduceEq, Int.reduceToNat, Int.reduceAdd, Int.reduceSub, Int.reduceMul, Int.reduceNeg, Nat.reduceSub, Nat.reduceMul, Nat.reduceLeDiff, Nat.reduceEqDiff, d_eqTI, d_neTI, d_eqLI, d_neLI, zip_cons, zip_nil, zip_nil2, rep_di, ev_sRetO, ev_sRetF, then_rtF, en_rtF, fF_rtF, fF_er, fF_nx, ev_mLN, opt_some, opt_none, isOb_fz, isOb_ow, isOb_no, isOb_opt, hid_opt, ld_opt, List.any_cons, List.any_nil, Bool.or_false, turn_tp13, turn_tp12, ev_sExt2, sq2_l, sq2_t, hid_pw, ld_pw, isOb_pw, ev_sIxP, q, decide_false, k, mk]

/-! ### k56 -/
theorem d_notInL {x : Int} {l : List Int} : dNotIn (.int x) (.lst (di l)) = .ok (.bl (!decide (x ∈ l))) := by
  unfold dNotIn dInB
  simp only
  rw [if_pos ⟨rfl, flat_di l⟩, bd_ok, in_ints]
theorem loop_findE {β τ : Type} {T : Tg} {body : SM} {c : β → D} {E : τ → SEnv} {cn : Str} {ns : List Str} (p : β → Bool) (r : β → List D) : ∀ (as : List β) (t0 : τ), (∀ b ∈ as, ∀ t, (p b = true → ∃ e, turn T body (c b) (E t) = .er cn ns (r b) e) ∧ (p b = false → ∃ t', turn T body (c b) (E t) = .nx (E t') ∨ turn T body (c b) (E t) = .ct (E t'))) →
    (as.find? p = none ∧ ∃ t, loopL T body (as.map c) (E t0) = .nx (E t)) ∨ ∃ b e, as.find? p = some b ∧ loopL T body (as.map c) (E t0) = .er cn ns (r b) e
  | [], t0, _ => .inl ⟨rfl, t0, rfl⟩
  | b :: as, t0, h => by
    obtain ⟨h1, h2⟩ := h b List.mem_cons_self t0
    cases hp : p b with
    | true =>
      obtain ⟨e, he⟩ := h1 hp
      refine .inr ⟨b, e, by rw [List.find?_cons, hp], ?_⟩
      rw [List.map_cons, loopL_cons, he]
    | false =>
      obtain ⟨t', ht⟩ := h2 hp
      have e1 : loopL T body ((b :: as).map c) (E t0) = loopL T body (as.map c) (E t') := by
        rw [List.map_cons, loopL_cons]
        rcases ht with z | z <;> rw [z]
      rw [e1, List.find?_cons, hp]
      exact loop_findE p r as t' fun y hy => h y (List.mem_cons_of_mem _ hy)
def cpl (n : Nat) (x y : Int) : List Int := (rng n).filter fun w => !decide (w ∈ [x, y])
theorem cpl_lot (n : Nat) (x y : Int) : IsLot n (cpl n x y) := lot_sub (rng_lot n)
theorem mem_cpl {n : Nat} {x y w : Int} : w ∈ cpl n x y ↔ (0 ≤ w ∧ w < (n : Int)) ∧ w ≠ x ∧ w ≠ y := by
  unfold cpl
  rw [List.mem_filter, mem_rng]
  simp
theorem cpl_ok {n : Nat} {x y : Int} (hx : 0 ≤ x ∧ x < (n : Int)) : Ok47 n (cpl n x y) := by
  refine ⟨cpl_lot n x y, fun z => ?_⟩
  have sub := sub_len (rng n) (cpl n x y) ((rng_sorted n).imp fun h => Int.ne_of_lt h)
  have nd : (cpl n x y).Nodup := (cpl_lot n x y).so.imp fun h => Int.ne_of_lt h
  have s2 := sub_len (x :: cpl n x y) (rng n) (List.nodup_cons.mpr ⟨fun q => (mem_cpl.mp q).2.1 rfl, nd⟩) fun w hw => by
    rcases List.mem_cons.mp hw with rfl | hw
    · exact mem_rng.mpr hx
    · exact mem_rng.mpr (mem_cpl.mp hw).1
  rw [List.length_cons, len_rng] at s2
  omega
theorem gv_pair {n k : Nat} {v : List Int} {x y : Int} (hn : v.length = n) (hx : 0 ≤ x ∧ x < (n : Int)) (hy : 0 ≤ y ∧ y < (n : Int)) (hk : k < n) : (gvF v (cpl n x y)).getD k 0 = if (k : Int) = x ∨ (k : Int) = y then v.getD k 0 - min (v.getD x.toNat 0) (v.getD y.toNat 0) else v.getD k 0 := by
  subst hn
  obtain ⟨z, hz⟩ := get_lt hk
  have out : outL v (cpl v.length x y) = min (v.getD x.toNat 0) (v.getD y.toNat 0) := by
    have mr : ∀ w : Int, w ∈ restF v.length (cpl v.length x y) ↔ w = x ∨ w = y := fun w => by
      rw [mem_rest, mem_cpl]
      constructor
      · rintro ⟨h1, h2⟩
        refine Classical.byContradiction fun q => h2 ⟨h1, fun z => q (.inl z), fun z => q (.inr z)⟩
      · rintro (rfl | rfl)
        · exact ⟨hx, fun h => h.2.1 rfl⟩
        · exact ⟨hy, fun h => h.2.2 rfl⟩
    refine lmin_eq ?_ fun q hq => ?_
    · rcases Int.le_total (v.getD x.toNat 0) (v.getD y.toNat 0) with h | h
      · rw [Int.min_eq_left h]
        exact List.mem_map.mpr ⟨x, (mr x).mpr (.inl rfl), rfl⟩
      · rw [Int.min_eq_right h]
        exact List.mem_map.mpr ⟨y, (mr y).mpr (.inr rfl), rfl⟩
    · obtain ⟨w, hw, rfl⟩ := List.mem_map.mp hq
      rcases (mr w).mp hw with rfl | rfl
      · exact Int.min_le_left _ _
      · exact Int.min_le_right _ _
  rw [getD_some (gv_get (lot := cpl v.length x y) hz), getD_some hz, out]
  by_cases c : (k : Int) = x ∨ (k : Int) = y
  · rw [if_pos c, if_neg fun h => by
      obtain ⟨_, h1, h2⟩ := mem_cpl.mp h
      rcases c with c | c
      · exact h1 c
      · exact h2 c]
  · rw [if_neg c, if_pos (mem_cpl.mpr ⟨⟨by omega, by omega⟩, fun z => c (.inl z), fun z => c (.inr z)⟩)]
structure Four (n : Nat) (w b o e : Int) : Prop where
  hw : 0 ≤ w ∧ w < (n : Int)
  hb : 0 ≤ b ∧ b < (n : Int)
  ho : 0 ≤ o ∧ o < (n : Int)
  he : 0 ≤ e ∧ e < (n : Int)
  nd : [w, b, o, e].Nodup
def sgn (f s : Int) : Int := if f = s then 0 else if f < s then -1 else 1
abbrev lotsF (n : Nat) (w b o e : Int) : List (List Int) := [cpl n w b, cpl n o e, cpl n w o]
abbrev dif (v : List Int) (x y : Int) : Int := mx0 (v.getD x.toNat 0 - v.getD y.toNat 0)
/-- what is believed behind the three givings up -/
theorem three_up {n : Nat} {v : List Int} {w b o e : Int} (V : Lev n v) (F : Four n w b o e) : ((lotsF n w b o e).foldl gvF v).length = n ∧ ((lotsF n w b o e).foldl gvF v).getD w.toNat 0 = dif v w b - min (dif v w b) (dif v o e) ∧ ((lotsF n w b o e).foldl gvF v).getD o.toNat 0 = dif v o e - min (dif v w b) (dif v o e) := by
  obtain ⟨hw, hb, ho, he, nd⟩ := F
  simp only [List.nodup_cons, List.mem_cons, List.not_mem_nil, or_false, not_or] at nd
  obtain ⟨⟨wb, wo, we⟩, ⟨bo, be⟩, oe, _⟩ := nd
  have l0 := V.len
  have l1 : (gvF v (cpl n w b)).length = n := by rw [gv_len, l0]
  have l2 : (gvF (gvF v (cpl n w b)) (cpl n o e)).length = n := by rw [gv_len, l1]
  have nat : ∀ x : Int, 0 ≤ x ∧ x < (n : Int) → ((x.toNat : Nat) : Int) = x ∧ x.toNat < n := fun x h => by omega
  have aw := gv_pair (v := v) (x := w) (y := b) l0 hw hb (nat w hw).2
  have ao := gv_pair (v := v) (x := w) (y := b) l0 hw hb (nat o ho).2
  have ae := gv_pair (v := v) (x := w) (y := b) l0 hw hb (nat e he).2
  rw [(nat w hw).1, if_pos (.inl rfl)] at aw
  rw [(nat o ho).1, if_neg (by rintro (z | z) <;> omega)] at ao
  rw [(nat e he).1, if_neg (by rintro (z | z) <;> omega)] at ae
  have bw := gv_pair (v := gvF v (cpl n w b)) (x := o) (y := e) l1 ho he (nat w hw).2
  have bo' := gv_pair (v := gvF v (cpl n w b)) (x := o) (y := e) l1 ho he (nat o ho).2
  rw [(nat w hw).1, if_neg (by rintro (z | z) <;> omega)] at bw
  rw [(nat o ho).1, if_pos (.inl rfl)] at bo'
  have cw := gv_pair (v := gvF (gvF v (cpl n w b)) (cpl n o e)) (x := w) (y := o) l2 hw ho (nat w hw).2
  have co := gv_pair (v := gvF (gvF v (cpl n w b)) (cpl n o e)) (x := w) (y := o) l2 hw ho (nat o ho).2
  rw [(nat w hw).1, if_pos (.inl rfl)] at cw
  rw [(nat o ho).1, if_pos (.inr rfl)] at co
  have e1 : (gvF (gvF v (cpl n w b)) (cpl n o e)).getD w.toNat 0 = dif v w b := by
    rw [bw, aw]
    unfold dif mx0
    split <;> omega
  have e2 : (gvF (gvF v (cpl n w b)) (cpl n o e)).getD o.toNat 0 = dif v o e := by
    rw [bo', ao, ae]
    unfold dif mx0
    split <;> omega
  rw [e1, e2] at cw co
  exact ⟨by rw [List.foldl_cons, List.foldl_cons, List.foldl_cons, List.foldl_nil, gv_len, l2], cw, co⟩
theorem len_nodup {l : List Int} (h : l.Nodup) : (sortU l).length = l.length := by
  refine ((List.perm_ext_iff_of_nodup (sorted_sortU.imp fun h => Int.ne_of_lt h) h).mpr fun z => mem_sortU).length_eq
theorem ins_in {x : Int} : ∀ {m : List Int}, m.Pairwise (· < ·) → x ∈ m → (insU x m).length = m.length
  | [], _, h => by cases h
  | y :: m, so, h => by
    rw [List.pairwise_cons] at so
    unfold insU
    rcases List.mem_cons.mp h with rfl | h
    · rw [if_neg (by omega), if_pos rfl]
    · have := so.1 x h
      rw [if_neg (by omega), if_neg (by omega), List.length_cons, ins_in so.2 h, List.length_cons]
theorem len_dup : ∀ {l : List Int}, ¬ l.Nodup → (sortU l).length < l.length
  | [], h => absurd List.nodup_nil h
  | x :: l, h => by
    by_cases c : x ∈ l
    · show (insU x (sortU l)).length < _
      rw [ins_in sorted_sortU (mem_sortU.mpr c), List.length_cons]
      have := len_sortU l
      omega
    · have ih := len_dup (l := l) fun z => h (List.nodup_cons.mpr ⟨c, z⟩)
      have : (insU x (sortU l)).length ≤ (sortU l).length + 1 := by
        have ins : ∀ m : List Int, (insU x m).length ≤ m.length + 1 := fun m => by
          induction m with
          | nil => exact Nat.le_refl _
          | cons y m ih =>
            unfold insU
            split
            · simp
            · split <;> simp <;> omega
        exact ins _
      show (insU x (sortU l)).length < _
      rw [List.length_cons]
      omega
theorem lenSet_t {l : List Int} (h : l.length < 60) : dLenSet (.tup (di l)) = .ok (.int ((sortU l).length : Nat)) := by
  unfold dLenSet
  rw [sortSet_t h, bd_ok]
  simp only
  rw [List.length_map]
theorem tu4 (a b c d : Int) : dTup [.int a, .int b, .int c, .int d] = .ok (.tup (di [a, b, c, d])) := d_tupS (by show 4 ≤ 1000; decide)
def badW (n : Nat) (x : Int) : Bool := decide (x < 0) || decide ((n : Int) ≤ x)
theorem walk4 {v : List Int} {q : List Int} {w b o e : D} : (q.find? (badW v.length) = none ∧ ∃ t : Sl, l_compare_differences_2 [.fz (num v), .fz (w), .fz (b), .fz (o), .fz (e), .fz (.tup (di q)), .no, .no, .no, .no, .no, .no] = .nx [.fz (num v), .fz (w), .fz (b), .fz (o), .fz (e), .fz (.tup (di q)), t, .no, .no, .no, .no, .no]) ∨ ∃ x s, q.find? (badW v.length) = some x ∧ l_compare_differences_2 [.fz (num v), .fz (w), .fz (b), .fz (o), .fz (e), .fz (.tup (di q)), .no, .no, .no, .no, .no, .no] = .er "BadWorld" ["world"] [.int x] s := by
  simp only [l_compare_differences_2, ev_V0, dec_T, dec_F, ev_VS, set_0, set_S, get_0, get_S, hd_nil, hd_cons, hid_fz, hid_no, hid_ow, hid_ob, if_t, if_f, if_T, if_F, not_t, not_f, ev_C, ev_1, ev_2, ev_A, ev_nil, ev_cons, ev_T, ev_B, ev_And, ev_Or, ev_Not, ev_Yes, ev_If, ev_AndV, ev_OrV, ev_H, ev_Seq, then_nx, then_rt, then_er, ev_Nx, ev_Ret, ev_Set, ev_Ex, ev_SIf, ev_Rz1, ev_Rz0, bd_ok, bd_er, on_ok, on_er, d_tru_bl, d_add, d_sub, d_lt, d_le, d_gt, d_ge, d_neg, d_eqI, d_neI, d_lenT, d_lenL, d_one, d_int, d_tupL, d_tupT, d_itT, d_itL, d_inT, d_notInT, d_max2, d_min2, en_nx, en_rt, en_er, wipe_nil', wipe_cons', mb_ok, ev_sOwn, ev_sApp, ev_sExt, ev_sRev, ev_sIxS, ev_sAug, ev_sTup, ev_sFrz, frz_ow, frz_fz, frz_ob, frz_no, ev_mHN, only_l, only_er, ev_sFor, ev_sRetN, ev_mL, ev_mLB, ld_nil, ld_cons, ld_fz, ld_no, ld_ow, ld_ob, okF_int, okF_bl, okF_str, okF_non, okF_tup, okFs_di, ev_meth, ev_mIsN, ev_mIsNotN, isN_non, isN_int, isN_tup, isN_lst, isN_obj, isN_bl, isN_str, d_not_bl, d_en_t, d_en_l, d_zip_t, d_zip_l, d_list_l, d_list_t, d_absI, turn_nm, turn_tp2, turn_tp3, turn_tp4, tE_nm, tE_tp2, tE_tp3, ix_t0, ix_t1, ix_t2, ix_t3, ix_l0, ix_l1, ix_l2, ix_l3, d_tu0, d_tu1, d_tu2, d_tu3, d_tu4, d_ls0, d_ls1, d_ls2, d_ls3, d_ls4, then_br, then_ct, List.length_cons, List.length_nil, Nat.reduceAdd, Nat.reduceLT, Bool.false_eq_true, Bool.true_eq_false, loopL_nil, ev_mSl, pt_none, pt_some, sl_t, sl_l, cut_m1, cut_hi, cut_lo, di_take, di_drop, di_dropLast, d_all1, List.length_map, Int.natCast_zero, Int.reduceLE, Int.reduceLT, Int.reduceEq, Int.reduceToNat, Int.reduceAdd, Int.reduceSub, Int.reduceMul, Int.reduceNeg, Nat.reduceSub, Nat.reduceMul, Nat.reduceLeDiff, Nat.reduceEqDiff, d_eqTI, d_neTI, d_eqLI, d_neLI, zip_cons, zip_nil, zip_nil2, rep_di, ev_sRetO, ev_sRetF, then_rtF, en_rtF, fF_rtF, fF_er, fF_nx, ev_mLN, opt_some, opt_none, isOb_fz, isOb_ow, isOb_no, isOb_opt, hid_opt, ld_opt, List.any_cons, List.any_nil, Bool.or_false, turn_tp13, turn_tp12, ev_sExt2, sq2_l, sq2_t, hid_pw, ld_pw, isOb_pw, ev_sIxP]
  refine loop_findE (c := D.int) (E := fun t : Sl => [.fz (num v), .fz (w), .fz (b), .fz (o), .fz (e), .fz (.tup (di q)), t, .no, .no, .no, .no, .no]) (badW v.length) (fun x => [.int x]) q .no fun x hx t => ?_
  unfold badW
  by_cases c1 : x < 0
  · refine ⟨fun _ => ⟨[.fz (num v), .fz (w), .fz (b), .fz (o), .fz (e), .fz (.tup (di q)), .fz (.int x), .no, .no, .no, .no, .no], by simp only [b_compare_differences_1, ev_V0, dec_T, dec_F, ev_VS, set_0, set_S, get_0, get_S, hd_nil, hd_cons, hid_fz, hid_no, hid_ow, hid_ob, if_t, if_f, if_T, if_F, not_t, not_f, ev_C, ev_1, ev_2, ev_A, ev_nil, ev_cons, ev_T, ev_B, ev_And, ev_Or, ev_Not, ev_Yes, ev_If, ev_AndV, ev_OrV, ev_H, ev_Seq, then_nx, then_rt, then_er, ev_Nx, ev_Ret, ev_Set, ev_Ex, ev_SIf, ev_Rz1, ev_Rz0, bd_ok, bd_er, on_ok, on_er, d_tru_bl, d_add, d_sub, d_lt, d_le, d_gt, d_ge, d_neg, d_eqI, d_neI, d_lenT, d_lenL, d_one, d_int, d_tupL, d_tupT, d_itT, d_itL, d_inT, d_notInT, d_max2, d_min2, en_nx, en_rt, en_er, wipe_nil', wipe_cons', mb_ok, ev_sOwn, ev_sApp, ev_sExt, ev_sRev, ev_sIxS, ev_sAug, ev_sTup, ev_sFrz, frz_ow, frz_fz, frz_ob, frz_no, ev_mHN, only_l, only_er, ev_sFor, ev_sRetN, ev_mL, ev_mLB, ld_nil, ld_cons, ld_fz, ld_no, ld_ow, ld_ob, okF_int, okF_bl, okF_str, okF_non, okF_tup, okFs_di, ev_meth, ev_mIsN, ev_mIsNotN, isN_non, isN_int, isN_tup, isN_lst, isN_obj, isN_bl, isN_str, d_not_bl, d_en_t, d_en_l, d_zip_t, d_zip_l, d_list_l, d_list_t, d_absI, turn_nm, turn_tp2, turn_tp3, turn_tp4, tE_nm, tE_tp2, tE_tp3, ix_t0, ix_t1, ix_t2, ix_t3, ix_l0, ix_l1, ix_l2, ix_l3, d_tu0, d_tu1, d_tu2, d_tu3, d_tu4, d_ls0, d_ls1, d_ls2, d_ls3, d_ls4, then_br, then_ct, List.length_cons, List.length_nil, Nat.reduceAdd, Nat.reduceLT, Bool.false_eq_true, Bool.true_eq_false, loopL_nil, ev_mSl, pt_none, pt_some, sl_t, sl_l, cut_m1, cut_hi, cut_lo, di_take, di_drop, di_dropLast, d_all1, List.length_map, Int.natCast_zero, Int.reduceLE, Int.reduceLT, Int.reduceEq, Int.reduceToNat, Int.reduceAdd, Int.reduceSub, Int.reduceMul, Int.reduceNeg, Nat.reduceSub, Nat.reduceMul, Nat.reduceLeDiff, Nat.reduceEqDiff, d_eqTI, d_neTI, d_eqLI, d_neLI, zip_cons, zip_nil, zip_nil2, rep_di, ev_sRetO, ev_sRetF, then_rtF, en_rtF, fF_rtF, fF_er, fF_nx, ev_mLN, opt_some, opt_none, isOb_fz, isOb_ow, isOb_no, isOb_opt, hid_opt, ld_opt, List.any_cons, List.any_nil, Bool.or_false, turn_tp13, turn_tp12, ev_sExt2, sq2_l, sq2_t, hid_pw, ld_pw, isOb_pw, ev_sIxP, c1, decide_true]⟩, fun z => ?_⟩
    rw [decide_eq_true c1] at z
    cases z
  · by_cases c2 : (v.length : Int) ≤ x
    · refine ⟨fun _ => ⟨[.fz (num v), .fz (w), .fz (b), .fz (o), .fz (e), .fz (.tup (di q)), .fz (.int x), .no, .no, .no, .no, .no], by simp only [b_compare_differences_1, ev_V0, dec_T, dec_F, ev_VS, set_0, set_S, get_0, get_S, hd_nil, hd_cons, hid_fz, hid_no, hid_ow, hid_ob, if_t, if_f, if_T, if_F, not_t, not_f, ev_C, ev_1, ev_2, ev_A, ev_nil, ev_cons, ev_T, ev_B, ev_And, ev_Or, ev_Not, ev_Yes, ev_If, ev_AndV, ev_OrV, ev_H, ev_Seq, then_nx, then_rt, then_er, ev_Nx, ev_Ret, ev_Set, ev_Ex, ev_SIf, ev_Rz1, ev_Rz0, bd_ok, bd_er, on_ok, on_er, d_tru_bl, d_add, d_sub, d_lt, d_le, d_gt, d_ge, d_neg, d_eqI, d_neI, d_lenT, d_lenL, d_one, d_int, d_tupL, d_tupT, d_itT, d_itL, d_inT, d_notInT, d_max2, d_min2, en_nx, en_rt, en_er, wipe_nil', wipe_cons', mb_ok, ev_sOwn, ev_sApp, ev_sExt, ev_sRev, ev_sIxS, ev_sAug, ev_sTup, ev_sFrz, frz_ow, frz_fz, frz_ob, frz_no, ev_mHN, only_l, only_er, ev_sFor, ev_sRetN, ev_mL, ev_mLB, ld_nil, ld_cons, ld_fz, ld_no, ld_ow, ld_ob, okF_int, okF_bl, okF_str, okF_non, okF_tup, okFs_di, ev_meth, ev_mIsN, ev_mIsNotN, isN_non, isN_int, isN_tup, isN_lst, isN_obj, isN_bl, isN_str, d_not_bl, d_en_t, d_en_l, d_zip_t, d_zip_l, d_list_l, d_list_t, d_absI, turn_nm, turn_tp2, turn_tp3, turn_tp4, tE_nm, tE_tp2, tE_tp3, ix_t0, ix_t1, ix_t2, ix_t3, ix_l0, ix_l1, ix_l2, ix_l3, d_tu0, d_tu1, d_tu2, d_tu3, d_tu4, d_ls0, d_ls1, d_ls2, d_ls3, d_ls4, then_br, then_ct, List.length_cons, List.length_nil, Nat.reduceAdd, Nat.reduceLT, Bool.false_eq_true, Bool.true_eq_false, loopL_nil, ev_mSl, pt_none, pt_some, sl_t, sl_l, cut_m1, cut_hi, cut_lo, di_take, di_drop, di_dropLast, d_all1, List.length_map, Int.natCast_zero, Int.reduceLE, Int.reduceLT, Int.reduceEq, Int.reduceToNat, Int.reduceAdd, Int.reduceSub, Int.reduceMul, Int.reduceNeg, Nat.reduceSub, Nat.reduceMul, Nat.reduceLeDiff, Nat.reduceEqDiff, d_eqTI, d_neTI, d_eqLI, d_neLI, zip_cons, zip_nil, zip_nil2, rep_di, ev_sRetO, ev_sRetF, then_rtF, en_rtF, fF_rtF, fF_er, fF_nx, ev_mLN, opt_some, opt_none, isOb_fz, isOb_ow, isOb_no, isOb_opt, hid_opt, ld_opt, List.any_cons, List.any_nil, Bool.or_false, turn_tp13, turn_tp12, ev_sExt2, sq2_l, sq2_t, hid_pw, ld_pw, isOb_pw, ev_sIxP, fld_size, c1, c2, decide_true, decide_false, ge_iff_le]⟩, fun z => ?_⟩
      rw [decide_eq_true c2, Bool.or_true] at z
      cases z
    · refine ⟨fun z => ?_, fun _ => ⟨.fz (.int x), .inl ?_⟩⟩
      · rw [decide_eq_false c1, decide_eq_false c2] at z
        cases z
      · simp only [b_compare_differences_1, ev_V0, dec_T, dec_F, ev_VS, set_0, set_S, get_0, get_S, hd_nil, hd_cons, hid_fz, hid_no, hid_ow, hid_ob, if_t, if_f, if_T, if_F, not_t, not_f, ev_C, ev_1, ev_2, ev_A, ev_nil, ev_cons, ev_T, ev_B, ev_And, ev_Or, ev_Not, ev_Yes, ev_If, ev_AndV, ev_OrV, ev_H, ev_Seq, then_nx, then_rt, then_er, ev_Nx, ev_Ret, ev_Set, ev_Ex, ev_SIf, ev_Rz1, ev_Rz0, bd_ok, bd_er, on_ok, on_er, d_tru_bl, d_add, d_sub, d_lt, d_le, d_gt, d_ge, d_neg, d_eqI, d_neI, d_lenT, d_lenL, d_one, d_int, d_tupL, d_tupT, d_itT, d_itL, d_inT, d_notInT, d_max2, d_min2, en_nx, en_rt, en_er, wipe_nil', wipe_cons', mb_ok, ev_sOwn, ev_sApp, ev_sExt, ev_sRev, ev_sIxS, ev_sAug, ev_sTup, ev_sFrz, frz_ow, frz_fz, frz_ob, frz_no, ev_mHN, only_l, only_er, ev_sFor, ev_sRetN, ev_mL, ev_mLB, ld_nil, ld_cons, ld_fz, ld_no, ld_ow, ld_ob, okF_int, okF_bl, okF_str, okF_non, okF_tup, okFs_di, ev_meth, ev_mIsN, ev_mIsNotN, isN_non, isN_int, isN_tup, isN_lst, isN_obj, isN_bl, isN_str, d_not_bl, d_en_t, d_en_l, d_zip_t, d_zip_l, d_list_l, d_list_t, d_absI, turn_nm, turn_tp2, turn_tp3, turn_tp4, tE_nm, tE_tp2, tE_tp3, ix_t0, ix_t1, ix_t2, ix_t3, ix_l0, ix_l1, ix_l2, ix_l3, d_tu0, d_tu1, d_tu2, d_tu3, d_tu4, d_ls0, d_ls1, d_ls2, d_ls3, d_ls4, then_br, then_ct, List.length_cons, List.length_nil, Nat.reduceAdd, Nat.reduceLT, Bool.false_eq_true, Bool.true_eq_false, loopL_nil, ev_mSl, pt_none, pt_some, sl_t, sl_l, cut_m1, cut_hi, cut_lo, di_take, di_drop, di_dropLast, d_all1, List.length_map, Int.natCast_zero, Int.reduceLE, Int.reduceLT, Int.reduceEq, Int.reduceToNat, Int.reduceAdd, Int.reduceSub, Int.reduceMul, Int.reduceNeg, Nat.reduceSub, Nat.reduceMul, Nat.reduceLeDiff, Nat.reduceEqDiff, d_eqTI, d_neTI, d_eqLI, d_neLI, zip_cons, zip_nil, zip_nil2, rep_di, ev_sRetO, ev_sRetF, then_rtF, en_rtF, fF_rtF, fF_er, fF_nx, ev_mLN, opt_some, opt_none, isOb_fz, isOb_ow, isOb_no, isOb_opt, hid_opt, ld_opt, List.any_cons, List.any_nil, Bool.or_false, turn_tp13, turn_tp12, ev_sExt2, sq2_l, sq2_t, hid_pw, ld_pw, isOb_pw, ev_sIxP, fld_size, c1, c2, decide_false, ge_iff_le]
theorem find_no {n : Nat} {w b o e : Int} (F : Four n w b o e) : [w, b, o, e].find? (badW n) = none := by
  refine List.find?_eq_none.mpr fun x hx => ?_
  unfold badW
  simp only [List.mem_cons, List.not_mem_nil, or_false] at hx
  have := F.hw
  have := F.hb
  have := F.ho
  have := F.he
  rcases hx with rfl | rfl | rfl | rfl <;> simp <;> omega
theorem e_compare {n : Nat} {v : List Int} {w b o e : Int} (h1 : 1 ≤ n) (h8 : n ≤ 8) (V : Lev n v) (F : Four n w b o e) : g_compare_differences [num v, .int w, .int b, .int o, .int e] = .ok (.int (sgn (dif v w b) (dif v o e))) := by
  have hn := V.len
  obtain ⟨l3, gw, go⟩ := three_up V F
  have K : ∀ l ∈ lotsF n w b o e, Ok47 n l := fun l hl => by
    simp only [List.mem_cons, List.not_mem_nil, or_false] at hl
    rcases hl with rfl | rfl | rfl
    · exact cpl_ok F.hw
    · exact cpl_ok F.ho
    · exact cpl_ok F.hw
  obtain ⟨run, V3⟩ := e_run V h1 h8 (by show 3 ≤ 20; decide) K
  have bel := e_numBel (v := (lotsF n w b o e).foldl gvF v) (by rw [l3]; exact h8)
  have bp : dProp [("Numbers", g_Numbers_believed)] (num ((lotsF n w b o e).foldl gvF v)) = .ok (.tup (di (atF ((lotsF n w b o e).foldl gvF v) 0))) := by
    show (g_Numbers_believed [num _]).sure = _
    rw [bel]
    rfl
  have k3 : ∀ (o0 o1 o2 o3 o4 o5 o6 o7 o8 o9 : Option D) (x y : Int), c_compare_differences_3 [some (num v), o1, o2, o3, o4, o5, o6, o7, o8, o9, some (.tup [.int x, .int y]), none] = .ok (.lst (di (cpl n x y))) := fun o0 o1 o2 o3 o4 o5 o6 o7 o8 o9 x y => by
    rw [c_compare_differences_3]
    refine ev_lcT (c := D.int) (rng n) (fun w => !decide (w ∈ [x, y])) D.int ?_ (by rw [len_rng]; exact small h8) (fun z hz => ?_) fun z hz _ => ?_
    · simp only [ev_V0, dec_T, dec_F, ev_VS, set_0, set_S, get_0, get_S, hd_nil, hd_cons, hid_fz, hid_no, hid_ow, hid_ob, if_t, if_f, if_T, if_F, not_t, not_f, ev_C, ev_1, ev_2, ev_A, ev_nil, ev_cons, ev_T, ev_B, ev_And, ev_Or, ev_Not, ev_Yes, ev_If, ev_AndV, ev_OrV, ev_H, ev_Seq, then_nx, then_rt, then_er, ev_Nx, ev_Ret, ev_Set, ev_Ex, ev_SIf, ev_Rz1, ev_Rz0, bd_ok, bd_er, on_ok, on_er, d_tru_bl, d_add, d_sub, d_lt, d_le, d_gt, d_ge, d_neg, d_eqI, d_neI, d_lenT, d_lenL, d_one, d_int, d_tupL, d_tupT, d_itT, d_itL, d_inT, d_notInT, d_max2, d_min2, en_nx, en_rt, en_er, wipe_nil', wipe_cons', mb_ok, ev_sOwn, ev_sApp, ev_sExt, ev_sRev, ev_sIxS, ev_sAug, ev_sTup, ev_sFrz, frz_ow, frz_fz, frz_ob, frz_no, ev_mHN, only_l, only_er, ev_sFor, ev_sRetN, ev_mL, ev_mLB, ld_nil, ld_cons, ld_fz, ld_no, ld_ow, ld_ob, okF_int, okF_bl, okF_str, okF_non, okF_tup, okFs_di, ev_meth, ev_mIsN, ev_mIsNotN, isN_non, isN_int, isN_tup, isN_lst, isN_obj, isN_bl, isN_str, d_not_bl, d_en_t, d_en_l, d_zip_t, d_zip_l, d_list_l, d_list_t, d_absI, turn_nm, turn_tp2, turn_tp3, turn_tp4, tE_nm, tE_tp2, tE_tp3, ix_t0, ix_t1, ix_t2, ix_t3, ix_l0, ix_l1, ix_l2, ix_l3, d_tu0, d_tu1, d_tu2, d_tu3, d_tu4, d_ls0, d_ls1, d_ls2, d_ls3, d_ls4, then_br, then_ct, List.length_cons, List.length_nil, Nat.reduceAdd, Nat.reduceLT, Bool.false_eq_true, Bool.true_eq_false, loopL_nil, ev_mSl, pt_none, pt_some, sl_t, sl_l, cut_m1, cut_hi, cut_lo, di_take, di_drop, di_dropLast, d_all1, List.length_map, Int.natCast_zero, Int.reduceLE, Int.reduceLT, Int.reduceEq, Int.reduceToNat, Int.reduceAdd, Int.reduceSub, Int.reduceMul, Int.reduceNeg, Nat.reduceSub, Nat.reduceMul, Nat.reduceLeDiff, Nat.reduceEqDiff, d_eqTI, d_neTI, d_eqLI, d_neLI, zip_cons, zip_nil, zip_nil2, rep_di, ev_sRetO, ev_sRetF, then_rtF, en_rtF, fF_rtF, fF_er, fF_nx, ev_mLN, opt_some, opt_none, isOb_fz, isOb_ow, isOb_no, isOb_opt, hid_opt, ld_opt, List.any_cons, List.any_nil, Bool.or_false, turn_tp13, turn_tp12, ev_sExt2, sq2_l, sq2_t, hid_pw, ld_pw, isOb_pw, ev_sIxP, fld_size, hn, d_rng n (show n < 1000000 by omega)]
    · have : dNotIn (.int z) (.tup [.int x, .int y]) = .ok (.bl (!decide (z ∈ [x, y]))) := d_notInT (l := [x, y])
      simp only [ev_V0, dec_T, dec_F, ev_VS, set_0, set_S, get_0, get_S, hd_nil, hd_cons, hid_fz, hid_no, hid_ow, hid_ob, if_t, if_f, if_T, if_F, not_t, not_f, ev_C, ev_1, ev_2, ev_A, ev_nil, ev_cons, ev_T, ev_B, ev_And, ev_Or, ev_Not, ev_Yes, ev_If, ev_AndV, ev_OrV, ev_H, ev_Seq, then_nx, then_rt, then_er, ev_Nx, ev_Ret, ev_Set, ev_Ex, ev_SIf, ev_Rz1, ev_Rz0, bd_ok, bd_er, on_ok, on_er, d_tru_bl, d_add, d_sub, d_lt, d_le, d_gt, d_ge, d_neg, d_eqI, d_neI, d_lenT, d_lenL, d_one, d_int, d_tupL, d_tupT, d_itT, d_itL, d_inT, d_notInT, d_max2, d_min2, en_nx, en_rt, en_er, wipe_nil', wipe_cons', mb_ok, ev_sOwn, ev_sApp, ev_sExt, ev_sRev, ev_sIxS, ev_sAug, ev_sTup, ev_sFrz, frz_ow, frz_fz, frz_ob, frz_no, ev_mHN, only_l, only_er, ev_sFor, ev_sRetN, ev_mL, ev_mLB, ld_nil, ld_cons, ld_fz, ld_no, ld_ow, ld_ob, okF_int, okF_bl, okF_str, okF_non, okF_tup, okFs_di, ev_meth, ev_mIsN, ev_mIsNotN, isN_non, isN_int, isN_tup, isN_lst, isN_obj, isN_bl, isN_str, d_not_bl, d_en_t, d_en_l, d_zip_t, d_zip_l, d_list_l, d_list_t, d_absI, turn_nm, turn_tp2, turn_tp3, turn_tp4, tE_nm, tE_tp2, tE_tp3, ix_t0, ix_t1, ix_t2, ix_t3, ix_l0, ix_l1, ix_l2, ix_l3, d_tu0, d_tu1, d_tu2, d_tu3, d_tu4, d_ls0, d_ls1, d_ls2, d_ls3, d_ls4, then_br, then_ct, List.length_cons, List.length_nil, Nat.reduceAdd, Nat.reduceLT, Bool.false_eq_true, Bool.true_eq_false, loopL_nil, ev_mSl, pt_none, pt_some, sl_t, sl_l, cut_m1, cut_hi, cut_lo, di_take, di_drop, di_dropLast, d_all1, List.length_map, Int.natCast_zero, Int.reduceLE, Int.reduceLT, Int.reduceEq, Int.reduceToNat, Int.reduceAdd, Int.reduceSub, Int.reduceMul, Int.reduceNeg, Nat.reduceSub, Nat.reduceMul, Nat.reduceLeDiff, Nat.reduceEqDiff, d_eqTI, d_neTI, d_eqLI, d_neLI, zip_cons, zip_nil, zip_nil2, rep_di, ev_sRetO, ev_sRetF, then_rtF, en_rtF, fF_rtF, fF_er, fF_nx, ev_mLN, opt_some, opt_none, isOb_fz, isOb_ow, isOb_no, isOb_opt, hid_opt, ld_opt, List.any_cons, List.any_nil, Bool.or_false, turn_tp13, turn_tp12, ev_sExt2, sq2_l, sq2_t, hid_pw, ld_pw, isOb_pw, ev_sIxP, this]
    · simp only [ev_V0, dec_T, dec_F, ev_VS, set_0, set_S, get_0, get_S, hd_nil, hd_cons, hid_fz, hid_no, hid_ow, hid_ob, if_t, if_f, if_T, if_F, not_t, not_f, ev_C, ev_1, ev_2, ev_A, ev_nil, ev_cons, ev_T, ev_B, ev_And, ev_Or, ev_Not, ev_Yes, ev_If, ev_AndV, ev_OrV, ev_H, ev_Seq, then_nx, then_rt, then_er, ev_Nx, ev_Ret, ev_Set, ev_Ex, ev_SIf, ev_Rz1, ev_Rz0, bd_ok, bd_er, on_ok, on_er, d_tru_bl, d_add, d_sub, d_lt, d_le, d_gt, d_ge, d_neg, d_eqI, d_neI, d_lenT, d_lenL, d_one, d_int, d_tupL, d_tupT, d_itT, d_itL, d_inT, d_notInT, d_max2, d_min2, en_nx, en_rt, en_er, wipe_nil', wipe_cons', mb_ok, ev_sOwn, ev_sApp, ev_sExt, ev_sRev, ev_sIxS, ev_sAug, ev_sTup, ev_sFrz, frz_ow, frz_fz, frz_ob, frz_no, ev_mHN, only_l, only_er, ev_sFor, ev_sRetN, ev_mL, ev_mLB, ld_nil, ld_cons, ld_fz, ld_no, ld_ow, ld_ob, okF_int, okF_bl, okF_str, okF_non, okF_tup, okFs_di, ev_meth, ev_mIsN, ev_mIsNotN, isN_non, isN_int, isN_tup, isN_lst, isN_obj, isN_bl, isN_str, d_not_bl, d_en_t, d_en_l, d_zip_t, d_zip_l, d_list_l, d_list_t, d_absI, turn_nm, turn_tp2, turn_tp3, turn_tp4, tE_nm, tE_tp2, tE_tp3, ix_t0, ix_t1, ix_t2, ix_t3, ix_l0, ix_l1, ix_l2, ix_l3, d_tu0, d_tu1, d_tu2, d_tu3, d_tu4, d_ls0, d_ls1, d_ls2, d_ls3, d_ls4, then_br, then_ct, List.length_cons, List.length_nil, Nat.reduceAdd, Nat.reduceLT, Bool.false_eq_true, Bool.true_eq_false, loopL_nil, ev_mSl, pt_none, pt_some, sl_t, sl_l, cut_m1, cut_hi, cut_lo, di_take, di_drop, di_dropLast, d_all1, List.length_map, Int.natCast_zero, Int.reduceLE, Int.reduceLT, Int.reduceEq, Int.reduceToNat, Int.reduceAdd, Int.reduceSub, Int.reduceMul, Int.reduceNeg, Nat.reduceSub, Nat.reduceMul, Nat.reduceLeDiff, Nat.reduceEqDiff, d_eqTI, d_neTI, d_eqLI, d_neLI, zip_cons, zip_nil, zip_nil2, rep_di, ev_sRetO, ev_sRetF, then_rtF, en_rtF, fF_rtF, fF_er, fF_nx, ev_mLN, opt_some, opt_none, isOb_fz, isOb_ow, isOb_no, isOb_opt, hid_opt, ld_opt, List.any_cons, List.any_nil, Bool.or_false, turn_tp13, turn_tp12, ev_sExt2, sq2_l, sq2_t, hid_pw, ld_pw, isOb_pw, ev_sIxP]
  have k4 : ∀ (o0 : Option D), c_compare_differences_4 [some (num v), some (.int w), some (.int b), some (.int o), some (.int e), some (.tup [.int w, .int b, .int o, .int e]), o0, some (.lst [.tup [.int w, .int b], .tup [.int o, .int e], .tup [.int w, .int o]]), none, none, none, none] = .ok (.lst ((lotsF n w b o e).map tu)) := fun o0 => by
    rw [c_compare_differences_4]
    refine (ev_lcM (c := fun p : Int × Int => .tup [.int p.1, .int p.2]) [(w, b), (o, e), (w, o)] (fun p => tu (cpl n p.1 p.2)) ?_ (by show 3 ≤ 16777216; decide) fun p hp => ?_).trans rfl
    · simp only [ev_V0, dec_T, dec_F, ev_VS, set_0, set_S, get_0, get_S, hd_nil, hd_cons, hid_fz, hid_no, hid_ow, hid_ob, if_t, if_f, if_T, if_F, not_t, not_f, ev_C, ev_1, ev_2, ev_A, ev_nil, ev_cons, ev_T, ev_B, ev_And, ev_Or, ev_Not, ev_Yes, ev_If, ev_AndV, ev_OrV, ev_H, ev_Seq, then_nx, then_rt, then_er, ev_Nx, ev_Ret, ev_Set, ev_Ex, ev_SIf, ev_Rz1, ev_Rz0, bd_ok, bd_er, on_ok, on_er, d_tru_bl, d_add, d_sub, d_lt, d_le, d_gt, d_ge, d_neg, d_eqI, d_neI, d_lenT, d_lenL, d_one, d_int, d_tupL, d_tupT, d_itT, d_itL, d_inT, d_notInT, d_max2, d_min2, en_nx, en_rt, en_er, wipe_nil', wipe_cons', mb_ok, ev_sOwn, ev_sApp, ev_sExt, ev_sRev, ev_sIxS, ev_sAug, ev_sTup, ev_sFrz, frz_ow, frz_fz, frz_ob, frz_no, ev_mHN, only_l, only_er, ev_sFor, ev_sRetN, ev_mL, ev_mLB, ld_nil, ld_cons, ld_fz, ld_no, ld_ow, ld_ob, okF_int, okF_bl, okF_str, okF_non, okF_tup, okFs_di, ev_meth, ev_mIsN, ev_mIsNotN, isN_non, isN_int, isN_tup, isN_lst, isN_obj, isN_bl, isN_str, d_not_bl, d_en_t, d_en_l, d_zip_t, d_zip_l, d_list_l, d_list_t, d_absI, turn_nm, turn_tp2, turn_tp3, turn_tp4, tE_nm, tE_tp2, tE_tp3, ix_t0, ix_t1, ix_t2, ix_t3, ix_l0, ix_l1, ix_l2, ix_l3, d_tu0, d_tu1, d_tu2, d_tu3, d_tu4, d_ls0, d_ls1, d_ls2, d_ls3, d_ls4, then_br, then_ct, List.length_cons, List.length_nil, Nat.reduceAdd, Nat.reduceLT, Bool.false_eq_true, Bool.true_eq_false, loopL_nil, ev_mSl, pt_none, pt_some, sl_t, sl_l, cut_m1, cut_hi, cut_lo, di_take, di_drop, di_dropLast, d_all1, List.length_map, Int.natCast_zero, Int.reduceLE, Int.reduceLT, Int.reduceEq, Int.reduceToNat, Int.reduceAdd, Int.reduceSub, Int.reduceMul, Int.reduceNeg, Nat.reduceSub, Nat.reduceMul, Nat.reduceLeDiff, Nat.reduceEqDiff, d_eqTI, d_neTI, d_eqLI, d_neLI, zip_cons, zip_nil, zip_nil2, rep_di, ev_sRetO, ev_sRetF, then_rtF, en_rtF, fF_rtF, fF_er, fF_nx, ev_mLN, opt_some, opt_none, isOb_fz, isOb_ow, isOb_no, isOb_opt, hid_opt, ld_opt, List.any_cons, List.any_nil, Bool.or_false, turn_tp13, turn_tp12, ev_sExt2, sq2_l, sq2_t, hid_pw, ld_pw, isOb_pw, ev_sIxP]
      rfl
    · simp only [ev_V0, dec_T, dec_F, ev_VS, set_0, set_S, get_0, get_S, hd_nil, hd_cons, hid_fz, hid_no, hid_ow, hid_ob, if_t, if_f, if_T, if_F, not_t, not_f, ev_C, ev_1, ev_2, ev_A, ev_nil, ev_cons, ev_T, ev_B, ev_And, ev_Or, ev_Not, ev_Yes, ev_If, ev_AndV, ev_OrV, ev_H, ev_Seq, then_nx, then_rt, then_er, ev_Nx, ev_Ret, ev_Set, ev_Ex, ev_SIf, ev_Rz1, ev_Rz0, bd_ok, bd_er, on_ok, on_er, d_tru_bl, d_add, d_sub, d_lt, d_le, d_gt, d_ge, d_neg, d_eqI, d_neI, d_lenT, d_lenL, d_one, d_int, d_tupL, d_tupT, d_itT, d_itL, d_inT, d_notInT, d_max2, d_min2, en_nx, en_rt, en_er, wipe_nil', wipe_cons', mb_ok, ev_sOwn, ev_sApp, ev_sExt, ev_sRev, ev_sIxS, ev_sAug, ev_sTup, ev_sFrz, frz_ow, frz_fz, frz_ob, frz_no, ev_mHN, only_l, only_er, ev_sFor, ev_sRetN, ev_mL, ev_mLB, ld_nil, ld_cons, ld_fz, ld_no, ld_ow, ld_ob, okF_int, okF_bl, okF_str, okF_non, okF_tup, okFs_di, ev_meth, ev_mIsN, ev_mIsNotN, isN_non, isN_int, isN_tup, isN_lst, isN_obj, isN_bl, isN_str, d_not_bl, d_en_t, d_en_l, d_zip_t, d_zip_l, d_list_l, d_list_t, d_absI, turn_nm, turn_tp2, turn_tp3, turn_tp4, tE_nm, tE_tp2, tE_tp3, ix_t0, ix_t1, ix_t2, ix_t3, ix_l0, ix_l1, ix_l2, ix_l3, d_tu0, d_tu1, d_tu2, d_tu3, d_tu4, d_ls0, d_ls1, d_ls2, d_ls3, d_ls4, then_br, then_ct, List.length_cons, List.length_nil, Nat.reduceAdd, Nat.reduceLT, Bool.false_eq_true, Bool.true_eq_false, loopL_nil, ev_mSl, pt_none, pt_some, sl_t, sl_l, cut_m1, cut_hi, cut_lo, di_take, di_drop, di_dropLast, d_all1, List.length_map, Int.natCast_zero, Int.reduceLE, Int.reduceLT, Int.reduceEq, Int.reduceToNat, Int.reduceAdd, Int.reduceSub, Int.reduceMul, Int.reduceNeg, Nat.reduceSub, Nat.reduceMul, Nat.reduceLeDiff, Nat.reduceEqDiff, d_eqTI, d_neTI, d_eqLI, d_neLI, zip_cons, zip_nil, zip_nil2, rep_di, ev_sRetO, ev_sRetF, then_rtF, en_rtF, fF_rtF, fF_er, fF_nx, ev_mLN, opt_some, opt_none, isOb_fz, isOb_ow, isOb_no, isOb_opt, hid_opt, ld_opt, List.any_cons, List.any_nil, Bool.or_false, turn_tp13, turn_tp12, ev_sExt2, sq2_l, sq2_t, hid_pw, ld_pw, isOb_pw, ev_sIxP, k3 none]
  have ls : dLst [.tup [.int w, .int b], .tup [.int o, .int e], .tup [.int w, .int o]] = .ok (.lst [.tup [.int w, .int b], .tup [.int o, .int e], .tup [.int w, .int o]]) := d_ls3 _ _ _
  have sz := lenSet_t (l := [w, b, o, e]) (by show 4 < 60; decide)
  rw [len_nodup F.nd] at sz
  have sz : dLenSet (.tup [.int w, .int b, .int o, .int e]) = .ok (.int 4) := sz
  have nf := find_no F
  rw [← hn] at nf
  have inw : ∀ x : Int, 0 ≤ x ∧ x < (n : Int) → decide (x ∈ atF ((lotsF n w b o e).foldl gvF v) 0) = decide (((lotsF n w b o e).foldl gvF v).getD x.toNat 0 = 0) := fun x hx => by
    rw [decide_eq_decide, mem_at, l3]
    exact ⟨fun h => h.2, fun h => ⟨hx, h⟩⟩
  have dw : dIn (.int w) (.tup (di (atF ((lotsF n w b o e).foldl gvF v) 0))) = .ok (.bl (decide (dif v w b ≤ dif v o e))) := by
    rw [d_inT, inw w F.hw, gw]
    congr 2
    rw [decide_eq_decide]
    omega
  have dO' : dIn (.int o) (.tup (di (atF ((lotsF n w b o e).foldl gvF v) 0))) = .ok (.bl (decide (dif v o e ≤ dif v w b))) := by
    rw [d_inT, inw o F.ho, go]
    congr 2
    rw [decide_eq_decide]
    omega
  have sg : g_sign_of [.bl (decide (dif v w b ≤ dif v o e)), .bl (decide (dif v o e ≤ dif v w b))] = .ok (.int (sgn (dif v w b) (dif v o e))) := by
    rw [g_sign_of, run_F (s := [.fz (.bl (decide (dif v w b ≤ dif v o e))), .fz (.bl (decide (dif v o e ≤ dif v w b)))]) rfl, m_sign_of]
    unfold sgn
    by_cases c : dif v w b = dif v o e
    · simp only [ev_V0, dec_T, dec_F, ev_VS, set_0, set_S, get_0, get_S, hd_nil, hd_cons, hid_fz, hid_no, hid_ow, hid_ob, if_t, if_f, if_T, if_F, not_t, not_f, ev_C, ev_1, ev_2, ev_A, ev_nil, ev_cons, ev_T, ev_B, ev_And, ev_Or, ev_Not, ev_Yes, ev_If, ev_AndV, ev_OrV, ev_H, ev_Seq, then_nx, then_rt, then_er, ev_Nx, ev_Ret, ev_Set, ev_Ex, ev_SIf, ev_Rz1, ev_Rz0, bd_ok, bd_er, on_ok, on_er, d_tru_bl, d_add, d_sub, d_lt, d_le, d_gt, d_ge, d_neg, d_eqI, d_neI, d_lenT, d_lenL, d_one, d_int, d_tupL, d_tupT, d_itT, d_itL, d_inT, d_notInT, d_max2, d_min2, en_nx, en_rt, en_er, wipe_nil', wipe_cons', mb_ok, ev_sOwn, ev_sApp, ev_sExt, ev_sRev, ev_sIxS, ev_sAug, ev_sTup, ev_sFrz, frz_ow, frz_fz, frz_ob, frz_no, ev_mHN, only_l, only_er, ev_sFor, ev_sRetN, ev_mL, ev_mLB, ld_nil, ld_cons, ld_fz, ld_no, ld_ow, ld_ob, okF_int, okF_bl, okF_str, okF_non, okF_tup, okFs_di, ev_meth, ev_mIsN, ev_mIsNotN, isN_non, isN_int, isN_tup, isN_lst, isN_obj, isN_bl, isN_str, d_not_bl, d_en_t, d_en_l, d_zip_t, d_zip_l, d_list_l, d_list_t, d_absI, turn_nm, turn_tp2, turn_tp3, turn_tp4, tE_nm, tE_tp2, tE_tp3, ix_t0, ix_t1, ix_t2, ix_t3, ix_l0, ix_l1, ix_l2, ix_l3, d_tu0, d_tu1, d_tu2, d_tu3, d_tu4, d_ls0, d_ls1, d_ls2, d_ls3, d_ls4, then_br, then_ct, List.length_cons, List.length_nil, Nat.reduceAdd, Nat.reduceLT, Bool.false_eq_true, Bool.true_eq_false, loopL_nil, ev_mSl, pt_none, pt_some, sl_t, sl_l, cut_m1, cut_hi, cut_lo, di_take, di_drop, di_dropLast, d_all1, List.length_map, Int.natCast_zero, Int.reduceLE, Int.reduceLT, Int.reduceEq, Int.reduceToNat, Int.reduceAdd, Int.reduceSub, Int.reduceMul, Int.reduceNeg, Nat.reduceSub, Nat.reduceMul, Nat.reduceLeDiff, Nat.reduceEqDiff, d_eqTI, d_neTI, d_eqLI, d_neLI, zip_cons, zip_nil, zip_nil2, rep_di, ev_sRetO, ev_sRetF, then_rtF, en_rtF, fF_rtF, fF_er, fF_nx, ev_mLN, opt_some, opt_none, isOb_fz, isOb_ow, isOb_no, isOb_opt, hid_opt, ld_opt, List.any_cons, List.any_nil, Bool.or_false, turn_tp13, turn_tp12, ev_sExt2, sq2_l, sq2_t, hid_pw, ld_pw, isOb_pw, ev_sIxP, c, Int.le_refl, decide_true, if_true]
    · by_cases c2 : dif v w b < dif v o e
      · have a1 : dif v w b ≤ dif v o e := by omega
        have a2 : ¬ dif v o e ≤ dif v w b := by omega
        rw [if_neg c, if_pos c2]
        simp only [ev_V0, dec_T, dec_F, ev_VS, set_0, set_S, get_0, get_S, hd_nil, hd_cons, hid_fz, hid_no, hid_ow, hid_ob, if_t, if_f, if_T, if_F, not_t, not_f, ev_C, ev_1, ev_2, ev_A, ev_nil, ev_cons, ev_T, ev_B, ev_And, ev_Or, ev_Not, ev_Yes, ev_If, ev_AndV, ev_OrV, ev_H, ev_Seq, then_nx, then_rt, then_er, ev_Nx, ev_Ret, ev_Set, ev_Ex, ev_SIf, ev_Rz1, ev_Rz0, bd_ok, bd_er, on_ok, on_er, d_tru_bl, d_add, d_sub, d_lt, d_le, d_gt, d_ge, d_neg, d_eqI, d_neI, d_lenT, d_lenL, d_one, d_int, d_tupL, d_tupT, d_itT, d_itL, d_inT, d_notInT, d_max2, d_min2, en_nx, en_rt, en_er, wipe_nil', wipe_cons', mb_ok, ev_sOwn, ev_sApp, ev_sExt, ev_sRev, ev_sIxS, ev_sAug, ev_sTup, ev_sFrz, frz_ow, frz_fz, frz_ob, frz_no, ev_mHN, only_l, only_er, ev_sFor, ev_sRetN, ev_mL, ev_mLB, ld_nil, ld_cons, ld_fz, ld_no, ld_ow, ld_ob, okF_int, okF_bl, okF_str, okF_non, okF_tup, okFs_di, ev_meth, ev_mIsN, ev_mIsNotN, isN_non, isN_int, isN_tup, isN_lst, isN_obj, isN_bl, isN_str, d_not_bl, d_en_t, d_en_l, d_zip_t, d_zip_l, d_list_l, d_list_t, d_absI, turn_nm, turn_tp2, turn_tp3, turn_tp4, tE_nm, tE_tp2, tE_tp3, ix_t0, ix_t1, ix_t2, ix_t3, ix_l0, ix_l1, ix_l2, ix_l3, d_tu0, d_tu1, d_tu2, d_tu3, d_tu4, d_ls0, d_ls1, d_ls2, d_ls3, d_ls4, then_br, then_ct, List.length_cons, List.length_nil, Nat.reduceAdd, Nat.reduceLT, Bool.false_eq_true, Bool.true_eq_false, loopL_nil, ev_mSl, pt_none, pt_some, sl_t, sl_l, cut_m1, cut_hi, cut_lo, di_take, di_drop, di_dropLast, d_all1, List.length_map, Int.natCast_zero, Int.reduceLE, Int.reduceLT, Int.reduceEq, Int.reduceToNat, Int.reduceAdd, Int.reduceSub, Int.reduceMul, Int.reduceNeg, Nat.reduceSub, Nat.reduceMul, Nat.reduceLeDiff, Nat.reduceEqDiff, d_eqTI, d_neTI, d_eqLI, d_neLI, zip_cons, zip_nil, zip_nil2, rep_di, ev_sRetO, ev_sRetF, then_rtF, en_rtF, fF_rtF, fF_er, fF_nx, ev_mLN, opt_some, opt_none, isOb_fz, isOb_ow, isOb_no, isOb_opt, hid_opt, ld_opt, List.any_cons, List.any_nil, Bool.or_false, turn_tp13, turn_tp12, ev_sExt2, sq2_l, sq2_t, hid_pw, ld_pw, isOb_pw, ev_sIxP, a1, a2, decide_true, decide_false]
      · have a1 : ¬ dif v w b ≤ dif v o e := by omega
        have a2 : dif v o e ≤ dif v w b := by omega
        rw [if_neg c, if_neg c2]
        simp only [ev_V0, dec_T, dec_F, ev_VS, set_0, set_S, get_0, get_S, hd_nil, hd_cons, hid_fz, hid_no, hid_ow, hid_ob, if_t, if_f, if_T, if_F, not_t, not_f, ev_C, ev_1, ev_2, ev_A, ev_nil, ev_cons, ev_T, ev_B, ev_And, ev_Or, ev_Not, ev_Yes, ev_If, ev_AndV, ev_OrV, ev_H, ev_Seq, then_nx, then_rt, then_er, ev_Nx, ev_Ret, ev_Set, ev_Ex, ev_SIf, ev_Rz1, ev_Rz0, bd_ok, bd_er, on_ok, on_er, d_tru_bl, d_add, d_sub, d_lt, d_le, d_gt, d_ge, d_neg, d_eqI, d_neI, d_lenT, d_lenL, d_one, d_int, d_tupL, d_tupT, d_itT, d_itL, d_inT, d_notInT, d_max2, d_min2, en_nx, en_rt, en_er, wipe_nil', wipe_cons', mb_ok, ev_sOwn, ev_sApp, ev_sExt, ev_sRev, ev_sIxS, ev_sAug, ev_sTup, ev_sFrz, frz_ow, frz_fz, frz_ob, frz_no, ev_mHN, only_l, only_er, ev_sFor, ev_sRetN, ev_mL, ev_mLB, ld_nil, ld_cons, ld_fz, ld_no, ld_ow, ld_ob, okF_int, okF_bl, okF_str, okF_non, okF_tup, okFs_di, ev_meth, ev_mIsN, ev_mIsNotN, isN_non, isN_int, isN_tup, isN_lst, isN_obj, isN_bl, isN_str, d_not_bl, d_en_t, d_en_l, d_zip_t, d_zip_l, d_list_l, d_list_t, d_absI, turn_nm, turn_tp2, turn_tp3, turn_tp4, tE_nm, tE_tp2, tE_tp3, ix_t0, ix_t1, ix_t2, ix_t3, ix_l0, ix_l1, ix_l2, ix_l3, d_tu0, d_tu1, d_tu2, d_tu3, d_tu4, d_ls0, d_ls1, d_ls2, d_ls3, d_ls4, then_br, then_ct, List.length_cons, List.length_nil, Nat.reduceAdd, Nat.reduceLT, Bool.false_eq_true, Bool.true_eq_false, loopL_nil, ev_mSl, pt_none, pt_some, sl_t, sl_l, cut_m1, cut_hi, cut_lo, di_take, di_drop, di_dropLast, d_all1, List.length_map, Int.natCast_zero, Int.reduceLE, Int.reduceLT, Int.reduceEq, Int.reduceToNat, Int.reduceAdd, Int.reduceSub, Int.reduceMul, Int.reduceNeg, Nat.reduceSub, Nat.reduceMul, Nat.reduceLeDiff, Nat.reduceEqDiff, d_eqTI, d_neTI, d_eqLI, d_neLI, zip_cons, zip_nil, zip_nil2, rep_di, ev_sRetO, ev_sRetF, then_rtF, en_rtF, fF_rtF, fF_er, fF_nx, ev_mLN, opt_some, opt_none, isOb_fz, isOb_ow, isOb_no, isOb_opt, hid_opt, ld_opt, List.any_cons, List.any_nil, Bool.or_false, turn_tp13, turn_tp12, ev_sExt2, sq2_l, sq2_t, hid_pw, ld_pw, isOb_pw, ev_sIxP, a1, a2, decide_true, decide_false]
  rcases walk4 (v := v) (q := [w, b, o, e]) (w := .int w) (b := .int b) (o := .int o) (e := .int e) with ⟨_, t, lp⟩ | ⟨x, s, z, _⟩
  · have lp : l_compare_differences_2 [.fz (num v), .fz (.int w), .fz (.int b), .fz (.int o), .fz (.int e), .fz (.tup [.int w, .int b, .int o, .int e]), .no, .no, .no, .no, .no, .no] = .nx [.fz (num v), .fz (.int w), .fz (.int b), .fz (.int o), .fz (.int e), .fz (.tup [.int w, .int b, .int o, .int e]), t, .no, .no, .no, .no, .no] := lp
    rw [g_compare_differences, run_F (s := [.fz (num v), .fz (.int w), .fz (.int b), .fz (.int o), .fz (.int e), .no, .no, .no, .no, .no, .no, .no]) rfl, m_compare_differences]
    simp only [ev_V0, dec_T, dec_F, ev_VS, set_0, set_S, get_0, get_S, hd_nil, hd_cons, hid_fz, hid_no, hid_ow, hid_ob, if_t, if_f, if_T, if_F, not_t, not_f, ev_C, ev_1, ev_2, ev_A, ev_nil, ev_cons, ev_T, ev_B, ev_And, ev_Or, ev_Not, ev_Yes, ev_If, ev_AndV, ev_OrV, ev_H, ev_Seq, then_nx, then_rt, then_er, ev_Nx, ev_Ret, ev_Set, ev_Ex, ev_SIf, ev_Rz1, ev_Rz0, bd_ok, bd_er, on_ok, on_er, d_tru_bl, d_add, d_sub, d_lt, d_le, d_gt, d_ge, d_neg, d_eqI, d_neI, d_lenT, d_lenL, d_one, d_int, d_tupL, d_tupT, d_itT, d_itL, d_inT, d_notInT, d_max2, d_min2, en_nx, en_rt, en_er, wipe_nil', wipe_cons', mb_ok, ev_sOwn, ev_sApp, ev_sExt, ev_sRev, ev_sIxS, ev_sAug, ev_sTup, ev_sFrz, frz_ow, frz_fz, frz_ob, frz_no, ev_mHN, only_l, only_er, ev_sFor, ev_sRetN, ev_mL, ev_mLB, ld_nil, ld_cons, ld_fz, ld_no, ld_ow, ld_ob, okF_int, okF_bl, okF_str, okF_non, okF_tup, okFs_di, ev_meth, ev_mIsN, ev_mIsNotN, isN_non, isN_int, isN_tup, isN_lst, isN_obj, isN_bl, isN_str, d_not_bl, d_en_t, d_en_l, d_zip_t, d_zip_l, d_list_l, d_list_t, d_absI, turn_nm, turn_tp2, turn_tp3, turn_tp4, tE_nm, tE_tp2, tE_tp3, ix_t0, ix_t1, ix_t2, ix_t3, ix_l0, ix_l1, ix_l2, ix_l3, d_tu0, d_tu1, d_tu2, d_tu3, d_tu4, d_ls0, d_ls1, d_ls2, d_ls3, d_ls4, then_br, then_ct, List.length_cons, List.length_nil, Nat.reduceAdd, Nat.reduceLT, Bool.false_eq_true, Bool.true_eq_false, loopL_nil, ev_mSl, pt_none, pt_some, sl_t, sl_l, cut_m1, cut_hi, cut_lo, di_take, di_drop, di_dropLast, d_all1, List.length_map, Int.natCast_zero, Int.reduceLE, Int.reduceLT, Int.reduceEq, Int.reduceToNat, Int.reduceAdd, Int.reduceSub, Int.reduceMul, Int.reduceNeg, Nat.reduceSub, Nat.reduceMul, Nat.reduceLeDiff, Nat.reduceEqDiff, d_eqTI, d_neTI, d_eqLI, d_neLI, zip_cons, zip_nil, zip_nil2, rep_di, ev_sRetO, ev_sRetF, then_rtF, en_rtF, fF_rtF, fF_er, fF_nx, ev_mLN, opt_some, opt_none, isOb_fz, isOb_ow, isOb_no, isOb_opt, hid_opt, ld_opt, List.any_cons, List.any_nil, Bool.or_false, turn_tp13, turn_tp12, ev_sExt2, sq2_l, sq2_t, hid_pw, ld_pw, isOb_pw, ev_sIxP, lp, sz, ls, k4, run, bp, dw, dO', sg]
  · rw [nf] at z
    cases z

end T

end
section
set_option Elab.async false
set_option linter.all false
set_option maxRecDepth 100000
set_option maxHeartbeats 1000000
namespace T
open PySem PySem.Spec L2 DL
open PyProof.Rows hiding St
theorem e_worlds {n : Nat} {d : Int} (h8 : n ≤ 8) : ∃ r : List Int, g__law_worlds [.int n, .int d] = .ok (.lst (di r)) ∧ r.Perm (rng n) := by
  have k1 : ∀ o1 : Option D, c__law_worlds_1 [some (.int n), some (.int d), o1, none, none, none, none, none] = .ok (.lst (di (rng n))) := fun o1 => by
    rw [c__law_worlds_1]
    refine ev_lcM (c := D.int) (rng n) D.int ?_ (by rw [len_rng]; exact small h8) fun x hx => ?_
    · simp only [ev_V0, dec_T, dec_F, ev_VS, set_0, set_S, get_0, get_S, hd_nil, hd_cons, hid_fz, hid_no, hid_ow, hid_ob, if_t, if_f, if_T, if_F, not_t, not_f, ev_C, ev_1, ev_2, ev_A, ev_nil, ev_cons, ev_T, ev_B, ev_And, ev_Or, ev_Not, ev_Yes, ev_If, ev_AndV, ev_OrV, ev_H, ev_Seq, then_nx, then_rt, then_er, ev_Nx, ev_Ret, ev_Set, ev_Ex, ev_SIf, ev_Rz1, ev_Rz0, bd_ok, bd_er, on_ok, on_er, d_tru_bl, d_add, d_sub, d_lt, d_le, d_gt, d_ge, d_neg, d_eqI, d_neI, d_lenT, d_lenL, d_one, d_int, d_tupL, d_tupT, d_itT, d_itL, d_inT, d_notInT, d_max2, d_min2, en_nx, en_rt, en_er, wipe_nil', wipe_cons', mb_ok, ev_sOwn, ev_sApp, ev_sExt, ev_sRev, ev_sIxS, ev_sAug, ev_sTup, ev_sFrz, frz_ow, frz_fz, frz_ob, frz_no, ev_mHN, only_l, only_er, ev_sFor, ev_sRetN, ev_mL, ev_mLB, ld_nil, ld_cons, ld_fz, ld_no, ld_ow, ld_ob, okF_int, okF_bl, okF_str, okF_non, okF_tup, okFs_di, ev_meth, ev_mIsN, ev_mIsNotN, isN_non, isN_int, isN_tup, isN_lst, isN_obj, isN_bl, isN_str, d_not_bl, d_en_t, d_en_l, d_zip_t, d_zip_l, d_list_l, d_list_t, d_absI, turn_nm, turn_tp2, turn_tp3, turn_tp4, tE_nm, tE_tp2, tE_tp3, ix_t0, ix_t1, ix_t2, ix_t3, ix_l0, ix_l1, ix_l2, ix_l3, d_tu0, d_tu1, d_tu2, d_tu3, d_tu4, d_ls0, d_ls1, d_ls2, d_ls3, d_ls4, then_br, then_ct, List.length_cons, List.length_nil, Nat.reduceAdd, Nat.reduceLT, Bool.false_eq_true, Bool.true_eq_false, loopL_nil, ev_mSl, pt_none, pt_some, sl_t, sl_l, cut_m1, cut_hi, cut_lo, di_take, di_drop, di_dropLast, d_all1, List.length_map, Int.natCast_zero, Int.reduceLE, Int.reduceLT, Int.reduceEq, Int.reduceToNat, Int.reduceAdd, Int.reduceSub, Int.reduceMul, Int.reduceNeg, Nat.reduceSub, Nat.reduceMul, Nat.reduceLeDiff, Nat.reduceEqDiff, d_eqTI, d_neTI, d_eqLI, d_neLI, zip_cons, zip_nil, zip_nil2, rep_di, ev_sRetO, ev_sRetF, then_rtF, en_rtF, fF_rtF, fF_er, fF_nx, ev_mLN, opt_some, opt_none, isOb_fz, isOb_ow, isOb_no, isOb_opt, hid_opt, ld_opt, List.any_cons, List.any_nil, Bool.or_false, turn_tp13, turn_tp12, ev_sExt2, sq2_l, sq2_t, hid_pw, ld_pw, isOb_pw, ev_sIxP, d_rng n (show n < 1000000 by omega)]
    · simp only [ev_V0, dec_T, dec_F, ev_VS, set_0, set_S, get_0, get_S, hd_nil, hd_cons, hid_fz, hid_no, hid_ow, hid_ob, if_t, if_f, if_T, if_F, not_t, not_f, ev_C, ev_1, ev_2, ev_A, ev_nil, ev_cons, ev_T, ev_B, ev_And, ev_Or, ev_Not, ev_Yes, ev_If, ev_AndV, ev_OrV, ev_H, ev_Seq, then_nx, then_rt, then_er, ev_Nx, ev_Ret, ev_Set, ev_Ex, ev_SIf, ev_Rz1, ev_Rz0, bd_ok, bd_er, on_ok, on_er, d_tru_bl, d_add, d_sub, d_lt, d_le, d_gt, d_ge, d_neg, d_eqI, d_neI, d_lenT, d_lenL, d_one, d_int, d_tupL, d_tupT, d_itT, d_itL, d_inT, d_notInT, d_max2, d_min2, en_nx, en_rt, en_er, wipe_nil', wipe_cons', mb_ok, ev_sOwn, ev_sApp, ev_sExt, ev_sRev, ev_sIxS, ev_sAug, ev_sTup, ev_sFrz, frz_ow, frz_fz, frz_ob, frz_no, ev_mHN, only_l, only_er, ev_sFor, ev_sRetN, ev_mL, ev_mLB, ld_nil, ld_cons, ld_fz, ld_no, ld_ow, ld_ob, okF_int, okF_bl, okF_str, okF_non, okF_tup, okFs_di, ev_meth, ev_mIsN, ev_mIsNotN, isN_non, isN_int, isN_tup, isN_lst, isN_obj, isN_bl, isN_str, d_not_bl, d_en_t, d_en_l, d_zip_t, d_zip_l, d_list_l, d_list_t, d_absI, turn_nm, turn_tp2, turn_tp3, turn_tp4, tE_nm, tE_tp2, tE_tp3, ix_t0, ix_t1, ix_t2, ix_t3, ix_l0, ix_l1, ix_l2, ix_l3, d_tu0, d_tu1, d_tu2, d_tu3, d_tu4, d_ls0, d_ls1, d_ls2, d_ls3, d_ls4, then_br, then_ct, List.length_cons, List.length_nil, Nat.reduceAdd, Nat.reduceLT, Bool.false_eq_true, Bool.true_eq_false, loopL_nil, ev_mSl, pt_none, pt_some, sl_t, sl_l, cut_m1, cut_hi, cut_lo, di_take, di_drop, di_dropLast, d_all1, List.length_map, Int.natCast_zero, Int.reduceLE, Int.reduceLT, Int.reduceEq, Int.reduceToNat, Int.reduceAdd, Int.reduceSub, Int.reduceMul, Int.reduceNeg, Nat.reduceSub, Nat.reduceMul, Nat.reduceLeDiff, Nat.reduceEqDiff, d_eqTI, d_neTI, d_eqLI, d_neLI, zip_cons, zip_nil, zip_nil2, rep_di, ev_sRetO, ev_sRetF, then_rtF, en_rtF, fF_rtF, fF_er, fF_nx, ev_mLN, opt_some, opt_none, isOb_fz, isOb_ow, isOb_no, isOb_opt, hid_opt, ld_opt, List.any_cons, List.any_nil, Bool.or_false, turn_tp13, turn_tp12, ev_sExt2, sq2_l, sq2_t, hid_pw, ld_pw, isOb_pw, ev_sIxP]
  have z := loop_ix (T := .nm 5) (body := b__law_worlds_2) (c := D.int) (E := fun (a : Int × List Int × List Int) (t : Sl × Sl) => [.fz (.int n), .fz (.int d), .fz (.int a.1), .fz (.lst (di a.2.1)), .ow (di a.2.2), t.1, t.2, .no])
    (P := fun i a => (a.2.2 ++ a.2.1).Perm (rng n) ∧ a.2.2.length = i) (rng n) 0 (d, rng n, []) (.no, .no) ⟨by rw [List.nil_append], rfl⟩ ?stp
  · obtain ⟨a, t, e, p1, p2⟩ := z
    obtain ⟨rest, left, row⟩ := a
    rw [Nat.zero_add, len_rng] at p2
    have p1 : (row ++ left).Perm (rng n) := p1
    have p2 : row.length = n := p2
    have len := p1.length_eq
    rw [List.length_append, len_rng] at len
    have le : left = [] := List.eq_nil_of_length_eq_zero (by omega)
    subst le
    rw [List.append_nil] at p1
    have lp : l__law_worlds_3 [.fz (.int n), .fz (.int d), .fz (.int d), .fz (.lst (di (rng n))), .ow ([]), .no, .no, .no] = .nx [.fz (.int n), .fz (.int d), .fz (.int rest), .fz (.lst []), .ow (di row), t.1, t.2, .no] := by
      have e : loopL (.nm 5) b__law_worlds_2 (di (rng n)) [.fz (.int n), .fz (.int d), .fz (.int d), .fz (.lst (di (rng n))), .ow ([]), .no, .no, .no] = .nx [.fz (.int n), .fz (.int d), .fz (.int rest), .fz (.lst []), .ow (di row), t.1, t.2, .no] := e
      rw [← e]
      simp only [l__law_worlds_3, ev_V0, dec_T, dec_F, ev_VS, set_0, set_S, get_0, get_S, hd_nil, hd_cons, hid_fz, hid_no, hid_ow, hid_ob, if_t, if_f, if_T, if_F, not_t, not_f, ev_C, ev_1, ev_2, ev_A, ev_nil, ev_cons, ev_T, ev_B, ev_And, ev_Or, ev_Not, ev_Yes, ev_If, ev_AndV, ev_OrV, ev_H, ev_Seq, then_nx, then_rt, then_er, ev_Nx, ev_Ret, ev_Set, ev_Ex, ev_SIf, ev_Rz1, ev_Rz0, bd_ok, bd_er, on_ok, on_er, d_tru_bl, d_add, d_sub, d_lt, d_le, d_gt, d_ge, d_neg, d_eqI, d_neI, d_lenT, d_lenL, d_one, d_int, d_tupL, d_tupT, d_itT, d_itL, d_inT, d_notInT, d_max2, d_min2, en_nx, en_rt, en_er, wipe_nil', wipe_cons', mb_ok, ev_sOwn, ev_sApp, ev_sExt, ev_sRev, ev_sIxS, ev_sAug, ev_sTup, ev_sFrz, frz_ow, frz_fz, frz_ob, frz_no, ev_mHN, only_l, only_er, ev_sFor, ev_sRetN, ev_mL, ev_mLB, ld_nil, ld_cons, ld_fz, ld_no, ld_ow, ld_ob, okF_int, okF_bl, okF_str, okF_non, okF_tup, okFs_di, ev_meth, ev_mIsN, ev_mIsNotN, isN_non, isN_int, isN_tup, isN_lst, isN_obj, isN_bl, isN_str, d_not_bl, d_en_t, d_en_l, d_zip_t, d_zip_l, d_list_l, d_list_t, d_absI, turn_nm, turn_tp2, turn_tp3, turn_tp4, tE_nm, tE_tp2, tE_tp3, ix_t0, ix_t1, ix_t2, ix_t3, ix_l0, ix_l1, ix_l2, ix_l3, d_tu0, d_tu1, d_tu2, d_tu3, d_tu4, d_ls0, d_ls1, d_ls2, d_ls3, d_ls4, then_br, then_ct, List.length_cons, List.length_nil, Nat.reduceAdd, Nat.reduceLT, Bool.false_eq_true, Bool.true_eq_false, loopL_nil, ev_mSl, pt_none, pt_some, sl_t, sl_l, cut_m1, cut_hi, cut_lo, di_take, di_drop, di_dropLast, d_all1, List.length_map, Int.natCast_zero, Int.reduceLE, Int.reduceLT, Int.reduceEq, Int.reduceToNat, Int.reduceAdd, Int.reduceSub, Int.reduceMul, Int.reduceNeg, Nat.reduceSub, Nat.reduceMul, Nat.reduceLeDiff, Nat.reduceEqDiff, d_eqTI, d_neTI, d_eqLI, d_neLI, zip_cons, zip_nil, zip_nil2, rep_di, ev_sRetO, ev_sRetF, then_rtF, en_rtF, fF_rtF, fF_er, fF_nx, ev_mLN, opt_some, opt_none, isOb_fz, isOb_ow, isOb_no, isOb_opt, hid_opt, ld_opt, List.any_cons, List.any_nil, Bool.or_false, turn_tp13, turn_tp12, ev_sExt2, sq2_l, sq2_t, hid_pw, ld_pw, isOb_pw, ev_sIxP, d_rng n (show n < 1000000 by omega)]
    refine ⟨row, ?_, p1⟩
    rw [g__law_worlds, run_F (s := [.fz (.int n), .fz (.int d), .no, .no, .no, .no, .no, .no]) rfl, m__law_worlds]
    simp only [ev_V0, dec_T, dec_F, ev_VS, set_0, set_S, get_0, get_S, hd_nil, hd_cons, hid_fz, hid_no, hid_ow, hid_ob, if_t, if_f, if_T, if_F, not_t, not_f, ev_C, ev_1, ev_2, ev_A, ev_nil, ev_cons, ev_T, ev_B, ev_And, ev_Or, ev_Not, ev_Yes, ev_If, ev_AndV, ev_OrV, ev_H, ev_Seq, then_nx, then_rt, then_er, ev_Nx, ev_Ret, ev_Set, ev_Ex, ev_SIf, ev_Rz1, ev_Rz0, bd_ok, bd_er, on_ok, on_er, d_tru_bl, d_add, d_sub, d_lt, d_le, d_gt, d_ge, d_neg, d_eqI, d_neI, d_lenT, d_lenL, d_one, d_int, d_tupL, d_tupT, d_itT, d_itL, d_inT, d_notInT, d_max2, d_min2, en_nx, en_rt, en_er, wipe_nil', wipe_cons', mb_ok, ev_sOwn, ev_sApp, ev_sExt, ev_sRev, ev_sIxS, ev_sAug, ev_sTup, ev_sFrz, frz_ow, frz_fz, frz_ob, frz_no, ev_mHN, only_l, only_er, ev_sFor, ev_sRetN, ev_mL, ev_mLB, ld_nil, ld_cons, ld_fz, ld_no, ld_ow, ld_ob, okF_int, okF_bl, okF_str, okF_non, okF_tup, okFs_di, ev_meth, ev_mIsN, ev_mIsNotN, isN_non, isN_int, isN_tup, isN_lst, isN_obj, isN_bl, isN_str, d_not_bl, d_en_t, d_en_l, d_zip_t, d_zip_l, d_list_l, d_list_t, d_absI, turn_nm, turn_tp2, turn_tp3, turn_tp4, tE_nm, tE_tp2, tE_tp3, ix_t0, ix_t1, ix_t2, ix_t3, ix_l0, ix_l1, ix_l2, ix_l3, d_tu0, d_tu1, d_tu2, d_tu3, d_tu4, d_ls0, d_ls1, d_ls2, d_ls3, d_ls4, then_br, then_ct, List.length_cons, List.length_nil, Nat.reduceAdd, Nat.reduceLT, Bool.false_eq_true, Bool.true_eq_false, loopL_nil, ev_mSl, pt_none, pt_some, sl_t, sl_l, cut_m1, cut_hi, cut_lo, di_take, di_drop, di_dropLast, d_all1, List.length_map, Int.natCast_zero, Int.reduceLE, Int.reduceLT, Int.reduceEq, Int.reduceToNat, Int.reduceAdd, Int.reduceSub, Int.reduceMul, Int.reduceNeg, Nat.reduceSub, Nat.reduceMul, Nat.reduceLeDiff, Nat.reduceEqDiff, d_eqTI, d_neTI, d_eqLI, d_neLI, zip_cons, zip_nil, zip_nil2, rep_di, ev_sRetO, ev_sRetF, then_rtF, en_rtF, fF_rtF, fF_er, fF_nx, ev_mLN, opt_some, opt_none, isOb_fz, isOb_ow, isOb_no, isOb_opt, hid_opt, ld_opt, List.any_cons, List.any_nil, Bool.or_false, turn_tp13, turn_tp12, ev_sExt2, sq2_l, sq2_t, hid_pw, ld_pw, isOb_pw, ev_sIxP, k1, lp]
  case stp =>
    intro i x a t hx hp
    obtain ⟨rest, left, row⟩ := a
    obtain ⟨p1, p2⟩ := hp
    have p1 : (row ++ left).Perm (rng n) := p1
    have p2 : row.length = 0 + i := p2
    have him : i < n := by have := lt_of_get hx; rw [len_rng] at this; exact this
    have len := p1.length_eq
    rw [List.length_append, len_rng] at len
    have lpos : (0 : Int) < (left.length : Nat) := by omega
    obtain ⟨A, eA⟩ : ∃ A, A = rest % (left.length : Nat) := ⟨_, rfl⟩
    have a0 : 0 ≤ A := by rw [eA]; exact Int.emod_nonneg _ (by omega)
    have a1 : A < (left.length : Nat) := by rw [eA]; exact Int.emod_lt_of_pos _ lpos
    obtain ⟨j, ej⟩ := Int.eq_ofNat_of_zero_le a0
    have hj : j < left.length := by omega
    obtain ⟨y, hy⟩ := get_lt hj
    have md : dMod (.int rest) (.int (left.length : Nat)) = .ok (.int A) := by rw [eA]; exact d_mod lpos
    have dv : dFdiv (.int rest) (.int (left.length : Nat)) = .ok (.int (rest / (left.length : Nat))) := d_div lpos (by omega)
    have ix : dIx (.lst (di left)) (.int A) = .ok (.int y) := by
      have := d_ixLI (l := left) (i := A) a0 a1
      rw [this, ej, show ((j : Nat) : Int).toNat = j by omega, getD_some hy]
    have c1 : cutD (di left) none (some A) = di (left.take j) := by rw [cut_hi a0, di_take, ej]; rfl
    have c2 : cutD (di left) (some (A + 1)) none = di (left.drop (j + 1)) := by
      rw [cut_lo (by omega), di_drop, ej]
      rfl
    have ad : dAdd (.lst (di (left.take j))) (.lst (di (left.drop (j + 1)))) = .ok (.lst (di (left.take j ++ left.drop (j + 1)))) := by
      rw [add_ll (by rw [List.length_map, List.length_map, List.length_take, List.length_drop]; omega), di_append]
    have zl : row.length < 16777216 := by omega
    have pm : left.Perm (y :: (left.take j ++ left.drop (j + 1))) := by
      have e : left = left.take j ++ y :: left.drop (j + 1) := by
        have q := List.take_append_drop j left
        rw [List.drop_eq_getElem_cons hj, (List.getElem?_eq_some_iff.mp hy).2] at q
        exact q.symm
      exact (List.Perm.of_eq e).trans List.perm_middle
    refine ⟨(rest / (left.length : Nat), left.take j ++ left.drop (j + 1), row ++ [y]), (.fz (.int x), .fz (.int A)), ⟨?_, by show (row ++ [y]).length = _; rw [List.length_append, p2]; rfl⟩, .inl ?_⟩
    · show ((row ++ [y]) ++ (left.take j ++ left.drop (j + 1))).Perm (rng n)
      rw [List.append_assoc]
      exact (List.Perm.append_left row pm.symm).trans p1
    · simp only [b__law_worlds_2, ev_V0, dec_T, dec_F, ev_VS, set_0, set_S, get_0, get_S, hd_nil, hd_cons, hid_fz, hid_no, hid_ow, hid_ob, if_t, if_f, if_T, if_F, not_t, not_f, ev_C, ev_1, ev_2, ev_A, ev_nil, ev_cons, ev_T, ev_B, ev_And, ev_Or, ev_Not, ev_Yes, ev_If, ev_AndV, ev_OrV, ev_H, ev_Seq, then_nx, then_rt, then_er, ev_Nx, ev_Ret, ev_Set, ev_Ex, ev_SIf, ev_Rz1, ev_Rz0, bd_ok, bd_er, on_ok, on_er, d_tru_bl, d_add, d_sub, d_lt, d_le, d_gt, d_ge, d_neg, d_eqI, d_neI, d_lenT, d_lenL, d_one, d_int, d_tupL, d_tupT, d_itT, d_itL, d_inT, d_notInT, d_max2, d_min2, en_nx, en_rt, en_er, wipe_nil', wipe_cons', mb_ok, ev_sOwn, ev_sApp, ev_sExt, ev_sRev, ev_sIxS, ev_sAug, ev_sTup, ev_sFrz, frz_ow, frz_fz, frz_ob, frz_no, ev_mHN, only_l, only_er, ev_sFor, ev_sRetN, ev_mL, ev_mLB, ld_nil, ld_cons, ld_fz, ld_no, ld_ow, ld_ob, okF_int, okF_bl, okF_str, okF_non, okF_tup, okFs_di, ev_meth, ev_mIsN, ev_mIsNotN, isN_non, isN_int, isN_tup, isN_lst, isN_obj, isN_bl, isN_str, d_not_bl, d_en_t, d_en_l, d_zip_t, d_zip_l, d_list_l, d_list_t, d_absI, turn_nm, turn_tp2, turn_tp3, turn_tp4, tE_nm, tE_tp2, tE_tp3, ix_t0, ix_t1, ix_t2, ix_t3, ix_l0, ix_l1, ix_l2, ix_l3, d_tu0, d_tu1, d_tu2, d_tu3, d_tu4, d_ls0, d_ls1, d_ls2, d_ls3, d_ls4, then_br, then_ct, List.length_cons, List.length_nil, Nat.reduceAdd, Nat.reduceLT, Bool.false_eq_true, Bool.true_eq_false, loopL_nil, ev_mSl, pt_none, pt_some, sl_t, sl_l, cut_m1, cut_hi, cut_lo, di_take, di_drop, di_dropLast, d_all1, List.length_map, Int.natCast_zero, Int.reduceLE, Int.reduceLT, Int.reduceEq, Int.reduceToNat, Int.reduceAdd, Int.reduceSub, Int.reduceMul, Int.reduceNeg, Nat.reduceSub, Nat.reduceMul, Nat.reduceLeDiff, Nat.reduceEqDiff, d_eqTI, d_neTI, d_eqLI, d_neLI, zip_cons, zip_nil, zip_nil2, rep_di, ev_sRetO, ev_sRetF, then_rtF, en_rtF, fF_rtF, fF_er, fF_nx, ev_mLN, opt_some, opt_none, isOb_fz, isOb_ow, isOb_no, isOb_opt, hid_opt, ld_opt, List.any_cons, List.any_nil, Bool.or_false, turn_tp13, turn_tp12, ev_sExt2, sq2_l, sq2_t, hid_pw, ld_pw, isOb_pw, ev_sIxP, md, dv, ix, c1, c2, ad, zl, di_app]
/-! #### renamed -/
def reF (n : Nat) (v nm : List Int) : List Int := (rng n).map fun x => v.getD (idxI x nm) 0
theorem re_len {n : Nat} {v nm : List Int} : (reF n v nm).length = n := by rw [reF, List.length_map, len_rng]
theorem idx_at {x : Int} : ∀ {l : List Int} {k : Nat}, l.Nodup → l[k]? = some x → idxI x l = k
  | [], _, _, h => by simp at h
  | y :: l, 0, _, h => by
    cases h
    exact if_pos rfl
  | y :: l, k + 1, nd, h => by
    rw [List.nodup_cons] at nd
    have h : l[k]? = some x := by simpa using h
    have ne : ¬ y = x := fun z => nd.1 (z ▸ List.mem_of_getElem? h)
    show (if y = x then 0 else idxI x l + 1) = k + 1
    rw [if_neg ne, idx_at nd.2 h]
theorem perm_rng {n : Nat} {nm : List Int} (p : nm.Perm (rng n)) : nm.length = n ∧ nm.Nodup ∧ ∀ x, x ∈ nm ↔ 0 ≤ x ∧ x < (n : Int) := by
  refine ⟨by rw [p.length_eq, len_rng], p.nodup_iff.mpr ((rng_sorted n).imp fun h => Int.ne_of_lt h), fun x => ?_⟩
  rw [p.mem_iff, mem_rng]
theorem re_get {n : Nat} {v nm : List Int} (p : nm.Perm (rng n)) {w : Int} (hw : 0 ≤ w ∧ w < (n : Int)) : (reF n v nm).getD (nm.getD w.toNat 0).toNat 0 = v.getD w.toNat 0 := by
  obtain ⟨len, nd, mem⟩ := perm_rng p
  obtain ⟨x, hx⟩ := get_lt (show w.toNat < nm.length by omega)
  have hm := (mem x).mp (List.mem_of_getElem? hx)
  rw [getD_some hx, reF, getD_some (x := v.getD (idxI x nm) 0) (by
    rw [List.getElem?_map, rng_get (show x.toNat < n by omega), show ((x.toNat : Nat) : Int) = x by omega]
    rfl), idx_at nd hx]
theorem re_lev {n : Nat} {v nm : List Int} (h1 : 1 ≤ n) (V : Lev n v) (p : nm.Perm (rng n)) : Lev n (reF n v nm) := by
  obtain ⟨len, nd, mem⟩ := perm_rng p
  refine ⟨re_len, ?_⟩
  have ne : v ≠ [] := ne_of_len (by rw [V.len]; exact h1)
  obtain ⟨k, hk⟩ := List.mem_iff_getElem?.mp (lmin_mem ne)
  rw [V.mn] at hk
  have hkn : k < n := by rw [← V.len]; exact lt_of_get hk
  obtain ⟨x, hx⟩ := get_lt (show k < nm.length by omega)
  have hm := (mem x).mp (List.mem_of_getElem? hx)
  refine lmin_eq (List.mem_map.mpr ⟨x, mem_rng.mpr hm, by rw [idx_at nd hx, getD_some hk]⟩) fun y hy => ?_
  obtain ⟨z, hz, rfl⟩ := List.mem_map.mp hy
  have := idx_lt ((mem z).mpr (mem_rng.mp hz))
  obtain ⟨q, hq⟩ := get_lt (show idxI z nm < v.length by rw [V.len]; omega)
  rw [getD_some hq]
  exact V.pos (List.mem_of_getElem? hq)
theorem e_renamed {n : Nat} {v nm : List Int} (h1 : 1 ≤ n) (h8 : n ≤ 8) (V : Lev n v) (p : nm.Perm (rng n)) : g_Numbers_renamed [num v, .lst (di nm)] = .ok (num (reF n v nm)) := by
  obtain ⟨len, nd, mem⟩ := perm_rng p
  have hn := V.len
  have cn : g_check_names [.lst (di nm)] = .ok .non := by
    obtain ⟨t, lp⟩ : ∃ t : Sl, l_check_names_2 [.fz (.lst (di nm)), .no] = .nx [.fz (.lst (di nm)), t] := by
      simp only [l_check_names_2, ev_V0, dec_T, dec_F, ev_VS, set_0, set_S, get_0, get_S, hd_nil, hd_cons, hid_fz, hid_no, hid_ow, hid_ob, if_t, if_f, if_T, if_F, not_t, not_f, ev_C, ev_1, ev_2, ev_A, ev_nil, ev_cons, ev_T, ev_B, ev_And, ev_Or, ev_Not, ev_Yes, ev_If, ev_AndV, ev_OrV, ev_H, ev_Seq, then_nx, then_rt, then_er, ev_Nx, ev_Ret, ev_Set, ev_Ex, ev_SIf, ev_Rz1, ev_Rz0, bd_ok, bd_er, on_ok, on_er, d_tru_bl, d_add, d_sub, d_lt, d_le, d_gt, d_ge, d_neg, d_eqI, d_neI, d_lenT, d_lenL, d_one, d_int, d_tupL, d_tupT, d_itT, d_itL, d_inT, d_notInT, d_max2, d_min2, en_nx, en_rt, en_er, wipe_nil', wipe_cons', mb_ok, ev_sOwn, ev_sApp, ev_sExt, ev_sRev, ev_sIxS, ev_sAug, ev_sTup, ev_sFrz, frz_ow, frz_fz, frz_ob, frz_no, ev_mHN, only_l, only_er, ev_sFor, ev_sRetN, ev_mL, ev_mLB, ld_nil, ld_cons, ld_fz, ld_no, ld_ow, ld_ob, okF_int, okF_bl, okF_str, okF_non, okF_tup, okFs_di, ev_meth, ev_mIsN, ev_mIsNotN, isN_non, isN_int, isN_tup, isN_lst, isN_obj, isN_bl, isN_str, d_not_bl, d_en_t, d_en_l, d_zip_t, d_zip_l, d_list_l, d_list_t, d_absI, turn_nm, turn_tp2, turn_tp3, turn_tp4, tE_nm, tE_tp2, tE_tp3, ix_t0, ix_t1, ix_t2, ix_t3, ix_l0, ix_l1, ix_l2, ix_l3, d_tu0, d_tu1, d_tu2, d_tu3, d_tu4, d_ls0, d_ls1, d_ls2, d_ls3, d_ls4, then_br, then_ct, List.length_cons, List.length_nil, Nat.reduceAdd, Nat.reduceLT, Bool.false_eq_true, Bool.true_eq_false, loopL_nil, ev_mSl, pt_none, pt_some, sl_t, sl_l, cut_m1, cut_hi, cut_lo, di_take, di_drop, di_dropLast, d_all1, List.length_map, Int.natCast_zero, Int.reduceLE, Int.reduceLT, Int.reduceEq, Int.reduceToNat, Int.reduceAdd, Int.reduceSub, Int.reduceMul, Int.reduceNeg, Nat.reduceSub, Nat.reduceMul, Nat.reduceLeDiff, Nat.reduceEqDiff, d_eqTI, d_neTI, d_eqLI, d_neLI, zip_cons, zip_nil, zip_nil2, rep_di, ev_sRetO, ev_sRetF, then_rtF, en_rtF, fF_rtF, fF_er, fF_nx, ev_mLN, opt_some, opt_none, isOb_fz, isOb_ow, isOb_no, isOb_opt, hid_opt, ld_opt, List.any_cons, List.any_nil, Bool.or_false, turn_tp13, turn_tp12, ev_sExt2, sq2_l, sq2_t, hid_pw, ld_pw, isOb_pw, ev_sIxP, len, d_rng n (show n < 1000000 by omega)]
      refine loop_chk (c := D.int) (E := fun t : Sl => [.fz (.lst (di nm)), t]) (fun b _ => .fz (.int b)) (rng n) .no fun b hb t => .inl ?_
      have hm := (mem b).mpr (mem_rng.mp hb)
      simp only [b_check_names_1, ev_V0, dec_T, dec_F, ev_VS, set_0, set_S, get_0, get_S, hd_nil, hd_cons, hid_fz, hid_no, hid_ow, hid_ob, if_t, if_f, if_T, if_F, not_t, not_f, ev_C, ev_1, ev_2, ev_A, ev_nil, ev_cons, ev_T, ev_B, ev_And, ev_Or, ev_Not, ev_Yes, ev_If, ev_AndV, ev_OrV, ev_H, ev_Seq, then_nx, then_rt, then_er, ev_Nx, ev_Ret, ev_Set, ev_Ex, ev_SIf, ev_Rz1, ev_Rz0, bd_ok, bd_er, on_ok, on_er, d_tru_bl, d_add, d_sub, d_lt, d_le, d_gt, d_ge, d_neg, d_eqI, d_neI, d_lenT, d_lenL, d_one, d_int, d_tupL, d_tupT, d_itT, d_itL, d_inT, d_notInT, d_max2, d_min2, en_nx, en_rt, en_er, wipe_nil', wipe_cons', mb_ok, ev_sOwn, ev_sApp, ev_sExt, ev_sRev, ev_sIxS, ev_sAug, ev_sTup, ev_sFrz, frz_ow, frz_fz, frz_ob, frz_no, ev_mHN, only_l, only_er, ev_sFor, ev_sRetN, ev_mL, ev_mLB, ld_nil, ld_cons, ld_fz, ld_no, ld_ow, ld_ob, okF_int, okF_bl, okF_str, okF_non, okF_tup, okFs_di, ev_meth, ev_mIsN, ev_mIsNotN, isN_non, isN_int, isN_tup, isN_lst, isN_obj, isN_bl, isN_str, d_not_bl, d_en_t, d_en_l, d_zip_t, d_zip_l, d_list_l, d_list_t, d_absI, turn_nm, turn_tp2, turn_tp3, turn_tp4, tE_nm, tE_tp2, tE_tp3, ix_t0, ix_t1, ix_t2, ix_t3, ix_l0, ix_l1, ix_l2, ix_l3, d_tu0, d_tu1, d_tu2, d_tu3, d_tu4, d_ls0, d_ls1, d_ls2, d_ls3, d_ls4, then_br, then_ct, List.length_cons, List.length_nil, Nat.reduceAdd, Nat.reduceLT, Bool.false_eq_true, Bool.true_eq_false, loopL_nil, ev_mSl, pt_none, pt_some, sl_t, sl_l, cut_m1, cut_hi, cut_lo, di_take, di_drop, di_dropLast, d_all1, List.length_map, Int.natCast_zero, Int.reduceLE, Int.reduceLT, Int.reduceEq, Int.reduceToNat, Int.reduceAdd, Int.reduceSub, Int.reduceMul, Int.reduceNeg, Nat.reduceSub, Nat.reduceMul, Nat.reduceLeDiff, Nat.reduceEqDiff, d_eqTI, d_neTI, d_eqLI, d_neLI, zip_cons, zip_nil, zip_nil2, rep_di, ev_sRetO, ev_sRetF, then_rtF, en_rtF, fF_rtF, fF_er, fF_nx, ev_mLN, opt_some, opt_none, isOb_fz, isOb_ow, isOb_no, isOb_opt, hid_opt, ld_opt, List.any_cons, List.any_nil, Bool.or_false, turn_tp13, turn_tp12, ev_sExt2, sq2_l, sq2_t, hid_pw, ld_pw, isOb_pw, ev_sIxP, d_notInL, hm, decide_true, Bool.not_true]
    rw [g_check_names, run_F (s := [.fz (.lst (di nm)), .no]) rfl, m_check_names]
    rw [lp]
    rfl
  have R := re_lev h1 V p
  have mk := e_init (lv := reF n v nm) (by rw [re_len]; exact h1) (by rw [re_len]; exact h8) R.mn
  have k : c_Numbers_renamed_1 [some (num v), some (.lst (di nm)), none] = .ok (.lst (di (reF n v nm))) := by
    rw [c_Numbers_renamed_1, reF, ← di_map]
    refine ev_lcM (c := D.int) (rng n) _ ?_ (by rw [len_rng]; exact small h8) fun x hx => ?_
    · simp only [ev_V0, dec_T, dec_F, ev_VS, set_0, set_S, get_0, get_S, hd_nil, hd_cons, hid_fz, hid_no, hid_ow, hid_ob, if_t, if_f, if_T, if_F, not_t, not_f, ev_C, ev_1, ev_2, ev_A, ev_nil, ev_cons, ev_T, ev_B, ev_And, ev_Or, ev_Not, ev_Yes, ev_If, ev_AndV, ev_OrV, ev_H, ev_Seq, then_nx, then_rt, then_er, ev_Nx, ev_Ret, ev_Set, ev_Ex, ev_SIf, ev_Rz1, ev_Rz0, bd_ok, bd_er, on_ok, on_er, d_tru_bl, d_add, d_sub, d_lt, d_le, d_gt, d_ge, d_neg, d_eqI, d_neI, d_lenT, d_lenL, d_one, d_int, d_tupL, d_tupT, d_itT, d_itL, d_inT, d_notInT, d_max2, d_min2, en_nx, en_rt, en_er, wipe_nil', wipe_cons', mb_ok, ev_sOwn, ev_sApp, ev_sExt, ev_sRev, ev_sIxS, ev_sAug, ev_sTup, ev_sFrz, frz_ow, frz_fz, frz_ob, frz_no, ev_mHN, only_l, only_er, ev_sFor, ev_sRetN, ev_mL, ev_mLB, ld_nil, ld_cons, ld_fz, ld_no, ld_ow, ld_ob, okF_int, okF_bl, okF_str, okF_non, okF_tup, okFs_di, ev_meth, ev_mIsN, ev_mIsNotN, isN_non, isN_int, isN_tup, isN_lst, isN_obj, isN_bl, isN_str, d_not_bl, d_en_t, d_en_l, d_zip_t, d_zip_l, d_list_l, d_list_t, d_absI, turn_nm, turn_tp2, turn_tp3, turn_tp4, tE_nm, tE_tp2, tE_tp3, ix_t0, ix_t1, ix_t2, ix_t3, ix_l0, ix_l1, ix_l2, ix_l3, d_tu0, d_tu1, d_tu2, d_tu3, d_tu4, d_ls0, d_ls1, d_ls2, d_ls3, d_ls4, then_br, then_ct, List.length_cons, List.length_nil, Nat.reduceAdd, Nat.reduceLT, Bool.false_eq_true, Bool.true_eq_false, loopL_nil, ev_mSl, pt_none, pt_some, sl_t, sl_l, cut_m1, cut_hi, cut_lo, di_take, di_drop, di_dropLast, d_all1, List.length_map, Int.natCast_zero, Int.reduceLE, Int.reduceLT, Int.reduceEq, Int.reduceToNat, Int.reduceAdd, Int.reduceSub, Int.reduceMul, Int.reduceNeg, Nat.reduceSub, Nat.reduceMul, Nat.reduceLeDiff, Nat.reduceEqDiff, d_eqTI, d_neTI, d_eqLI, d_neLI, zip_cons, zip_nil, zip_nil2, rep_di, ev_sRetO, ev_sRetF, then_rtF, en_rtF, fF_rtF, fF_er, fF_nx, ev_mLN, opt_some, opt_none, isOb_fz, isOb_ow, isOb_no, isOb_opt, hid_opt, ld_opt, List.any_cons, List.any_nil, Bool.or_false, turn_tp13, turn_tp12, ev_sExt2, sq2_l, sq2_t, hid_pw, ld_pw, isOb_pw, ev_sIxP, fld_size, hn, d_rng n (show n < 1000000 by omega)]
    · have hm := (mem x).mpr (mem_rng.mp hx)
      have il := idx_lt hm
      have ix := d_ixTI (l := v) (i := (idxI x nm : Nat)) (by omega) (by omega)
      rw [show ((idxI x nm : Nat) : Int).toNat = idxI x nm by omega] at ix
      simp only [ev_V0, dec_T, dec_F, ev_VS, set_0, set_S, get_0, get_S, hd_nil, hd_cons, hid_fz, hid_no, hid_ow, hid_ob, if_t, if_f, if_T, if_F, not_t, not_f, ev_C, ev_1, ev_2, ev_A, ev_nil, ev_cons, ev_T, ev_B, ev_And, ev_Or, ev_Not, ev_Yes, ev_If, ev_AndV, ev_OrV, ev_H, ev_Seq, then_nx, then_rt, then_er, ev_Nx, ev_Ret, ev_Set, ev_Ex, ev_SIf, ev_Rz1, ev_Rz0, bd_ok, bd_er, on_ok, on_er, d_tru_bl, d_add, d_sub, d_lt, d_le, d_gt, d_ge, d_neg, d_eqI, d_neI, d_lenT, d_lenL, d_one, d_int, d_tupL, d_tupT, d_itT, d_itL, d_inT, d_notInT, d_max2, d_min2, en_nx, en_rt, en_er, wipe_nil', wipe_cons', mb_ok, ev_sOwn, ev_sApp, ev_sExt, ev_sRev, ev_sIxS, ev_sAug, ev_sTup, ev_sFrz, frz_ow, frz_fz, frz_ob, frz_no, ev_mHN, only_l, only_er, ev_sFor, ev_sRetN, ev_mL, ev_mLB, ld_nil, ld_cons, ld_fz, ld_no, ld_ow, ld_ob, okF_int, okF_bl, okF_str, okF_non, okF_tup, okFs_di, ev_meth, ev_mIsN, ev_mIsNotN, isN_non, isN_int, isN_tup, isN_lst, isN_obj, isN_bl, isN_str, d_not_bl, d_en_t, d_en_l, d_zip_t, d_zip_l, d_list_l, d_list_t, d_absI, turn_nm, turn_tp2, turn_tp3, turn_tp4, tE_nm, tE_tp2, tE_tp3, ix_t0, ix_t1, ix_t2, ix_t3, ix_l0, ix_l1, ix_l2, ix_l3, d_tu0, d_tu1, d_tu2, d_tu3, d_tu4, d_ls0, d_ls1, d_ls2, d_ls3, d_ls4, then_br, then_ct, List.length_cons, List.length_nil, Nat.reduceAdd, Nat.reduceLT, Bool.false_eq_true, Bool.true_eq_false, loopL_nil, ev_mSl, pt_none, pt_some, sl_t, sl_l, cut_m1, cut_hi, cut_lo, di_take, di_drop, di_dropLast, d_all1, List.length_map, Int.natCast_zero, Int.reduceLE, Int.reduceLT, Int.reduceEq, Int.reduceToNat, Int.reduceAdd, Int.reduceSub, Int.reduceMul, Int.reduceNeg, Nat.reduceSub, Nat.reduceMul, Nat.reduceLeDiff, Nat.reduceEqDiff, d_eqTI, d_neTI, d_eqLI, d_neLI, zip_cons, zip_nil, zip_nil2, rep_di, ev_sRetO, ev_sRetF, then_rtF, en_rtF, fF_rtF, fF_er, fF_nx, ev_mLN, opt_some, opt_none, isOb_fz, isOb_ow, isOb_no, isOb_opt, hid_opt, ld_opt, List.any_cons, List.any_nil, Bool.or_false, turn_tp13, turn_tp12, ev_sExt2, sq2_l, sq2_t, hid_pw, ld_pw, isOb_pw, ev_sIxP, fld_levels, asL_l, d_idx hm, ix]
  rw [g_Numbers_renamed, run_F (s := [.fz (num v), .fz (.lst (di nm)), .no]) rfl, m_Numbers_renamed]
  simp only [ev_V0, dec_T, dec_F, ev_VS, set_0, set_S, get_0, get_S, hd_nil, hd_cons, hid_fz, hid_no, hid_ow, hid_ob, if_t, if_f, if_T, if_F, not_t, not_f, ev_C, ev_1, ev_2, ev_A, ev_nil, ev_cons, ev_T, ev_B, ev_And, ev_Or, ev_Not, ev_Yes, ev_If, ev_AndV, ev_OrV, ev_H, ev_Seq, then_nx, then_rt, then_er, ev_Nx, ev_Ret, ev_Set, ev_Ex, ev_SIf, ev_Rz1, ev_Rz0, bd_ok, bd_er, on_ok, on_er, d_tru_bl, d_add, d_sub, d_lt, d_le, d_gt, d_ge, d_neg, d_eqI, d_neI, d_lenT, d_lenL, d_one, d_int, d_tupL, d_tupT, d_itT, d_itL, d_inT, d_notInT, d_max2, d_min2, en_nx, en_rt, en_er, wipe_nil', wipe_cons', mb_ok, ev_sOwn, ev_sApp, ev_sExt, ev_sRev, ev_sIxS, ev_sAug, ev_sTup, ev_sFrz, frz_ow, frz_fz, frz_ob, frz_no, ev_mHN, only_l, only_er, ev_sFor, ev_sRetN, ev_mL, ev_mLB, ld_nil, ld_cons, ld_fz, ld_no, ld_ow, ld_ob, okF_int, okF_bl, okF_str, okF_non, okF_tup, okFs_di, ev_meth, ev_mIsN, ev_mIsNotN, isN_non, isN_int, isN_tup, isN_lst, isN_obj, isN_bl, isN_str, d_not_bl, d_en_t, d_en_l, d_zip_t, d_zip_l, d_list_l, d_list_t, d_absI, turn_nm, turn_tp2, turn_tp3, turn_tp4, tE_nm, tE_tp2, tE_tp3, ix_t0, ix_t1, ix_t2, ix_t3, ix_l0, ix_l1, ix_l2, ix_l3, d_tu0, d_tu1, d_tu2, d_tu3, d_tu4, d_ls0, d_ls1, d_ls2, d_ls3, d_ls4, then_br, then_ct, List.length_cons, List.length_nil, Nat.reduceAdd, Nat.reduceLT, Bool.false_eq_true, Bool.true_eq_false, loopL_nil, ev_mSl, pt_none, pt_some, sl_t, sl_l, cut_m1, cut_hi, cut_lo, di_take, di_drop, di_dropLast, d_all1, List.length_map, Int.natCast_zero, Int.reduceLE, Int.reduceLT, Int.reduceEq, Int.reduceToNat, Int.reduceAdd, Int.reduceSub, Int.reduceMul, Int.reduceNeg, Nat.reduceSub, Nat.reduceMul, Nat.reduceLeDiff, Nat.reduceEqDiff, d_eqTI, d_neTI, d_eqLI, d_neLI, zip_cons, zip_nil, zip_nil2, rep_di, ev_sRetO, ev_sRetF, then_rtF, en_rtF, fF_rtF, fF_er, fF_nx, ev_mLN, opt_some, opt_none, isOb_fz, isOb_ow, isOb_no, isOb_opt, hid_opt, ld_opt, List.any_cons, List.any_nil, Bool.or_false, turn_tp13, turn_tp12, ev_sExt2, sq2_l, sq2_t, hid_pw, ld_pw, isOb_pw, ev_sIxP, fld_size, len, hn, decide_true, cn, k, mk]
/-! #### asked -/
theorem asked_t {v z : D} {w b o e : Int} (q : g_compare_differences [v, .int w, .int b, .int o, .int e] = .ok z) : g__law_asked [v, .lst [.int w, .int b, .int o, .int e]] = .ok (.tup [.str "told", z]) := by
  rw [g__law_asked, run_F (s := [.fz (v), .fz (.lst [.int w, .int b, .int o, .int e]), .no]) rfl, m__law_asked]
  refine tryF_ok (d := .tup [.str "told", z]) ?_
  simp only [ev_V0, dec_T, dec_F, ev_VS, set_0, set_S, get_0, get_S, hd_nil, hd_cons, hid_fz, hid_no, hid_ow, hid_ob, if_t, if_f, if_T, if_F, not_t, not_f, ev_C, ev_1, ev_2, ev_A, ev_nil, ev_cons, ev_T, ev_B, ev_And, ev_Or, ev_Not, ev_Yes, ev_If, ev_AndV, ev_OrV, ev_H, ev_Seq, then_nx, then_rt, then_er, ev_Nx, ev_Ret, ev_Set, ev_Ex, ev_SIf, ev_Rz1, ev_Rz0, bd_ok, bd_er, on_ok, on_er, d_tru_bl, d_add, d_sub, d_lt, d_le, d_gt, d_ge, d_neg, d_eqI, d_neI, d_lenT, d_lenL, d_one, d_int, d_tupL, d_tupT, d_itT, d_itL, d_inT, d_notInT, d_max2, d_min2, en_nx, en_rt, en_er, wipe_nil', wipe_cons', mb_ok, ev_sOwn, ev_sApp, ev_sExt, ev_sRev, ev_sIxS, ev_sAug, ev_sTup, ev_sFrz, frz_ow, frz_fz, frz_ob, frz_no, ev_mHN, only_l, only_er, ev_sFor, ev_sRetN, ev_mL, ev_mLB, ld_nil, ld_cons, ld_fz, ld_no, ld_ow, ld_ob, okF_int, okF_bl, okF_str, okF_non, okF_tup, okFs_di, ev_meth, ev_mIsN, ev_mIsNotN, isN_non, isN_int, isN_tup, isN_lst, isN_obj, isN_bl, isN_str, d_not_bl, d_en_t, d_en_l, d_zip_t, d_zip_l, d_list_l, d_list_t, d_absI, turn_nm, turn_tp2, turn_tp3, turn_tp4, tE_nm, tE_tp2, tE_tp3, ix_t0, ix_t1, ix_t2, ix_t3, ix_l0, ix_l1, ix_l2, ix_l3, d_tu0, d_tu1, d_tu2, d_tu3, d_tu4, d_ls0, d_ls1, d_ls2, d_ls3, d_ls4, then_br, then_ct, List.length_cons, List.length_nil, Nat.reduceAdd, Nat.reduceLT, Bool.false_eq_true, Bool.true_eq_false, loopL_nil, ev_mSl, pt_none, pt_some, sl_t, sl_l, cut_m1, cut_hi, cut_lo, di_take, di_drop, di_dropLast, d_all1, List.length_map, Int.natCast_zero, Int.reduceLE, Int.reduceLT, Int.reduceEq, Int.reduceToNat, Int.reduceAdd, Int.reduceSub, Int.reduceMul, Int.reduceNeg, Nat.reduceSub, Nat.reduceMul, Nat.reduceLeDiff, Nat.reduceEqDiff, d_eqTI, d_neTI, d_eqLI, d_neLI, zip_cons, zip_nil, zip_nil2, rep_di, ev_sRetO, ev_sRetF, then_rtF, en_rtF, fF_rtF, fF_er, fF_nx, ev_mLN, opt_some, opt_none, isOb_fz, isOb_ow, isOb_no, isOb_opt, hid_opt, ld_opt, List.any_cons, List.any_nil, Bool.or_false, turn_tp13, turn_tp12, ev_sExt2, sq2_l, sq2_t, hid_pw, ld_pw, isOb_pw, ev_sIxP, q]
theorem asked_e {v d : D} {w b o e : Int} {c : Str} {ns : List Str} {ds : List D} (q : g_compare_differences [v, .int w, .int b, .int o, .int e] = .er c ns ds) (hy : yes_NewsError.lookup c = some true) (he : g__law_error [.exc c ns ds] = .ok d) (hx : noX d = true) : g__law_asked [v, .lst [.int w, .int b, .int o, .int e]] = .ok d := by
  rw [g__law_asked, run_F (s := [.fz (v), .fz (.lst [.int w, .int b, .int o, .int e]), .no]) rfl, m__law_asked]
  refine tryF_er (c := c) (ns := ns) (ds := ds) (e2 := [.fz (v), .fz (.lst [.int w, .int b, .int o, .int e]), .no]) ?_ hy ?_ hx
  · simp only [ev_V0, dec_T, dec_F, ev_VS, set_0, set_S, get_0, get_S, hd_nil, hd_cons, hid_fz, hid_no, hid_ow, hid_ob, if_t, if_f, if_T, if_F, not_t, not_f, ev_C, ev_1, ev_2, ev_A, ev_nil, ev_cons, ev_T, ev_B, ev_And, ev_Or, ev_Not, ev_Yes, ev_If, ev_AndV, ev_OrV, ev_H, ev_Seq, then_nx, then_rt, then_er, ev_Nx, ev_Ret, ev_Set, ev_Ex, ev_SIf, ev_Rz1, ev_Rz0, bd_ok, bd_er, on_ok, on_er, d_tru_bl, d_add, d_sub, d_lt, d_le, d_gt, d_ge, d_neg, d_eqI, d_neI, d_lenT, d_lenL, d_one, d_int, d_tupL, d_tupT, d_itT, d_itL, d_inT, d_notInT, d_max2, d_min2, en_nx, en_rt, en_er, wipe_nil', wipe_cons', mb_ok, ev_sOwn, ev_sApp, ev_sExt, ev_sRev, ev_sIxS, ev_sAug, ev_sTup, ev_sFrz, frz_ow, frz_fz, frz_ob, frz_no, ev_mHN, only_l, only_er, ev_sFor, ev_sRetN, ev_mL, ev_mLB, ld_nil, ld_cons, ld_fz, ld_no, ld_ow, ld_ob, okF_int, okF_bl, okF_str, okF_non, okF_tup, okFs_di, ev_meth, ev_mIsN, ev_mIsNotN, isN_non, isN_int, isN_tup, isN_lst, isN_obj, isN_bl, isN_str, d_not_bl, d_en_t, d_en_l, d_zip_t, d_zip_l, d_list_l, d_list_t, d_absI, turn_nm, turn_tp2, turn_tp3, turn_tp4, tE_nm, tE_tp2, tE_tp3, ix_t0, ix_t1, ix_t2, ix_t3, ix_l0, ix_l1, ix_l2, ix_l3, d_tu0, d_tu1, d_tu2, d_tu3, d_tu4, d_ls0, d_ls1, d_ls2, d_ls3, d_ls4, then_br, then_ct, List.length_cons, List.length_nil, Nat.reduceAdd, Nat.reduceLT, Bool.false_eq_true, Bool.true_eq_false, loopL_nil, ev_mSl, pt_none, pt_some, sl_t, sl_l, cut_m1, cut_hi, cut_lo, di_take, di_drop, di_dropLast, d_all1, List.length_map, Int.natCast_zero, Int.reduceLE, Int.reduceLT, Int.reduceEq, Int.reduceToNat, Int.reduceAdd, Int.reduceSub, Int.reduceMul, Int.reduceNeg, Nat.reduceSub, Nat.reduceMul, Nat.reduceLeDiff, Nat.reduceEqDiff, d_eqTI, d_neTI, d_eqLI, d_neLI, zip_cons, zip_nil, zip_nil2, rep_di, ev_sRetO, ev_sRetF, then_rtF, en_rtF, fF_rtF, fF_er, fF_nx, ev_mLN, opt_some, opt_none, isOb_fz, isOb_ow, isOb_no, isOb_opt, hid_opt, ld_opt, List.any_cons, List.any_nil, Bool.or_false, turn_tp13, turn_tp12, ev_sExt2, sq2_l, sq2_t, hid_pw, ld_pw, isOb_pw, ev_sIxP, q]
  · simp only [ev_V0, dec_T, dec_F, ev_VS, set_0, set_S, get_0, get_S, hd_nil, hd_cons, hid_fz, hid_no, hid_ow, hid_ob, if_t, if_f, if_T, if_F, not_t, not_f, ev_C, ev_1, ev_2, ev_A, ev_nil, ev_cons, ev_T, ev_B, ev_And, ev_Or, ev_Not, ev_Yes, ev_If, ev_AndV, ev_OrV, ev_H, ev_Seq, then_nx, then_rt, then_er, ev_Nx, ev_Ret, ev_Set, ev_Ex, ev_SIf, ev_Rz1, ev_Rz0, bd_ok, bd_er, on_ok, on_er, d_tru_bl, d_add, d_sub, d_lt, d_le, d_gt, d_ge, d_neg, d_eqI, d_neI, d_lenT, d_lenL, d_one, d_int, d_tupL, d_tupT, d_itT, d_itL, d_inT, d_notInT, d_max2, d_min2, en_nx, en_rt, en_er, wipe_nil', wipe_cons', mb_ok, ev_sOwn, ev_sApp, ev_sExt, ev_sRev, ev_sIxS, ev_sAug, ev_sTup, ev_sFrz, frz_ow, frz_fz, frz_ob, frz_no, ev_mHN, only_l, only_er, ev_sFor, ev_sRetN, ev_mL, ev_mLB, ld_nil, ld_cons, ld_fz, ld_no, ld_ow, ld_ob, okF_int, okF_bl, okF_str, okF_non, okF_tup, okFs_di, ev_meth, ev_mIsN, ev_mIsNotN, isN_non, isN_int, isN_tup, isN_lst, isN_obj, isN_bl, isN_str, d_not_bl, d_en_t, d_en_l, d_zip_t, d_zip_l, d_list_l, d_list_t, d_absI, turn_nm, turn_tp2, turn_tp3, turn_tp4, tE_nm, tE_tp2, tE_tp3, ix_t0, ix_t1, ix_t2, ix_t3, ix_l0, ix_l1, ix_l2, ix_l3, d_tu0, d_tu1, d_tu2, d_tu3, d_tu4, d_ls0, d_ls1, d_ls2, d_ls3, d_ls4, then_br, then_ct, List.length_cons, List.length_nil, Nat.reduceAdd, Nat.reduceLT, Bool.false_eq_true, Bool.true_eq_false, loopL_nil, ev_mSl, pt_none, pt_some, sl_t, sl_l, cut_m1, cut_hi, cut_lo, di_take, di_drop, di_dropLast, d_all1, List.length_map, Int.natCast_zero, Int.reduceLE, Int.reduceLT, Int.reduceEq, Int.reduceToNat, Int.reduceAdd, Int.reduceSub, Int.reduceMul, Int.reduceNeg, Nat.reduceSub, Nat.reduceMul, Nat.reduceLeDiff, Nat.reduceEqDiff, d_eqTI, d_neTI, d_eqLI, d_neLI, zip_cons, zip_nil, zip_nil2, rep_di, ev_sRetO, ev_sRetF, then_rtF, en_rtF, fF_rtF, fF_er, fF_nx, ev_mLN, opt_some, opt_none, isOb_fz, isOb_ow, isOb_no, isOb_opt, hid_opt, ld_opt, List.any_cons, List.any_nil, Bool.or_false, turn_tp13, turn_tp12, ev_sExt2, sq2_l, sq2_t, hid_pw, ld_pw, isOb_pw, ev_sIxP, he]
theorem err_world (x : D) : g__law_error [.exc "BadWorld" ["world"] [x]] = .ok (.tup [.str "refused", .str "BadWorld", x]) := (fun (_ : Tbl) => rfl) tbl_BadWorld
theorem err_names (x : D) : g__law_error [.exc "BadNames" ["names"] [x]] = .ok (.tup [.str "refused", .str "BadNames", x]) := (fun (_ : Tbl) => rfl) tbl_BadNames
theorem asked_bad {v : List Int} {w b o e x : Int} (hf : [w, b, o, e].find? (badW v.length) = some x) : g__law_asked [num v, .lst [.int w, .int b, .int o, .int e]] = .ok (.tup [.str "refused", .str "BadWorld", .int x]) := by
  refine asked_e (c := "BadWorld") (ns := ["world"]) (ds := [.int x]) ?_ (by decide +kernel) (err_world _) (noX_ref _ _ rfl)
  rcases walk4 (v := v) (q := [w, b, o, e]) (w := .int w) (b := .int b) (o := .int o) (e := .int e) with ⟨z, _⟩ | ⟨y, s, z, lp⟩
  · rw [hf] at z
    cases z
  · rw [hf] at z
    cases z
    have lp : l_compare_differences_2 [.fz (num v), .fz (.int w), .fz (.int b), .fz (.int o), .fz (.int e), .fz (.tup [.int w, .int b, .int o, .int e]), .no, .no, .no, .no, .no, .no] = .er "BadWorld" ["world"] [.int x] s := lp
    rw [g_compare_differences, run_F (s := [.fz (num v), .fz (.int w), .fz (.int b), .fz (.int o), .fz (.int e), .no, .no, .no, .no, .no, .no, .no]) rfl, m_compare_differences]
    simp only [ev_V0, dec_T, dec_F, ev_VS, set_0, set_S, get_0, get_S, hd_nil, hd_cons, hid_fz, hid_no, hid_ow, hid_ob, if_t, if_f, if_T, if_F, not_t, not_f, ev_C, ev_1, ev_2, ev_A, ev_nil, ev_cons, ev_T, ev_B, ev_And, ev_Or, ev_Not, ev_Yes, ev_If, ev_AndV, ev_OrV, ev_H, ev_Seq, then_nx, then_rt, then_er, ev_Nx, ev_Ret, ev_Set, ev_Ex, ev_SIf, ev_Rz1, ev_Rz0, bd_ok, bd_er, on_ok, on_er, d_tru_bl, d_add, d_sub, d_lt, d_le, d_gt, d_ge, d_neg, d_eqI, d_neI, d_lenT, d_lenL, d_one, d_int, d_tupL, d_tupT, d_itT, d_itL, d_inT, d_notInT, d_max2, d_min2, en_nx, en_rt, en_er, wipe_nil', wipe_cons', mb_ok, ev_sOwn, ev_sApp, ev_sExt, ev_sRev, ev_sIxS, ev_sAug, ev_sTup, ev_sFrz, frz_ow, frz_fz, frz_ob, frz_no, ev_mHN, only_l, only_er, ev_sFor, ev_sRetN, ev_mL, ev_mLB, ld_nil, ld_cons, ld_fz, ld_no, ld_ow, ld_ob, okF_int, okF_bl, okF_str, okF_non, okF_tup, okFs_di, ev_meth, ev_mIsN, ev_mIsNotN, isN_non, isN_int, isN_tup, isN_lst, isN_obj, isN_bl, isN_str, d_not_bl, d_en_t, d_en_l, d_zip_t, d_zip_l, d_list_l, d_list_t, d_absI, turn_nm, turn_tp2, turn_tp3, turn_tp4, tE_nm, tE_tp2, tE_tp3, ix_t0, ix_t1, ix_t2, ix_t3, ix_l0, ix_l1, ix_l2, ix_l3, d_tu0, d_tu1, d_tu2, d_tu3, d_tu4, d_ls0, d_ls1, d_ls2, d_ls3, d_ls4, then_br, then_ct, List.length_cons, List.length_nil, Nat.reduceAdd, Nat.reduceLT, Bool.false_eq_true, Bool.true_eq_false, loopL_nil, ev_mSl, pt_none, pt_some, sl_t, sl_l, cut_m1, cut_hi, cut_lo, di_take, di_drop, di_dropLast, d_all1, List.length_map, Int.natCast_zero, Int.reduceLE, Int.reduceLT, Int.reduceEq, Int.reduceToNat, Int.reduceAdd, Int.reduceSub, Int.reduceMul, Int.reduceNeg, Nat.reduceSub, Nat.reduceMul, Nat.reduceLeDiff, Nat.reduceEqDiff, d_eqTI, d_neTI, d_eqLI, d_neLI, zip_cons, zip_nil, zip_nil2, rep_di, ev_sRetO, ev_sRetF, then_rtF, en_rtF, fF_rtF, fF_er, fF_nx, ev_mLN, opt_some, opt_none, isOb_fz, isOb_ow, isOb_no, isOb_opt, hid_opt, ld_opt, List.any_cons, List.any_nil, Bool.or_false, turn_tp13, turn_tp12, ev_sExt2, sq2_l, sq2_t, hid_pw, ld_pw, isOb_pw, ev_sIxP, lp]
theorem asked_dup {v : List Int} {w b o e : Int} (hf : [w, b, o, e].find? (badW v.length) = none) (hd : ¬ [w, b, o, e].Nodup) : g__law_asked [num v, .lst [.int w, .int b, .int o, .int e]] = .ok (.tup [.str "refused", .str "BadNames", .tup [.int w, .int b, .int o, .int e]]) := by
  refine asked_e (c := "BadNames") (ns := ["names"]) (ds := [.tup [.int w, .int b, .int o, .int e]]) ?_ (by decide +kernel) (err_names _) (noX_ref _ _ (noX_di [w, b, o, e]))
  have sz := lenSet_t (l := [w, b, o, e]) (by show 4 < 60; decide)
  have sz : dLenSet (.tup [.int w, .int b, .int o, .int e]) = .ok (.int ((sortU [w, b, o, e]).length : Nat)) := sz
  have lt : (((sortU [w, b, o, e]).length : Nat) : Int) < 4 := by
    have := len_dup hd
    have : (sortU [w, b, o, e]).length < 4 := this
    omega
  rcases walk4 (v := v) (q := [w, b, o, e]) (w := .int w) (b := .int b) (o := .int o) (e := .int e) with ⟨_, t, lp⟩ | ⟨y, s, z, _⟩
  · have lp : l_compare_differences_2 [.fz (num v), .fz (.int w), .fz (.int b), .fz (.int o), .fz (.int e), .fz (.tup [.int w, .int b, .int o, .int e]), .no, .no, .no, .no, .no, .no] = .nx [.fz (num v), .fz (.int w), .fz (.int b), .fz (.int o), .fz (.int e), .fz (.tup [.int w, .int b, .int o, .int e]), t, .no, .no, .no, .no, .no] := lp
    rw [g_compare_differences, run_F (s := [.fz (num v), .fz (.int w), .fz (.int b), .fz (.int o), .fz (.int e), .no, .no, .no, .no, .no, .no, .no]) rfl, m_compare_differences]
    simp only [ev_V0, dec_T, dec_F, ev_VS, set_0, set_S, get_0, get_S, hd_nil, hd_cons, hid_fz, hid_no, hid_ow, hid_ob, if_t, if_f, if_T, if_F, not_t, not_f, ev_C, ev_1, ev_2, ev_A, ev_nil, ev_cons, ev_T, ev_B, ev_And, ev_Or, ev_Not, ev_Yes, ev_If, ev_AndV, ev_OrV, ev_H, ev_Seq, then_nx, then_rt, then_er, ev_Nx, ev_Ret, ev_Set, ev_Ex, ev_SIf, ev_Rz1, ev_Rz0, bd_ok, bd_er, on_ok, on_er, d_tru_bl, d_add, d_sub, d_lt, d_le, d_gt, d_ge, d_neg, d_eqI, d_neI, d_lenT, d_lenL, d_one, d_int, d_tupL, d_tupT, d_itT, d_itL, d_inT, d_notInT, d_max2, d_min2, en_nx, en_rt, en_er, wipe_nil', wipe_cons', mb_ok, ev_sOwn, ev_sApp, ev_sExt, ev_sRev, ev_sIxS, ev_sAug, ev_sTup, ev_sFrz, frz_ow, frz_fz, frz_ob, frz_no, ev_mHN, only_l, only_er, ev_sFor, ev_sRetN, ev_mL, ev_mLB, ld_nil, ld_cons, ld_fz, ld_no, ld_ow, ld_ob, okF_int, okF_bl, okF_str, okF_non, okF_tup, okFs_di, ev_meth, ev_mIsN, ev_mIsNotN, isN_non, isN_int, isN_tup, isN_lst, isN_obj, isN_bl, isN_str, d_not_bl, d_en_t, d_en_l, d_zip_t, d_zip_l, d_list_l, d_list_t, d_absI, turn_nm, turn_tp2, turn_tp3, turn_tp4, tE_nm, tE_tp2, tE_tp3, ix_t0, ix_t1, ix_t2, ix_t3, ix_l0, ix_l1, ix_l2, ix_l3, d_tu0, d_tu1, d_tu2, d_tu3, d_tu4, d_ls0, d_ls1, d_ls2, d_ls3, d_ls4, then_br, then_ct, List.length_cons, List.length_nil, Nat.reduceAdd, Nat.reduceLT, Bool.false_eq_true, Bool.true_eq_false, loopL_nil, ev_mSl, pt_none, pt_some, sl_t, sl_l, cut_m1, cut_hi, cut_lo, di_take, di_drop, di_dropLast, d_all1, List.length_map, Int.natCast_zero, Int.reduceLE, Int.reduceLT, Int.reduceEq, Int.reduceToNat, Int.reduceAdd, Int.reduceSub, Int.reduceMul, Int.reduceNeg, Nat.reduceSub, Nat.reduceMul, Nat.reduceLeDiff, Nat.reduceEqDiff, d_eqTI, d_neTI, d_eqLI, d_neLI, zip_cons, zip_nil, zip_nil2, rep_di, ev_sRetO, ev_sRetF, then_rtF, en_rtF, fF_rtF, fF_er, fF_nx, ev_mLN, opt_some, opt_none, isOb_fz, isOb_ow, isOb_no, isOb_opt, hid_opt, ld_opt, List.any_cons, List.any_nil, Bool.or_false, turn_tp13, turn_tp12, ev_sExt2, sq2_l, sq2_t, hid_pw, ld_pw, isOb_pw, ev_sIxP, lp, sz, lt, decide_true]
  · rw [hf] at z
    cases z
theorem e_law_sign {f s : Int} : g__law_sign [.int f, .int s] = .ok (.int (sgn f s)) := by
  rw [g__law_sign, run_F (s := [.fz (.int f), .fz (.int s)]) rfl, m__law_sign]
  unfold sgn
  by_cases c : f = s
  · simp only [ev_V0, dec_T, dec_F, ev_VS, set_0, set_S, get_0, get_S, hd_nil, hd_cons, hid_fz, hid_no, hid_ow, hid_ob, if_t, if_f, if_T, if_F, not_t, not_f, ev_C, ev_1, ev_2, ev_A, ev_nil, ev_cons, ev_T, ev_B, ev_And, ev_Or, ev_Not, ev_Yes, ev_If, ev_AndV, ev_OrV, ev_H, ev_Seq, then_nx, then_rt, then_er, ev_Nx, ev_Ret, ev_Set, ev_Ex, ev_SIf, ev_Rz1, ev_Rz0, bd_ok, bd_er, on_ok, on_er, d_tru_bl, d_add, d_sub, d_lt, d_le, d_gt, d_ge, d_neg, d_eqI, d_neI, d_lenT, d_lenL, d_one, d_int, d_tupL, d_tupT, d_itT, d_itL, d_inT, d_notInT, d_max2, d_min2, en_nx, en_rt, en_er, wipe_nil', wipe_cons', mb_ok, ev_sOwn, ev_sApp, ev_sExt, ev_sRev, ev_sIxS, ev_sAug, ev_sTup, ev_sFrz, frz_ow, frz_fz, frz_ob, frz_no, ev_mHN, only_l, only_er, ev_sFor, ev_sRetN, ev_mL, ev_mLB, ld_nil, ld_cons, ld_fz, ld_no, ld_ow, ld_ob, okF_int, okF_bl, okF_str, okF_non, okF_tup, okFs_di, ev_meth, ev_mIsN, ev_mIsNotN, isN_non, isN_int, isN_tup, isN_lst, isN_obj, isN_bl, isN_str, d_not_bl, d_en_t, d_en_l, d_zip_t, d_zip_l, d_list_l, d_list_t, d_absI, turn_nm, turn_tp2, turn_tp3, turn_tp4, tE_nm, tE_tp2, tE_tp3, ix_t0, ix_t1, ix_t2, ix_t3, ix_l0, ix_l1, ix_l2, ix_l3, d_tu0, d_tu1, d_tu2, d_tu3, d_tu4, d_ls0, d_ls1, d_ls2, d_ls3, d_ls4, then_br, then_ct, List.length_cons, List.length_nil, Nat.reduceAdd, Nat.reduceLT, Bool.false_eq_true, Bool.true_eq_false, loopL_nil, ev_mSl, pt_none, pt_some, sl_t, sl_l, cut_m1, cut_hi, cut_lo, di_take, di_drop, di_dropLast, d_all1, List.length_map, Int.natCast_zero, Int.reduceLE, Int.reduceLT, Int.reduceEq, Int.reduceToNat, Int.reduceAdd, Int.reduceSub, Int.reduceMul, Int.reduceNeg, Nat.reduceSub, Nat.reduceMul, Nat.reduceLeDiff, Nat.reduceEqDiff, d_eqTI, d_neTI, d_eqLI, d_neLI, zip_cons, zip_nil, zip_nil2, rep_di, ev_sRetO, ev_sRetF, then_rtF, en_rtF, fF_rtF, fF_er, fF_nx, ev_mLN, opt_some, opt_none, isOb_fz, isOb_ow, isOb_no, isOb_opt, hid_opt, ld_opt, List.any_cons, List.any_nil, Bool.or_false, turn_tp13, turn_tp12, ev_sExt2, sq2_l, sq2_t, hid_pw, ld_pw, isOb_pw, ev_sIxP, c, decide_true, if_true]
  · by_cases c2 : f < s
    · simp only [ev_V0, dec_T, dec_F, ev_VS, set_0, set_S, get_0, get_S, hd_nil, hd_cons, hid_fz, hid_no, hid_ow, hid_ob, if_t, if_f, if_T, if_F, not_t, not_f, ev_C, ev_1, ev_2, ev_A, ev_nil, ev_cons, ev_T, ev_B, ev_And, ev_Or, ev_Not, ev_Yes, ev_If, ev_AndV, ev_OrV, ev_H, ev_Seq, then_nx, then_rt, then_er, ev_Nx, ev_Ret, ev_Set, ev_Ex, ev_SIf, ev_Rz1, ev_Rz0, bd_ok, bd_er, on_ok, on_er, d_tru_bl, d_add, d_sub, d_lt, d_le, d_gt, d_ge, d_neg, d_eqI, d_neI, d_lenT, d_lenL, d_one, d_int, d_tupL, d_tupT, d_itT, d_itL, d_inT, d_notInT, d_max2, d_min2, en_nx, en_rt, en_er, wipe_nil', wipe_cons', mb_ok, ev_sOwn, ev_sApp, ev_sExt, ev_sRev, ev_sIxS, ev_sAug, ev_sTup, ev_sFrz, frz_ow, frz_fz, frz_ob, frz_no, ev_mHN, only_l, only_er, ev_sFor, ev_sRetN, ev_mL, ev_mLB, ld_nil, ld_cons, ld_fz, ld_no, ld_ow, ld_ob, okF_int, okF_bl, okF_str, okF_non, okF_tup, okFs_di, ev_meth, ev_mIsN, ev_mIsNotN, isN_non, isN_int, isN_tup, isN_lst, isN_obj, isN_bl, isN_str, d_not_bl, d_en_t, d_en_l, d_zip_t, d_zip_l, d_list_l, d_list_t, d_absI, turn_nm, turn_tp2, turn_tp3, turn_tp4, tE_nm, tE_tp2, tE_tp3, ix_t0, ix_t1, ix_t2, ix_t3, ix_l0, ix_l1, ix_l2, ix_l3, d_tu0, d_tu1, d_tu2, d_tu3, d_tu4, d_ls0, d_ls1, d_ls2, d_ls3, d_ls4, then_br, then_ct, List.length_cons, List.length_nil, Nat.reduceAdd, Nat.reduceLT, Bool.false_eq_true, Bool.true_eq_false, loopL_nil, ev_mSl, pt_none, pt_some, sl_t, sl_l, cut_m1, cut_hi, cut_lo, di_take, di_drop, di_dropLast, d_all1, List.length_map, Int.natCast_zero, Int.reduceLE, Int.reduceLT, Int.reduceEq, Int.reduceToNat, Int.reduceAdd, Int.reduceSub, Int.reduceMul, Int.reduceNeg, Nat.reduceSub, Nat.reduceMul, Nat.reduceLeDiff, Nat.reduceEqDiff, d_eqTI, d_neTI, d_eqLI, d_neLI, zip_cons, zip_nil, zip_nil2, rep_di, ev_sRetO, ev_sRetF, then_rtF, en_rtF, fF_rtF, fF_er, fF_nx, ev_mLN, opt_some, opt_none, isOb_fz, isOb_ow, isOb_no, isOb_opt, hid_opt, ld_opt, List.any_cons, List.any_nil, Bool.or_false, turn_tp13, turn_tp12, ev_sExt2, sq2_l, sq2_t, hid_pw, ld_pw, isOb_pw, ev_sIxP, c, c2, decide_true, decide_false, if_true, if_false]
    · simp only [ev_V0, dec_T, dec_F, ev_VS, set_0, set_S, get_0, get_S, hd_nil, hd_cons, hid_fz, hid_no, hid_ow, hid_ob, if_t, if_f, if_T, if_F, not_t, not_f, ev_C, ev_1, ev_2, ev_A, ev_nil, ev_cons, ev_T, ev_B, ev_And, ev_Or, ev_Not, ev_Yes, ev_If, ev_AndV, ev_OrV, ev_H, ev_Seq, then_nx, then_rt, then_er, ev_Nx, ev_Ret, ev_Set, ev_Ex, ev_SIf, ev_Rz1, ev_Rz0, bd_ok, bd_er, on_ok, on_er, d_tru_bl, d_add, d_sub, d_lt, d_le, d_gt, d_ge, d_neg, d_eqI, d_neI, d_lenT, d_lenL, d_one, d_int, d_tupL, d_tupT, d_itT, d_itL, d_inT, d_notInT, d_max2, d_min2, en_nx, en_rt, en_er, wipe_nil', wipe_cons', mb_ok, ev_sOwn, ev_sApp, ev_sExt, ev_sRev, ev_sIxS, ev_sAug, ev_sTup, ev_sFrz, frz_ow, frz_fz, frz_ob, frz_no, ev_mHN, only_l, only_er, ev_sFor, ev_sRetN, ev_mL, ev_mLB, ld_nil, ld_cons, ld_fz, ld_no, ld_ow, ld_ob, okF_int, okF_bl, okF_str, okF_non, okF_tup, okFs_di, ev_meth, ev_mIsN, ev_mIsNotN, isN_non, isN_int, isN_tup, isN_lst, isN_obj, isN_bl, isN_str, d_not_bl, d_en_t, d_en_l, d_zip_t, d_zip_l, d_list_l, d_list_t, d_absI, turn_nm, turn_tp2, turn_tp3, turn_tp4, tE_nm, tE_tp2, tE_tp3, ix_t0, ix_t1, ix_t2, ix_t3, ix_l0, ix_l1, ix_l2, ix_l3, d_tu0, d_tu1, d_tu2, d_tu3, d_tu4, d_ls0, d_ls1, d_ls2, d_ls3, d_ls4, then_br, then_ct, List.length_cons, List.length_nil, Nat.reduceAdd, Nat.reduceLT, Bool.false_eq_true, Bool.true_eq_false, loopL_nil, ev_mSl, pt_none, pt_some, sl_t, sl_l, cut_m1, cut_hi, cut_lo, di_take, di_drop, di_dropLast, d_all1, List.length_map, Int.natCast_zero, Int.reduceLE, Int.reduceLT, Int.reduceEq, Int.reduceToNat, Int.reduceAdd, Int.reduceSub, Int.reduceMul, Int.reduceNeg, Nat.reduceSub, Nat.reduceMul, Nat.reduceLeDiff, Nat.reduceEqDiff, d_eqTI, d_neTI, d_eqLI, d_neLI, zip_cons, zip_nil, zip_nil2, rep_di, ev_sRetO, ev_sRetF, then_rtF, en_rtF, fF_rtF, fF_er, fF_nx, ev_mLN, opt_some, opt_none, isOb_fz, isOb_ow, isOb_no, isOb_opt, hid_opt, ld_opt, List.any_cons, List.any_nil, Bool.or_false, turn_tp13, turn_tp12, ev_sExt2, sq2_l, sq2_t, hid_pw, ld_pw, isOb_pw, ev_sIxP, c, c2, decide_false, if_false]
theorem sgn_rev {f s : Int} : sgn s f = 0 - sgn f s := by
  unfold sgn
  by_cases c : f = s
  · rw [if_pos c.symm, if_pos c] <;> rfl
  · rw [if_neg (fun z => c z.symm), if_neg c]
    by_cases c2 : f < s
    · rw [if_neg (by omega), if_pos c2] <;> rfl
    · rw [if_pos (by omega), if_neg c2] <;> rfl
theorem sgn3 {f s : Int} : sgn (f * 3) (s * 3) = sgn f s := by
  unfold sgn
  by_cases c : f = s
  · rw [if_pos c, if_pos (by omega)]
  · rw [if_neg c, if_neg (by omega)]
    by_cases c2 : f < s
    · rw [if_pos c2, if_pos (by omega)]
    · rw [if_neg c2, if_neg (by omega)]
theorem dif3 {n : Nat} {v : List Int} {x y : Int} (hn : v.length = n) (hx : 0 ≤ x ∧ x < (n : Int)) (hy : 0 ≤ y ∧ y < (n : Int)) : dif (v.map fun z => z * 3) x y = dif v x y * 3 := by
  obtain ⟨a, ha⟩ := get_lt (show x.toNat < v.length by omega)
  obtain ⟨b, hb⟩ := get_lt (show y.toNat < v.length by omega)
  unfold dif mx0
  rw [getD_some (x := a * 3) (by rw [List.getElem?_map, ha]; rfl), getD_some (x := b * 3) (by rw [List.getElem?_map, hb]; rfl), getD_some ha, getD_some hb]
  split <;> split <;> omega
theorem sorted_prs (ps : List (Int × Int)) : dSorted (.lst (ps.map prD)) = .ok (.lst ((sortP ps).map prD)) := by
  cases ps with
  | nil => rfl
  | cons p ps =>
    have h1 : intsD ((p :: ps).map prD) = none := rfl
    unfold dSorted
    simp only
    rw [h1, prs_map]
theorem sgn_le {f s : Int} : (decide (sgn f s ≤ 0)) = decide (f ≤ s) := by
  rw [decide_eq_decide]
  unfold sgn
  split
  · omega
  · split <;> omega
theorem sgn_ge {f s : Int} : (decide (0 ≤ sgn f s)) = decide (s ≤ f) := by
  rw [decide_eq_decide]
  unfold sgn
  split
  · omega
  · split <;> omega

end T

end
section
set_option Elab.async false
set_option linter.all false
set_option maxRecDepth 100000
set_option maxHeartbeats 1000000
namespace T
open PySem PySem.Spec L2 DL
open PyProof.Rows hiding St
abbrev T8 := Sl × Sl × Sl × Sl × Sl × Sl × Sl × Sl
structure Q4 where
  w : Int
  b : Int
  o : Int
  e : Int
abbrev qD (q : Q4) : D := .lst [.int q.w, .int q.b, .int q.o, .int q.e]
abbrev FourQ (n : Nat) (q : Q4) : Prop := Four n q.w q.b q.o q.e
theorem four_of {n : Nat} {r : List Int} (h4 : 4 ≤ n) (p : r.Perm (rng n)) : ∃ q : Q4, r.take 4 = [q.w, q.b, q.o, q.e] ∧ FourQ n q := by
  obtain ⟨len, nd, mem⟩ := perm_rng p
  match r, len with
  | w :: b :: o :: e :: r, _ =>
    have nd4 : [w, b, o, e].Nodup := nd.sublist (by
      show List.Sublist [w, b, o, e] ([w, b, o, e] ++ r)
      exact List.sublist_append_left _ _)
    exact ⟨⟨w, b, o, e⟩, rfl, ⟨(mem w).mp (by simp), (mem b).mp (by simp), (mem o).mp (by simp), (mem e).mp (by simp), nd4⟩⟩
  | [], l => simp at l; omega
  | [_], l => simp at l; omega
  | [_, _], l => simp at l; omega
  | [_, _, _], l => simp at l; omega
section
variable {ns h v nm : List Int} {n : Nat} {sc : Int}
structure S56 (ns h v nm : List Int) (n : Nat) : Prop where
  hl : h.length = 12
  hp : ∀ x ∈ h, 0 ≤ x
  h4 : 4 ≤ n
  h8 : n ≤ 8
  V : Lev n v
  P : nm.Perm (rng n)
theorem i5_56 (S : S56 ns h v nm n) {k : Nat} {q : Q4} {s9 s10 s11 s12 s13 s14 s15 : Sl} (F : FourQ n q) : ∃ (q' : Q4) (s : Sl), FourQ n q' ∧ i_law_5 [.fz (.scr ns), .fz (.lst (di h)), .fz (.int n), .fz (.int sc), .fz (.lst (di v)), .fz (num v), .fz (.lst (di nm)), .fz (.int (k : Nat)), .fz (qD q), s9, s10, s11, s12, s13, s14, s15, .no, .no, .no, .no, .no, .no, .no] = .nx [.fz (.scr ns), .fz (.lst (di h)), .fz (.int n), .fz (.int sc), .fz (.lst (di v)), .fz (num v), .fz (.lst (di nm)), .fz (.int (k : Nat)), .fz (qD q'), s, s10, s11, s12, s13, s14, s15, .no, .no, .no, .no, .no, .no, .no] := by
  have x6 : dIx (.lst (di h)) (.int 6) = .ok (.int (h.getD 6 0)) := d_ixLI (i := 6) (by decide) (by have := S.hl; omega)
  have m2 : dMod (.int (h.getD 6 0)) (.int 2) = .ok (.int (h.getD 6 0 % 2)) := d_mod (by decide)
  by_cases c1 : (k : Int) = 2
  · by_cases c2 : h.getD 6 0 % 2 = 0
    · have hn := S.V.len
      have h4 := S.h4
      have h8 := S.h8
      have k2 : ∀ o0 o1 o2 o3 o4 o5 o6 o7 o8 : Option D, c_law_2 [some (.scr ns), some (.lst (di h)), some (.int n), some (.int sc), some (.lst (di v)), some (num v), some (.lst (di nm)), o0, o1, o2, o3, o4, o5, o6, o7, o8, none, none, none, none, none, none, none] = .ok (.lst (di (rng n))) := fun o0 o1 o2 o3 o4 o5 o6 o7 o8 => by
        rw [c_law_2]
        refine ev_lcM (c := D.int) (rng n) D.int ?_ (by rw [len_rng]; exact small h8) fun x hx => ?_
        · simp only [ev_V0, dec_T, dec_F, ev_VS, set_0, set_S, get_0, get_S, hd_nil, hd_cons, hid_fz, hid_no, hid_ow, hid_ob, if_t, if_f, if_T, if_F, not_t, not_f, ev_C, ev_1, ev_2, ev_A, ev_nil, ev_cons, ev_T, ev_B, ev_And, ev_Or, ev_Not, ev_Yes, ev_If, ev_AndV, ev_OrV, ev_H, ev_Seq, then_nx, then_rt, then_er, ev_Nx, ev_Ret, ev_Set, ev_Ex, ev_SIf, ev_Rz1, ev_Rz0, bd_ok, bd_er, on_ok, on_er, d_tru_bl, d_add, d_sub, d_lt, d_le, d_gt, d_ge, d_neg, d_eqI, d_neI, d_lenT, d_lenL, d_one, d_int, d_tupL, d_tupT, d_itT, d_itL, d_inT, d_notInT, d_max2, d_min2, en_nx, en_rt, en_er, wipe_nil', wipe_cons', mb_ok, ev_sOwn, ev_sApp, ev_sExt, ev_sRev, ev_sIxS, ev_sAug, ev_sTup, ev_sFrz, frz_ow, frz_fz, frz_ob, frz_no, ev_mHN, only_l, only_er, ev_sFor, ev_sRetN, ev_mL, ev_mLB, ld_nil, ld_cons, ld_fz, ld_no, ld_ow, ld_ob, okF_int, okF_bl, okF_str, okF_non, okF_tup, okFs_di, ev_meth, ev_mIsN, ev_mIsNotN, isN_non, isN_int, isN_tup, isN_lst, isN_obj, isN_bl, isN_str, d_not_bl, d_en_t, d_en_l, d_zip_t, d_zip_l, d_list_l, d_list_t, d_absI, turn_nm, turn_tp2, turn_tp3, turn_tp4, tE_nm, tE_tp2, tE_tp3, ix_t0, ix_t1, ix_t2, ix_t3, ix_l0, ix_l1, ix_l2, ix_l3, d_tu0, d_tu1, d_tu2, d_tu3, d_tu4, d_ls0, d_ls1, d_ls2, d_ls3, d_ls4, then_br, then_ct, List.length_cons, List.length_nil, Nat.reduceAdd, Nat.reduceLT, Bool.false_eq_true, Bool.true_eq_false, loopL_nil, ev_mSl, pt_none, pt_some, sl_t, sl_l, cut_m1, cut_hi, cut_lo, di_take, di_drop, di_dropLast, d_all1, List.length_map, Int.natCast_zero, Int.reduceLE, Int.reduceLT, Int.reduceEq, Int.reduceToNat, Int.reduceAdd, Int.reduceSub, Int.reduceMul, Int.reduceNeg, Nat.reduceSub, Nat.reduceMul, Nat.reduceLeDiff, Nat.reduceEqDiff, d_eqTI, d_neTI, d_eqLI, d_neLI, zip_cons, zip_nil, zip_nil2, rep_di, ev_sRetO, ev_sRetF, then_rtF, en_rtF, fF_rtF, fF_er, fF_nx, ev_mLN, opt_some, opt_none, isOb_fz, isOb_ow, isOb_no, isOb_opt, hid_opt, ld_opt, List.any_cons, List.any_nil, Bool.or_false, turn_tp13, turn_tp12, ev_sExt2, sq2_l, sq2_t, hid_pw, ld_pw, isOb_pw, ev_sIxP, d_rng n (show n < 1000000 by omega)]
        · simp only [ev_V0, dec_T, dec_F, ev_VS, set_0, set_S, get_0, get_S, hd_nil, hd_cons, hid_fz, hid_no, hid_ow, hid_ob, if_t, if_f, if_T, if_F, not_t, not_f, ev_C, ev_1, ev_2, ev_A, ev_nil, ev_cons, ev_T, ev_B, ev_And, ev_Or, ev_Not, ev_Yes, ev_If, ev_AndV, ev_OrV, ev_H, ev_Seq, then_nx, then_rt, then_er, ev_Nx, ev_Ret, ev_Set, ev_Ex, ev_SIf, ev_Rz1, ev_Rz0, bd_ok, bd_er, on_ok, on_er, d_tru_bl, d_add, d_sub, d_lt, d_le, d_gt, d_ge, d_neg, d_eqI, d_neI, d_lenT, d_lenL, d_one, d_int, d_tupL, d_tupT, d_itT, d_itL, d_inT, d_notInT, d_max2, d_min2, en_nx, en_rt, en_er, wipe_nil', wipe_cons', mb_ok, ev_sOwn, ev_sApp, ev_sExt, ev_sRev, ev_sIxS, ev_sAug, ev_sTup, ev_sFrz, frz_ow, frz_fz, frz_ob, frz_no, ev_mHN, only_l, only_er, ev_sFor, ev_sRetN, ev_mL, ev_mLB, ld_nil, ld_cons, ld_fz, ld_no, ld_ow, ld_ob, okF_int, okF_bl, okF_str, okF_non, okF_tup, okFs_di, ev_meth, ev_mIsN, ev_mIsNotN, isN_non, isN_int, isN_tup, isN_lst, isN_obj, isN_bl, isN_str, d_not_bl, d_en_t, d_en_l, d_zip_t, d_zip_l, d_list_l, d_list_t, d_absI, turn_nm, turn_tp2, turn_tp3, turn_tp4, tE_nm, tE_tp2, tE_tp3, ix_t0, ix_t1, ix_t2, ix_t3, ix_l0, ix_l1, ix_l2, ix_l3, d_tu0, d_tu1, d_tu2, d_tu3, d_tu4, d_ls0, d_ls1, d_ls2, d_ls3, d_ls4, then_br, then_ct, List.length_cons, List.length_nil, Nat.reduceAdd, Nat.reduceLT, Bool.false_eq_true, Bool.true_eq_false, loopL_nil, ev_mSl, pt_none, pt_some, sl_t, sl_l, cut_m1, cut_hi, cut_lo, di_take, di_drop, di_dropLast, d_all1, List.length_map, Int.natCast_zero, Int.reduceLE, Int.reduceLT, Int.reduceEq, Int.reduceToNat, Int.reduceAdd, Int.reduceSub, Int.reduceMul, Int.reduceNeg, Nat.reduceSub, Nat.reduceMul, Nat.reduceLeDiff, Nat.reduceEqDiff, d_eqTI, d_neTI, d_eqLI, d_neLI, zip_cons, zip_nil, zip_nil2, rep_di, ev_sRetO, ev_sRetF, then_rtF, en_rtF, fF_rtF, fF_er, fF_nx, ev_mLN, opt_some, opt_none, isOb_fz, isOb_ow, isOb_no, isOb_opt, hid_opt, ld_opt, List.any_cons, List.any_nil, Bool.or_false, turn_tp13, turn_tp12, ev_sExt2, sq2_l, sq2_t, hid_pw, ld_pw, isOb_pw, ev_sIxP]
      obtain ⟨ps, eps⟩ : ∃ ps : List (Int × Int), ps = (rng n).map fun w => (v.getD w.toNat 0, w) := ⟨_, rfl⟩
      have k3 : ∀ o0 o1 o3 o4 o5 o6 o7 o8 o17 : Option D, c_law_3 [some (.scr ns), some (.lst (di h)), some (.int n), some (.int sc), some (.lst (di v)), some (num v), some (.lst (di nm)), o0, o1, some (.lst (di (rng n))), o3, o4, o5, o6, o7, o8, none, o17, none, none, none, none, none] = .ok (.lst (ps.map prD)) := fun o0 o1 o3 o4 o5 o6 o7 o8 o17 => by
        rw [c_law_3, eps, List.map_map]
        refine ev_lcM (c := D.int) (rng n) _ ?_ (by rw [len_rng]; exact small h8) fun x hx => ?_
        · simp only [ev_V0, dec_T, dec_F, ev_VS, set_0, set_S, get_0, get_S, hd_nil, hd_cons, hid_fz, hid_no, hid_ow, hid_ob, if_t, if_f, if_T, if_F, not_t, not_f, ev_C, ev_1, ev_2, ev_A, ev_nil, ev_cons, ev_T, ev_B, ev_And, ev_Or, ev_Not, ev_Yes, ev_If, ev_AndV, ev_OrV, ev_H, ev_Seq, then_nx, then_rt, then_er, ev_Nx, ev_Ret, ev_Set, ev_Ex, ev_SIf, ev_Rz1, ev_Rz0, bd_ok, bd_er, on_ok, on_er, d_tru_bl, d_add, d_sub, d_lt, d_le, d_gt, d_ge, d_neg, d_eqI, d_neI, d_lenT, d_lenL, d_one, d_int, d_tupL, d_tupT, d_itT, d_itL, d_inT, d_notInT, d_max2, d_min2, en_nx, en_rt, en_er, wipe_nil', wipe_cons', mb_ok, ev_sOwn, ev_sApp, ev_sExt, ev_sRev, ev_sIxS, ev_sAug, ev_sTup, ev_sFrz, frz_ow, frz_fz, frz_ob, frz_no, ev_mHN, only_l, only_er, ev_sFor, ev_sRetN, ev_mL, ev_mLB, ld_nil, ld_cons, ld_fz, ld_no, ld_ow, ld_ob, okF_int, okF_bl, okF_str, okF_non, okF_tup, okFs_di, ev_meth, ev_mIsN, ev_mIsNotN, isN_non, isN_int, isN_tup, isN_lst, isN_obj, isN_bl, isN_str, d_not_bl, d_en_t, d_en_l, d_zip_t, d_zip_l, d_list_l, d_list_t, d_absI, turn_nm, turn_tp2, turn_tp3, turn_tp4, tE_nm, tE_tp2, tE_tp3, ix_t0, ix_t1, ix_t2, ix_t3, ix_l0, ix_l1, ix_l2, ix_l3, d_tu0, d_tu1, d_tu2, d_tu3, d_tu4, d_ls0, d_ls1, d_ls2, d_ls3, d_ls4, then_br, then_ct, List.length_cons, List.length_nil, Nat.reduceAdd, Nat.reduceLT, Bool.false_eq_true, Bool.true_eq_false, loopL_nil, ev_mSl, pt_none, pt_some, sl_t, sl_l, cut_m1, cut_hi, cut_lo, di_take, di_drop, di_dropLast, d_all1, List.length_map, Int.natCast_zero, Int.reduceLE, Int.reduceLT, Int.reduceEq, Int.reduceToNat, Int.reduceAdd, Int.reduceSub, Int.reduceMul, Int.reduceNeg, Nat.reduceSub, Nat.reduceMul, Nat.reduceLeDiff, Nat.reduceEqDiff, d_eqTI, d_neTI, d_eqLI, d_neLI, zip_cons, zip_nil, zip_nil2, rep_di, ev_sRetO, ev_sRetF, then_rtF, en_rtF, fF_rtF, fF_er, fF_nx, ev_mLN, opt_some, opt_none, isOb_fz, isOb_ow, isOb_no, isOb_opt, hid_opt, ld_opt, List.any_cons, List.any_nil, Bool.or_false, turn_tp13, turn_tp12, ev_sExt2, sq2_l, sq2_t, hid_pw, ld_pw, isOb_pw, ev_sIxP]
        · have hm := mem_rng.mp hx
          simp only [ev_V0, dec_T, dec_F, ev_VS, set_0, set_S, get_0, get_S, hd_nil, hd_cons, hid_fz, hid_no, hid_ow, hid_ob, if_t, if_f, if_T, if_F, not_t, not_f, ev_C, ev_1, ev_2, ev_A, ev_nil, ev_cons, ev_T, ev_B, ev_And, ev_Or, ev_Not, ev_Yes, ev_If, ev_AndV, ev_OrV, ev_H, ev_Seq, then_nx, then_rt, then_er, ev_Nx, ev_Ret, ev_Set, ev_Ex, ev_SIf, ev_Rz1, ev_Rz0, bd_ok, bd_er, on_ok, on_er, d_tru_bl, d_add, d_sub, d_lt, d_le, d_gt, d_ge, d_neg, d_eqI, d_neI, d_lenT, d_lenL, d_one, d_int, d_tupL, d_tupT, d_itT, d_itL, d_inT, d_notInT, d_max2, d_min2, en_nx, en_rt, en_er, wipe_nil', wipe_cons', mb_ok, ev_sOwn, ev_sApp, ev_sExt, ev_sRev, ev_sIxS, ev_sAug, ev_sTup, ev_sFrz, frz_ow, frz_fz, frz_ob, frz_no, ev_mHN, only_l, only_er, ev_sFor, ev_sRetN, ev_mL, ev_mLB, ld_nil, ld_cons, ld_fz, ld_no, ld_ow, ld_ob, okF_int, okF_bl, okF_str, okF_non, okF_tup, okFs_di, ev_meth, ev_mIsN, ev_mIsNotN, isN_non, isN_int, isN_tup, isN_lst, isN_obj, isN_bl, isN_str, d_not_bl, d_en_t, d_en_l, d_zip_t, d_zip_l, d_list_l, d_list_t, d_absI, turn_nm, turn_tp2, turn_tp3, turn_tp4, tE_nm, tE_tp2, tE_tp3, ix_t0, ix_t1, ix_t2, ix_t3, ix_l0, ix_l1, ix_l2, ix_l3, d_tu0, d_tu1, d_tu2, d_tu3, d_tu4, d_ls0, d_ls1, d_ls2, d_ls3, d_ls4, then_br, then_ct, List.length_cons, List.length_nil, Nat.reduceAdd, Nat.reduceLT, Bool.false_eq_true, Bool.true_eq_false, loopL_nil, ev_mSl, pt_none, pt_some, sl_t, sl_l, cut_m1, cut_hi, cut_lo, di_take, di_drop, di_dropLast, d_all1, List.length_map, Int.natCast_zero, Int.reduceLE, Int.reduceLT, Int.reduceEq, Int.reduceToNat, Int.reduceAdd, Int.reduceSub, Int.reduceMul, Int.reduceNeg, Nat.reduceSub, Nat.reduceMul, Nat.reduceLeDiff, Nat.reduceEqDiff, d_eqTI, d_neTI, d_eqLI, d_neLI, zip_cons, zip_nil, zip_nil2, rep_di, ev_sRetO, ev_sRetF, then_rtF, en_rtF, fF_rtF, fF_er, fF_nx, ev_mLN, opt_some, opt_none, isOb_fz, isOb_ow, isOb_no, isOb_opt, hid_opt, ld_opt, List.any_cons, List.any_nil, Bool.or_false, turn_tp13, turn_tp12, ev_sExt2, sq2_l, sq2_t, hid_pw, ld_pw, isOb_pw, ev_sIxP, d_ixLI (l := v) hm.1 (by omega)]
          rfl
      obtain ⟨s, es⟩ : ∃ s : List Int, s = (sortP ps).map (·.2) := ⟨_, rfl⟩
      have pm : s.Perm (rng n) := by
        rw [es]
        refine ((sortP_perm ps).map _).trans (List.Perm.of_eq ?_)
        rw [eps, List.map_map]
        exact List.map_id _
      obtain ⟨sl, snd, sm⟩ := perm_rng pm
      have spl : (sortP ps).length = n := by rw [(sortP_perm ps).length_eq, eps, List.length_map, len_rng]
      have ixs : ∀ j : Nat, j < n → dIx (.lst ((sortP ps).map prD)) (.int (j : Nat)) = .ok (.tup [.int ((sortP ps).getD j (0, 0)).1, .int (s.getD j 0)]) := fun j hj => by
        obtain ⟨p, hp⟩ := get_lt (show j < (sortP ps).length by omega)
        have e1 : (sortP ps).getD j (0, 0) = p := by rw [List.getD_eq_getElem?_getD, hp]; rfl
        have e2 : s.getD j 0 = p.2 := by rw [es, getD_some (x := p.2) (by rw [List.getElem?_map, hp]; rfl)]
        rw [e1, e2]
        exact d_ixL (by rw [List.getElem?_map, hp]; rfl)
      have k4 : ∀ o0 o1 o3 o4 o5 o6 o7 o8 : Option D, c_law_4 [some (.scr ns), some (.lst (di h)), some (.int n), some (.int sc), some (.lst (di v)), some (num v), some (.lst (di nm)), o0, o1, some (.lst (di (rng n))), o3, o4, o5, o6, o7, o8, none, none, none, none, none, none, none] = .ok (qD ⟨s.getD (n - 1) 0, s.getD (n - 3) 0, s.getD (n - 2) 0, s.getD (n - 4) 0⟩) := fun o0 o1 o3 o4 o5 o6 o7 o8 => by
        rw [c_law_4]
        refine (ev_lcM (c := fun j : Nat => .int (j : Nat)) [n - 1, n - 3, n - 2, n - 4] (fun j => .int (s.getD j 0)) ?_ (by show 4 ≤ 16777216; decide) fun j hj => ?_).trans rfl
        · have e1 : (n : Int) - 1 = ((n - 1 : Nat) : Int) := by omega
          have e2 : (n : Int) - 2 = ((n - 2 : Nat) : Int) := by omega
          have e3 : (n : Int) - 3 = ((n - 3 : Nat) : Int) := by omega
          have e4 : (n : Int) - 4 = ((n - 4 : Nat) : Int) := by omega
          simp only [ev_V0, dec_T, dec_F, ev_VS, set_0, set_S, get_0, get_S, hd_nil, hd_cons, hid_fz, hid_no, hid_ow, hid_ob, if_t, if_f, if_T, if_F, not_t, not_f, ev_C, ev_1, ev_2, ev_A, ev_nil, ev_cons, ev_T, ev_B, ev_And, ev_Or, ev_Not, ev_Yes, ev_If, ev_AndV, ev_OrV, ev_H, ev_Seq, then_nx, then_rt, then_er, ev_Nx, ev_Ret, ev_Set, ev_Ex, ev_SIf, ev_Rz1, ev_Rz0, bd_ok, bd_er, on_ok, on_er, d_tru_bl, d_add, d_sub, d_lt, d_le, d_gt, d_ge, d_neg, d_eqI, d_neI, d_lenT, d_lenL, d_one, d_int, d_tupL, d_tupT, d_itT, d_itL, d_inT, d_notInT, d_max2, d_min2, en_nx, en_rt, en_er, wipe_nil', wipe_cons', mb_ok, ev_sOwn, ev_sApp, ev_sExt, ev_sRev, ev_sIxS, ev_sAug, ev_sTup, ev_sFrz, frz_ow, frz_fz, frz_ob, frz_no, ev_mHN, only_l, only_er, ev_sFor, ev_sRetN, ev_mL, ev_mLB, ld_nil, ld_cons, ld_fz, ld_no, ld_ow, ld_ob, okF_int, okF_bl, okF_str, okF_non, okF_tup, okFs_di, ev_meth, ev_mIsN, ev_mIsNotN, isN_non, isN_int, isN_tup, isN_lst, isN_obj, isN_bl, isN_str, d_not_bl, d_en_t, d_en_l, d_zip_t, d_zip_l, d_list_l, d_list_t, d_absI, turn_nm, turn_tp2, turn_tp3, turn_tp4, tE_nm, tE_tp2, tE_tp3, ix_t0, ix_t1, ix_t2, ix_t3, ix_l0, ix_l1, ix_l2, ix_l3, d_tu0, d_tu1, d_tu2, d_tu3, d_tu4, d_ls0, d_ls1, d_ls2, d_ls3, d_ls4, then_br, then_ct, List.length_cons, List.length_nil, Nat.reduceAdd, Nat.reduceLT, Bool.false_eq_true, Bool.true_eq_false, loopL_nil, ev_mSl, pt_none, pt_some, sl_t, sl_l, cut_m1, cut_hi, cut_lo, di_take, di_drop, di_dropLast, d_all1, List.length_map, Int.natCast_zero, Int.reduceLE, Int.reduceLT, Int.reduceEq, Int.reduceToNat, Int.reduceAdd, Int.reduceSub, Int.reduceMul, Int.reduceNeg, Nat.reduceSub, Nat.reduceMul, Nat.reduceLeDiff, Nat.reduceEqDiff, d_eqTI, d_neTI, d_eqLI, d_neLI, zip_cons, zip_nil, zip_nil2, rep_di, ev_sRetO, ev_sRetF, then_rtF, en_rtF, fF_rtF, fF_er, fF_nx, ev_mLN, opt_some, opt_none, isOb_fz, isOb_ow, isOb_no, isOb_opt, hid_opt, ld_opt, List.any_cons, List.any_nil, Bool.or_false, turn_tp13, turn_tp12, ev_sExt2, sq2_l, sq2_t, hid_pw, ld_pw, isOb_pw, ev_sIxP, e1, e2, e3, e4]
          rfl
        · have hj2 : j < n := by
            simp only [List.mem_cons, List.not_mem_nil, or_false] at hj
            omega
          simp only [ev_V0, dec_T, dec_F, ev_VS, set_0, set_S, get_0, get_S, hd_nil, hd_cons, hid_fz, hid_no, hid_ow, hid_ob, if_t, if_f, if_T, if_F, not_t, not_f, ev_C, ev_1, ev_2, ev_A, ev_nil, ev_cons, ev_T, ev_B, ev_And, ev_Or, ev_Not, ev_Yes, ev_If, ev_AndV, ev_OrV, ev_H, ev_Seq, then_nx, then_rt, then_er, ev_Nx, ev_Ret, ev_Set, ev_Ex, ev_SIf, ev_Rz1, ev_Rz0, bd_ok, bd_er, on_ok, on_er, d_tru_bl, d_add, d_sub, d_lt, d_le, d_gt, d_ge, d_neg, d_eqI, d_neI, d_lenT, d_lenL, d_one, d_int, d_tupL, d_tupT, d_itT, d_itL, d_inT, d_notInT, d_max2, d_min2, en_nx, en_rt, en_er, wipe_nil', wipe_cons', mb_ok, ev_sOwn, ev_sApp, ev_sExt, ev_sRev, ev_sIxS, ev_sAug, ev_sTup, ev_sFrz, frz_ow, frz_fz, frz_ob, frz_no, ev_mHN, only_l, only_er, ev_sFor, ev_sRetN, ev_mL, ev_mLB, ld_nil, ld_cons, ld_fz, ld_no, ld_ow, ld_ob, okF_int, okF_bl, okF_str, okF_non, okF_tup, okFs_di, ev_meth, ev_mIsN, ev_mIsNotN, isN_non, isN_int, isN_tup, isN_lst, isN_obj, isN_bl, isN_str, d_not_bl, d_en_t, d_en_l, d_zip_t, d_zip_l, d_list_l, d_list_t, d_absI, turn_nm, turn_tp2, turn_tp3, turn_tp4, tE_nm, tE_tp2, tE_tp3, ix_t0, ix_t1, ix_t2, ix_t3, ix_l0, ix_l1, ix_l2, ix_l3, d_tu0, d_tu1, d_tu2, d_tu3, d_tu4, d_ls0, d_ls1, d_ls2, d_ls3, d_ls4, then_br, then_ct, List.length_cons, List.length_nil, Nat.reduceAdd, Nat.reduceLT, Bool.false_eq_true, Bool.true_eq_false, loopL_nil, ev_mSl, pt_none, pt_some, sl_t, sl_l, cut_m1, cut_hi, cut_lo, di_take, di_drop, di_dropLast, d_all1, List.length_map, Int.natCast_zero, Int.reduceLE, Int.reduceLT, Int.reduceEq, Int.reduceToNat, Int.reduceAdd, Int.reduceSub, Int.reduceMul, Int.reduceNeg, Nat.reduceSub, Nat.reduceMul, Nat.reduceLeDiff, Nat.reduceEqDiff, d_eqTI, d_neTI, d_eqLI, d_neLI, zip_cons, zip_nil, zip_nil2, rep_di, ev_sRetO, ev_sRetF, then_rtF, en_rtF, fF_rtF, fF_er, fF_nx, ev_mLN, opt_some, opt_none, isOb_fz, isOb_ow, isOb_no, isOb_opt, hid_opt, ld_opt, List.any_cons, List.any_nil, Bool.or_false, turn_tp13, turn_tp12, ev_sExt2, sq2_l, sq2_t, hid_pw, ld_pw, isOb_pw, ev_sIxP, k3, sorted_prs, ixs j hj2]
      have rg : ∀ j, j < n → 0 ≤ s.getD j 0 ∧ s.getD j 0 < (n : Int) := fun j hj => (sm _).mp (by
        obtain ⟨x, hx⟩ := get_lt (show j < s.length by omega)
        rw [getD_some hx]
        exact List.mem_of_getElem? hx)
      have ne : ∀ i j, i < j → j < n → s.getD i 0 ≠ s.getD j 0 := fun i j hij hj => by
        obtain ⟨x, hx⟩ := get_lt (show i < s.length by omega)
        obtain ⟨y, hy⟩ := get_lt (show j < s.length by omega)
        rw [getD_some hx, getD_some hy]
        obtain ⟨b1, e1⟩ := List.getElem?_eq_some_iff.mp hx
        obtain ⟨b2, e2⟩ := List.getElem?_eq_some_iff.mp hy
        rw [← e1, ← e2]
        exact List.pairwise_iff_getElem.mp snd i j b1 b2 hij
      refine ⟨⟨s.getD (n - 1) 0, s.getD (n - 3) 0, s.getD (n - 2) 0, s.getD (n - 4) 0⟩, .fz (.lst (di (rng n))), ⟨rg _ (by omega), rg _ (by omega), rg _ (by omega), rg _ (by omega), ?_⟩, ?_⟩
      · have a := ne (n - 3) (n - 1) (by omega) (by omega)
        have b := ne (n - 2) (n - 1) (by omega) (by omega)
        have c := ne (n - 4) (n - 1) (by omega) (by omega)
        have d := ne (n - 3) (n - 2) (by omega) (by omega)
        have e := ne (n - 4) (n - 3) (by omega) (by omega)
        have f := ne (n - 4) (n - 2) (by omega) (by omega)
        simp only [List.nodup_cons, List.mem_cons, List.not_mem_nil, or_false, not_or, not_false_eq_true, List.nodup_nil, and_true]
        exact ⟨⟨fun z => a z.symm, fun z => b z.symm, fun z => c z.symm⟩, ⟨d, fun z => e z.symm⟩, fun z => f z.symm⟩
      · simp only [i_law_5, ev_V0, dec_T, dec_F, ev_VS, set_0, set_S, get_0, get_S, hd_nil, hd_cons, hid_fz, hid_no, hid_ow, hid_ob, if_t, if_f, if_T, if_F, not_t, not_f, ev_C, ev_1, ev_2, ev_A, ev_nil, ev_cons, ev_T, ev_B, ev_And, ev_Or, ev_Not, ev_Yes, ev_If, ev_AndV, ev_OrV, ev_H, ev_Seq, then_nx, then_rt, then_er, ev_Nx, ev_Ret, ev_Set, ev_Ex, ev_SIf, ev_Rz1, ev_Rz0, bd_ok, bd_er, on_ok, on_er, d_tru_bl, d_add, d_sub, d_lt, d_le, d_gt, d_ge, d_neg, d_eqI, d_neI, d_lenT, d_lenL, d_one, d_int, d_tupL, d_tupT, d_itT, d_itL, d_inT, d_notInT, d_max2, d_min2, en_nx, en_rt, en_er, wipe_nil', wipe_cons', mb_ok, ev_sOwn, ev_sApp, ev_sExt, ev_sRev, ev_sIxS, ev_sAug, ev_sTup, ev_sFrz, frz_ow, frz_fz, frz_ob, frz_no, ev_mHN, only_l, only_er, ev_sFor, ev_sRetN, ev_mL, ev_mLB, ld_nil, ld_cons, ld_fz, ld_no, ld_ow, ld_ob, okF_int, okF_bl, okF_str, okF_non, okF_tup, okFs_di, ev_meth, ev_mIsN, ev_mIsNotN, isN_non, isN_int, isN_tup, isN_lst, isN_obj, isN_bl, isN_str, d_not_bl, d_en_t, d_en_l, d_zip_t, d_zip_l, d_list_l, d_list_t, d_absI, turn_nm, turn_tp2, turn_tp3, turn_tp4, tE_nm, tE_tp2, tE_tp3, ix_t0, ix_t1, ix_t2, ix_t3, ix_l0, ix_l1, ix_l2, ix_l3, d_tu0, d_tu1, d_tu2, d_tu3, d_tu4, d_ls0, d_ls1, d_ls2, d_ls3, d_ls4, then_br, then_ct, List.length_cons, List.length_nil, Nat.reduceAdd, Nat.reduceLT, Bool.false_eq_true, Bool.true_eq_false, loopL_nil, ev_mSl, pt_none, pt_some, sl_t, sl_l, cut_m1, cut_hi, cut_lo, di_take, di_drop, di_dropLast, d_all1, List.length_map, Int.natCast_zero, Int.reduceLE, Int.reduceLT, Int.reduceEq, Int.reduceToNat, Int.reduceAdd, Int.reduceSub, Int.reduceMul, Int.reduceNeg, Nat.reduceSub, Nat.reduceMul, Nat.reduceLeDiff, Nat.reduceEqDiff, d_eqTI, d_neTI, d_eqLI, d_neLI, zip_cons, zip_nil, zip_nil2, rep_di, ev_sRetO, ev_sRetF, then_rtF, en_rtF, fF_rtF, fF_er, fF_nx, ev_mLN, opt_some, opt_none, isOb_fz, isOb_ow, isOb_no, isOb_opt, hid_opt, ld_opt, List.any_cons, List.any_nil, Bool.or_false, turn_tp13, turn_tp12, ev_sExt2, sq2_l, sq2_t, hid_pw, ld_pw, isOb_pw, ev_sIxP, x6, m2, c1, c2, decide_true, k2, k4]
    · refine ⟨q, s9, F, ?_⟩
      simp only [i_law_5, ev_V0, dec_T, dec_F, ev_VS, set_0, set_S, get_0, get_S, hd_nil, hd_cons, hid_fz, hid_no, hid_ow, hid_ob, if_t, if_f, if_T, if_F, not_t, not_f, ev_C, ev_1, ev_2, ev_A, ev_nil, ev_cons, ev_T, ev_B, ev_And, ev_Or, ev_Not, ev_Yes, ev_If, ev_AndV, ev_OrV, ev_H, ev_Seq, then_nx, then_rt, then_er, ev_Nx, ev_Ret, ev_Set, ev_Ex, ev_SIf, ev_Rz1, ev_Rz0, bd_ok, bd_er, on_ok, on_er, d_tru_bl, d_add, d_sub, d_lt, d_le, d_gt, d_ge, d_neg, d_eqI, d_neI, d_lenT, d_lenL, d_one, d_int, d_tupL, d_tupT, d_itT, d_itL, d_inT, d_notInT, d_max2, d_min2, en_nx, en_rt, en_er, wipe_nil', wipe_cons', mb_ok, ev_sOwn, ev_sApp, ev_sExt, ev_sRev, ev_sIxS, ev_sAug, ev_sTup, ev_sFrz, frz_ow, frz_fz, frz_ob, frz_no, ev_mHN, only_l, only_er, ev_sFor, ev_sRetN, ev_mL, ev_mLB, ld_nil, ld_cons, ld_fz, ld_no, ld_ow, ld_ob, okF_int, okF_bl, okF_str, okF_non, okF_tup, okFs_di, ev_meth, ev_mIsN, ev_mIsNotN, isN_non, isN_int, isN_tup, isN_lst, isN_obj, isN_bl, isN_str, d_not_bl, d_en_t, d_en_l, d_zip_t, d_zip_l, d_list_l, d_list_t, d_absI, turn_nm, turn_tp2, turn_tp3, turn_tp4, tE_nm, tE_tp2, tE_tp3, ix_t0, ix_t1, ix_t2, ix_t3, ix_l0, ix_l1, ix_l2, ix_l3, d_tu0, d_tu1, d_tu2, d_tu3, d_tu4, d_ls0, d_ls1, d_ls2, d_ls3, d_ls4, then_br, then_ct, List.length_cons, List.length_nil, Nat.reduceAdd, Nat.reduceLT, Bool.false_eq_true, Bool.true_eq_false, loopL_nil, ev_mSl, pt_none, pt_some, sl_t, sl_l, cut_m1, cut_hi, cut_lo, di_take, di_drop, di_dropLast, d_all1, List.length_map, Int.natCast_zero, Int.reduceLE, Int.reduceLT, Int.reduceEq, Int.reduceToNat, Int.reduceAdd, Int.reduceSub, Int.reduceMul, Int.reduceNeg, Nat.reduceSub, Nat.reduceMul, Nat.reduceLeDiff, Nat.reduceEqDiff, d_eqTI, d_neTI, d_eqLI, d_neLI, zip_cons, zip_nil, zip_nil2, rep_di, ev_sRetO, ev_sRetF, then_rtF, en_rtF, fF_rtF, fF_er, fF_nx, ev_mLN, opt_some, opt_none, isOb_fz, isOb_ow, isOb_no, isOb_opt, hid_opt, ld_opt, List.any_cons, List.any_nil, Bool.or_false, turn_tp13, turn_tp12, ev_sExt2, sq2_l, sq2_t, hid_pw, ld_pw, isOb_pw, ev_sIxP, x6, m2, c1, c2, decide_true, decide_false]
  · refine ⟨q, s9, F, ?_⟩
    simp only [i_law_5, ev_V0, dec_T, dec_F, ev_VS, set_0, set_S, get_0, get_S, hd_nil, hd_cons, hid_fz, hid_no, hid_ow, hid_ob, if_t, if_f, if_T, if_F, not_t, not_f, ev_C, ev_1, ev_2, ev_A, ev_nil, ev_cons, ev_T, ev_B, ev_And, ev_Or, ev_Not, ev_Yes, ev_If, ev_AndV, ev_OrV, ev_H, ev_Seq, then_nx, then_rt, then_er, ev_Nx, ev_Ret, ev_Set, ev_Ex, ev_SIf, ev_Rz1, ev_Rz0, bd_ok, bd_er, on_ok, on_er, d_tru_bl, d_add, d_sub, d_lt, d_le, d_gt, d_ge, d_neg, d_eqI, d_neI, d_lenT, d_lenL, d_one, d_int, d_tupL, d_tupT, d_itT, d_itL, d_inT, d_notInT, d_max2, d_min2, en_nx, en_rt, en_er, wipe_nil', wipe_cons', mb_ok, ev_sOwn, ev_sApp, ev_sExt, ev_sRev, ev_sIxS, ev_sAug, ev_sTup, ev_sFrz, frz_ow, frz_fz, frz_ob, frz_no, ev_mHN, only_l, only_er, ev_sFor, ev_sRetN, ev_mL, ev_mLB, ld_nil, ld_cons, ld_fz, ld_no, ld_ow, ld_ob, okF_int, okF_bl, okF_str, okF_non, okF_tup, okFs_di, ev_meth, ev_mIsN, ev_mIsNotN, isN_non, isN_int, isN_tup, isN_lst, isN_obj, isN_bl, isN_str, d_not_bl, d_en_t, d_en_l, d_zip_t, d_zip_l, d_list_l, d_list_t, d_absI, turn_nm, turn_tp2, turn_tp3, turn_tp4, tE_nm, tE_tp2, tE_tp3, ix_t0, ix_t1, ix_t2, ix_t3, ix_l0, ix_l1, ix_l2, ix_l3, d_tu0, d_tu1, d_tu2, d_tu3, d_tu4, d_ls0, d_ls1, d_ls2, d_ls3, d_ls4, then_br, then_ct, List.length_cons, List.length_nil, Nat.reduceAdd, Nat.reduceLT, Bool.false_eq_true, Bool.true_eq_false, loopL_nil, ev_mSl, pt_none, pt_some, sl_t, sl_l, cut_m1, cut_hi, cut_lo, di_take, di_drop, di_dropLast, d_all1, List.length_map, Int.natCast_zero, Int.reduceLE, Int.reduceLT, Int.reduceEq, Int.reduceToNat, Int.reduceAdd, Int.reduceSub, Int.reduceMul, Int.reduceNeg, Nat.reduceSub, Nat.reduceMul, Nat.reduceLeDiff, Nat.reduceEqDiff, d_eqTI, d_neTI, d_eqLI, d_neLI, zip_cons, zip_nil, zip_nil2, rep_di, ev_sRetO, ev_sRetF, then_rtF, en_rtF, fF_rtF, fF_er, fF_nx, ev_mLN, opt_some, opt_none, isOb_fz, isOb_ow, isOb_no, isOb_opt, hid_opt, ld_opt, List.any_cons, List.any_nil, Bool.or_false, turn_tp13, turn_tp12, ev_sExt2, sq2_l, sq2_t, hid_pw, ld_pw, isOb_pw, ev_sIxP, c1, decide_false]
theorem l9_56 (S : S56 ns h v nm n) {turn : D} {q : Q4} {s9 s10 s11 s12 s14 s15 : Sl} : ∃ s : Sl, l_law_9 [.fz (.scr ns), .fz (.lst (di h)), .fz (.int n), .fz (.int sc), .fz (.lst (di v)), .fz (num v), .fz (.lst (di nm)), .fz (turn), .fz (qD q), s9, s10, s11, s12, .ow ([]), s14, s15, .no, .no, .no, .no, .no, .no, .no] = .nx [.fz (.scr ns), .fz (.lst (di h)), .fz (.int n), .fz (.int sc), .fz (.lst (di v)), .fz (num v), .fz (.lst (di nm)), .fz (turn), .fz (qD q), s9, s10, s11, s12, .ow ((lotsF n q.w q.b q.o q.e).map tu), s, s15, .no, .no, .no, .no, .no, .no, .no] := by
  have h8 := S.h8
  have k7 : ∀ (o0 o1 o2 o3 o4 o5 o6 o7 : Option D) (x y : Int), c_law_7 [some (.scr ns), some (.lst (di h)), some (.int n), some (.int sc), some (.lst (di v)), some (num v), some (.lst (di nm)), o0, o1, o2, o3, o4, o5, o6, some (.tup [.int x, .int y]), o7, none, none, none, none, none, none, none] = .ok (.lst (di (cpl n x y))) := fun o0 o1 o2 o3 o4 o5 o6 o7 x y => by
    rw [c_law_7]
    refine ev_lcT (c := D.int) (rng n) (fun w => !decide (w ∈ [x, y])) D.int ?_ (by rw [len_rng]; exact small h8) (fun z hz => ?_) fun z hz _ => ?_
    · simp only [ev_V0, dec_T, dec_F, ev_VS, set_0, set_S, get_0, get_S, hd_nil, hd_cons, hid_fz, hid_no, hid_ow, hid_ob, if_t, if_f, if_T, if_F, not_t, not_f, ev_C, ev_1, ev_2, ev_A, ev_nil, ev_cons, ev_T, ev_B, ev_And, ev_Or, ev_Not, ev_Yes, ev_If, ev_AndV, ev_OrV, ev_H, ev_Seq, then_nx, then_rt, then_er, ev_Nx, ev_Ret, ev_Set, ev_Ex, ev_SIf, ev_Rz1, ev_Rz0, bd_ok, bd_er, on_ok, on_er, d_tru_bl, d_add, d_sub, d_lt, d_le, d_gt, d_ge, d_neg, d_eqI, d_neI, d_lenT, d_lenL, d_one, d_int, d_tupL, d_tupT, d_itT, d_itL, d_inT, d_notInT, d_max2, d_min2, en_nx, en_rt, en_er, wipe_nil', wipe_cons', mb_ok, ev_sOwn, ev_sApp, ev_sExt, ev_sRev, ev_sIxS, ev_sAug, ev_sTup, ev_sFrz, frz_ow, frz_fz, frz_ob, frz_no, ev_mHN, only_l, only_er, ev_sFor, ev_sRetN, ev_mL, ev_mLB, ld_nil, ld_cons, ld_fz, ld_no, ld_ow, ld_ob, okF_int, okF_bl, okF_str, okF_non, okF_tup, okFs_di, ev_meth, ev_mIsN, ev_mIsNotN, isN_non, isN_int, isN_tup, isN_lst, isN_obj, isN_bl, isN_str, d_not_bl, d_en_t, d_en_l, d_zip_t, d_zip_l, d_list_l, d_list_t, d_absI, turn_nm, turn_tp2, turn_tp3, turn_tp4, tE_nm, tE_tp2, tE_tp3, ix_t0, ix_t1, ix_t2, ix_t3, ix_l0, ix_l1, ix_l2, ix_l3, d_tu0, d_tu1, d_tu2, d_tu3, d_tu4, d_ls0, d_ls1, d_ls2, d_ls3, d_ls4, then_br, then_ct, List.length_cons, List.length_nil, Nat.reduceAdd, Nat.reduceLT, Bool.false_eq_true, Bool.true_eq_false, loopL_nil, ev_mSl, pt_none, pt_some, sl_t, sl_l, cut_m1, cut_hi, cut_lo, di_take, di_drop, di_dropLast, d_all1, List.length_map, Int.natCast_zero, Int.reduceLE, Int.reduceLT, Int.reduceEq, Int.reduceToNat, Int.reduceAdd, Int.reduceSub, Int.reduceMul, Int.reduceNeg, Nat.reduceSub, Nat.reduceMul, Nat.reduceLeDiff, Nat.reduceEqDiff, d_eqTI, d_neTI, d_eqLI, d_neLI, zip_cons, zip_nil, zip_nil2, rep_di, ev_sRetO, ev_sRetF, then_rtF, en_rtF, fF_rtF, fF_er, fF_nx, ev_mLN, opt_some, opt_none, isOb_fz, isOb_ow, isOb_no, isOb_opt, hid_opt, ld_opt, List.any_cons, List.any_nil, Bool.or_false, turn_tp13, turn_tp12, ev_sExt2, sq2_l, sq2_t, hid_pw, ld_pw, isOb_pw, ev_sIxP, d_rng n (show n < 1000000 by omega)]
    · have : dNotIn (.int z) (.tup [.int x, .int y]) = .ok (.bl (!decide (z ∈ [x, y]))) := d_notInT (l := [x, y])
      simp only [ev_V0, dec_T, dec_F, ev_VS, set_0, set_S, get_0, get_S, hd_nil, hd_cons, hid_fz, hid_no, hid_ow, hid_ob, if_t, if_f, if_T, if_F, not_t, not_f, ev_C, ev_1, ev_2, ev_A, ev_nil, ev_cons, ev_T, ev_B, ev_And, ev_Or, ev_Not, ev_Yes, ev_If, ev_AndV, ev_OrV, ev_H, ev_Seq, then_nx, then_rt, then_er, ev_Nx, ev_Ret, ev_Set, ev_Ex, ev_SIf, ev_Rz1, ev_Rz0, bd_ok, bd_er, on_ok, on_er, d_tru_bl, d_add, d_sub, d_lt, d_le, d_gt, d_ge, d_neg, d_eqI, d_neI, d_lenT, d_lenL, d_one, d_int, d_tupL, d_tupT, d_itT, d_itL, d_inT, d_notInT, d_max2, d_min2, en_nx, en_rt, en_er, wipe_nil', wipe_cons', mb_ok, ev_sOwn, ev_sApp, ev_sExt, ev_sRev, ev_sIxS, ev_sAug, ev_sTup, ev_sFrz, frz_ow, frz_fz, frz_ob, frz_no, ev_mHN, only_l, only_er, ev_sFor, ev_sRetN, ev_mL, ev_mLB, ld_nil, ld_cons, ld_fz, ld_no, ld_ow, ld_ob, okF_int, okF_bl, okF_str, okF_non, okF_tup, okFs_di, ev_meth, ev_mIsN, ev_mIsNotN, isN_non, isN_int, isN_tup, isN_lst, isN_obj, isN_bl, isN_str, d_not_bl, d_en_t, d_en_l, d_zip_t, d_zip_l, d_list_l, d_list_t, d_absI, turn_nm, turn_tp2, turn_tp3, turn_tp4, tE_nm, tE_tp2, tE_tp3, ix_t0, ix_t1, ix_t2, ix_t3, ix_l0, ix_l1, ix_l2, ix_l3, d_tu0, d_tu1, d_tu2, d_tu3, d_tu4, d_ls0, d_ls1, d_ls2, d_ls3, d_ls4, then_br, then_ct, List.length_cons, List.length_nil, Nat.reduceAdd, Nat.reduceLT, Bool.false_eq_true, Bool.true_eq_false, loopL_nil, ev_mSl, pt_none, pt_some, sl_t, sl_l, cut_m1, cut_hi, cut_lo, di_take, di_drop, di_dropLast, d_all1, List.length_map, Int.natCast_zero, Int.reduceLE, Int.reduceLT, Int.reduceEq, Int.reduceToNat, Int.reduceAdd, Int.reduceSub, Int.reduceMul, Int.reduceNeg, Nat.reduceSub, Nat.reduceMul, Nat.reduceLeDiff, Nat.reduceEqDiff, d_eqTI, d_neTI, d_eqLI, d_neLI, zip_cons, zip_nil, zip_nil2, rep_di, ev_sRetO, ev_sRetF, then_rtF, en_rtF, fF_rtF, fF_er, fF_nx, ev_mLN, opt_some, opt_none, isOb_fz, isOb_ow, isOb_no, isOb_opt, hid_opt, ld_opt, List.any_cons, List.any_nil, Bool.or_false, turn_tp13, turn_tp12, ev_sExt2, sq2_l, sq2_t, hid_pw, ld_pw, isOb_pw, ev_sIxP, this]
    · simp only [ev_V0, dec_T, dec_F, ev_VS, set_0, set_S, get_0, get_S, hd_nil, hd_cons, hid_fz, hid_no, hid_ow, hid_ob, if_t, if_f, if_T, if_F, not_t, not_f, ev_C, ev_1, ev_2, ev_A, ev_nil, ev_cons, ev_T, ev_B, ev_And, ev_Or, ev_Not, ev_Yes, ev_If, ev_AndV, ev_OrV, ev_H, ev_Seq, then_nx, then_rt, then_er, ev_Nx, ev_Ret, ev_Set, ev_Ex, ev_SIf, ev_Rz1, ev_Rz0, bd_ok, bd_er, on_ok, on_er, d_tru_bl, d_add, d_sub, d_lt, d_le, d_gt, d_ge, d_neg, d_eqI, d_neI, d_lenT, d_lenL, d_one, d_int, d_tupL, d_tupT, d_itT, d_itL, d_inT, d_notInT, d_max2, d_min2, en_nx, en_rt, en_er, wipe_nil', wipe_cons', mb_ok, ev_sOwn, ev_sApp, ev_sExt, ev_sRev, ev_sIxS, ev_sAug, ev_sTup, ev_sFrz, frz_ow, frz_fz, frz_ob, frz_no, ev_mHN, only_l, only_er, ev_sFor, ev_sRetN, ev_mL, ev_mLB, ld_nil, ld_cons, ld_fz, ld_no, ld_ow, ld_ob, okF_int, okF_bl, okF_str, okF_non, okF_tup, okFs_di, ev_meth, ev_mIsN, ev_mIsNotN, isN_non, isN_int, isN_tup, isN_lst, isN_obj, isN_bl, isN_str, d_not_bl, d_en_t, d_en_l, d_zip_t, d_zip_l, d_list_l, d_list_t, d_absI, turn_nm, turn_tp2, turn_tp3, turn_tp4, tE_nm, tE_tp2, tE_tp3, ix_t0, ix_t1, ix_t2, ix_t3, ix_l0, ix_l1, ix_l2, ix_l3, d_tu0, d_tu1, d_tu2, d_tu3, d_tu4, d_ls0, d_ls1, d_ls2, d_ls3, d_ls4, then_br, then_ct, List.length_cons, List.length_nil, Nat.reduceAdd, Nat.reduceLT, Bool.false_eq_true, Bool.true_eq_false, loopL_nil, ev_mSl, pt_none, pt_some, sl_t, sl_l, cut_m1, cut_hi, cut_lo, di_take, di_drop, di_dropLast, d_all1, List.length_map, Int.natCast_zero, Int.reduceLE, Int.reduceLT, Int.reduceEq, Int.reduceToNat, Int.reduceAdd, Int.reduceSub, Int.reduceMul, Int.reduceNeg, Nat.reduceSub, Nat.reduceMul, Nat.reduceLeDiff, Nat.reduceEqDiff, d_eqTI, d_neTI, d_eqLI, d_neLI, zip_cons, zip_nil, zip_nil2, rep_di, ev_sRetO, ev_sRetF, then_rtF, en_rtF, fF_rtF, fF_er, fF_nx, ev_mLN, opt_some, opt_none, isOb_fz, isOb_ow, isOb_no, isOb_opt, hid_opt, ld_opt, List.any_cons, List.any_nil, Bool.or_false, turn_tp13, turn_tp12, ev_sExt2, sq2_l, sq2_t, hid_pw, ld_pw, isOb_pw, ev_sIxP]
  simp only [l_law_9, ev_V0, dec_T, dec_F, ev_VS, set_0, set_S, get_0, get_S, hd_nil, hd_cons, hid_fz, hid_no, hid_ow, hid_ob, if_t, if_f, if_T, if_F, not_t, not_f, ev_C, ev_1, ev_2, ev_A, ev_nil, ev_cons, ev_T, ev_B, ev_And, ev_Or, ev_Not, ev_Yes, ev_If, ev_AndV, ev_OrV, ev_H, ev_Seq, then_nx, then_rt, then_er, ev_Nx, ev_Ret, ev_Set, ev_Ex, ev_SIf, ev_Rz1, ev_Rz0, bd_ok, bd_er, on_ok, on_er, d_tru_bl, d_add, d_sub, d_lt, d_le, d_gt, d_ge, d_neg, d_eqI, d_neI, d_lenT, d_lenL, d_one, d_int, d_tupL, d_tupT, d_itT, d_itL, d_inT, d_notInT, d_max2, d_min2, en_nx, en_rt, en_er, wipe_nil', wipe_cons', mb_ok, ev_sOwn, ev_sApp, ev_sExt, ev_sRev, ev_sIxS, ev_sAug, ev_sTup, ev_sFrz, frz_ow, frz_fz, frz_ob, frz_no, ev_mHN, only_l, only_er, ev_sFor, ev_sRetN, ev_mL, ev_mLB, ld_nil, ld_cons, ld_fz, ld_no, ld_ow, ld_ob, okF_int, okF_bl, okF_str, okF_non, okF_tup, okFs_di, ev_meth, ev_mIsN, ev_mIsNotN, isN_non, isN_int, isN_tup, isN_lst, isN_obj, isN_bl, isN_str, d_not_bl, d_en_t, d_en_l, d_zip_t, d_zip_l, d_list_l, d_list_t, d_absI, turn_nm, turn_tp2, turn_tp3, turn_tp4, tE_nm, tE_tp2, tE_tp3, ix_t0, ix_t1, ix_t2, ix_t3, ix_l0, ix_l1, ix_l2, ix_l3, d_tu0, d_tu1, d_tu2, d_tu3, d_tu4, d_ls0, d_ls1, d_ls2, d_ls3, d_ls4, then_br, then_ct, List.length_cons, List.length_nil, Nat.reduceAdd, Nat.reduceLT, Bool.false_eq_true, Bool.true_eq_false, loopL_nil, ev_mSl, pt_none, pt_some, sl_t, sl_l, cut_m1, cut_hi, cut_lo, di_take, di_drop, di_dropLast, d_all1, List.length_map, Int.natCast_zero, Int.reduceLE, Int.reduceLT, Int.reduceEq, Int.reduceToNat, Int.reduceAdd, Int.reduceSub, Int.reduceMul, Int.reduceNeg, Nat.reduceSub, Nat.reduceMul, Nat.reduceLeDiff, Nat.reduceEqDiff, d_eqTI, d_neTI, d_eqLI, d_neLI, zip_cons, zip_nil, zip_nil2, rep_di, ev_sRetO, ev_sRetF, then_rtF, en_rtF, fF_rtF, fF_er, fF_nx, ev_mLN, opt_some, opt_none, isOb_fz, isOb_ow, isOb_no, isOb_opt, hid_opt, ld_opt, List.any_cons, List.any_nil, Bool.or_false, turn_tp13, turn_tp12, ev_sExt2, sq2_l, sq2_t, hid_pw, ld_pw, isOb_pw, ev_sIxP]
  obtain ⟨s, lp⟩ := loop_appM (T := .nm 14) (body := b_law_8) (c := fun p : Int × Int => .tup [.int p.1, .int p.2]) (E := fun (acc : List D) (s : Sl) => [.fz (.scr ns), .fz (.lst (di h)), .fz (.int n), .fz (.int sc), .fz (.lst (di v)), .fz (num v), .fz (.lst (di nm)), .fz (turn), .fz (qD q), s9, s10, s11, s12, .ow (acc), s, s15, .no, .no, .no, .no, .no, .no, .no]) (fun p => tu (cpl n p.1 p.2)) (fun p => .fz (.tup [.int p.1, .int p.2])) [(q.w, q.b), (q.o, q.e), (q.w, q.o)] s14 (by show 3 ≤ 16777216; decide) fun p hp acc t hl => by
    simp only [b_law_8, ev_V0, dec_T, dec_F, ev_VS, set_0, set_S, get_0, get_S, hd_nil, hd_cons, hid_fz, hid_no, hid_ow, hid_ob, if_t, if_f, if_T, if_F, not_t, not_f, ev_C, ev_1, ev_2, ev_A, ev_nil, ev_cons, ev_T, ev_B, ev_And, ev_Or, ev_Not, ev_Yes, ev_If, ev_AndV, ev_OrV, ev_H, ev_Seq, then_nx, then_rt, then_er, ev_Nx, ev_Ret, ev_Set, ev_Ex, ev_SIf, ev_Rz1, ev_Rz0, bd_ok, bd_er, on_ok, on_er, d_tru_bl, d_add, d_sub, d_lt, d_le, d_gt, d_ge, d_neg, d_eqI, d_neI, d_lenT, d_lenL, d_one, d_int, d_tupL, d_tupT, d_itT, d_itL, d_inT, d_notInT, d_max2, d_min2, en_nx, en_rt, en_er, wipe_nil', wipe_cons', mb_ok, ev_sOwn, ev_sApp, ev_sExt, ev_sRev, ev_sIxS, ev_sAug, ev_sTup, ev_sFrz, frz_ow, frz_fz, frz_ob, frz_no, ev_mHN, only_l, only_er, ev_sFor, ev_sRetN, ev_mL, ev_mLB, ld_nil, ld_cons, ld_fz, ld_no, ld_ow, ld_ob, okF_int, okF_bl, okF_str, okF_non, okF_tup, okFs_di, ev_meth, ev_mIsN, ev_mIsNotN, isN_non, isN_int, isN_tup, isN_lst, isN_obj, isN_bl, isN_str, d_not_bl, d_en_t, d_en_l, d_zip_t, d_zip_l, d_list_l, d_list_t, d_absI, turn_nm, turn_tp2, turn_tp3, turn_tp4, tE_nm, tE_tp2, tE_tp3, ix_t0, ix_t1, ix_t2, ix_t3, ix_l0, ix_l1, ix_l2, ix_l3, d_tu0, d_tu1, d_tu2, d_tu3, d_tu4, d_ls0, d_ls1, d_ls2, d_ls3, d_ls4, then_br, then_ct, List.length_cons, List.length_nil, Nat.reduceAdd, Nat.reduceLT, Bool.false_eq_true, Bool.true_eq_false, loopL_nil, ev_mSl, pt_none, pt_some, sl_t, sl_l, cut_m1, cut_hi, cut_lo, di_take, di_drop, di_dropLast, d_all1, List.length_map, Int.natCast_zero, Int.reduceLE, Int.reduceLT, Int.reduceEq, Int.reduceToNat, Int.reduceAdd, Int.reduceSub, Int.reduceMul, Int.reduceNeg, Nat.reduceSub, Nat.reduceMul, Nat.reduceLeDiff, Nat.reduceEqDiff, d_eqTI, d_neTI, d_eqLI, d_neLI, zip_cons, zip_nil, zip_nil2, rep_di, ev_sRetO, ev_sRetF, then_rtF, en_rtF, fF_rtF, fF_er, fF_nx, ev_mLN, opt_some, opt_none, isOb_fz, isOb_ow, isOb_no, isOb_opt, hid_opt, ld_opt, List.any_cons, List.any_nil, Bool.or_false, turn_tp13, turn_tp12, ev_sExt2, sq2_l, sq2_t, hid_pw, ld_pw, isOb_pw, ev_sIxP, k7, hl, if_true]
  exact ⟨s, lp⟩
theorem turn56 (S : S56 ns h v nm n) {k : Nat} {s8 : Sl} {t : T8} (hk : k < 3) : ∃ (q : Q4) (t' : T8), FourQ n q ∧ turn (.nm 7) b_law_10 (.int (k : Nat)) [.fz (.scr ns), .fz (.lst (di h)), .fz (.int n), .fz (.int sc), .fz (.lst (di v)), .fz (num v), .fz (.lst (di nm)), t.1, s8, t.2.1, t.2.2.1, t.2.2.2.1, t.2.2.2.2.1, t.2.2.2.2.2.1, t.2.2.2.2.2.2.1, t.2.2.2.2.2.2.2, .no, .no, .no, .no, .no, .no, .no] = .nx ((fun (q : Q4) (t : T8) => [.fz (.scr ns), .fz (.lst (di h)), .fz (.int n), .fz (.int sc), .fz (.lst (di v)), .fz (num v), .fz (.lst (di nm)), t.1, .fz (qD q), t.2.1, t.2.2.1, t.2.2.2.1, t.2.2.2.2.1, t.2.2.2.2.2.1, t.2.2.2.2.2.2.1, t.2.2.2.2.2.2.2, .no, .no, .no, .no, .no, .no, .no]) q t') := by
  have h4 := S.h4
  have h8 := S.h8
  have h1 : 1 ≤ n := by omega
  have hn := S.V.len
  have xk : dIx (.lst (di h)) (.int (3 + (k : Int))) = .ok (.int (h.getD (3 + k) 0)) := by
    have := d_ixLI (l := h) (i := 3 + (k : Int)) (by omega) (by have := S.hl; omega)
    rw [show (3 + (k : Int)).toNat = 3 + k by omega] at this
    exact this
  obtain ⟨r, er, pr⟩ := e_worlds (n := n) (d := h.getD (3 + k) 0) h8
  obtain ⟨q0, tk, F0⟩ := four_of h4 pr
  obtain ⟨q, s9, F, i5⟩ := i5_56 (s9 := t.2.1) (s10 := t.2.2.1) (s11 := t.2.2.2.1) (s12 := t.2.2.2.2.1) (s13 := t.2.2.2.2.2.1) (s14 := t.2.2.2.2.2.2.1) (s15 := t.2.2.2.2.2.2.2) (k := k) (sc := sc) S F0
  have xw := d_ixLI (l := v) F.hw.1 (by have := F.hw.2; omega)
  have xb := d_ixLI (l := v) F.hb.1 (by have := F.hb.2; omega)
  have xo := d_ixLI (l := v) F.ho.1 (by have := F.ho.2; omega)
  have xe := d_ixLI (l := v) F.he.1 (by have := F.he.2; omega)
  obtain ⟨z, ez⟩ : ∃ z, z = sgn (dif v q.w q.b) (dif v q.o q.e) := ⟨_, rfl⟩
  have cm := asked_t (e_compare h1 h8 S.V F)
  have st : ∀ z : Int, g__law_same 6 [.tup [.str "told", .int z], .tup [.str "told", .int z]] = .ok (.bl true) := fun z => same_told (.int z) rfl
  -- three times as high
  have vp : 1 ≤ v.length := by omega
  have ti := e_times (a := v) (f := 3) vp (by omega) (by decide) (by decide) S.V.mn
  have V3 : Lev n (v.map fun x => x * 3) := ⟨by rw [List.length_map, hn], times_min (by decide) (ne_of_len vp) S.V.mn⟩
  have cm3 := asked_t (e_compare h1 h8 V3 F)
  rw [dif3 hn F.hw F.hb, dif3 hn F.ho F.he, sgn3] at cm3
  -- renamed
  have rn := e_renamed h1 h8 S.V S.P
  have RL := re_lev h1 S.V S.P
  obtain ⟨nl, nnd, nmem⟩ := perm_rng S.P
  have ng : ∀ x : Int, 0 ≤ x ∧ x < (n : Int) → 0 ≤ nm.getD x.toNat 0 ∧ nm.getD x.toNat 0 < (n : Int) := fun x hx => (nmem _).mp (by
    obtain ⟨y, hy⟩ := get_lt (show x.toNat < nm.length by omega)
    rw [getD_some hy]
    exact List.mem_of_getElem? hy)
  have ninj : ∀ x y : Int, 0 ≤ x ∧ x < (n : Int) → 0 ≤ y ∧ y < (n : Int) → nm.getD x.toNat 0 = nm.getD y.toNat 0 → x = y := fun x y hx hy e => by
    obtain ⟨a, ha⟩ := get_lt (show x.toNat < nm.length by omega)
    obtain ⟨b, hb⟩ := get_lt (show y.toNat < nm.length by omega)
    rw [getD_some ha, getD_some hb] at e
    subst e
    have h1 := idx_at nnd ha
    have h2 := idx_at nnd hb
    omega
  have FR : Four n (nm.getD q.w.toNat 0) (nm.getD q.b.toNat 0) (nm.getD q.o.toNat 0) (nm.getD q.e.toNat 0) := by
    have nd := F.nd
    simp only [List.nodup_cons, List.mem_cons, List.not_mem_nil, or_false, not_or, not_false_eq_true, List.nodup_nil, and_true] at nd
    obtain ⟨⟨a, b, c⟩, ⟨d, e⟩, f⟩ := nd
    refine ⟨ng _ F.hw, ng _ F.hb, ng _ F.ho, ng _ F.he, ?_⟩
    simp only [List.nodup_cons, List.mem_cons, List.not_mem_nil, or_false, not_or, not_false_eq_true, List.nodup_nil, and_true]
    exact ⟨⟨fun z => a (ninj _ _ F.hw F.hb z), fun z => b (ninj _ _ F.hw F.ho z), fun z => c (ninj _ _ F.hw F.he z)⟩, ⟨fun z => d (ninj _ _ F.hb F.ho z), fun z => e (ninj _ _ F.hb F.he z)⟩, fun z => f (ninj _ _ F.ho F.he z)⟩
  have cmR := asked_t (e_compare h1 h8 RL FR)
  have dr : ∀ x y : Int, 0 ≤ x ∧ x < (n : Int) → 0 ≤ y ∧ y < (n : Int) → dif (reF n v nm) (nm.getD x.toNat 0) (nm.getD y.toNat 0) = dif v x y := fun x y hx hy => by
    unfold dif
    rw [re_get S.P hx, re_get S.P hy]
  rw [dr _ _ F.hw F.hb, dr _ _ F.ho F.he] at cmR
  have k6 : ∀ o0 o2 o3 o4 o5 o6 o7 o8 : Option D, c_law_6 [some (.scr ns), some (.lst (di h)), some (.int n), some (.int sc), some (.lst (di v)), some (num v), some (.lst (di nm)), o0, some (qD q), o2, o3, o4, o5, o6, o7, o8, none, none, none, none, none, none, none] = .ok (.lst [.int (nm.getD q.w.toNat 0), .int (nm.getD q.b.toNat 0), .int (nm.getD q.o.toNat 0), .int (nm.getD q.e.toNat 0)]) := fun o0 o2 o3 o4 o5 o6 o7 o8 => by
    rw [c_law_6]
    refine (ev_lcM (c := D.int) [q.w, q.b, q.o, q.e] (fun x => .int (nm.getD x.toNat 0)) ?_ (by show 4 ≤ 16777216; decide) fun x hx => ?_).trans rfl
    · simp only [ev_V0, dec_T, dec_F, ev_VS, set_0, set_S, get_0, get_S, hd_nil, hd_cons, hid_fz, hid_no, hid_ow, hid_ob, if_t, if_f, if_T, if_F, not_t, not_f, ev_C, ev_1, ev_2, ev_A, ev_nil, ev_cons, ev_T, ev_B, ev_And, ev_Or, ev_Not, ev_Yes, ev_If, ev_AndV, ev_OrV, ev_H, ev_Seq, then_nx, then_rt, then_er, ev_Nx, ev_Ret, ev_Set, ev_Ex, ev_SIf, ev_Rz1, ev_Rz0, bd_ok, bd_er, on_ok, on_er, d_tru_bl, d_add, d_sub, d_lt, d_le, d_gt, d_ge, d_neg, d_eqI, d_neI, d_lenT, d_lenL, d_one, d_int, d_tupL, d_tupT, d_itT, d_itL, d_inT, d_notInT, d_max2, d_min2, en_nx, en_rt, en_er, wipe_nil', wipe_cons', mb_ok, ev_sOwn, ev_sApp, ev_sExt, ev_sRev, ev_sIxS, ev_sAug, ev_sTup, ev_sFrz, frz_ow, frz_fz, frz_ob, frz_no, ev_mHN, only_l, only_er, ev_sFor, ev_sRetN, ev_mL, ev_mLB, ld_nil, ld_cons, ld_fz, ld_no, ld_ow, ld_ob, okF_int, okF_bl, okF_str, okF_non, okF_tup, okFs_di, ev_meth, ev_mIsN, ev_mIsNotN, isN_non, isN_int, isN_tup, isN_lst, isN_obj, isN_bl, isN_str, d_not_bl, d_en_t, d_en_l, d_zip_t, d_zip_l, d_list_l, d_list_t, d_absI, turn_nm, turn_tp2, turn_tp3, turn_tp4, tE_nm, tE_tp2, tE_tp3, ix_t0, ix_t1, ix_t2, ix_t3, ix_l0, ix_l1, ix_l2, ix_l3, d_tu0, d_tu1, d_tu2, d_tu3, d_tu4, d_ls0, d_ls1, d_ls2, d_ls3, d_ls4, then_br, then_ct, List.length_cons, List.length_nil, Nat.reduceAdd, Nat.reduceLT, Bool.false_eq_true, Bool.true_eq_false, loopL_nil, ev_mSl, pt_none, pt_some, sl_t, sl_l, cut_m1, cut_hi, cut_lo, di_take, di_drop, di_dropLast, d_all1, List.length_map, Int.natCast_zero, Int.reduceLE, Int.reduceLT, Int.reduceEq, Int.reduceToNat, Int.reduceAdd, Int.reduceSub, Int.reduceMul, Int.reduceNeg, Nat.reduceSub, Nat.reduceMul, Nat.reduceLeDiff, Nat.reduceEqDiff, d_eqTI, d_neTI, d_eqLI, d_neLI, zip_cons, zip_nil, zip_nil2, rep_di, ev_sRetO, ev_sRetF, then_rtF, en_rtF, fF_rtF, fF_er, fF_nx, ev_mLN, opt_some, opt_none, isOb_fz, isOb_ow, isOb_no, isOb_opt, hid_opt, ld_opt, List.any_cons, List.any_nil, Bool.or_false, turn_tp13, turn_tp12, ev_sExt2, sq2_l, sq2_t, hid_pw, ld_pw, isOb_pw, ev_sIxP]
      rfl
    · have rg : 0 ≤ x ∧ x < (n : Int) := by
        simp only [List.mem_cons, List.not_mem_nil, or_false] at hx
        rcases hx with rfl | rfl | rfl | rfl
        · exact F.hw
        · exact F.hb
        · exact F.ho
        · exact F.he
      simp only [ev_V0, dec_T, dec_F, ev_VS, set_0, set_S, get_0, get_S, hd_nil, hd_cons, hid_fz, hid_no, hid_ow, hid_ob, if_t, if_f, if_T, if_F, not_t, not_f, ev_C, ev_1, ev_2, ev_A, ev_nil, ev_cons, ev_T, ev_B, ev_And, ev_Or, ev_Not, ev_Yes, ev_If, ev_AndV, ev_OrV, ev_H, ev_Seq, then_nx, then_rt, then_er, ev_Nx, ev_Ret, ev_Set, ev_Ex, ev_SIf, ev_Rz1, ev_Rz0, bd_ok, bd_er, on_ok, on_er, d_tru_bl, d_add, d_sub, d_lt, d_le, d_gt, d_ge, d_neg, d_eqI, d_neI, d_lenT, d_lenL, d_one, d_int, d_tupL, d_tupT, d_itT, d_itL, d_inT, d_notInT, d_max2, d_min2, en_nx, en_rt, en_er, wipe_nil', wipe_cons', mb_ok, ev_sOwn, ev_sApp, ev_sExt, ev_sRev, ev_sIxS, ev_sAug, ev_sTup, ev_sFrz, frz_ow, frz_fz, frz_ob, frz_no, ev_mHN, only_l, only_er, ev_sFor, ev_sRetN, ev_mL, ev_mLB, ld_nil, ld_cons, ld_fz, ld_no, ld_ow, ld_ob, okF_int, okF_bl, okF_str, okF_non, okF_tup, okFs_di, ev_meth, ev_mIsN, ev_mIsNotN, isN_non, isN_int, isN_tup, isN_lst, isN_obj, isN_bl, isN_str, d_not_bl, d_en_t, d_en_l, d_zip_t, d_zip_l, d_list_l, d_list_t, d_absI, turn_nm, turn_tp2, turn_tp3, turn_tp4, tE_nm, tE_tp2, tE_tp3, ix_t0, ix_t1, ix_t2, ix_t3, ix_l0, ix_l1, ix_l2, ix_l3, d_tu0, d_tu1, d_tu2, d_tu3, d_tu4, d_ls0, d_ls1, d_ls2, d_ls3, d_ls4, then_br, then_ct, List.length_cons, List.length_nil, Nat.reduceAdd, Nat.reduceLT, Bool.false_eq_true, Bool.true_eq_false, loopL_nil, ev_mSl, pt_none, pt_some, sl_t, sl_l, cut_m1, cut_hi, cut_lo, di_take, di_drop, di_dropLast, d_all1, List.length_map, Int.natCast_zero, Int.reduceLE, Int.reduceLT, Int.reduceEq, Int.reduceToNat, Int.reduceAdd, Int.reduceSub, Int.reduceMul, Int.reduceNeg, Nat.reduceSub, Nat.reduceMul, Nat.reduceLeDiff, Nat.reduceEqDiff, d_eqTI, d_neTI, d_eqLI, d_neLI, zip_cons, zip_nil, zip_nil2, rep_di, ev_sRetO, ev_sRetF, then_rtF, en_rtF, fF_rtF, fF_er, fF_nx, ev_mLN, opt_some, opt_none, isOb_fz, isOb_ow, isOb_no, isOb_opt, hid_opt, ld_opt, List.any_cons, List.any_nil, Bool.or_false, turn_tp13, turn_tp12, ev_sExt2, sq2_l, sq2_t, hid_pw, ld_pw, isOb_pw, ev_sIxP, d_ixLI (l := nm) rg.1 (by omega)]
  -- turned
  have FT : Four n q.o q.e q.w q.b := by
    have nd := F.nd
    simp only [List.nodup_cons, List.mem_cons, List.not_mem_nil, or_false, not_or, not_false_eq_true, List.nodup_nil, and_true] at nd
    obtain ⟨⟨a, b, c⟩, ⟨d, e⟩, f⟩ := nd
    refine ⟨F.ho, F.he, F.hw, F.hb, ?_⟩
    simp only [List.nodup_cons, List.mem_cons, List.not_mem_nil, or_false, not_or, not_false_eq_true, List.nodup_nil, and_true]
    exact ⟨⟨f, fun z => b z.symm, fun z => d z.symm⟩, ⟨fun z => c z.symm, fun z => e z.symm⟩, a⟩
  have cmT := asked_t (e_compare h1 h8 S.V FT)
  rw [sgn_rev] at cmT
  -- the three givings up
  obtain ⟨l3, gw, go⟩ := three_up S.V F
  have K : ∀ l ∈ lotsF n q.w q.b q.o q.e, Ok47 n l := fun l hl => by
    simp only [List.mem_cons, List.not_mem_nil, or_false] at hl
    rcases hl with rfl | rfl | rfl
    · exact cpl_ok F.hw
    · exact cpl_ok F.ho
    · exact cpl_ok F.hw
  obtain ⟨run, _⟩ := e_run S.V h1 h8 (by show 3 ≤ 20; decide) K
  obtain ⟨C, eC⟩ : ∃ C, C = (lotsF n q.w q.b q.o q.e).foldl gvF v := ⟨_, rfl⟩
  rw [← eC] at run l3 gw go
  have run : g_run_givings [num v, .lst [tu (cpl n q.w q.b), tu (cpl n q.o q.e), tu (cpl n q.w q.o)]] = .ok (num C) := run
  have bel := e_numBel (v := C) (by rw [l3]; exact h8)
  have bp : dProp [("Numbers", g_Numbers_believed)] (num C) = .ok (.tup (di (atF C 0))) := by
    show (g_Numbers_believed [num C]).sure = _
    rw [bel]
    rfl
  have inw : ∀ x : Int, 0 ≤ x ∧ x < (n : Int) → decide (x ∈ atF C 0) = decide (C.getD x.toNat 0 = 0) := fun x hx => by
    rw [decide_eq_decide, mem_at, l3]
    exact ⟨fun h => h.2, fun h => ⟨hx, h⟩⟩
  have dw : decide (q.w ∈ atF C 0) = decide (z ≤ 0) := by
    rw [inw _ F.hw, gw, ez, sgn_le, decide_eq_decide]
    omega
  have dO' : decide (q.o ∈ atF C 0) = decide (0 ≤ z) := by
    rw [inw _ F.ho, go, ez, sgn_ge, decide_eq_decide]
    omega
  have nb : ∀ b : Bool, dNe (.bl b) (.bl b) = .ok (.bl false) := fun b => d_neO (p := .bool b) (q := .bool b) (b := true) rfl rfl (by cases b <;> rfl) (by cases b <;> rfl) (by cases b <;> rfl)
  obtain ⟨s14, l9⟩ := l9_56 (sc := sc) (turn := .int (k : Nat)) (q := q) (s9 := s9) (s10 := .fz (.int (dif v q.w q.b))) (s11 := .fz (.int (dif v q.o q.e))) (s12 := .fz (.int z)) (s14 := t.2.2.2.2.2.2.1) (s15 := t.2.2.2.2.2.2.2) S
  rw [← ez] at cm cm3 cmR cmT
  refine ⟨q, (.fz (.int (k : Nat)), s9, .fz (.int (dif v q.w q.b)), .fz (.int (dif v q.o q.e)), .fz (.int z), .fz (.lst ((lotsF n q.w q.b q.o q.e).map tu)), s14, .fz (.tup (di (atF C 0)))), F, ?_⟩
  have mx : ∀ d : Int, (if d > 0 then d else 0) = mx0 d := fun d => rfl
  have tk2 : (Int.toNat 4) = 4 := rfl
  simp only [b_law_10, ev_V0, dec_T, dec_F, ev_VS, set_0, set_S, get_0, get_S, hd_nil, hd_cons, hid_fz, hid_no, hid_ow, hid_ob, if_t, if_f, if_T, if_F, not_t, not_f, ev_C, ev_1, ev_2, ev_A, ev_nil, ev_cons, ev_T, ev_B, ev_And, ev_Or, ev_Not, ev_Yes, ev_If, ev_AndV, ev_OrV, ev_H, ev_Seq, then_nx, then_rt, then_er, ev_Nx, ev_Ret, ev_Set, ev_Ex, ev_SIf, ev_Rz1, ev_Rz0, bd_ok, bd_er, on_ok, on_er, d_tru_bl, d_add, d_sub, d_lt, d_le, d_gt, d_ge, d_neg, d_eqI, d_neI, d_lenT, d_lenL, d_one, d_int, d_tupL, d_tupT, d_itT, d_itL, d_inT, d_notInT, d_max2, d_min2, en_nx, en_rt, en_er, wipe_nil', wipe_cons', mb_ok, ev_sOwn, ev_sApp, ev_sExt, ev_sRev, ev_sIxS, ev_sAug, ev_sTup, ev_sFrz, frz_ow, frz_fz, frz_ob, frz_no, ev_mHN, only_l, only_er, ev_sFor, ev_sRetN, ev_mL, ev_mLB, ld_nil, ld_cons, ld_fz, ld_no, ld_ow, ld_ob, okF_int, okF_bl, okF_str, okF_non, okF_tup, okFs_di, ev_meth, ev_mIsN, ev_mIsNotN, isN_non, isN_int, isN_tup, isN_lst, isN_obj, isN_bl, isN_str, d_not_bl, d_en_t, d_en_l, d_zip_t, d_zip_l, d_list_l, d_list_t, d_absI, turn_nm, turn_tp2, turn_tp3, turn_tp4, tE_nm, tE_tp2, tE_tp3, ix_t0, ix_t1, ix_t2, ix_t3, ix_l0, ix_l1, ix_l2, ix_l3, d_tu0, d_tu1, d_tu2, d_tu3, d_tu4, d_ls0, d_ls1, d_ls2, d_ls3, d_ls4, then_br, then_ct, List.length_cons, List.length_nil, Nat.reduceAdd, Nat.reduceLT, Bool.false_eq_true, Bool.true_eq_false, loopL_nil, ev_mSl, pt_none, pt_some, sl_t, sl_l, cut_m1, cut_hi, cut_lo, di_take, di_drop, di_dropLast, d_all1, List.length_map, Int.natCast_zero, Int.reduceLE, Int.reduceLT, Int.reduceEq, Int.reduceToNat, Int.reduceAdd, Int.reduceSub, Int.reduceMul, Int.reduceNeg, Nat.reduceSub, Nat.reduceMul, Nat.reduceLeDiff, Nat.reduceEqDiff, d_eqTI, d_neTI, d_eqLI, d_neLI, zip_cons, zip_nil, zip_nil2, rep_di, ev_sRetO, ev_sRetF, then_rtF, en_rtF, fF_rtF, fF_er, fF_nx, ev_mLN, opt_some, opt_none, isOb_fz, isOb_ow, isOb_no, isOb_opt, hid_opt, ld_opt, List.any_cons, List.any_nil, Bool.or_false, turn_tp13, turn_tp12, ev_sExt2, sq2_l, sq2_t, hid_pw, ld_pw, isOb_pw, ev_sIxP, xk, er, tk, List.map_cons, List.map_nil, i5, xw, xb, xo, xe, mx, e_law_sign, ← ez, cm, st, show dPick "times" [("Numbers", g_Numbers_times)] (num v) = some g_Numbers_times from rfl, ti, cm3, show dPick "renamed" [("Numbers", g_Numbers_renamed)] (num v) = some g_Numbers_renamed from rfl, rn, k6, cmR, cmT, l9, run, bp, dw, dO', nb, ge_iff_le]
end

end T

end
section
set_option Elab.async false
set_option linter.all false
set_option maxRecDepth 100000
set_option maxHeartbeats 1000000
namespace T
open PySem PySem.Spec L2 DL
open PyProof.Rows hiding St
section
variable {ns h v nm : List Int} {n : Nat} {sc : Int}
def qS : Option Q4 → Sl
  | none => .no
  | some q => .fz (qD q)
theorem l11_56 (S : S56 ns h v nm n) : ∃ (q : Q4) (t : T8), FourQ n q ∧ l_law_11 [.fz (.scr ns), .fz (.lst (di h)), .fz (.int n), .fz (.int sc), .fz (.lst (di v)), .fz (num v), .fz (.lst (di nm)), .no, .no, .no, .no, .no, .no, .no, .no, .no, .no, .no, .no, .no, .no, .no, .no] = .nx [.fz (.scr ns), .fz (.lst (di h)), .fz (.int n), .fz (.int sc), .fz (.lst (di v)), .fz (num v), .fz (.lst (di nm)), t.1, .fz (qD q), t.2.1, t.2.2.1, t.2.2.2.1, t.2.2.2.2.1, t.2.2.2.2.2.1, t.2.2.2.2.2.2.1, t.2.2.2.2.2.2.2, .no, .no, .no, .no, .no, .no, .no] := by
  have z := loop_ix (T := .nm 7) (body := b_law_10) (c := D.int) (E := fun (a : Option Q4) (t : T8) => [.fz (.scr ns), .fz (.lst (di h)), .fz (.int n), .fz (.int sc), .fz (.lst (di v)), .fz (num v), .fz (.lst (di nm)), t.1, qS a, t.2.1, t.2.2.1, t.2.2.2.1, t.2.2.2.2.1, t.2.2.2.2.2.1, t.2.2.2.2.2.2.1, t.2.2.2.2.2.2.2, .no, .no, .no, .no, .no, .no, .no]) (P := fun i a => (i = 0 ∧ a = none) ∨ ∃ q, a = some q ∧ FourQ n q) (rng 3) 0 none (.no, .no, .no, .no, .no, .no, .no, .no) (.inl ⟨rfl, rfl⟩) ?stp
  · obtain ⟨a, t, e, p⟩ := z
    rw [len_rng] at p
    rcases p with ⟨p, _⟩ | ⟨q, rfl, F⟩
    · omega
    · refine ⟨q, t, F, ?_⟩
      have e : loopL (.nm 7) b_law_10 (di (rng 3)) [.fz (.scr ns), .fz (.lst (di h)), .fz (.int n), .fz (.int sc), .fz (.lst (di v)), .fz (num v), .fz (.lst (di nm)), .no, .no, .no, .no, .no, .no, .no, .no, .no, .no, .no, .no, .no, .no, .no, .no] = .nx [.fz (.scr ns), .fz (.lst (di h)), .fz (.int n), .fz (.int sc), .fz (.lst (di v)), .fz (num v), .fz (.lst (di nm)), t.1, .fz (qD q), t.2.1, t.2.2.1, t.2.2.2.1, t.2.2.2.2.1, t.2.2.2.2.2.1, t.2.2.2.2.2.2.1, t.2.2.2.2.2.2.2, .no, .no, .no, .no, .no, .no, .no] := e
      rw [← e]
      simp only [l_law_11, ev_V0, dec_T, dec_F, ev_VS, set_0, set_S, get_0, get_S, hd_nil, hd_cons, hid_fz, hid_no, hid_ow, hid_ob, if_t, if_f, if_T, if_F, not_t, not_f, ev_C, ev_1, ev_2, ev_A, ev_nil, ev_cons, ev_T, ev_B, ev_And, ev_Or, ev_Not, ev_Yes, ev_If, ev_AndV, ev_OrV, ev_H, ev_Seq, then_nx, then_rt, then_er, ev_Nx, ev_Ret, ev_Set, ev_Ex, ev_SIf, ev_Rz1, ev_Rz0, bd_ok, bd_er, on_ok, on_er, d_tru_bl, d_add, d_sub, d_lt, d_le, d_gt, d_ge, d_neg, d_eqI, d_neI, d_lenT, d_lenL, d_one, d_int, d_tupL, d_tupT, d_itT, d_itL, d_inT, d_notInT, d_max2, d_min2, en_nx, en_rt, en_er, wipe_nil', wipe_cons', mb_ok, ev_sOwn, ev_sApp, ev_sExt, ev_sRev, ev_sIxS, ev_sAug, ev_sTup, ev_sFrz, frz_ow, frz_fz, frz_ob, frz_no, ev_mHN, only_l, only_er, ev_sFor, ev_sRetN, ev_mL, ev_mLB, ld_nil, ld_cons, ld_fz, ld_no, ld_ow, ld_ob, okF_int, okF_bl, okF_str, okF_non, okF_tup, okFs_di, ev_meth, ev_mIsN, ev_mIsNotN, isN_non, isN_int, isN_tup, isN_lst, isN_obj, isN_bl, isN_str, d_not_bl, d_en_t, d_en_l, d_zip_t, d_zip_l, d_list_l, d_list_t, d_absI, turn_nm, turn_tp2, turn_tp3, turn_tp4, tE_nm, tE_tp2, tE_tp3, ix_t0, ix_t1, ix_t2, ix_t3, ix_l0, ix_l1, ix_l2, ix_l3, d_tu0, d_tu1, d_tu2, d_tu3, d_tu4, d_ls0, d_ls1, d_ls2, d_ls3, d_ls4, then_br, then_ct, List.length_cons, List.length_nil, Nat.reduceAdd, Nat.reduceLT, Bool.false_eq_true, Bool.true_eq_false, loopL_nil, ev_mSl, pt_none, pt_some, sl_t, sl_l, cut_m1, cut_hi, cut_lo, di_take, di_drop, di_dropLast, d_all1, List.length_map, Int.natCast_zero, Int.reduceLE, Int.reduceLT, Int.reduceEq, Int.reduceToNat, Int.reduceAdd, Int.reduceSub, Int.reduceMul, Int.reduceNeg, Nat.reduceSub, Nat.reduceMul, Nat.reduceLeDiff, Nat.reduceEqDiff, d_eqTI, d_neTI, d_eqLI, d_neLI, zip_cons, zip_nil, zip_nil2, rep_di, ev_sRetO, ev_sRetF, then_rtF, en_rtF, fF_rtF, fF_er, fF_nx, ev_mLN, opt_some, opt_none, isOb_fz, isOb_ow, isOb_no, isOb_opt, hid_opt, ld_opt, List.any_cons, List.any_nil, Bool.or_false, turn_tp13, turn_tp12, ev_sExt2, sq2_l, sq2_t, hid_pw, ld_pw, isOb_pw, ev_sIxP, d_rng 3 (by decide), show (3 : Int) = ((3 : Nat) : Int) from rfl]
  case stp =>
    intro i x a t hx hp
    have hi : i < 3 := by have := lt_of_get hx; rw [len_rng] at this; exact this
    rw [rng_get hi] at hx
    cases hx
    obtain ⟨q, t', F, e⟩ := turn56 (sc := sc) (s8 := qS a) (t := t) S hi
    exact ⟨some q, t', .inr ⟨q, rfl, F⟩, .inl e⟩
theorem four_ex {l : List Int} (h : l.length = 4) : ∃ a b c d, l = [a, b, c, d] := by
  match l, h with
  | [a, b, c, d], _ => exact ⟨a, b, c, d, rfl⟩
theorem badW_no {n : Nat} {x : Int} (h : 0 ≤ x ∧ x < (n : Int)) : badW n x = false := by
  unfold badW
  rw [decide_eq_false (by omega), decide_eq_false (by omega)] <;> rfl
theorem badW_far {n : Nat} {x : Int} (h : (n : Int) ≤ x) : badW n x = true := by
  unfold badW
  rw [decide_eq_true h, Bool.or_true]
theorem set_far {n j : Nat} {q : Q4} {x : Int} (F : FourQ n q) (hx : (n : Int) ≤ x) (hj : j < 4) : ([q.w, q.b, q.o, q.e].take j ++ [x] ++ [q.w, q.b, q.o, q.e].drop (j + 1)).find? (badW n) = some x ∧ ([q.w, q.b, q.o, q.e].take j ++ [x] ++ [q.w, q.b, q.o, q.e].drop (j + 1)).length = 4 := by
  have a := badW_no F.hw
  have b := badW_no F.hb
  have c := badW_no F.ho
  have d := badW_no F.he
  have f := badW_far hx
  match j, hj with
  | 0, _ => exact ⟨by simp [List.find?_cons, a, b, c, d, f], rfl⟩
  | 1, _ => exact ⟨by simp [List.find?_cons, a, b, c, d, f], rfl⟩
  | 2, _ => exact ⟨by simp [List.find?_cons, a, b, c, d, f], rfl⟩
  | 3, _ => exact ⟨by simp [List.find?_cons, a, b, c, d, f], rfl⟩
theorem dup_set {j i : Nat} {l : List Int} (hl : l.length = 4) (hj : j < 4) (hi : i < 4) (ne : i ≠ j) : ¬ (l.set j (l.getD i 0)).Nodup := fun nd => by
  have g1 : (l.set j (l.getD i 0))[j]? = some (l.getD i 0) := List.getElem?_set_self (by omega)
  have g2 : (l.set j (l.getD i 0))[i]? = some (l.getD i 0) := by
    rw [List.getElem?_set_ne (fun z => ne z.symm)]
    obtain ⟨x, hx⟩ := get_lt (show i < l.length by omega)
    rw [getD_some hx, hx]
  have := (idx_at nd g1).symm.trans (idx_at nd g2)
  exact ne this.symm
theorem law_core (S : S56 ns h v nm n) (e0 : g__law_row [.scr ns, .int 0, .int 12] = .ok (.lst (di h))) (hn : 4 + h.getD 0 0 % 5 = (n : Int)) (hs : dIx (.lst [.int 1, .int 1, .int 1, .int 1000000007]) (.int (h.getD 1 0 % 4)) = .ok (.int sc))
    (c1 : c_law_1 [some (.scr ns), some (.lst (di h)), some (.int n), some (.int sc), none, none, none, none, none, none, none, none, none, none, none, none, none, none, none, none, none, none, none] = .ok (.lst (di v))) (en : g__law_worlds [.int n, .int (h.getD 2 0)] = .ok (.lst (di nm))) : g_law [.scr ns] = .ok (.bl true) := by
  have hl := S.hl
  have h8 := S.h8
  have h1 : 1 ≤ n := by have := S.h4; omega
  have hv := S.V.len
  have x0 : dIx (.lst (di h)) (.int 0) = .ok (.int (h.getD 0 0)) := d_ixLI (i := 0) (by decide) (by omega)
  have x1 : dIx (.lst (di h)) (.int 1) = .ok (.int (h.getD 1 0)) := d_ixLI (i := 1) (by decide) (by omega)
  have x2 : dIx (.lst (di h)) (.int 2) = .ok (.int (h.getD 2 0)) := d_ixLI (i := 2) (by decide) (by omega)
  have x7 : dIx (.lst (di h)) (.int 7) = .ok (.int (h.getD 7 0)) := d_ixLI (i := 7) (by decide) (by omega)
  have x8 : dIx (.lst (di h)) (.int 8) = .ok (.int (h.getD 8 0)) := d_ixLI (i := 8) (by decide) (by omega)
  have x9 : dIx (.lst (di h)) (.int 9) = .ok (.int (h.getD 9 0)) := d_ixLI (i := 9) (by decide) (by omega)
  have x10 : dIx (.lst (di h)) (.int 10) = .ok (.int (h.getD 10 0)) := d_ixLI (i := 10) (by decide) (by omega)
  have m5 : ∀ x : Int, dMod (.int x) (.int 5) = .ok (.int (x % 5)) := fun x => d_mod (by decide)
  have m4 : ∀ x : Int, dMod (.int x) (.int 4) = .ok (.int (x % 4)) := fun x => d_mod (by decide)
  have m3 : ∀ x : Int, dMod (.int x) (.int 3) = .ok (.int (x % 3)) := fun x => d_mod (by decide)
  have mk := e_init (lv := v) (by omega) (by omega) S.V.mn
  obtain ⟨q, t, F, l11⟩ := l11_56 (sc := sc) S
  obtain ⟨l4, el4⟩ : ∃ l4, l4 = [q.w, q.b, q.o, q.e] := ⟨_, rfl⟩
  have ql : qD q = .lst (di l4) := by rw [el4]; rfl
  have len4 : l4.length = 4 := by rw [el4]; rfl
  obtain ⟨far, ef⟩ : ∃ far, far = (n : Int) + h.getD 7 0 % 3 := ⟨_, rfl⟩
  obtain ⟨j, ej⟩ : ∃ j : Nat, h.getD 8 0 % 4 = (j : Int) := ⟨(h.getD 8 0 % 4).toNat, by omega⟩
  have hj : j < 4 := by omega
  -- far
  obtain ⟨b1, eb1⟩ : ∃ b1, b1 = l4.take j ++ [far] ++ l4.drop (j + 1) := ⟨_, rfl⟩
  have sf := set_far (x := far) F (by omega) hj
  rw [← el4, ← eb1] at sf
  obtain ⟨a, b, c, d, e1⟩ := four_ex sf.2
  have f1 := sf.1
  rw [e1, ← hv] at f1
  have q1 := asked_bad f1
  have d1 : di b1 = [.int a, .int b, .int c, .int d] := by rw [e1]; rfl
  have s1 := same_ref (s := "BadWorld") (.int far) (by first | rfl | decide +kernel) rfl
  have ad : dAdd (.lst (di (l4.take j))) (.lst [.int far]) = .ok (.lst (di (l4.take j ++ [far]))) := by
    rw [add_ll (by rw [List.length_map, List.length_take]; show min j l4.length + 1 ≤ 16777216; omega), ← di_append]
    rfl
  have ad2 : dAdd (.lst (di (l4.take j ++ [far]))) (.lst (di (l4.drop (j + 1)))) = .ok (.lst (di b1)) := by
    rw [add_ll (by rw [List.length_map, List.length_map, List.length_append, List.length_take, List.length_drop]; show min j l4.length + 1 + (l4.length - (j + 1)) ≤ 16777216; omega), di_append, eb1]
  have ct1 : cutD (di l4) none (some (j : Int)) = di (l4.take j) := by
    rw [cut_hi (by omega), di_take]
    rfl
  have ct2 : cutD (di l4) (some ((j : Int) + 1)) none = di (l4.drop (j + 1)) := by
    rw [cut_lo (by omega), di_drop]
    rfl
  -- two of them
  obtain ⟨j2, ej2⟩ : ∃ j2 : Nat, ((j : Int) + 1) % 4 = (j2 : Int) := ⟨(((j : Int) + 1) % 4).toNat, by omega⟩
  have hj2 : j2 < 4 := by omega
  obtain ⟨ng, eng⟩ : ∃ ng, ng = -1 - h.getD 9 0 % 3 := ⟨_, rfl⟩
  obtain ⟨b2, eb2⟩ : ∃ b2, b2 = b1.set j2 ng := ⟨_, rfl⟩
  have lb2 : b2.length = 4 := by rw [eb2, List.length_set]; exact sf.2
  obtain ⟨x, hx⟩ : ∃ x, b2.find? (badW n) = some x := by
    cases hc : b2.find? (badW n) with
    | some x => exact ⟨x, rfl⟩
    | none =>
      exfalso
      have := List.find?_eq_none.mp hc ng (by
        refine List.mem_of_getElem? (i := j2) ?_
        rw [eb2, List.getElem?_set_self (by rw [sf.2]; exact hj2)])
      apply this
      unfold badW
      rw [decide_eq_true (show ng < 0 by omega)]
      rfl
  obtain ⟨a', b', c', d', e2⟩ := four_ex lb2
  have f2 := hx
  rw [e2, ← hv] at f2
  have q2 := asked_bad f2
  have d2 : di b2 = [.int a', .int b', .int c', .int d'] := by rw [e2]; rfl
  have s2 := same_ref (s := "BadWorld") (.int x) (by first | rfl | decide +kernel) rfl
  have ixn2 : ixN 4 ((j2 : Nat) : Int) = some j2 := ixN_nat hj2
  have st2 : [D.int a, .int b, .int c, .int d].set j2 (.int ng) = [.int a', .int b', .int c', .int d'] := by
    rw [← d1, ← d2, eb2, di_set]
  have c12 : ∀ o0 o1 o2 o3 o4 o5 o6 o7 o8 o17 : Option D, c_law_12 [some (.scr ns), some (.lst (di h)), some (.int n), some (.int sc), some (.lst (di v)), some (num v), some (.lst (di nm)), o0, o1, o2, o3, o4, o5, o6, o7, o8, some (.int far), o17, some (.lst [.int a', .int b', .int c', .int d']), none, none, none, none] = .ok (.lst (di (b2.filter (badW n)))) := fun o0 o1 o2 o3 o4 o5 o6 o7 o8 o17 => by
    rw [c_law_12, ← d2]
    refine ev_lcT (c := D.int) b2 (badW n) D.int ?_ (by omega) (fun z hz => ?_) fun z hz _ => ?_
    · simp only [ev_V0, dec_T, dec_F, ev_VS, set_0, set_S, get_0, get_S, hd_nil, hd_cons, hid_fz, hid_no, hid_ow, hid_ob, if_t, if_f, if_T, if_F, not_t, not_f, ev_C, ev_1, ev_2, ev_A, ev_nil, ev_cons, ev_T, ev_B, ev_And, ev_Or, ev_Not, ev_Yes, ev_If, ev_AndV, ev_OrV, ev_H, ev_Seq, then_nx, then_rt, then_er, ev_Nx, ev_Ret, ev_Set, ev_Ex, ev_SIf, ev_Rz1, ev_Rz0, bd_ok, bd_er, on_ok, on_er, d_tru_bl, d_add, d_sub, d_lt, d_le, d_gt, d_ge, d_neg, d_eqI, d_neI, d_lenT, d_lenL, d_one, d_int, d_tupL, d_tupT, d_itT, d_itL, d_inT, d_notInT, d_max2, d_min2, en_nx, en_rt, en_er, wipe_nil', wipe_cons', mb_ok, ev_sOwn, ev_sApp, ev_sExt, ev_sRev, ev_sIxS, ev_sAug, ev_sTup, ev_sFrz, frz_ow, frz_fz, frz_ob, frz_no, ev_mHN, only_l, only_er, ev_sFor, ev_sRetN, ev_mL, ev_mLB, ld_nil, ld_cons, ld_fz, ld_no, ld_ow, ld_ob, okF_int, okF_bl, okF_str, okF_non, okF_tup, okFs_di, ev_meth, ev_mIsN, ev_mIsNotN, isN_non, isN_int, isN_tup, isN_lst, isN_obj, isN_bl, isN_str, d_not_bl, d_en_t, d_en_l, d_zip_t, d_zip_l, d_list_l, d_list_t, d_absI, turn_nm, turn_tp2, turn_tp3, turn_tp4, tE_nm, tE_tp2, tE_tp3, ix_t0, ix_t1, ix_t2, ix_t3, ix_l0, ix_l1, ix_l2, ix_l3, d_tu0, d_tu1, d_tu2, d_tu3, d_tu4, d_ls0, d_ls1, d_ls2, d_ls3, d_ls4, then_br, then_ct, List.length_cons, List.length_nil, Nat.reduceAdd, Nat.reduceLT, Bool.false_eq_true, Bool.true_eq_false, loopL_nil, ev_mSl, pt_none, pt_some, sl_t, sl_l, cut_m1, cut_hi, cut_lo, di_take, di_drop, di_dropLast, d_all1, List.length_map, Int.natCast_zero, Int.reduceLE, Int.reduceLT, Int.reduceEq, Int.reduceToNat, Int.reduceAdd, Int.reduceSub, Int.reduceMul, Int.reduceNeg, Nat.reduceSub, Nat.reduceMul, Nat.reduceLeDiff, Nat.reduceEqDiff, d_eqTI, d_neTI, d_eqLI, d_neLI, zip_cons, zip_nil, zip_nil2, rep_di, ev_sRetO, ev_sRetF, then_rtF, en_rtF, fF_rtF, fF_er, fF_nx, ev_mLN, opt_some, opt_none, isOb_fz, isOb_ow, isOb_no, isOb_opt, hid_opt, ld_opt, List.any_cons, List.any_nil, Bool.or_false, turn_tp13, turn_tp12, ev_sExt2, sq2_l, sq2_t, hid_pw, ld_pw, isOb_pw, ev_sIxP]
    · unfold badW
      by_cases c1 : z < 0
      · simp only [ev_V0, dec_T, dec_F, ev_VS, set_0, set_S, get_0, get_S, hd_nil, hd_cons, hid_fz, hid_no, hid_ow, hid_ob, if_t, if_f, if_T, if_F, not_t, not_f, ev_C, ev_1, ev_2, ev_A, ev_nil, ev_cons, ev_T, ev_B, ev_And, ev_Or, ev_Not, ev_Yes, ev_If, ev_AndV, ev_OrV, ev_H, ev_Seq, then_nx, then_rt, then_er, ev_Nx, ev_Ret, ev_Set, ev_Ex, ev_SIf, ev_Rz1, ev_Rz0, bd_ok, bd_er, on_ok, on_er, d_tru_bl, d_add, d_sub, d_lt, d_le, d_gt, d_ge, d_neg, d_eqI, d_neI, d_lenT, d_lenL, d_one, d_int, d_tupL, d_tupT, d_itT, d_itL, d_inT, d_notInT, d_max2, d_min2, en_nx, en_rt, en_er, wipe_nil', wipe_cons', mb_ok, ev_sOwn, ev_sApp, ev_sExt, ev_sRev, ev_sIxS, ev_sAug, ev_sTup, ev_sFrz, frz_ow, frz_fz, frz_ob, frz_no, ev_mHN, only_l, only_er, ev_sFor, ev_sRetN, ev_mL, ev_mLB, ld_nil, ld_cons, ld_fz, ld_no, ld_ow, ld_ob, okF_int, okF_bl, okF_str, okF_non, okF_tup, okFs_di, ev_meth, ev_mIsN, ev_mIsNotN, isN_non, isN_int, isN_tup, isN_lst, isN_obj, isN_bl, isN_str, d_not_bl, d_en_t, d_en_l, d_zip_t, d_zip_l, d_list_l, d_list_t, d_absI, turn_nm, turn_tp2, turn_tp3, turn_tp4, tE_nm, tE_tp2, tE_tp3, ix_t0, ix_t1, ix_t2, ix_t3, ix_l0, ix_l1, ix_l2, ix_l3, d_tu0, d_tu1, d_tu2, d_tu3, d_tu4, d_ls0, d_ls1, d_ls2, d_ls3, d_ls4, then_br, then_ct, List.length_cons, List.length_nil, Nat.reduceAdd, Nat.reduceLT, Bool.false_eq_true, Bool.true_eq_false, loopL_nil, ev_mSl, pt_none, pt_some, sl_t, sl_l, cut_m1, cut_hi, cut_lo, di_take, di_drop, di_dropLast, d_all1, List.length_map, Int.natCast_zero, Int.reduceLE, Int.reduceLT, Int.reduceEq, Int.reduceToNat, Int.reduceAdd, Int.reduceSub, Int.reduceMul, Int.reduceNeg, Nat.reduceSub, Nat.reduceMul, Nat.reduceLeDiff, Nat.reduceEqDiff, d_eqTI, d_neTI, d_eqLI, d_neLI, zip_cons, zip_nil, zip_nil2, rep_di, ev_sRetO, ev_sRetF, then_rtF, en_rtF, fF_rtF, fF_er, fF_nx, ev_mLN, opt_some, opt_none, isOb_fz, isOb_ow, isOb_no, isOb_opt, hid_opt, ld_opt, List.any_cons, List.any_nil, Bool.or_false, turn_tp13, turn_tp12, ev_sExt2, sq2_l, sq2_t, hid_pw, ld_pw, isOb_pw, ev_sIxP, c1, decide_true, Bool.true_or]
      · simp only [ev_V0, dec_T, dec_F, ev_VS, set_0, set_S, get_0, get_S, hd_nil, hd_cons, hid_fz, hid_no, hid_ow, hid_ob, if_t, if_f, if_T, if_F, not_t, not_f, ev_C, ev_1, ev_2, ev_A, ev_nil, ev_cons, ev_T, ev_B, ev_And, ev_Or, ev_Not, ev_Yes, ev_If, ev_AndV, ev_OrV, ev_H, ev_Seq, then_nx, then_rt, then_er, ev_Nx, ev_Ret, ev_Set, ev_Ex, ev_SIf, ev_Rz1, ev_Rz0, bd_ok, bd_er, on_ok, on_er, d_tru_bl, d_add, d_sub, d_lt, d_le, d_gt, d_ge, d_neg, d_eqI, d_neI, d_lenT, d_lenL, d_one, d_int, d_tupL, d_tupT, d_itT, d_itL, d_inT, d_notInT, d_max2, d_min2, en_nx, en_rt, en_er, wipe_nil', wipe_cons', mb_ok, ev_sOwn, ev_sApp, ev_sExt, ev_sRev, ev_sIxS, ev_sAug, ev_sTup, ev_sFrz, frz_ow, frz_fz, frz_ob, frz_no, ev_mHN, only_l, only_er, ev_sFor, ev_sRetN, ev_mL, ev_mLB, ld_nil, ld_cons, ld_fz, ld_no, ld_ow, ld_ob, okF_int, okF_bl, okF_str, okF_non, okF_tup, okFs_di, ev_meth, ev_mIsN, ev_mIsNotN, isN_non, isN_int, isN_tup, isN_lst, isN_obj, isN_bl, isN_str, d_not_bl, d_en_t, d_en_l, d_zip_t, d_zip_l, d_list_l, d_list_t, d_absI, turn_nm, turn_tp2, turn_tp3, turn_tp4, tE_nm, tE_tp2, tE_tp3, ix_t0, ix_t1, ix_t2, ix_t3, ix_l0, ix_l1, ix_l2, ix_l3, d_tu0, d_tu1, d_tu2, d_tu3, d_tu4, d_ls0, d_ls1, d_ls2, d_ls3, d_ls4, then_br, then_ct, List.length_cons, List.length_nil, Nat.reduceAdd, Nat.reduceLT, Bool.false_eq_true, Bool.true_eq_false, loopL_nil, ev_mSl, pt_none, pt_some, sl_t, sl_l, cut_m1, cut_hi, cut_lo, di_take, di_drop, di_dropLast, d_all1, List.length_map, Int.natCast_zero, Int.reduceLE, Int.reduceLT, Int.reduceEq, Int.reduceToNat, Int.reduceAdd, Int.reduceSub, Int.reduceMul, Int.reduceNeg, Nat.reduceSub, Nat.reduceMul, Nat.reduceLeDiff, Nat.reduceEqDiff, d_eqTI, d_neTI, d_eqLI, d_neLI, zip_cons, zip_nil, zip_nil2, rep_di, ev_sRetO, ev_sRetF, then_rtF, en_rtF, fF_rtF, fF_er, fF_nx, ev_mLN, opt_some, opt_none, isOb_fz, isOb_ow, isOb_no, isOb_opt, hid_opt, ld_opt, List.any_cons, List.any_nil, Bool.or_false, turn_tp13, turn_tp12, ev_sExt2, sq2_l, sq2_t, hid_pw, ld_pw, isOb_pw, ev_sIxP, c1, decide_false, Bool.false_or, ge_iff_le]
    · simp only [ev_V0, dec_T, dec_F, ev_VS, set_0, set_S, get_0, get_S, hd_nil, hd_cons, hid_fz, hid_no, hid_ow, hid_ob, if_t, if_f, if_T, if_F, not_t, not_f, ev_C, ev_1, ev_2, ev_A, ev_nil, ev_cons, ev_T, ev_B, ev_And, ev_Or, ev_Not, ev_Yes, ev_If, ev_AndV, ev_OrV, ev_H, ev_Seq, then_nx, then_rt, then_er, ev_Nx, ev_Ret, ev_Set, ev_Ex, ev_SIf, ev_Rz1, ev_Rz0, bd_ok, bd_er, on_ok, on_er, d_tru_bl, d_add, d_sub, d_lt, d_le, d_gt, d_ge, d_neg, d_eqI, d_neI, d_lenT, d_lenL, d_one, d_int, d_tupL, d_tupT, d_itT, d_itL, d_inT, d_notInT, d_max2, d_min2, en_nx, en_rt, en_er, wipe_nil', wipe_cons', mb_ok, ev_sOwn, ev_sApp, ev_sExt, ev_sRev, ev_sIxS, ev_sAug, ev_sTup, ev_sFrz, frz_ow, frz_fz, frz_ob, frz_no, ev_mHN, only_l, only_er, ev_sFor, ev_sRetN, ev_mL, ev_mLB, ld_nil, ld_cons, ld_fz, ld_no, ld_ow, ld_ob, okF_int, okF_bl, okF_str, okF_non, okF_tup, okFs_di, ev_meth, ev_mIsN, ev_mIsNotN, isN_non, isN_int, isN_tup, isN_lst, isN_obj, isN_bl, isN_str, d_not_bl, d_en_t, d_en_l, d_zip_t, d_zip_l, d_list_l, d_list_t, d_absI, turn_nm, turn_tp2, turn_tp3, turn_tp4, tE_nm, tE_tp2, tE_tp3, ix_t0, ix_t1, ix_t2, ix_t3, ix_l0, ix_l1, ix_l2, ix_l3, d_tu0, d_tu1, d_tu2, d_tu3, d_tu4, d_ls0, d_ls1, d_ls2, d_ls3, d_ls4, then_br, then_ct, List.length_cons, List.length_nil, Nat.reduceAdd, Nat.reduceLT, Bool.false_eq_true, Bool.true_eq_false, loopL_nil, ev_mSl, pt_none, pt_some, sl_t, sl_l, cut_m1, cut_hi, cut_lo, di_take, di_drop, di_dropLast, d_all1, List.length_map, Int.natCast_zero, Int.reduceLE, Int.reduceLT, Int.reduceEq, Int.reduceToNat, Int.reduceAdd, Int.reduceSub, Int.reduceMul, Int.reduceNeg, Nat.reduceSub, Nat.reduceMul, Nat.reduceLeDiff, Nat.reduceEqDiff, d_eqTI, d_neTI, d_eqLI, d_neLI, zip_cons, zip_nil, zip_nil2, rep_di, ev_sRetO, ev_sRetF, then_rtF, en_rtF, fF_rtF, fF_er, fF_nx, ev_mLN, opt_some, opt_none, isOb_fz, isOb_ow, isOb_no, isOb_opt, hid_opt, ld_opt, List.any_cons, List.any_nil, Bool.or_false, turn_tp13, turn_tp12, ev_sExt2, sq2_l, sq2_t, hid_pw, ld_pw, isOb_pw, ev_sIxP]
  have ix12 : dIx (.lst (di (b2.filter (badW n)))) (.int 0) = .ok (.int x) := by
    refine d_ixL (i := 0) ?_
    rw [List.getElem?_map]
    have : (b2.filter (badW n))[0]? = some x := by
      rw [← List.head?_eq_getElem?, List.head?_filter, hx]
    rw [this]
    rfl
  -- one twice
  obtain ⟨i, ei⟩ : ∃ i : Nat, ((j : Int) + 1 + h.getD 10 0 % 3) % 4 = (i : Int) := ⟨(((j : Int) + 1 + h.getD 10 0 % 3) % 4).toNat, by omega⟩
  have hi : i < 4 := by omega
  have nij : i ≠ j := by omega
  have ixi : dIx (.lst (di l4)) (.int (i : Nat)) = .ok (.int (l4.getD i 0)) := by
    have := d_ixLI (l := l4) (i := (i : Nat)) (by omega) (by omega)
    rw [show ((i : Nat) : Int).toNat = i by omega] at this
    exact this
  have nd := dup_set (i := i) len4 hj hi nij
  have l3 : (l4.set j (l4.getD i 0)).length = 4 := by rw [List.length_set]; exact len4
  obtain ⟨a3, b3, c3, d3, e3⟩ := four_ex l3
  have f3 : [a3, b3, c3, d3].find? (badW v.length) = none := by
    rw [← e3, hv]
    refine List.find?_eq_none.mpr fun z hz => ?_
    have rg : ∀ y ∈ l4, badW n y = false := fun y hy => by
      rw [el4] at hy
      simp only [List.mem_cons, List.not_mem_nil, or_false] at hy
      rcases hy with rfl | rfl | rfl | rfl
      · exact badW_no F.hw
      · exact badW_no F.hb
      · exact badW_no F.ho
      · exact badW_no F.he
    have : badW n z = false := by
      rcases List.mem_or_eq_of_mem_set hz with w | w
      · exact rg z w
      · obtain ⟨y, hy⟩ := get_lt (show i < l4.length by omega)
        rw [w, getD_some hy]
        exact rg y (List.mem_of_getElem? hy)
    rw [this]
    decide
  rw [e3] at nd
  have q3 := asked_dup f3 nd
  have s3 := same_ref (s := "BadNames") (.tup [.int a3, .int b3, .int c3, .int d3]) (by first | rfl | decide +kernel) (sg_ti 3 (l := [a3, b3, c3, d3]) (by show 4 ≤ 1000; decide))
  have st3 : (di l4).set j (.int (l4.getD i 0)) = [.int a3, .int b3, .int c3, .int d3] := by
    rw [di_set, e3]
    rfl
  have st3' : [D.int q.w, .int q.b, .int q.o, .int q.e].set j (.int (l4.getD i 0)) = [.int a3, .int b3, .int c3, .int d3] := by
    rw [← st3, el4]
    rfl
  have ixn3 : ixN 4 ((j : Nat) : Int) = some j := ixN_nat hj
  have is := e_is_numbers (l := v) (by omega)
  have ql4 : D.lst [.int q.w, .int q.b, .int q.o, .int q.e] = .lst (di l4) := ql
  have ct1' : cutD [.int q.w, .int q.b, .int q.o, .int q.e] none (some (j : Int)) = di (l4.take j) := by rw [← ct1, el4]; rfl
  have ct2' : cutD [.int q.w, .int q.b, .int q.o, .int q.e] (some ((j : Int) + 1)) none = di (l4.drop (j + 1)) := by rw [← ct2, el4]; rfl
  have ixi' : dIx (.lst [.int q.w, .int q.b, .int q.o, .int q.e]) (.int (i : Nat)) = .ok (.int (l4.getD i 0)) := by rw [ql4]; exact ixi
  have ls1 : dLst [.int 1, .int 1, .int 1, .int 1000000007] = .ok (.lst [.int 1, .int 1, .int 1, .int 1000000007]) := d_ls4 _ _ _ _
  have lenF : ([D.int a, .int b, .int c, .int d] : List D).length = 4 := rfl
  have lenQ : ([D.int q.w, .int q.b, .int q.o, .int q.e] : List D).length = 4 := rfl
  rw [g_law, run_F (s := [.fz (.scr ns), .no, .no, .no, .no, .no, .no, .no, .no, .no, .no, .no, .no, .no, .no, .no, .no, .no, .no, .no, .no, .no, .no]) rfl, m_law]
  simp only [ev_V0, dec_T, dec_F, ev_VS, set_0, set_S, get_0, get_S, hd_nil, hd_cons, hid_fz, hid_no, hid_ow, hid_ob, if_t, if_f, if_T, if_F, not_t, not_f, ev_C, ev_1, ev_2, ev_A, ev_nil, ev_cons, ev_T, ev_B, ev_And, ev_Or, ev_Not, ev_Yes, ev_If, ev_AndV, ev_OrV, ev_H, ev_Seq, then_nx, then_rt, then_er, ev_Nx, ev_Ret, ev_Set, ev_Ex, ev_SIf, ev_Rz1, ev_Rz0, bd_ok, bd_er, on_ok, on_er, d_tru_bl, d_add, d_sub, d_lt, d_le, d_gt, d_ge, d_neg, d_eqI, d_neI, d_lenT, d_lenL, d_one, d_int, d_tupL, d_tupT, d_itT, d_itL, d_inT, d_notInT, d_max2, d_min2, en_nx, en_rt, en_er, wipe_nil', wipe_cons', mb_ok, ev_sOwn, ev_sApp, ev_sExt, ev_sRev, ev_sIxS, ev_sAug, ev_sTup, ev_sFrz, frz_ow, frz_fz, frz_ob, frz_no, ev_mHN, only_l, only_er, ev_sFor, ev_sRetN, ev_mL, ev_mLB, ld_nil, ld_cons, ld_fz, ld_no, ld_ow, ld_ob, okF_int, okF_bl, okF_str, okF_non, okF_tup, okFs_di, ev_meth, ev_mIsN, ev_mIsNotN, isN_non, isN_int, isN_tup, isN_lst, isN_obj, isN_bl, isN_str, d_not_bl, d_en_t, d_en_l, d_zip_t, d_zip_l, d_list_l, d_list_t, d_absI, turn_nm, turn_tp2, turn_tp3, turn_tp4, tE_nm, tE_tp2, tE_tp3, ix_t0, ix_t1, ix_t2, ix_t3, ix_l0, ix_l1, ix_l2, ix_l3, d_tu0, d_tu1, d_tu2, d_tu3, d_tu4, d_ls0, d_ls1, d_ls2, d_ls3, d_ls4, then_br, then_ct, List.length_cons, List.length_nil, Nat.reduceAdd, Nat.reduceLT, Bool.false_eq_true, Bool.true_eq_false, loopL_nil, ev_mSl, pt_none, pt_some, sl_t, sl_l, cut_m1, cut_hi, cut_lo, di_take, di_drop, di_dropLast, d_all1, List.length_map, Int.natCast_zero, Int.reduceLE, Int.reduceLT, Int.reduceEq, Int.reduceToNat, Int.reduceAdd, Int.reduceSub, Int.reduceMul, Int.reduceNeg, Nat.reduceSub, Nat.reduceMul, Nat.reduceLeDiff, Nat.reduceEqDiff, d_eqTI, d_neTI, d_eqLI, d_neLI, zip_cons, zip_nil, zip_nil2, rep_di, ev_sRetO, ev_sRetF, then_rtF, en_rtF, fF_rtF, fF_er, fF_nx, ev_mLN, opt_some, opt_none, isOb_fz, isOb_ow, isOb_no, isOb_opt, hid_opt, ld_opt, List.any_cons, List.any_nil, Bool.or_false, turn_tp13, turn_tp12, ev_sExt2, sq2_l, sq2_t, hid_pw, ld_pw, isOb_pw, ev_sIxP, e0, x0, x1, x2, x7, x8, x9, x10, m5, m4, m3, hn, hs, c1, mk, en, l11, ← ef, ej, ct1', ct2', ad, ad2, d1, q1, s1, ej2, ← eng, ixn2, st2, q2, c12, ix12, s2, ei, ixi', ixn3, st3', q3, s3, is]
end
theorem law_true (ns : List Int) : g_law [.scr ns] = .ok (.bl true) := by
  obtain ⟨h, e0, q0⟩ := e_row (ns := ns) (at' := 0) (many := 12) (by decide)
  obtain ⟨r1, e1, q1⟩ := e_row (ns := ns) (at' := 1) (many := 9) (by decide)
  obtain ⟨n, hn⟩ : ∃ n : Nat, 4 + h.getD 0 0 % 5 = (n : Int) := ⟨(4 + h.getD 0 0 % 5).toNat, by omega⟩
  have h4 : 4 ≤ n := by omega
  have h8 : n ≤ 8 := by omega
  obtain ⟨nm, en, P⟩ := e_worlds (n := n) (d := h.getD 2 0) h8
  have hsc : ∃ sc : Int, dIx (.lst [.int 1, .int 1, .int 1, .int 1000000007]) (.int (h.getD 1 0 % 4)) = .ok (.int sc) ∧ (sc = 1 ∨ sc = 1000000007) := by
    have ix := d_ixLI (l := [1, 1, 1, 1000000007]) (i := h.getD 1 0 % 4) (by omega) (by show _ < (4 : Int); omega)
    refine ⟨_, ix, ?_⟩
    obtain ⟨k, hk⟩ : ∃ k : Nat, h.getD 1 0 % 4 = (k : Int) := ⟨(h.getD 1 0 % 4).toNat, by omega⟩
    rw [hk, show ((k : Nat) : Int).toNat = k by omega]
    have hk4 : k < 4 := by omega
    match k, hk4 with
    | 0, _ => exact .inl rfl
    | 1, _ => exact .inl rfl
    | 2, _ => exact .inl rfl
    | 3, _ => exact .inr rfl
  obtain ⟨sc, hs, hsc⟩ := hsc
  have va := e_levels (r := r1) (m := 9) (show 1 ≤ n by omega) h8 q1.len (by decide)
  have V0 : Lev n (lvF r1 n 9) := ⟨lv_len r1 n 9, lv_min (by omega) (by decide)⟩
  have sp : 1 ≤ sc := by omega
  have V : Lev n ((lvF r1 n 9).map fun x => x * sc) := ⟨by rw [List.length_map, V0.len], times_min sp (ne_of_len (by rw [V0.len]; omega)) V0.mn⟩
  have c1 : c_law_1 [some (.scr ns), some (.lst (di h)), some (.int n), some (.int sc), none, none, none, none, none, none, none, none, none, none, none, none, none, none, none, none, none, none, none] = .ok (.lst (di ((lvF r1 n 9).map fun x => x * sc))) := by
    rw [c_law_1, ← di_map]
    refine ev_lcM (c := D.int) (lvF r1 n 9) _ ?_ (by rw [V0.len]; omega) fun x hx => ?_
    · have e1' : g__law_row [.scr ns, .int 1, .int 9] = .ok (.lst (di r1)) := e1
      simp only [ev_V0, dec_T, dec_F, ev_VS, set_0, set_S, get_0, get_S, hd_nil, hd_cons, hid_fz, hid_no, hid_ow, hid_ob, if_t, if_f, if_T, if_F, not_t, not_f, ev_C, ev_1, ev_2, ev_A, ev_nil, ev_cons, ev_T, ev_B, ev_And, ev_Or, ev_Not, ev_Yes, ev_If, ev_AndV, ev_OrV, ev_H, ev_Seq, then_nx, then_rt, then_er, ev_Nx, ev_Ret, ev_Set, ev_Ex, ev_SIf, ev_Rz1, ev_Rz0, bd_ok, bd_er, on_ok, on_er, d_tru_bl, d_add, d_sub, d_lt, d_le, d_gt, d_ge, d_neg, d_eqI, d_neI, d_lenT, d_lenL, d_one, d_int, d_tupL, d_tupT, d_itT, d_itL, d_inT, d_notInT, d_max2, d_min2, en_nx, en_rt, en_er, wipe_nil', wipe_cons', mb_ok, ev_sOwn, ev_sApp, ev_sExt, ev_sRev, ev_sIxS, ev_sAug, ev_sTup, ev_sFrz, frz_ow, frz_fz, frz_ob, frz_no, ev_mHN, only_l, only_er, ev_sFor, ev_sRetN, ev_mL, ev_mLB, ld_nil, ld_cons, ld_fz, ld_no, ld_ow, ld_ob, okF_int, okF_bl, okF_str, okF_non, okF_tup, okFs_di, ev_meth, ev_mIsN, ev_mIsNotN, isN_non, isN_int, isN_tup, isN_lst, isN_obj, isN_bl, isN_str, d_not_bl, d_en_t, d_en_l, d_zip_t, d_zip_l, d_list_l, d_list_t, d_absI, turn_nm, turn_tp2, turn_tp3, turn_tp4, tE_nm, tE_tp2, tE_tp3, ix_t0, ix_t1, ix_t2, ix_t3, ix_l0, ix_l1, ix_l2, ix_l3, d_tu0, d_tu1, d_tu2, d_tu3, d_tu4, d_ls0, d_ls1, d_ls2, d_ls3, d_ls4, then_br, then_ct, List.length_cons, List.length_nil, Nat.reduceAdd, Nat.reduceLT, Bool.false_eq_true, Bool.true_eq_false, loopL_nil, ev_mSl, pt_none, pt_some, sl_t, sl_l, cut_m1, cut_hi, cut_lo, di_take, di_drop, di_dropLast, d_all1, List.length_map, Int.natCast_zero, Int.reduceLE, Int.reduceLT, Int.reduceEq, Int.reduceToNat, Int.reduceAdd, Int.reduceSub, Int.reduceMul, Int.reduceNeg, Nat.reduceSub, Nat.reduceMul, Nat.reduceLeDiff, Nat.reduceEqDiff, d_eqTI, d_neTI, d_eqLI, d_neLI, zip_cons, zip_nil, zip_nil2, rep_di, ev_sRetO, ev_sRetF, then_rtF, en_rtF, fF_rtF, fF_er, fF_nx, ev_mLN, opt_some, opt_none, isOb_fz, isOb_ow, isOb_no, isOb_opt, hid_opt, ld_opt, List.any_cons, List.any_nil, Bool.or_false, turn_tp13, turn_tp12, ev_sExt2, sq2_l, sq2_t, hid_pw, ld_pw, isOb_pw, ev_sIxP, e1', va]
    · simp only [ev_V0, dec_T, dec_F, ev_VS, set_0, set_S, get_0, get_S, hd_nil, hd_cons, hid_fz, hid_no, hid_ow, hid_ob, if_t, if_f, if_T, if_F, not_t, not_f, ev_C, ev_1, ev_2, ev_A, ev_nil, ev_cons, ev_T, ev_B, ev_And, ev_Or, ev_Not, ev_Yes, ev_If, ev_AndV, ev_OrV, ev_H, ev_Seq, then_nx, then_rt, then_er, ev_Nx, ev_Ret, ev_Set, ev_Ex, ev_SIf, ev_Rz1, ev_Rz0, bd_ok, bd_er, on_ok, on_er, d_tru_bl, d_add, d_sub, d_lt, d_le, d_gt, d_ge, d_neg, d_eqI, d_neI, d_lenT, d_lenL, d_one, d_int, d_tupL, d_tupT, d_itT, d_itL, d_inT, d_notInT, d_max2, d_min2, en_nx, en_rt, en_er, wipe_nil', wipe_cons', mb_ok, ev_sOwn, ev_sApp, ev_sExt, ev_sRev, ev_sIxS, ev_sAug, ev_sTup, ev_sFrz, frz_ow, frz_fz, frz_ob, frz_no, ev_mHN, only_l, only_er, ev_sFor, ev_sRetN, ev_mL, ev_mLB, ld_nil, ld_cons, ld_fz, ld_no, ld_ow, ld_ob, okF_int, okF_bl, okF_str, okF_non, okF_tup, okFs_di, ev_meth, ev_mIsN, ev_mIsNotN, isN_non, isN_int, isN_tup, isN_lst, isN_obj, isN_bl, isN_str, d_not_bl, d_en_t, d_en_l, d_zip_t, d_zip_l, d_list_l, d_list_t, d_absI, turn_nm, turn_tp2, turn_tp3, turn_tp4, tE_nm, tE_tp2, tE_tp3, ix_t0, ix_t1, ix_t2, ix_t3, ix_l0, ix_l1, ix_l2, ix_l3, d_tu0, d_tu1, d_tu2, d_tu3, d_tu4, d_ls0, d_ls1, d_ls2, d_ls3, d_ls4, then_br, then_ct, List.length_cons, List.length_nil, Nat.reduceAdd, Nat.reduceLT, Bool.false_eq_true, Bool.true_eq_false, loopL_nil, ev_mSl, pt_none, pt_some, sl_t, sl_l, cut_m1, cut_hi, cut_lo, di_take, di_drop, di_dropLast, d_all1, List.length_map, Int.natCast_zero, Int.reduceLE, Int.reduceLT, Int.reduceEq, Int.reduceToNat, Int.reduceAdd, Int.reduceSub, Int.reduceMul, Int.reduceNeg, Nat.reduceSub, Nat.reduceMul, Nat.reduceLeDiff, Nat.reduceEqDiff, d_eqTI, d_neTI, d_eqLI, d_neLI, zip_cons, zip_nil, zip_nil2, rep_di, ev_sRetO, ev_sRetF, then_rtF, en_rtF, fF_rtF, fF_er, fF_nx, ev_mLN, opt_some, opt_none, isOb_fz, isOb_ow, isOb_no, isOb_opt, hid_opt, ld_opt, List.any_cons, List.any_nil, Bool.or_false, turn_tp13, turn_tp12, ev_sExt2, sq2_l, sq2_t, hid_pw, ld_pw, isOb_pw, ev_sIxP, d_mulR (i := x) (show -(2 ^ 64) < sc by omega) (show sc < 2 ^ 64 by omega)]
  exact law_core ⟨q0.len, q0.rg, h4, h8, V, P⟩ e0 hn hs c1 en

end T

end

theorem PySem.Challenge.cw_strengthofnews_k56_differences_compared_holds : PySem.Challenge.rw_strengthofnews_k56_differences_compared.Holds :=
  T.law_fin fun ns _ => T.law_true ns
