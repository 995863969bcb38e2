import PyProof.Rows.All
import Wide.All
import OpenK.AllK
import Wide.FinOn
import HandS.ForMost
import HandS.ForExc
import HandS.Flow
import HandS.IsInst
import HandS.Gcd
import HandS.Wide
import HandS.Zip
import HandS.Conv
import HandS.TupAny
import HandS.TupMul
import HandS.TupLe
import HandS.TupSets
import HandS.Style
import HandS.Deep
import HandS.CallLocal
import HandS.CallSlots
import HandS.ExcIs
import HandS.Lambda
import HandS.HeadHook4
import HandS.HeadWalk
import HandS.Head2
import HandS.HeadEnd
import KE.DataCmp
import KE.SortData
import KE.DatumOrd
import HandS.ExcCtx
import HandS.ExcValue
import HandS.Hot
import HandS.HotCalls
import HandS.Words
import HandS.Head0
import HandS.Head1
import HandS.Head3
import HandS.HeadHook1
import HandS.HeadHook2
import HandS.HeadHook3
import KE.KStateDown
import PySem.Challenge.RW_patternsturn_k58_whole_costs_of_pieces
set_option Elab.async false
set_option linter.all false
set_option maxRecDepth 100000
set_option maxHeartbeats 0
namespace PL
open PySem PySem.Spec PyProof.Rows L2

/-! ### plain data, the state, results -/
inductive D where
  | non | bl (b : Bool) | int (i : Int) | str (x : Str) | tup (l : List D) | lst (l : List D) | dic (ks vs : List D) | fn (n : Nat) | cup
abbrev S := Int × Int
inductive R (α : Type) where
  | ok (a : α) (s : S) | err (k : Nat) (p : D) (s : S) | stuck
abbrev M (α : Type) := S → R α
def R.bind {α β : Type} : R α → (α → S → R β) → R β
  | .ok a s, f => f a s
  | .err k p s, _ => .err k p s
  | .stuck, _ => .stuck
def M.bind {α β : Type} (m : M α) (f : α → M β) : M β := fun s => (m s).bind f
def M.pure {α : Type} (a : α) : M α := fun s => .ok a s
def M.opt {α : Type} : Option α → M α
  | some a => fun s => .ok a s
  | none => fun _ => .stuck
inductive Sl where
  | un | p (d : D) | ol (l : List D) | od (ks vs : List D)
abbrev Env := List Sl
abbrev EF := Env → M D
inductive Fl where
  | nx (e : Env) | rt (d : D)
abbrev SF := Env → M Fl

/-! ### constants of a proof; representation -/
structure Gb where
  K : PySem.W.Frag
  T : List (Addr × Str)
  fv : Nat → Addr
  cl : Nat → Value
  fld : Nat → Str
def MonoH (H H' : Hp) : Prop := (∀ b xs, H b = some (.tup xs) → H' b = some (.tup xs)) ∧ ∀ b o u, H b = some (.frz o u) → H' b = some (.frz o u)
theorem MonoH.refl (H : Hp) : MonoH H H := ⟨fun _ _ h => h, fun _ _ _ h => h⟩
theorem MonoH.trans {H H1 H2 : Hp} (a : MonoH H H1) (b : MonoH H1 H2) : MonoH H H2 := ⟨fun c o h => b.1 c o (a.1 c o h), fun c o u h => b.2 c o u (a.2 c o u h)⟩
/-- a list that does not change any more -/
def FL (H : Hp) (a : Addr) (xs : List V) : Prop := ∃ o, H a = some (.frz o (.lst xs))
theorem FL.rd {H : Hp} {a : Addr} {xs : List V} (h : FL H a xs) : Rd H a (.lst xs) := .inr h
theorem FL.mono {H H' : Hp} {a : Addr} {xs : List V} (m : MonoH H H') (h : FL H a xs) : FL H' a xs := let ⟨o, q⟩ := h; ⟨o, m.2 _ _ _ q⟩
theorem SqT.monoH {K : PySem.W.Frag} {H H' : Hp} {a : Addr} {xs : List V} (m : MonoH H H') (h : SqT K H a xs) : SqT K H' a xs := by
  rcases h with (h | ⟨o, h⟩) | h
  · exact .inl (.inl (m.1 _ _ h))
  · exact .inl (.inr ⟨o, m.2 _ _ _ h⟩)
  · exact .inr h
/-- a frozen dict -/
def FD (H : Hp) (a : Addr) (u : HO) : Prop := ∃ o, H a = some (.frz o u)

mutual
def Rep (g : Gb) (c : Addr) (H : Hp) : D → V → Prop
  | .non, v => v = .non
  | .bl b, v => v = .bl b
  | .int i, v => v = .int i
  | .str x, v => v = .str x
  | .tup l, v => ∃ a vs, v = .ref a ∧ SqT g.K H a vs ∧ Reps g c H l vs
  | .lst l, v => ∃ a vs, v = .ref a ∧ FL H a vs ∧ Reps g c H l vs
  | .dic _ _, _ => False
  | .fn n, v => v = .ref (g.fv n)
  | .cup, v => v = .ref c
def Reps (g : Gb) (c : Addr) (H : Hp) : List D → List V → Prop
  | [], vs => vs = []
  | d :: ds, vs => ∃ v r, vs = v :: r ∧ Rep g c H d v ∧ Reps g c H ds r
end
section
variable {g : Gb} {c : Addr} {H H' : Hp}
mutual
theorem Rep.mono (m : MonoH H H') : ∀ {d : D} {v : V}, Rep g c H d v → Rep g c H' d v
  | .non, _, h => h
  | .bl _, _, h => h
  | .int _, _, h => h
  | .str _, _, h => h
  | .tup l, _, ⟨a, vs, e, q, r⟩ => ⟨a, vs, e, SqT.monoH m q, Reps.mono m r⟩
  | .lst l, _, ⟨a, vs, e, q, r⟩ => ⟨a, vs, e, q.mono m, Reps.mono m r⟩
  | .dic _ _, _, h => h
  | .fn _, _, h => h
  | .cup, _, h => h
theorem Reps.mono (m : MonoH H H') : ∀ {ds : List D} {vs : List V}, Reps g c H ds vs → Reps g c H' ds vs
  | [], _, h => h
  | d :: ds, _, ⟨v, r, e, h, t⟩ => ⟨v, r, e, Rep.mono m h, Reps.mono m t⟩
end
theorem Reps.length : ∀ {ds : List D} {vs : List V}, Reps g c H ds vs → vs.length = ds.length
  | [], _, h => by subst h; rfl
  | d :: ds, _, ⟨v, r, e, h, t⟩ => by subst e; simp [Reps.length t]
theorem Reps.nil : Reps g c H [] [] := rfl
theorem Reps.cons {d : D} {v : V} {ds : List D} {vs : List V} (h : Rep g c H d v) (t : Reps g c H ds vs) : Reps g c H (d :: ds) (v :: vs) := ⟨v, vs, rfl, h, t⟩
theorem Reps.append : ∀ {ds es : List D} {vs ws : List V}, Reps g c H ds vs → Reps g c H es ws → Reps g c H (ds ++ es) (vs ++ ws)
  | [], _, _, _, h, t => by subst h; exact t
  | d :: ds, _, _, _, ⟨v, r, e, h, t⟩, q => by subst e; exact ⟨v, _, rfl, h, Reps.append t q⟩
theorem Reps.get : ∀ {ds : List D} {vs : List V} {i : Nat} {d : D}, Reps g c H ds vs → ds[i]? = some d → ∃ v, vs[i]? = some v ∧ Rep g c H d v
  | [], _, _, _, _, e => by simp at e
  | d :: ds, _, 0, _, ⟨v, r, e, h, t⟩, q => by subst e; simp at q; subst q; exact ⟨v, rfl, h⟩
  | d :: ds, _, i + 1, _, ⟨v, r, e, h, t⟩, q => by
    subst e
    obtain ⟨w, a, b⟩ := Reps.get (i := i) t (by simpa using q)
    exact ⟨w, by simpa using a, b⟩
theorem Reps.getV : ∀ {ds : List D} {vs : List V} {i : Nat} {v : V}, Reps g c H ds vs → vs[i]? = some v → ∃ d, ds[i]? = some d ∧ Rep g c H d v
  | [], _, _, _, h, e => by subst h; simp at e
  | d :: ds, _, 0, _, ⟨v, r, e, h, t⟩, q => by subst e; simp at q; subst q; exact ⟨d, rfl, h⟩
  | d :: ds, _, i + 1, _, ⟨v, r, e, h, t⟩, q => by
    subst e
    obtain ⟨w, a, b⟩ := Reps.getV (i := i) t (by simpa using q)
    exact ⟨w, by simpa using a, b⟩
theorem Reps.drop : ∀ {ds : List D} {vs : List V} (n : Nat), Reps g c H ds vs → Reps g c H (ds.drop n) (vs.drop n)
  | ds, vs, 0, h => h
  | [], _, n + 1, h => by subst h; exact Reps.nil
  | d :: ds, _, n + 1, ⟨v, r, e, h, t⟩ => by subst e; exact Reps.drop n t
theorem Reps.take : ∀ {ds : List D} {vs : List V} (n : Nat), Reps g c H ds vs → Reps g c H (ds.take n) (vs.take n)
  | ds, vs, 0, h => Reps.nil
  | [], _, n + 1, h => by subst h; exact Reps.nil
  | d :: ds, _, n + 1, ⟨v, r, e, h, t⟩ => by subst e; exact Reps.cons h (Reps.take n t)
theorem Reps.reverse {ds : List D} {vs : List V} (h : Reps g c H ds vs) : Reps g c H ds.reverse vs.reverse := by
  induction ds generalizing vs with
  | nil => cases h; exact Reps.nil
  | cons d ds ih =>
    obtain ⟨v, r, e, h, t⟩ := h
    subst e
    rw [List.reverse_cons, List.reverse_cons]
    exact (ih t).append (Reps.cons h Reps.nil)
theorem Reps.eraseIdx : ∀ {ds : List D} {vs : List V} (n : Nat), Reps g c H ds vs → Reps g c H (ds.eraseIdx n) (vs.eraseIdx n)
  | [], _, _, h => by subst h; exact Reps.nil
  | d :: ds, _, 0, ⟨v, r, e, h, t⟩ => by subst e; exact t
  | d :: ds, _, n + 1, ⟨v, r, e, h, t⟩ => by subst e; exact Reps.cons h (Reps.eraseIdx n t)
theorem Reps.set : ∀ {ds : List D} {vs : List V} (n : Nat) {d : D} {v : V}, Rep g c H d v → Reps g c H ds vs → Reps g c H (ds.set n d) (vs.set n v)
  | [], _, _, _, _, _, h => by subst h; exact Reps.nil
  | d :: ds, _, 0, _, _, q, ⟨v, r, e, h, t⟩ => by subst e; exact Reps.cons q t
  | d :: ds, _, n + 1, _, _, q, ⟨v, r, e, h, t⟩ => by subst e; exact Reps.cons h (Reps.set n q t)
theorem Reps.flatRep {ds : List D} {vs : List V} (h : Reps g c H ds vs) : ∀ n : Nat, Reps g c H (List.replicate n ds).flatten (List.replicate n vs).flatten
  | 0 => Reps.nil
  | n + 1 => by rw [List.replicate_succ, List.replicate_succ, List.flatten_cons, List.flatten_cons]; exact h.append (Reps.flatRep h n)
end

/-! ### the world, the slots -/
def Ext (c : Addr) (H H' : Hp) : Prop := ∀ b o, b ≠ c → H b = some o → (∀ ps, o ≠ .tbl ps) → H' b = some o
theorem Ext.refl (c : Addr) (H : Hp) : Ext c H H := fun _ _ _ h _ => h
theorem Ext.trans {c : Addr} {H H1 H2 : Hp} (a : Ext c H H1) (b : Ext c H1 H2) : Ext c H H2 := fun x o n h t => b x o n (a x o n h t) t
theorem Ext.laid {c p : Addr} {H : Hp} {o : HO} (h : H p = none) : Ext c H (upd H p o) := fun x u _ e _ => by rw [upd_ne (ne_of_none e h)]; exact e
/-- nothing stands at p (but perhaps a table) -/
def Nw (H : Hp) (p : Addr) : Prop := ∀ o, H p = some o → ∃ ps, o = .tbl ps
theorem Nw.of {H : Hp} {p : Addr} (h : H p = none) : Nw H p := fun o e => by rw [h] at e; cases e
theorem Nw.back {c p : Addr} {H H' : Hp} (e : Ext c H H') (n : p ≠ c) (h : Nw H' p) : Nw H p := fun o q => by
  cases o with
  | tbl ps => exact ⟨ps, rfl⟩
  | _ => exact h _ (e p _ n q (fun _ z => by cases z))
theorem Nw.ne {H : Hp} {p q : Addr} {xs : List V} (h : Nw H p) (e : H q = some (.lst xs)) : q ≠ p := fun z => by
  subst z
  obtain ⟨ps, w⟩ := h _ e
  cases w
structure Wd (g : Gb) (c : Addr) (H : Hp) (s : S) : Prop where
  cup : H c = some (.lst [.int s.1, .int s.2])
  tab : LamX.Tabs g.T H
theorem Ext.mono {g : Gb} {c : Addr} {H H' : Hp} {s : S} (e : Ext c H H') (w : Wd g c H s) : MonoH H H' :=
  ⟨fun b xs h => e b _ (fun z => by rw [z, w.cup] at h; cases h) h (fun _ z => by cases z), fun b o u h => e b _ (fun z => by rw [z, w.cup] at h; cases h) h (fun _ z => by cases z)⟩
theorem Wd.laid {g : Gb} {c p : Addr} {H : Hp} {s : S} {o : HO} (w : Wd g c H s) (h : H p = none) : Wd g c (upd H p o) s :=
  ⟨by rw [upd_ne (ne_of_none w.cup h)]; exact w.cup, w.tab.ext fun b u e => by rw [upd_ne (ne_of_none e h)]; exact e⟩
def SlOk (g : Gb) (c : Addr) (H0 H : Hp) : Sl → Option V → Prop
  | .un, _ => True
  | .p d, o => ∃ v, o = some v ∧ Rep g c H d v
  | .ol l, o => ∃ p vs, o = some (.ref p) ∧ p ≠ c ∧ Nw H0 p ∧ H p = some (.lst vs) ∧ Reps g c H l vs
  | .od _ _, _ => False
def Sl.own : Sl → Bool
  | .ol _ => true
  | .od _ _ => true
  | _ => false
structure ER (g : Gb) (c : Addr) (H0 : Hp) (σ : L2.St) (H : Hp) (env : Env) : Prop where
  len : σ.length = env.length
  ok : ∀ (i : Nat) (sl : Sl) (o : Option V), env[i]? = some sl → σ[i]? = some o → SlOk g c H0 H sl o
  dis : ∀ (i j : Nat) (a b : Sl) (p : Addr), i ≠ j → env[i]? = some a → env[j]? = some b → a.own = true → b.own = true → σ[i]? = some (some (.ref p)) → σ[j]? ≠ some (some (.ref p))
  ext : Ext c H0 H
section
variable {g : Gb} {c : Addr} {H0 H H' : Hp} {σ : L2.St} {env : Env} {s : S}
theorem SlOk.ext (w : Wd g c H s) (e : Ext c H H') : ∀ {sl : Sl} {o : Option V}, SlOk g c H0 H sl o → SlOk g c H0 H' sl o
  | .un, _, h => trivial
  | .p d, _, ⟨v, q, r⟩ => ⟨v, q, r.mono (e.mono w)⟩
  | .ol l, _, ⟨p, vs, q, n, n0, h, r⟩ => ⟨p, vs, q, n, n0, e p _ n h (fun _ z => by cases z), r.mono (e.mono w)⟩
  | .od _ _, _, h => h
theorem ER.extH (er : ER g c H0 σ H env) (w : Wd g c H s) (e : Ext c H H') : ER g c H0 σ H' env :=
  ⟨er.len, fun i sl o a b => (er.ok i sl o a b).ext w e, er.dis, er.ext.trans e⟩
theorem ER.pv (er : ER g c H0 σ H env) {i : Nat} {d : D} (h : env[i]? = some (.p d)) : ∃ v, σ[i]? = some (some v) ∧ Rep g c H d v := by
  obtain ⟨hi, _⟩ := List.getElem?_eq_some_iff.mp h
  have hs : σ[i]? = some (σ[i]'(by rw [er.len]; exact hi)) := List.getElem?_eq_getElem _
  obtain ⟨v, q, r⟩ := er.ok i _ _ h hs
  exact ⟨v, by rw [hs, q], r⟩
theorem ER.ol (er : ER g c H0 σ H env) {i : Nat} {l : List D} (h : env[i]? = some (.ol l)) : ∃ p vs, σ[i]? = some (some (.ref p)) ∧ p ≠ c ∧ Nw H0 p ∧ H p = some (.lst vs) ∧ Reps g c H l vs := by
  obtain ⟨hi, _⟩ := List.getElem?_eq_some_iff.mp h
  have hs : σ[i]? = some (σ[i]'(by rw [er.len]; exact hi)) := List.getElem?_eq_getElem _
  obtain ⟨p, vs, q, r⟩ := er.ok i _ _ h hs
  exact ⟨p, vs, by rw [hs, q], r⟩
/-- a slot that holds plain data -/
theorem ER.setP (er : ER g c H0 σ H env) (i : Nat) {d : D} {v : V} (r : Rep g c H d v) : ER g c H0 (σ.set i (some v)) H (env.set i (.p d)) := by
  refine ⟨by simp [er.len], fun j sl o a b => ?_, fun j k a b p hjk ha hb oa ob hp => ?_, er.ext⟩
  · by_cases hij : i = j
    · subst hij
      obtain ⟨hi, _⟩ := List.getElem?_eq_some_iff.mp a
      rw [List.length_set] at hi
      rw [List.getElem?_set_self hi] at a
      rw [List.getElem?_set_self (by rw [er.len]; exact hi)] at b
      cases a; cases b
      exact ⟨v, rfl, r⟩
    · rw [List.getElem?_set_ne hij] at a b
      exact er.ok j sl o a b
  · have n1 : i ≠ j := fun z => by
      subst z
      obtain ⟨hi, _⟩ := List.getElem?_eq_some_iff.mp ha
      rw [List.length_set] at hi
      rw [List.getElem?_set_self hi] at ha
      cases ha; cases oa
    have n2 : i ≠ k := fun z => by
      subst z
      obtain ⟨hi, _⟩ := List.getElem?_eq_some_iff.mp hb
      rw [List.length_set] at hi
      rw [List.getElem?_set_self hi] at hb
      cases hb; cases ob
    rw [List.getElem?_set_ne n1] at ha hp
    rw [List.getElem?_set_ne n2] at hb ⊢
    exact er.dis j k a b p hjk ha hb oa ob hp
/-- a slot forgotten -/
theorem ER.setU (er : ER g c H0 σ H env) (i : Nat) (o : Option V) : ER g c H0 (σ.set i o) H (env.set i .un) := by
  refine ⟨by simp [er.len], fun j sl o' a b => ?_, fun j k a b p hjk ha hb oa ob hp => ?_, er.ext⟩
  · by_cases hij : i = j
    · subst hij
      obtain ⟨hi, _⟩ := List.getElem?_eq_some_iff.mp a
      rw [List.length_set] at hi
      rw [List.getElem?_set_self hi] at a
      cases a
      trivial
    · rw [List.getElem?_set_ne hij] at a b
      exact er.ok j sl o' a b
  · have n1 : i ≠ j := fun z => by
      subst z
      obtain ⟨hi, _⟩ := List.getElem?_eq_some_iff.mp ha
      rw [List.length_set] at hi
      rw [List.getElem?_set_self hi] at ha
      cases ha; cases oa
    have n2 : i ≠ k := fun z => by
      subst z
      obtain ⟨hi, _⟩ := List.getElem?_eq_some_iff.mp hb
      rw [List.length_set] at hi
      rw [List.getElem?_set_self hi] at hb
      cases hb; cases ob
    rw [List.getElem?_set_ne n1] at ha hp
    rw [List.getElem?_set_ne n2] at hb ⊢
    exact er.dis j k a b p hjk ha hb oa ob hp
/-- a slot that holds a new list -/
theorem ER.setO (er : ER g c H0 σ H env) (i : Nat) {l : List D} {p : Addr} {vs : List V} (hc : p ≠ c) (h0 : Nw H0 p) (hp : H p = some (.lst vs)) (r : Reps g c H l vs)
    (nw : ∀ (j : Nat) (q : Addr) (a : Sl), j ≠ i → env[j]? = some a → a.own = true → σ[j]? = some (some (.ref q)) → q ≠ p) : ER g c H0 (σ.set i (some (.ref p))) H (env.set i (.ol l)) := by
  refine ⟨by simp [er.len], fun j sl o a b => ?_, fun j k a b q hjk ha hb oa ob hq => ?_, er.ext⟩
  · by_cases hij : i = j
    · subst hij
      obtain ⟨hi, _⟩ := List.getElem?_eq_some_iff.mp a
      rw [List.length_set] at hi
      rw [List.getElem?_set_self hi] at a
      rw [List.getElem?_set_self (by rw [er.len]; exact hi)] at b
      cases a; cases b
      exact ⟨p, vs, rfl, hc, h0, hp, r⟩
    · rw [List.getElem?_set_ne hij] at a b
      exact er.ok j sl o a b
  · by_cases n1 : i = j
    · subst n1
      obtain ⟨hi, _⟩ := List.getElem?_eq_some_iff.mp ha
      rw [List.length_set] at hi
      rw [List.getElem?_set_self (by rw [er.len]; exact hi)] at hq
      cases hq
      rw [List.getElem?_set_ne hjk] at hb ⊢
      exact fun z => nw k _ b (Ne.symm hjk) hb ob z rfl
    · by_cases n2 : i = k
      · subst n2
        obtain ⟨hi, _⟩ := List.getElem?_eq_some_iff.mp hb
        rw [List.length_set] at hi
        rw [List.getElem?_set_self (by rw [er.len]; exact hi)]
        rw [List.getElem?_set_ne n1] at ha hq
        exact fun z => by cases z; exact nw j _ a hjk ha oa hq rfl
      · rw [List.getElem?_set_ne n1] at ha hq
        rw [List.getElem?_set_ne n2] at hb ⊢
        exact er.dis j k a b q hjk ha hb oa ob hq
end
end PL
namespace PL
open PySem PySem.Spec PyProof.Rows L2

/-! ### readings by plain functions -/
abbrev RL := Gb → Addr → Hp → Hp → D → V → Prop
/-- plain data -/
def RP : RL := fun g c _ H d v => Rep g c H d v
/-- plain data, or a list that may still change -/
def RB : RL := fun g c _ H d v => Rep g c H d v ∨ ∃ l p vs, d = .lst l ∧ v = .ref p ∧ p ≠ c ∧ H p = some (.lst vs) ∧ Reps g c H l vs
/-- a new list -/
def RF : RL := fun g c Hs H d v => ∃ l p vs, d = .lst l ∧ v = .ref p ∧ p ≠ c ∧ Nw Hs p ∧ H p = some (.lst vs) ∧ Reps g c H l vs
class GoodRL (Rl : RL) : Prop where
  base : ∀ {g c H H1 H' d v}, Ext c H H1 → Rl g c H1 H' d v → Rl g c H H' d v
instance : GoodRL RP := ⟨fun _ h => h⟩
instance : GoodRL RB := ⟨fun _ h => h⟩
instance : GoodRL RF := ⟨fun e ⟨l, p, vs, a, b, n, w, r⟩ => ⟨l, p, vs, a, b, n, w.back e n, r⟩⟩
theorem RB.ext {g : Gb} {c : Addr} {Hs H H' : Hp} {s : S} {d : D} {v : V} (w : Wd g c H s) (e : Ext c H H') (h : RB g c Hs H d v) : RB g c Hs H' d v := by
  rcases h with h | ⟨l, p, vs, a, b, n, q, r⟩
  · exact .inl (h.mono (e.mono w))
  · exact .inr ⟨l, p, vs, a, b, n, e p _ n q (fun _ z => by cases z), r.mono (e.mono w)⟩
/-- a readable list -/
theorem RB.lst {g : Gb} {c : Addr} {Hs H : Hp} {l : List D} {v : V} (h : RB g c Hs H (.lst l) v) : ∃ p vs, v = .ref p ∧ Rd H p (.lst vs) ∧ Reps g c H l vs := by
  rcases h with ⟨p, vs, a, b, r⟩ | ⟨l', p, vs, a, b, n, q, r⟩
  · exact ⟨p, vs, a, b.rd, r⟩
  · cases a; exact ⟨p, vs, b, .inl q, r⟩
theorem RB.tup {g : Gb} {c : Addr} {Hs H : Hp} {l : List D} {v : V} (h : RB g c Hs H (.tup l) v) : ∃ p vs, v = .ref p ∧ SqT g.K H p vs ∧ Reps g c H l vs := by
  rcases h with ⟨p, vs, a, b, r⟩ | ⟨l', p, vs, a, _⟩
  · exact ⟨p, vs, a, b, r⟩
  · cases a
theorem RB.int {g : Gb} {c : Addr} {Hs H : Hp} {i : Int} {v : V} (h : RB g c Hs H (.int i) v) : v = .int i := by
  rcases h with h | ⟨l', p, vs, a, _⟩
  · exact h
  · cases a
theorem RB.bl {g : Gb} {c : Addr} {Hs H : Hp} {i : Bool} {v : V} (h : RB g c Hs H (.bl i) v) : v = .bl i := by
  rcases h with h | ⟨l', p, vs, a, _⟩
  · exact h
  · cases a
theorem RB.str {g : Gb} {c : Addr} {Hs H : Hp} {i : Str} {v : V} (h : RB g c Hs H (.str i) v) : v = .str i := by
  rcases h with h | ⟨l', p, vs, a, _⟩
  · exact h
  · cases a
theorem RB.non {g : Gb} {c : Addr} {Hs H : Hp} {v : V} (h : RB g c Hs H .non v) : v = .non := by
  rcases h with h | ⟨l', p, vs, a, _⟩
  · exact h
  · cases a
def ErrRep (g : Gb) (k : Nat) (p : D) (dd : Option Addr) (H : Hp) : Prop := match p with
  | .non => dd = none
  | .int i => ∃ d, dd = some d ∧ H d = some (.xd [(g.fld k, .int i)])
  | _ => False
section
variable (g : Gb) (W : WX)
def Fin (Rl : RL) (c : Addr) (σ : L2.St) (H : Hp) (r : R D) (Q : VK) : Prop := match r with
  | .ok d s => ∀ v H', Ext c H H' → Wd g c H' s → Rl g c H H' d v → Q v H'
  | .err k p s => ∀ dd H', Ext c H H' → Wd g c H' s → ErrRep g k p dd H' → W (g.cl k) dd σ H'
  | .stuck => False
def rdm (Rl : RL) (f : EF) : TE := fun σ H Q => ∃ c H0 env s, ER g c H0 σ H env ∧ Wd g c H s ∧ Fin g W Rl c σ H (f env s) Q
def FinA (Rl : RL) (c : Addr) (σ : L2.St) (H : Hp) (r : R (List D)) (Q : List V → Hp → Prop) : Prop := match r with
  | .ok ds s => ∀ vs H', Ext c H H' → Wd g c H' s → vs.length = ds.length → (∀ (i : Nat) (d : D) (v : V), ds[i]? = some d → vs[i]? = some v → Rl g c H H' d v) → Q vs H'
  | .err k p s => ∀ dd H', Ext c H H' → Wd g c H' s → ErrRep g k p dd H' → W (g.cl k) dd σ H'
  | .stuck => False
abbrev AF := Env → M (List D)
def rda (Rl : RL) (f : AF) : TA := fun σ H Q => ∃ c H0 env s, ER g c H0 σ H env ∧ Wd g c H s ∧ FinA g W Rl c σ H (f env s) Q
abbrev TF := Env → M Bool
def FinT (c : Addr) (σ : L2.St) (H : Hp) (r : R Bool) (Q : Bool → Hp → Prop) : Prop := match r with
  | .ok b s => ∀ H', Ext c H H' → Wd g c H' s → Q b H'
  | .err k p s => ∀ dd H', Ext c H H' → Wd g c H' s → ErrRep g k p dd H' → W (g.cl k) dd σ H'
  | .stuck => False
def rtm (f : TF) : TT := fun σ H Q => ∃ c H0 env s, ER g c H0 σ H env ∧ Wd g c H s ∧ FinT g W c σ H (f env s) Q
end
abbrev PX (Rl : RL) (X : Cx) (g : Gb) (W : WX) (e : Expr) (f : EF) : Prop := PE X e (rdm g W Rl f)
abbrev PP := PX RP
abbrev PB := PX RB
abbrev PF := PX RF
abbrev PAx (Rl : RL) (X : Cx) (g : Gb) (W : WX) (es : List Expr) (f : AF) : Prop := PA X es (rda g W Rl f)
abbrev PTx (X : Cx) (g : Gb) (W : WX) (e : Expr) (f : TF) : Prop := PT X e (rtm g W f)
abbrev PWx (X : Cx) (g : Gb) (W : WX) (e : Expr) (f : TF) : Prop := PW X e (rtm g W f)
theorem PE.weak {X : Cx} {e : Expr} {t t' : TE} (h : PE X e t) (w : ∀ σ H Q, t' σ H Q → t σ H Q) : PE X e t' := ⟨fun pins s σ H Q I q => h.run pins s σ H Q I (w σ H Q q)⟩
theorem PT.weak {X : Cx} {e : Expr} {t t' : TT} (h : PT X e t) (w : ∀ σ H Q, t' σ H Q → t σ H Q) : PT X e t' := ⟨fun pins s σ H Q I q => h.run pins s σ H Q I (w σ H Q q)⟩
theorem PW.weak {X : Cx} {e : Expr} {t t' : TT} (h : PW X e t) (w : ∀ σ H Q, t' σ H Q → t σ H Q) : PW X e t' := ⟨fun wh pins s σ H Q I q => h.run wh pins s σ H Q I (w σ H Q q)⟩
theorem PA.weak {X : Cx} {e : List Expr} {t t' : TA} (h : PA X e t) (w : ∀ σ H Q, t' σ H Q → t σ H Q) : PA X e t' := ⟨fun pos pins s σ H Q I q => h.run pos pins s σ H Q I (w σ H Q q)⟩
theorem PS.weak {X : Cx} {e : Stmt} {t t' : TS} (h : PS X e t) (w : ∀ D σ H, t' D σ H → t D σ H) : PS X e t' := ⟨fun pins s σ H D I q => h.run pins s σ H D I (w D σ H q)⟩
theorem PSs.weak {X : Cx} {e : List Stmt} {t t' : TS} (h : PSs X e t) (w : ∀ D σ H, t' D σ H → t D σ H) : PSs X e t' := ⟨fun pins s σ H D I q => h.run pins s σ H D I (w D σ H q)⟩
section
variable {g : Gb} {W : WX} {X : Cx} {Rl : RL} {e a b : Expr} {es : List Expr} {fa fb f : EF} {pos : Pos}
theorem Fin.imp {Rl Rl' : RL} {c : Addr} {σ : L2.St} {H : Hp} {r : R D} {Q : VK} (h : Fin g W Rl c σ H r Q) (i : ∀ H' d v, Ext c H H' → Rl' g c H H' d v → Rl g c H H' d v) : Fin g W Rl' c σ H r Q := by
  cases r with
  | ok d s => exact fun v H' e w q => h v H' e w (i H' d v e q)
  | err k p s => exact h
  | stuck => exact h
/-- plain data may be read -/
theorem PB.of (h : PP X g W e f) : PB X g W e f := PE.weak h fun σ H Q ⟨c, H0, env, s, er, w, q⟩ => ⟨c, H0, env, s, er, w, q.imp fun _ _ _ _ h => .inl h⟩
theorem PB.ofF (h : PF X g W e f) : PB X g W e f := PE.weak h fun σ H Q ⟨c, H0, env, s, er, w, q⟩ => ⟨c, H0, env, s, er, w, q.imp fun _ _ _ _ ⟨l, p, vs, a, b, n, _, r⟩ => .inr ⟨l, p, vs, a, b, n, r⟩⟩

/-! ### two things, one after another -/
/-- behind m: either way out -/
theorem Fin.bind {α : Type} {c : Addr} {σ : L2.St} {H : Hp} {m : R D} {k : D → S → R D} {Q : VK} {Rl1 : RL} {Q1 : VK} [GoodRL Rl] (h : Fin g W Rl c σ H (m.bind k) Q)
    (st : ∀ d s v H1, m = .ok d s → Ext c H H1 → Wd g c H1 s → Rl1 g c H H1 d v → Fin g W Rl c σ H1 (k d s) Q → Q1 v H1) : Fin g W Rl1 c σ H m Q1 := by
  cases m with
  | ok d s =>
    intro v H1 e1 w1 r1
    refine st d s v H1 rfl e1 w1 r1 ?_
    have h' : Fin g W Rl c σ H (k d s) Q := h
    revert h'
    cases k d s with
    | ok d2 s2 => exact fun h' v2 H2 e2 w2 r2 => h' v2 H2 (e1.trans e2) w2 (GoodRL.base e1 r2)
    | err kk p s2 => exact fun h' dd H2 e2 w2 r2 => h' dd H2 (e1.trans e2) w2 r2
    | stuck => exact id
  | err k p s => exact h
  | stuck => exact h
def e1 (φ : D → Option D) (fa : EF) : EF := fun env => (fa env).bind fun d => M.opt (φ d)
def e2 (φ : D → D → Option D) (fa fb : EF) : EF := fun env => (fa env).bind fun d => (fb env).bind fun e => M.opt (φ d e)
def Step1 (g : Gb) (Rl : RL) (r : V → Hp → VK → Prop) (φ : D → Option D) : Prop := ∀ (c : Addr) (Hs H : Hp) (s : S) (d z : D) (x : V) (Q : VK), Wd g c H s → RB g c Hs H d x → φ d = some z →
  (∀ v H', Ext c H H' → Wd g c H' s → Rl g c H H' z v → Q v H') → r x H Q
def Step2 (g : Gb) (Rl : RL) (r : R2) (φ : D → D → Option D) : Prop := ∀ (c : Addr) (Hs Hs' H : Hp) (s : S) (d e z : D) (x y : V) (Q : VK), Wd g c H s → RB g c Hs H d x → RB g c Hs' H e y → φ d e = some z →
  (∀ v H', Ext c H H' → Wd g c H' s → Rl g c H H' z v → Q v H') → r x y H Q
def StepN (g : Gb) (Rl : RL) (r : List V → Hp → VK → Prop) (φ : List D → Option D) : Prop := ∀ (c : Addr) (Hs H : Hp) (s : S) (ds : List D) (z : D) (xs : List V) (Q : VK), Wd g c H s → xs.length = ds.length →
  (∀ (i : Nat) (d : D) (v : V), ds[i]? = some d → xs[i]? = some v → RB g c Hs H d v) → φ ds = some z → (∀ v H', Ext c H H' → Wd g c H' s → Rl g c H H' z v → Q v H') → r xs H Q
theorem rd1 [GoodRL Rl] {r : V → Hp → VK → Prop} {φ : D → Option D} (st : Step1 g Rl r φ) (σ : L2.St) (H : Hp) (Q : VK) (h : rdm g W Rl (e1 φ fa) σ H Q) : rdm g W RB fa σ H (fun x H1 => r x H1 Q) := by
  obtain ⟨c, H0, env, s, er, w, q⟩ := h
  refine ⟨c, H0, env, s, er, w, Fin.bind (α := D) q fun d s1 v H1 _ e1 w1 r1 q1 => ?_⟩
  cases hz : φ d with
  | none => rw [hz] at q1; exact q1.elim
  | some z => rw [hz] at q1; exact st c H H1 s1 d z v Q w1 r1 hz q1
theorem rd2 [GoodRL Rl] {r : R2} {φ : D → D → Option D} (st : Step2 g Rl r φ) (σ : L2.St) (H : Hp) (Q : VK) (h : rdm g W Rl (e2 φ fa fb) σ H Q) :
    rdm g W RB fa σ H (fun x H1 => rdm g W RB fb σ H1 fun y H2 => r x y H2 Q) := by
  obtain ⟨c, H0, env, s, er, w, q⟩ := h
  refine ⟨c, H0, env, s, er, w, Fin.bind (α := D) q fun d s1 v H1 _ x1 w1 r1 q1 => ?_⟩
  refine ⟨c, H0, env, s1, er.extH w x1, w1, Fin.bind (α := D) q1 fun d2 s2 v2 H2 _ x2 w2 r2 q2 => ?_⟩
  cases hz : φ d d2 with
  | none => rw [hz] at q2; exact q2.elim
  | some z => rw [hz] at q2; exact st c H H1 H2 s2 d d2 z v v2 Q w2 (r1.ext w1 x2) r2 hz q2
theorem px_op [GoodRL Rl] {op : Operator} {r : R2} {φ : D → D → Option D} (ho : OpR X (binaryOp op) r) (st : Step2 g Rl r φ) (ha : PB X g W a fa) (hb : PB X g W b fb) : PX Rl X g W (.BinOp a op b pos) (e2 φ fa fb) :=
  PE.weak (pe_op ho ha hb) fun σ H Q h => rd2 st σ H Q h
theorem px_cmp [GoodRL Rl] {op : CmpOp} {r : R2} {φ : D → D → Option D} (ho : OpR X (compareOp op) r) (st : Step2 g Rl r φ) (ha : PB X g W a fa) (hb : PB X g W b fb) (hm : behindInMarks op b = false) : PX Rl X g W (.Compare a [op] [b] pos) (e2 φ fa fb) :=
  PE.weak (pe_cmpR ho ha hb hm) fun σ H Q h => rd2 st σ H Q h
theorem px_un [GoodRL Rl] {op : UnaryOp} {r : V → Hp → VK → Prop} {φ : D → Option D} (ho : UnR X (unaryOp op) r) (st : Step1 g Rl r φ) (ha : PB X g W a fa) : PX Rl X g W (.UnaryOp op a pos) (e1 φ fa) :=
  PE.weak (pe_un ho ha) fun σ H Q h => rd1 st σ H Q h
/-! ### tests -/
def tB (f : EF) : TF := fun env => (f env).bind fun d => match d with
  | .bl b => M.pure b
  | _ => fun _ => .stuck
theorem FinT.ofFin {c : Addr} {σ : L2.St} {H : Hp} {r : R D} {Q : Bool → Hp → Prop} (h : FinT g W c σ H (r.bind fun d => (match d with | .bl b => M.pure b | _ => fun _ => .stuck : M Bool)) Q) :
    Fin g W RP c σ H r (fun x H1 => ∃ k, x = .bl k ∧ Q k H1) := by
  cases r with
  | ok d s =>
    intro v H1 e1 w1 r1
    cases d with
    | bl b => exact ⟨b, r1, h H1 e1 w1⟩
    | _ => exact (show False from h).elim
  | err k p s => exact h
  | stuck => exact h
theorem pt_of (h : PP X g W e f) (he : ∀ whole, isTrue e X.env whole = (do let v ← whole; standAt e.pos; holding [v] (truthy v)) := by intro _; rfl) : PTx X g W e (tB f) :=
  PT.weak (pt_val h he) fun σ H Q ⟨c, H0, env, s, er, w, q⟩ => ⟨c, H0, env, s, er, w, FinT.ofFin q⟩
theorem rd_tB {σ : L2.St} {H : Hp} {Q : Bool → Hp → Prop} (h : rtm g W (tB f) σ H Q) : rdm g W RP f σ H (fun x H1 => ∃ k, x = .bl k ∧ Q k H1) := by
  obtain ⟨c, H0, env, s, er, w, q⟩ := h
  exact ⟨c, H0, env, s, er, w, FinT.ofFin q⟩
theorem ptx_cmp {op : CmpOp} {r : R2} {φ : D → D → Option D} (ho : OpR X (compareOp op) r) (st : Step2 g RP r φ) (ha : PB X g W a fa) (hb : PB X g W b fb) (hm : behindInMarks op b = false) : PTx X g W (.Compare a [op] [b] pos) (tB (e2 φ fa fb)) :=
  PT.weak (pt_cmpR ho ha hb hm) fun σ H Q h => rd2 (Rl := RP) st σ H _ (rd_tB h)
def tNotF (t : TF) : TF := fun env => (t env).bind fun b => M.pure (!b)
def tAndF (t u : TF) : TF := fun env => (t env).bind fun b => if b then u env else M.pure false
def tOrF (t u : TF) : TF := fun env => (t env).bind fun b => if b then M.pure true else u env
theorem FinT.bind {β : Type} {c : Addr} {σ : L2.St} {H : Hp} {m : R Bool} {k : Bool → S → R Bool} {Q : Bool → Hp → Prop} {Q1 : Bool → Hp → Prop} (h : FinT g W c σ H (m.bind k) Q)
    (st : ∀ d s H1, m = .ok d s → Ext c H H1 → Wd g c H1 s → FinT g W c σ H1 (k d s) Q → Q1 d H1) : FinT g W c σ H m Q1 := by
  cases m with
  | ok d s =>
    intro H1 e1 w1
    refine st d s H1 rfl e1 w1 ?_
    have h' : FinT g W c σ H (k d s) Q := h
    revert h'
    cases k d s with
    | ok d2 s2 => exact fun h' H2 e2 w2 => h' H2 (e1.trans e2) w2
    | err kk p s2 => exact fun h' dd H2 e2 w2 r2 => h' dd H2 (e1.trans e2) w2 r2
    | stuck => exact id
  | err k p s => exact h
  | stuck => exact h
theorem ptx_not {t : TF} (h : PTx X g W a t) : PTx X g W (.UnaryOp .Not a pos) (tNotF t) :=
  PT.weak (pt_not h) fun σ H Q ⟨c, H0, env, s, er, w, q⟩ => ⟨c, H0, env, s, er, w, FinT.bind (β := Bool) q fun d s1 H1 _ e1 w1 q1 => q1 H1 (Ext.refl _ _) w1⟩
variable {t u : TF} {rest : List Expr}
theorem pwx_and1 (h : PTx X g W a t) : PWx X g W (.BoolOp .And [a] pos) t := pw_and1 h
theorem pwx_or1 (h : PTx X g W a t) : PWx X g W (.BoolOp .Or [a] pos) t := pw_or1 h
theorem pwx_and (h : PTx X g W a t) (h2 : PWx X g W (.BoolOp .And (b :: rest) pos) u) : PWx X g W (.BoolOp .And (a :: b :: rest) pos) (tAndF t u) :=
  PW.weak (pw_and h h2) fun σ H Q ⟨c, H0, env, s, er, w, q⟩ => ⟨c, H0, env, s, er, w, FinT.bind (β := Bool) q fun d s1 H1 _ e1 w1 q1 => by
    cases d with
    | true => exact iteT ⟨c, H0, env, s1, er.extH w e1, w1, q1⟩
    | false => exact iteF (q1 H1 (Ext.refl _ _) w1)⟩
theorem pwx_or (h : PTx X g W a t) (h2 : PWx X g W (.BoolOp .Or (b :: rest) pos) u) : PWx X g W (.BoolOp .Or (a :: b :: rest) pos) (tOrF t u) :=
  PW.weak (pw_or h h2) fun σ H Q ⟨c, H0, env, s, er, w, q⟩ => ⟨c, H0, env, s, er, w, FinT.bind (β := Bool) q fun d s1 H1 _ e1 w1 q1 => by
    cases d with
    | true => exact iteT (q1 H1 (Ext.refl _ _) w1)
    | false => exact iteF ⟨c, H0, env, s1, er.extH w e1, w1, q1⟩⟩
theorem ptx_pw (h : PWx X g W e t) : PTx X g W e t := h.pt
/-! ### as values -/
def bV (t : TF) : EF := fun env => (t env).bind fun b => M.pure (.bl b)
def eAndV (fa fb : EF) : EF := fun env => (fa env).bind fun d => match d with
  | .bl true => fb env
  | .bl false => M.pure (.bl false)
  | _ => fun _ => .stuck
def eOrV (fa fb : EF) : EF := fun env => (fa env).bind fun d => match d with
  | .bl false => fb env
  | .bl true => M.pure (.bl true)
  | _ => fun _ => .stuck
def eNotV (fa : EF) : EF := fun env => (fa env).bind fun d => match d with
  | .bl b => M.pure (.bl (!b))
  | _ => fun _ => .stuck
theorem px_one {op} (h : PP X g W a fa) : PP X g W (.BoolOp op [a] pos) fa := pe_one h
theorem px_and (ha : PP X g W a fa) (hb : PP X g W (.BoolOp .And (b :: rest) pos) fb) : PP X g W (.BoolOp .And (a :: b :: rest) pos) (eAndV fa fb) :=
  PE.weak (pe_and ha hb) fun σ H Q ⟨c, H0, env, s, er, w, q⟩ => ⟨c, H0, env, s, er, w, Fin.bind (α := D) q fun d s1 v H1 _ e1 w1 r1 q1 => by
    cases d with
    | bl k =>
      refine ⟨k, r1, ?_⟩
      cases k with
      | true => exact iteT ⟨c, H0, env, s1, er.extH w e1, w1, q1⟩
      | false => exact iteF (q1 _ H1 (Ext.refl _ _) w1 rfl)
    | _ => exact (show False from q1).elim⟩
theorem px_or (ha : PP X g W a fa) (hb : PP X g W (.BoolOp .Or (b :: rest) pos) fb) : PP X g W (.BoolOp .Or (a :: b :: rest) pos) (eOrV fa fb) :=
  PE.weak (pe_or ha hb) fun σ H Q ⟨c, H0, env, s, er, w, q⟩ => ⟨c, H0, env, s, er, w, Fin.bind (α := D) q fun d s1 v H1 _ e1 w1 r1 q1 => by
    cases d with
    | bl k =>
      refine ⟨k, r1, ?_⟩
      cases k with
      | true => exact iteT (q1 _ H1 (Ext.refl _ _) w1 rfl)
      | false => exact iteF ⟨c, H0, env, s1, er.extH w e1, w1, q1⟩
    | _ => exact (show False from q1).elim⟩
theorem px_not (ha : PP X g W a fa) : PP X g W (.UnaryOp .Not a pos) (eNotV fa) :=
  PE.weak (pe_not ha) fun σ H Q ⟨c, H0, env, s, er, w, q⟩ => ⟨c, H0, env, s, er, w, Fin.bind (α := D) q fun d s1 v H1 _ e1 w1 r1 q1 => by
    cases d with
    | bl k => exact ⟨k, r1, q1 _ H1 (Ext.refl _ _) w1 rfl⟩
    | _ => exact (show False from q1).elim⟩
def eIf (t : TF) (fa fb : EF) : EF := fun env => (t env).bind fun b => if b then fa env else fb env
theorem FinT.bindE {β : Type} {c : Addr} {σ : L2.St} {H : Hp} {m : R Bool} {k : Bool → S → R D} {Q : VK} {Q1 : Bool → Hp → Prop} [GoodRL Rl] (h : Fin g W Rl c σ H (m.bind k) Q)
    (st : ∀ d s H1, m = .ok d s → Ext c H H1 → Wd g c H1 s → Fin g W Rl c σ H1 (k d s) Q → Q1 d H1) : FinT g W c σ H m Q1 := by
  cases m with
  | ok d s =>
    intro H1 e1 w1
    refine st d s H1 rfl e1 w1 ?_
    have h' : Fin g W Rl c σ H (k d s) Q := h
    revert h'
    cases k d s with
    | ok d2 s2 => exact fun h' v2 H2 e2 w2 r2 => h' v2 H2 (e1.trans e2) w2 (GoodRL.base e1 r2)
    | err kk p s2 => exact fun h' dd H2 e2 w2 r2 => h' dd H2 (e1.trans e2) w2 r2
    | stuck => exact id
  | err k p s => exact h
  | stuck => exact h
theorem px_if [GoodRL Rl] {cc : Expr} (hc : PTx X g W cc t) (ha : PX Rl X g W a fa) (hb : PX Rl X g W b fb) : PX Rl X g W (.IfExp cc a b pos) (eIf t fa fb) :=
  PE.weak (pe_ifExp hc ha hb) fun σ H Q ⟨c, H0, env, s, er, w, q⟩ => ⟨c, H0, env, s, er, w, FinT.bindE (β := D) q fun d s1 H1 _ e1 w1 q1 => by
    cases d with
    | true => exact iteT ⟨c, H0, env, s1, er.extH w e1, w1, q1⟩
    | false => exact iteF ⟨c, H0, env, s1, er.extH w e1, w1, q1⟩⟩
/-! ### names, constants -/
def eVar (i : Nat) : EF := fun env => match env[i]? with
  | some (.p d) => M.pure d
  | _ => fun _ => .stuck
def eVarO (i : Nat) : EF := fun env => match env[i]? with
  | some (.ol l) => M.pure (.lst l)
  | _ => fun _ => .stuck
def eC (d : D) : EF := fun _ => M.pure d
theorem px_var (i : Nat) {x : Str} (h : PE X (.Name x pos) (tVar i)) : PP X g W (.Name x pos) (eVar i) :=
  PE.weak h fun σ H Q ⟨c, H0, env, s, er, w, q⟩ => by
    cases hd : env[i]? with
    | none => simp [eVar, hd, Fin] at q
    | some sl =>
      cases sl with
      | p d =>
        obtain ⟨v, hv, r⟩ := er.pv hd
        simp only [eVar, hd] at q
        exact ⟨v, hv, q v H (Ext.refl _ _) w r⟩
      | _ => simp [eVar, hd, Fin] at q
theorem px_varO (i : Nat) {x : Str} (h : PE X (.Name x pos) (tVar i)) : PB X g W (.Name x pos) (eVarO i) :=
  PE.weak h fun σ H Q ⟨c, H0, env, s, er, w, q⟩ => by
    cases hd : env[i]? with
    | none => simp [eVarO, hd, Fin] at q
    | some sl =>
      cases sl with
      | ol l =>
        obtain ⟨p, vs, hv, n, _, hp, r⟩ := er.ol hd
        simp only [eVarO, hd] at q
        exact ⟨.ref p, hv, q _ H (Ext.refl _ _) w (.inr ⟨l, p, vs, rfl, rfl, n, hp, r⟩)⟩
      | _ => simp [eVarO, hd, Fin] at q
theorem px_c {v : V} {d : D} (h : PE X e (tC v)) (r : ∀ c H, Rep g c H d v) : PP X g W e (eC d) :=
  PE.weak h fun σ H Q ⟨c, H0, env, s, er, w, q⟩ => q v H (Ext.refl _ _) w (r c H)
theorem px_int {i j} : PP X g W (.Constant (.int i) j pos) (eC (.int i)) := px_c pe_int fun _ _ => rfl
theorem px_bl {i j} : PP X g W (.Constant (.bool i) j pos) (eC (.bl i)) := px_c pe_bl fun _ _ => rfl
theorem px_non {j} : PP X g W (.Constant .none j pos) (eC .non) := px_c pe_non fun _ _ => rfl
theorem px_str {i j} : PP X g W (.Constant (.str i) j pos) (eC (.str i)) := px_c pe_str fun _ _ => rfl
/-- a def of the module as a value -/
theorem px_fn {x : Str} {n : Nat} (hg : Gl X x) (hm : X.mg x = some (.ref (g.fv n))) (hd : (x == ("__debug__" : Str)) = false := by decide) : PP X g W (.Name x pos) (eC (.fn n)) :=
  px_c (pe_glob hg hm (show RelV (.ref (g.fv n)) _ from rfl) hd) fun _ _ => rfl
/-- a number of the module -/
theorem px_gint {x : Str} {i : Int} {tk : Tok} (hg : Gl X x) (hm : X.mg x = some (.int i tk)) (hd : (x == ("__debug__" : Str)) = false := by decide) : PP X g W (.Name x pos) (eC (.int i)) :=
  px_c (pe_glob hg hm (show RelV (.int i) _ from ⟨_, rfl⟩) hd) fun _ _ => rfl
theorem px_gstr {x i : Str} {tk : Tok} (hg : Gl X x) (hm : X.mg x = some (.str i tk)) (hd : (x == ("__debug__" : Str)) = false := by decide) : PP X g W (.Name x pos) (eC (.str i)) :=
  px_c (pe_glob hg hm (show RelV (.str i) _ from ⟨_, rfl⟩) hd) fun _ _ => rfl
/-! ### argument lists -/
def aNil : AF := fun _ => M.pure []
def aCons (f : EF) (r : AF) : AF := fun env => (f env).bind fun d => (r env).bind fun ds => M.pure (d :: ds)
theorem FinA.bindE {c : Addr} {σ : L2.St} {H : Hp} {m : R D} {k : D → S → R (List D)} {Q : List V → Hp → Prop} {Q1 : VK} {Rl1 : RL} [GoodRL Rl] (h : FinA g W Rl c σ H (m.bind k) Q)
    (st : ∀ d s v H1, m = .ok d s → Ext c H H1 → Wd g c H1 s → Rl1 g c H H1 d v → FinA g W Rl c σ H1 (k d s) Q → Q1 v H1) : Fin g W Rl1 c σ H m Q1 := by
  cases m with
  | ok d s =>
    intro v H1 e1 w1 r1
    refine st d s v H1 rfl e1 w1 r1 ?_
    have h' : FinA g W Rl c σ H (k d s) Q := h
    revert h'
    cases k d s with
    | ok d2 s2 => exact fun h' v2 H2 e2 w2 hl r2 => h' v2 H2 (e1.trans e2) w2 hl fun i d v a b => GoodRL.base e1 (r2 i d v a b)
    | err kk p s2 => exact fun h' dd H2 e2 w2 r2 => h' dd H2 (e1.trans e2) w2 r2
    | stuck => exact id
  | err k p s => exact h
  | stuck => exact h
class StayRL (Rl : RL) : Prop where
  stay : ∀ {g c Hs Hs' H H' s d v}, Wd g c H s → Ext c H H' → Rl g c Hs H d v → Rl g c Hs' H' d v
instance : StayRL RP := ⟨fun w e h => Rep.mono (e.mono w) h⟩
instance : StayRL RB := ⟨fun w e h => RB.ext w e h⟩
theorem pax_nil : PAx Rl X g W [] aNil := PA.weak pa_nil fun σ H Q ⟨c, H0, env, s, er, w, q⟩ => q [] H (Ext.refl _ _) w rfl fun i d v a _ => by simp at a
theorem pax_cons [GoodRL Rl] [StayRL Rl] {fr : AF} (ha : PX Rl X g W a fa) (hr : PAx Rl X g W es fr) (hs : starEach (a :: es) X.env = (false, eval a X.env) :: starEach es X.env := by rfl) : PAx Rl X g W (a :: es) (aCons fa fr) :=
  PA.weak (pa_cons ha hr hs) fun σ H Q ⟨c, H0, env, s, er, w, q⟩ => ⟨c, H0, env, s, er, w, FinA.bindE (Rl := Rl) (Rl1 := Rl) q fun d s1 v H1 _ e1 w1 r1 q1 => ⟨c, H0, env, s1, er.extH w e1, w1, by
    revert q1
    show FinA g W Rl c σ H1 ((fr env s1).bind fun ds => M.pure (d :: ds)) Q → _
    cases fr env s1 with
    | ok ds s2 =>
      intro q1 vs H2 e2 w2 hl r2
      refine q1 (v :: vs) H2 e2 w2 (by simp [hl]) fun i d' v' a b => ?_
      cases i with
      | zero =>
        simp at a b
        subst a; subst b
        exact StayRL.stay w1 e2 r1
      | succ i => exact r2 i d' v' (by simpa using a) (by simpa using b)
    | err => exact id
    | stuck => exact id⟩⟩
end
end PL
namespace PL
open PySem PySem.Spec PyProof.Rows L2

/-! ### a list is frozen -/
/-- plain data, or a new list -/
def RZ : RL := fun g c Hs H d v => Rep g c H d v ∨ RF g c Hs H d v
instance : GoodRL RZ := ⟨fun e h => h.elim .inl fun q => .inr (GoodRL.base e q)⟩
def frzQ (Q : VK) : VK := fun v H => Q v H ∨ ∃ p xs, v = .ref p ∧ H p = some (.lst xs) ∧ ∀ o, Q v (upd H p (.frz o (.lst xs)))
section
variable {X : Cx} {pins : List (Addr × Obj)} {σ : L2.St} {H : Hp} {s : Shared}
theorem inv_frz {p : Addr} {xs : List V} (I : Inv X pins σ H s) (h : H p = some (.lst xs)) : ∃ o, Inv X pins σ (upd H p (.frz o (.lst xs))) s := by
  obtain ⟨z, its, n, r, e⟩ := I.hok p _ h
  refine ⟨{ cls := .type "list", data := .seq its.toArray n }, I.un (h' := s.heap) (t' := s.toks) ⟨fun b o q _ _ _ => q, fun b o q _ _ _ => ⟨o.slots, q⟩, fun b o q m _ => ?_, fun b o q _ => ⟨o, q⟩, fun b ys q => ?_, fun b o u q => ?_, fun b ps q => ⟨#[], ?_⟩⟩ fun b u q => ?_⟩
  · rw [upd_ne (fun z => by rw [z, h] at m; cases m)]; exact m
  · rw [upd_ne (fun z => by rw [z, h] at q; cases q)]; exact q
  · rw [upd_ne (fun z => by rw [z, h] at q; cases q)]; exact q
  · rw [upd_ne (fun z => by rw [z, h] at q; cases q), q]; simp
  · by_cases hb : b = p
    · subst hb
      rw [upd_same] at q
      cases q
      exact ⟨e, z, its, n, r, e⟩
    · rw [upd_ne hb] at q
      refine (I.hok b u q).stay (fun c v _ w => w) (fun c w => ?_) fun c ys w => ?_
      · rw [upd_ne (fun z => by rw [z, h] at w; cases w)]; exact w
      · rw [upd_ne (fun z => by rw [z, h] at w; cases w)]; exact w
theorem PE.frz {e : Expr} {t : TE} (h : PE X e t) : PE X e (fun σ H Q => t σ H (frzQ Q)) := by
  refine ⟨fun pins s σ H Q I q => thn (h.run pins s σ H _ I q) fun u s1 ⟨v, H1, I1, r1, q1⟩ => ?_⟩
  rcases q1 with q1 | ⟨p, xs, e1, hp, q1⟩
  · exact ⟨v, H1, I1, r1, q1⟩
  · obtain ⟨o, I2⟩ := inv_frz I1 hp
    exact ⟨v, _, I2, r1, q1 o⟩
end
theorem tabs_upd {T : List (Addr × Str)} {H : Hp} {p : Addr} {xs : List V} {o : HO} (t : LamX.Tabs T H) (h : H p = some (.lst xs)) : LamX.Tabs T (upd H p o) := fun q hq => by
  obtain ⟨ps, h1, h2, h3⟩ := t q hq
  refine ⟨ps, by rw [upd_ne (fun z => by rw [z, h] at h1; cases h1)]; exact h1, h2, fun pos cv hc => ?_⟩
  obtain ⟨c, e1, e2⟩ := h3 pos cv hc
  exact ⟨c, e1, by rw [upd_ne (fun z => by rw [z, h] at e2; unfold LamX.CodeO at e2; cases e2)]; exact e2⟩
theorem monoH_upd {H : Hp} {p : Addr} {xs : List V} {o : HO} (h : H p = some (.lst xs)) : MonoH H (upd H p o) :=
  ⟨fun b ys e => by rw [upd_ne (fun z => by rw [z, h] at e; cases e)]; exact e, fun b o' u e => by rw [upd_ne (fun z => by rw [z, h] at e; cases e)]; exact e⟩
section
variable {g : Gb} {W : WX} {X : Cx} {Rl : RL} {e a b : Expr} {es : List Expr} {fa fb f : EF} {pos : Pos}
theorem PP.frz (h : PX RZ X g W e f) : PP X g W e f := PE.weak (PE.frz h) fun σ H Q ⟨c, H0, env, s, er, w, q⟩ => by
  refine ⟨c, H0, env, s, er, w, ?_⟩
  cases hf : f env s with
  | ok d s' =>
    rw [hf] at q
    intro v H' x w' r
    rcases r with r | ⟨l, p, vs, rfl, rfl, n, nw, hp, r⟩
    · exact .inl (q v H' x w' r)
    · refine .inr ⟨p, vs, rfl, hp, fun o => q _ _ (fun b u nb eb nt => ?_) ⟨by rw [upd_ne (Ne.symm n)]; exact w'.cup, tabs_upd w'.tab hp⟩ ⟨p, vs, rfl, ⟨o, upd_same⟩, r.mono (monoH_upd hp)⟩⟩
      rw [upd_ne (fun z => by subst z; obtain ⟨ps, z2⟩ := nw _ eb; exact nt ps z2)]
      exact x b u nb eb nt
  | err k p s' => rw [hf] at q; exact q
  | stuck => rw [hf] at q; exact q
theorem PZ.ofF (h : PF X g W e f) : PX RZ X g W e f := PE.weak h fun σ H Q ⟨c, H0, env, s, er, w, q⟩ => ⟨c, H0, env, s, er, w, q.imp fun _ _ _ _ h => .inr h⟩
theorem PP.ofF (h : PF X g W e f) : PP X g W e f := PP.frz (PZ.ofF h)

/-! ### data as the library has them -/
mutual
def D.py : D → PyData
  | .non => .none
  | .bl b => .bool b
  | .int i => .int i
  | .str x => .str x
  | .tup l => .tuple (D.pys l)
  | .lst l => .list (D.pys l)
  | .dic _ _ => .dict []
  | .fn _ => .dict []
  | .cup => .dict []
def D.pys : List D → List PyData
  | [] => []
  | d :: ds => D.py d :: D.pys ds
end
mutual
/-- no function, no dict, not the cup -/
def D.dat : D → Bool
  | .tup l => D.dats l
  | .lst l => D.dats l
  | .dic _ _ => false
  | .fn _ => false
  | .cup => false
  | _ => true
def D.dats : List D → Bool
  | [] => true
  | d :: ds => D.dat d && D.dats ds
end
mutual
theorem Rep.dp {c : Addr} {H : Hp} : ∀ {d : D} {v : V}, d.dat = true → Rep g c H d v → Dp g.K H v d.py
  | .non, _, _, h => by cases h; exact .non
  | .bl b, _, _, h => by cases h; exact .bl b
  | .int i, _, _, h => by cases h; exact .int i
  | .str x, _, _, h => by cases h; exact .str x
  | .tup l, _, n, ⟨a, vs, e, q, r⟩ => by
    subst e
    rw [D.py]
    exact .tup q (Reps.dp (by rw [D.dat] at n; exact n) r)
  | .lst l, _, n, ⟨a, vs, e, q, r⟩ => by
    subst e
    rw [D.py]
    exact .lst (.inl q.rd) (Reps.dp (by rw [D.dat] at n; exact n) r)
  | .dic _ _, _, n, _ => by simp [D.dat] at n
  | .fn _, _, n, _ => by simp [D.dat] at n
  | .cup, _, n, _ => by simp [D.dat] at n
theorem Reps.dp {c : Addr} {H : Hp} : ∀ {ds : List D} {vs : List V}, D.dats ds = true → Reps g c H ds vs → DpAll g.K H vs (D.pys ds)
  | [], _, _, h => by cases h; rw [D.pys]; exact .nil
  | d :: ds, _, n, ⟨v, r, e, h, t⟩ => by
    subst e
    rw [D.dats, Bool.and_eq_true] at n
    rw [D.pys]
    exact .cons (Rep.dp n.1 h) (Reps.dp n.2 t)
end
theorem RB.dp {c : Addr} {Hs H : Hp} {d : D} {v : V} (n : d.dat = true) (h : RB g c Hs H d v) : Dp g.K H v d.py := by
  rcases h with h | ⟨l, p, vs, rfl, rfl, _, hp, r⟩
  · exact h.dp n
  · rw [D.py]
    exact .lst (.inl (.inl hp)) (r.dp (by rw [D.dat] at n; exact n))
/-! ### ==, !=, <, <=, >, >= -/
def sh (d : D) : Bool := d.dat && SeqAt.shaped d.py
def dEq (d e : D) : Option D := if sh d && sh e then some (.bl (PyData.eqv d.py e.py)) else none
def dNe (d e : D) : Option D := if sh d && sh e then some (.bl (!PyData.eqv d.py e.py)) else none
theorem sh_ok {d e : D} (h : (sh d && sh e) = true) : (d.dat = true ∧ SeqAt.shaped d.py = true) ∧ e.dat = true ∧ SeqAt.shaped e.py = true := by
  simp only [sh, Bool.and_eq_true] at h
  exact h
theorem st_eq : Step2 g RP (rEqD g.K) dEq := by
  intro c Hs Hs' H s d e z x y Q w rx ry hz q
  unfold dEq at hz
  split at hz
  · rename_i h
    obtain ⟨⟨h1, h2⟩, h3, h4⟩ := sh_ok h
    cases hz
    exact ⟨_, _, rx.dp h1, ry.dp h3, h2, h4, q _ H (Ext.refl _ _) w rfl⟩
  · cases hz
theorem st_ne : Step2 g RP (rNeD g.K) dNe := by
  intro c Hs Hs' H s d e z x y Q w rx ry hz q
  unfold dNe at hz
  split at hz
  · rename_i h
    obtain ⟨⟨h1, h2⟩, h3, h4⟩ := sh_ok h
    cases hz
    exact ⟨_, _, rx.dp h1, ry.dp h3, h2, h4, q _ H (Ext.refl _ _) w rfl⟩
  · cases hz
/-- comparable, not None -/
def lk (d e : D) : Bool := d.dat && e.dat && PySem.W.alike d.py e.py && decide (d.py.depth ≤ 64) && (match d with | .non => false | _ => true)
def rCmpD (K : PySem.W.Frag) (f : PyData → PyData → Bool) : R2 := fun x y H Q => ∃ d e, Dp K H x d ∧ Dp K H y e ∧ PySem.W.alike d e = true ∧ d ≠ .none ∧ d.depth ≤ 64 ∧ Q (.bl (f d e)) H
theorem op_ltD (hu : X.A.units + 64 < cLine) : OpR X (compareOp .Lt) (rCmpD X.K fun d e => PySem.W.dataLt d e) := by
  intro pins s σ H x y v u Q I rx ry ⟨d, e, hd, he, al, nn, dp, q⟩
  obtain ⟨as, r1⟩ := Dp.reads I d x v hd rx
  obtain ⟨bs, r2⟩ := Dp.reads I e y u he ry
  exact PySem.W.lt_data r1 r2 al nn (by have := Nat.min_le_left d.depth e.depth; omega) ⟨.bl _, H, I, rfl, q⟩
theorem op_gtD (hu : X.A.units + 64 < cLine) : OpR X (compareOp .Gt) (rCmpD X.K fun d e => PySem.W.dataLt e d) := by
  intro pins s σ H x y v u Q I rx ry ⟨d, e, hd, he, al, nn, dp, q⟩
  obtain ⟨as, r1⟩ := Dp.reads I d x v hd rx
  obtain ⟨bs, r2⟩ := Dp.reads I e y u he ry
  exact PySem.W.gt_data r1 r2 al nn (by have := Nat.min_le_left d.depth e.depth; omega) ⟨.bl _, H, I, rfl, q⟩
theorem op_leD (hu : X.A.units + 64 < cLine) : OpR X (compareOp .LtE) (rCmpD X.K fun d e => !PySem.W.dataLt e d) := by
  intro pins s σ H x y v u Q I rx ry ⟨d, e, hd, he, al, nn, dp, q⟩
  obtain ⟨as, r1⟩ := Dp.reads I d x v hd rx
  obtain ⟨bs, r2⟩ := Dp.reads I e y u he ry
  exact PySem.W.le_data r1 r2 al nn (by have := Nat.min_le_left d.depth e.depth; omega) ⟨.bl _, H, I, rfl, q⟩
theorem op_geD (hu : X.A.units + 64 < cLine) : OpR X (compareOp .GtE) (rCmpD X.K fun d e => !PySem.W.dataLt d e) := by
  intro pins s σ H x y v u Q I rx ry ⟨d, e, hd, he, al, nn, dp, q⟩
  obtain ⟨as, r1⟩ := Dp.reads I d x v hd rx
  obtain ⟨bs, r2⟩ := Dp.reads I e y u he ry
  exact PySem.W.ge_data r1 r2 al nn (by have := Nat.min_le_left d.depth e.depth; omega) ⟨.bl _, H, I, rfl, q⟩
def dCmp (fi : Int → Int → Bool) (f : PyData → PyData → Bool) (d e : D) : Option D := match d, e with
  | .int i, .int j => some (.bl (fi i j))
  | d, e => if lk d e then some (.bl (f d.py e.py)) else none
theorem lk_ok {d e : D} (h : lk d e = true) : d.dat = true ∧ e.dat = true ∧ PySem.W.alike d.py e.py = true ∧ d.py.depth ≤ 64 ∧ d.py ≠ .none := by
  simp only [lk, Bool.and_eq_true, decide_eq_true_eq] at h
  obtain ⟨⟨⟨⟨h1, h2⟩, h3⟩, h4⟩, h5⟩ := h
  refine ⟨h1, h2, h3, h4, fun z => ?_⟩
  cases d <;> simp_all [D.py]
theorem st_cmp {fi : Int → Int → Bool} {f : PyData → PyData → Bool} (hf : ∀ i j, f (.int i) (.int j) = fi i j) : Step2 g RP (rCmpD g.K f) (dCmp fi f) := by
  intro c Hs Hs' H s d e z x y Q w rx ry hz q
  have gen : lk d e = true → z = .bl (f d.py e.py) → rCmpD g.K f x y H Q := fun h hz => by
    obtain ⟨h1, h2, h3, h4, h5⟩ := lk_ok h
    subst hz
    exact ⟨_, _, rx.dp h1, ry.dp h2, h3, h5, h4, q _ H (Ext.refl _ _) w rfl⟩
  unfold dCmp at hz
  split at hz
  · cases hz
    refine ⟨_, _, rx.dp rfl, ry.dp rfl, by simp [D.py, PySem.W.alike], by simp [D.py], by simp [D.py, PyData.depth], ?_⟩
    rw [D.py, D.py, hf]
    exact q _ H (Ext.refl _ _) w rfl
  · split at hz
    · rename_i h
      exact gen h (Option.some.inj hz).symm
    · cases hz
def dLt := dCmp (fun i j => decide (i < j)) fun d e => PySem.W.dataLt d e
def dGt := dCmp (fun i j => decide (j < i)) fun d e => PySem.W.dataLt e d
def dLe := dCmp (fun i j => decide (i ≤ j)) fun d e => !PySem.W.dataLt e d
def dGe := dCmp (fun i j => decide (j ≤ i)) fun d e => !PySem.W.dataLt d e
theorem not_dec_lt (i j : Int) : (!decide (j < i)) = decide (i ≤ j) := by
  by_cases h : j < i
  · rw [decide_eq_true h, decide_eq_false (by omega)]; rfl
  · rw [decide_eq_false h, decide_eq_true (by omega)]; rfl
theorem st_lt : Step2 g RP (rCmpD g.K fun d e => PySem.W.dataLt d e) dLt := st_cmp fun i j => PySem.W.dataLt_int i j
theorem st_gt : Step2 g RP (rCmpD g.K fun d e => PySem.W.dataLt e d) dGt := st_cmp fun i j => PySem.W.dataLt_int j i
theorem st_le : Step2 g RP (rCmpD g.K fun d e => !PySem.W.dataLt e d) dLe := st_cmp fun i j => by rw [PySem.W.dataLt_int, not_dec_lt]
theorem st_ge : Step2 g RP (rCmpD g.K fun d e => !PySem.W.dataLt d e) dGe := st_cmp fun i j => by rw [PySem.W.dataLt_int, not_dec_lt]
theorem px_eq (hK : X.K = g.K) (hu : X.A.units + 64 < cLine) (ha : PB X g W a fa) (hb : PB X g W b fb) : PP X g W (.Compare a [.Eq] [b] pos) (e2 dEq fa fb) := px_cmp (by rw [← hK]; exact op_eqD hu) st_eq ha hb (nomark _)
end
end PL
namespace PL
open PySem PySem.Spec PyProof.Rows L2

/-! ### lists that are read -/
section
variable {X : Cx} {pins : List (Addr × Obj)} {σ : L2.St} {H : Hp} {s : Shared} {l : Addr} {xs : List V}
theorem Inv.rdM (I : Inv X pins σ H s) (hH : Rd H l (.lst xs)) : xs.length ≤ sizeLine ∧ ∃ (its : List Value) (n : Nat), Vals xs its ∧ xs.length = its.length ∧ s.heap.get? l = some { cls := .type "list", data := .seq its.toArray n } := by
  obtain ⟨z, its, n, r, e⟩ := hH.ok I.hok
  exact ⟨z, its, n, r, r.length, e⟩
def rCatR : R2 := fun x y H Q => ∃ l b xs zs, x = .ref l ∧ y = .ref b ∧ Rd H l (.lst xs) ∧ Rd H b (.lst zs) ∧ xs.length + zs.length ≤ sizeLine ∧ ∀ p, H p = none → Q (.ref p) (upd H p (.lst (xs ++ zs)))
theorem op_catR : OpR X (binaryOp .Add) rCatR := by
  intro pins s σ H x y v u Q I rx ry h
  obtain ⟨l, b, xs, zs, rfl, rfl, hH, hB, hz, q⟩ := h
  cases rx
  cases ry
  obtain ⟨z, its, n, r, hl, e⟩ := PL.Inv.rdM I hH
  obtain ⟨z2, its2, n2, r2, hl2, e2⟩ := PL.Inv.rdM I hB
  refine PySem.P.add_list e e2 ?_ (by rw [List.size_toArray, List.size_toArray]; omega)
  have ea : its.toArray ++ its2.toArray = (its ++ its2).toArray := by simp
  rw [ea]
  exact ⟨.ref _, _, I.lnew (t' := s.toks) (r.append r2) (by rw [List.length_append]; omega), rfl, q _ I.fresh⟩
/-- d in t, t a tuple of data -/
def rInT (K : PySem.W.Frag) : R2 := fun x y H Q => ∃ d ds, Dp K H x d ∧ Dp K H y (.tuple ds) ∧ SeqAt.shaped d = true ∧ SeqAt.shaped (.tuple ds) = true ∧ Q (.bl (ds.any fun z => PyData.eqv z d)) H
theorem op_inT (hu : X.A.units + 65 < cLine) : OpR X (compareOp .In) (rInT X.K) := by
  intro pins s σ H x y v u Q I rx ry h
  obtain ⟨d, ds, hd, he, sd, se, q⟩ := h
  obtain ⟨as, r1⟩ := Dp.reads I d x v hd rx
  obtain ⟨bs, r2⟩ := Dp.reads I (.tuple ds) y u he ry
  exact SeqAt.in_tuple_reads r2 r1 (SeqAt.canLay_of_shaped se) (SeqAt.canLay_of_shaped sd) (room_in_shaped sd hu) ⟨.bl _, H, I, rfl, q⟩
def rNotInT (K : PySem.W.Frag) : R2 := fun x y H Q => ∃ d ds, Dp K H x d ∧ Dp K H y (.tuple ds) ∧ SeqAt.shaped d = true ∧ SeqAt.shaped (.tuple ds) = true ∧ Q (.bl (!ds.any fun z => PyData.eqv z d)) H
theorem op_notInT (hu : X.A.units + 65 < cLine) : OpR X (compareOp .NotIn) (rNotInT X.K) := by
  intro pins s σ H x y v u Q I rx ry h
  obtain ⟨d, ds, hd, he, sd, se, q⟩ := h
  obtain ⟨as, r1⟩ := Dp.reads I d x v hd rx
  obtain ⟨bs, r2⟩ := Dp.reads I (.tuple ds) y u he ry
  exact SeqAt.notIn_tuple_reads r2 r1 (SeqAt.canLay_of_shaped se) (SeqAt.canLay_of_shaped sd) (room_in_shaped sd hu) ⟨.bl _, H, I, rfl, q⟩
end

section
variable {g : Gb} {W : WX} {X : Cx} {Rl : RL} {e a b cc : Expr} {es : List Expr} {fa fb fc f : EF} {pos : Pos}
/-! ### numbers -/
def dAdd (d e : D) : Option D := match d, e with
  | .int i, .int j => some (.int (i + j))
  | .str x, .str y => if x.length + y.length ≤ sizeLine then some (.str (x ++ y)) else none
  | .tup x, .tup y => if x.length + y.length ≤ sizeLine then some (.tup (x ++ y)) else none
  | .lst x, .lst y => if x.length + y.length ≤ sizeLine then some (.lst (x ++ y)) else none
  | _, _ => none
def rAddA (K : PySem.W.Frag) : R2 := fun x y H Q => (∃ i j, x = .int i ∧ y = .int j ∧ Q (.int (i + j)) H) ∨ (∃ i j, x = .str i ∧ y = .str j ∧ i.length + j.length ≤ sizeLine ∧ Q (.str (i ++ j)) H) ∨ rCatA K x y H Q ∨ rCatR x y H Q
theorem op_addA : OpR X (binaryOp .Add) (rAddA X.K) := op_add.or (op_add_str.or (op_catA.or op_catR))
theorem newLst {c : Addr} {H : Hp} {s : S} {l : List D} {vs : List V} {Q : VK} (w : Wd g c H s) (r : Reps g c H l vs) (q : ∀ v H', Ext c H H' → Wd g c H' s → RF g c H H' (.lst l) v → Q v H') :
    ∀ p, H p = none → Q (.ref p) (upd H p (.lst vs)) := fun p hp =>
  q _ _ (Ext.laid hp) (w.laid hp) ⟨l, p, vs, rfl, rfl, (fun z => by rw [z, w.cup] at hp; cases hp), .of hp, upd_same, r.mono ((Ext.laid (c := c) hp).mono w)⟩
theorem newTup {c : Addr} {H : Hp} {s : S} {l : List D} {vs : List V} {Q : VK} (w : Wd g c H s) (r : Reps g c H l vs) (q : ∀ v H', Ext c H H' → Wd g c H' s → RP g c H H' (.tup l) v → Q v H') :
    ∀ p, H p = none → Q (.ref p) (upd H p (.tup vs)) := fun p hp =>
  q _ _ (Ext.laid hp) (w.laid hp) ⟨p, vs, rfl, SqT.of upd_same, r.mono ((Ext.laid (c := c) hp).mono w)⟩
theorem Reps.nilIff {c : Addr} {H : Hp} {ds : List D} {vs : List V} (r : Reps g c H ds vs) : vs = [] ↔ ds = [] := by
  have hl := r.length
  constructor
  · intro h
    subst h
    exact List.eq_nil_of_length_eq_zero hl.symm
  · intro h
    subst h
    exact List.eq_nil_of_length_eq_zero hl
theorem st_add : Step2 g RZ (rAddA g.K) dAdd := by
  intro c Hs Hs' H s d e z x y Q w rx ry hz q
  unfold dAdd at hz
  split at hz
  · cases hz
    have := rx.int; have := ry.int; subst x; subst y
    exact .inl ⟨_, _, rfl, rfl, q _ H (Ext.refl _ _) w (.inl rfl)⟩
  · split at hz
    · rename_i h
      cases hz
      have := rx.str; have := ry.str; subst x; subst y
      exact .inr (.inl ⟨_, _, rfl, rfl, h, q _ H (Ext.refl _ _) w (.inl rfl)⟩)
    · cases hz
  · split at hz
    · rename_i l1 l2 h
      cases hz
      obtain ⟨p, vs, rfl, h1, r1⟩ := rx.tup
      obtain ⟨p', vs', rfl, h2, r2⟩ := ry.tup
      refine .inr (.inr (.inl ⟨p, p', vs, vs', rfl, rfl, h1, h2, by rw [r1.length, r2.length]; exact h, fun n => ?_, fun _ n => ?_, fun _ _ => newTup w (r1.append r2) fun v H' x w' r => q v H' x w' (.inl r)⟩))
      · have := r1.nilIff.mp n
        subst this
        exact q _ H (Ext.refl _ _) w (.inl ⟨p', vs', rfl, h2, by simpa using r2⟩)
      · have := r2.nilIff.mp n
        subst this
        exact q _ H (Ext.refl _ _) w (.inl ⟨p, vs, rfl, h1, by simpa using r1⟩)
    · cases hz
  · split at hz
    · rename_i l1 l2 h
      cases hz
      obtain ⟨p, vs, rfl, h1, r1⟩ := rx.lst
      obtain ⟨p', vs', rfl, h2, r2⟩ := ry.lst
      exact .inr (.inr (.inr ⟨p, p', vs, vs', rfl, rfl, h1, h2, by rw [r1.length, r2.length]; exact h, newLst w (r1.append r2) fun v H' x w' r => q v H' x w' (.inr r)⟩))
    · cases hz
  · cases hz
/-- a list and a list: a new list -/
def dAddL (d e : D) : Option D := match d, e with
  | .lst x, .lst y => if x.length + y.length ≤ sizeLine then some (.lst (x ++ y)) else none
  | _, _ => none
theorem st_addL : Step2 g RF (rCatR) dAddL := by
  intro c Hs Hs' H s d e z x y Q w rx ry hz q
  unfold dAddL at hz
  split at hz
  · split at hz
    · rename_i l1 l2 h
      cases hz
      obtain ⟨p, vs, rfl, h1, r1⟩ := rx.lst
      obtain ⟨p', vs', rfl, h2, r2⟩ := ry.lst
      exact ⟨p, p', vs, vs', rfl, rfl, h1, h2, by rw [r1.length, r2.length]; exact h, newLst w (r1.append r2) q⟩
    · cases hz
  · cases hz
theorem px_add (hK : X.K = g.K) (ha : PB X g W a fa) (hb : PB X g W b fb) : PP X g W (.BinOp a .Add b pos) (e2 dAdd fa fb) := PP.frz (px_op (by rw [← hK]; exact op_addA) st_add ha hb)
theorem px_addL (ha : PB X g W a fa) (hb : PB X g W b fb) : PF X g W (.BinOp a .Add b pos) (e2 dAddL fa fb) := px_op op_catR st_addL ha hb
def dI2 (f : Int → Int → Option Int) (d e : D) : Option D := match d, e with
  | .int i, .int j => (f i j).map .int
  | _, _ => none
theorem st_I2 {f : Int → Int → Option Int} {C : Int → Int → Prop} {h : Int → Int → Int} (hf : ∀ i j k, f i j = some k → C i j ∧ h i j = k) : Step2 g RP (rI C fun i j => .int (h i j)) (dI2 f) := by
  intro c Hs Hs' H s d e z x y Q w rx ry hz q
  unfold dI2 at hz
  split at hz
  · rename_i i j
    cases hk : f i j with
    | none => rw [hk] at hz; cases hz
    | some k =>
      rw [hk] at hz
      cases hz
      have := rx.int; have := ry.int; subst x; subst y
      obtain ⟨h1, h2⟩ := hf i j k hk
      exact ⟨i, j, rfl, rfl, h1, q _ H (Ext.refl _ _) w (by show V.int (h i j) = V.int k; rw [h2])⟩
  · cases hz
def dSub := dI2 fun i j => some (i - j)
theorem op_subC : OpR X (binaryOp .Sub) (rI (fun _ _ => True) fun i j => .int (i - j)) := by
  intro pins s σ H x y v u Q I rx ry ⟨i, j, h1, h2, _, q⟩
  exact op_sub pins s σ H x y v u Q I rx ry ⟨i, j, h1, h2, q⟩
theorem px_sub (ha : PB X g W a fa) (hb : PB X g W b fb) : PP X g W (.BinOp a .Sub b pos) (e2 dSub fa fb) := px_op op_subC (st_I2 fun i j k h => ⟨trivial, Option.some.inj h⟩) ha hb
def mulOk (i j : Int) : Bool := (decide (-(2 ^ 64) < i) && decide (i < 2 ^ 64)) || (decide (-(2 ^ 64) < j) && decide (j < 2 ^ 64)) || decide (i.natAbs.log2 + j.natAbs.log2 < 1000000)
def dMul (d e : D) : Option D := match d, e with
  | .int i, .int j => if mulOk i j then some (.int (i * j)) else none
  | .tup l, .int k => if !l.isEmpty && decide (2 ≤ k) && decide (k ≤ 1000) && decide (l.length ≤ 1000) then some (.tup (List.replicate k.toNat l).flatten) else none
  | _, _ => none
def rMulA (K : PySem.W.Frag) : R2 := fun x y H Q => (rI CMul (fun i j => .int (i * j)) x y H Q ∨ rI CMulW (fun i j => .int (i * j)) x y H Q) ∨ rRepT K x y H Q
theorem op_mulA : OpR X (binaryOp .Mult) (rMulA X.K) := (op_mul.or op_mulW).or op_repT
theorem st_mul : Step2 g RZ (rMulA g.K) dMul := by
  intro c Hs Hs' H s d e z x y Q w rx ry hz q
  unfold dMul at hz
  split at hz
  · split at hz
    · rename_i i j h
      cases hz
      have := rx.int; have := ry.int; subst x; subst y
      simp only [mulOk, Bool.or_eq_true, Bool.and_eq_true, decide_eq_true_eq] at h
      rcases h with (h | h) | h
      · exact .inl (.inl ⟨i, j, rfl, rfl, .inl h, q _ H (Ext.refl _ _) w (.inl rfl)⟩)
      · exact .inl (.inl ⟨i, j, rfl, rfl, .inr h, q _ H (Ext.refl _ _) w (.inl rfl)⟩)
      · exact .inl (.inr ⟨i, j, rfl, rfl, h, q _ H (Ext.refl _ _) w (.inl rfl)⟩)
    · cases hz
  · split at hz
    · rename_i l k h
      cases hz
      have := ry.int; subst y
      simp only [Bool.and_eq_true, decide_eq_true_eq, Bool.not_eq_true', List.isEmpty_eq_false_iff] at h
      obtain ⟨p, vs, rfl, h1, r1⟩ := rx.tup
      exact .inr (⟨p, k, vs, rfl, rfl, h1, fun n => h.1.1.1 (r1.nilIff.mp n), h.1.1.2, h.1.2, by rw [r1.length]; exact h.2, newTup w (r1.flatRep _) fun v H' x w' r => q v H' x w' (.inl r)⟩)
    · cases hz
  · cases hz
/-- a written list times a number -/
def dMulL (d e : D) : Option D := match d, e with
  | .lst l, .int k => if decide (-(2 ^ 63) ≤ k) && decide (k < 2 ^ 63) && decide (l.length * k.toNat ≤ sizeLine) then some (.lst (List.replicate k.toNat l).flatten) else none
  | _, _ => none
theorem px_mulL (ha : PF X g W a fa) (hb : PP X g W b fb) : PF X g W (.BinOp a .Mult b pos) (e2 dMulL fa fb) :=
  PE.weak (pe_op op_rep ha hb) fun σ H Q ⟨c, H0, env, s, er, w, q⟩ => by
    refine ⟨c, H0, env, s, er, w, Fin.bind (α := D) (Rl := RF) q fun d s1 v H1 _ x1 w1 r1 q1 => ?_⟩
    refine ⟨c, H0, env, s1, er.extH w x1, w1, Fin.bind (α := D) (Rl := RF) q1 fun d2 s2 v2 H2 _ x2 w2 r2 q2 => ?_⟩
    obtain ⟨l, p, vs, rfl, rfl, n, _, hp, r⟩ := r1
    cases d2 with
    | int k =>
      cases r2
      by_cases h : (decide (-(2 ^ 63) ≤ k) && decide (k < 2 ^ 63) && decide (l.length * k.toNat ≤ sizeLine)) = true
      · have e : dMulL (.lst l) (.int k) = some (.lst (List.replicate k.toNat l).flatten) := if_pos h
        rw [e] at q2
        simp only [Bool.and_eq_true, decide_eq_true_eq] at h
        exact ⟨p, k, vs, rfl, rfl, x2 p _ n hp (fun _ z => by cases z), h.1.1, h.1.2, by rw [r.length]; exact h.2, newLst w2 ((r.mono (x2.mono w1)).flatRep _) q2⟩
      · have e : dMulL (.lst l) (.int k) = none := if_neg h
        rw [e] at q2
        exact q2.elim
    | _ => exact (show False from q2).elim
theorem px_mul (hK : X.K = g.K) (ha : PB X g W a fa) (hb : PB X g W b fb) : PP X g W (.BinOp a .Mult b pos) (e2 dMul fa fb) := PP.frz (px_op (by rw [← hK]; exact op_mulA) st_mul ha hb)
def dDiv := dI2 fun i j => if (decide (0 < j) && decide (j.natAbs.log2 < 9000)) then some (i / j) else if (decide (j < 0) && decide (j.natAbs < 1073741824)) then some (i.fdiv j) else none
def rDivA : R2 := fun x y H Q => rI CDivW (fun i j => .int (i / j)) x y H Q ∨ rI CDivN (fun i j => .int (i.fdiv j)) x y H Q
theorem op_divA : OpR X (binaryOp .FloorDiv) rDivA := op_fdivW.or op_fdivN
theorem st_div : Step2 g RP rDivA dDiv := by
  intro c Hs Hs' H s d e z x y Q w rx ry hz q
  unfold dDiv dI2 at hz
  split at hz
  · have := rx.int; have := ry.int; subst x; subst y
    simp only at hz
    split at hz
    · rename_i h
      simp only [Bool.and_eq_true, decide_eq_true_eq] at h
      cases hz
      exact .inl ⟨_, _, rfl, rfl, h, q _ H (Ext.refl _ _) w rfl⟩
    · split at hz
      · rename_i h
        simp only [Bool.and_eq_true, decide_eq_true_eq] at h
        cases hz
        exact .inr ⟨_, _, rfl, rfl, ⟨by omega, h.2⟩, q _ H (Ext.refl _ _) w rfl⟩
      · cases hz
  · cases hz
theorem px_div (ha : PB X g W a fa) (hb : PB X g W b fb) : PP X g W (.BinOp a .FloorDiv b pos) (e2 dDiv fa fb) := px_op op_divA st_div ha hb
def dMod := dI2 fun i j => if decide (0 < j) then some (i % j) else none
theorem px_mod (ha : PB X g W a fa) (hb : PB X g W b fb) : PP X g W (.BinOp a .Mod b pos) (e2 dMod fa fb) := px_op op_mod (st_I2 fun i j k h => by
  by_cases h0 : 0 < j
  · simp [h0] at h; exact ⟨h0, h⟩
  · simp [h0] at h) ha hb
def dPow := dI2 fun i j => if decide (0 ≤ j) && decide (j ≤ 1000000) && decide (i.natAbs < 2 ^ 64) then some (i ^ j.toNat) else none
theorem px_pow (ha : PB X g W a fa) (hb : PB X g W b fb) : PP X g W (.BinOp a .Pow b pos) (e2 dPow fa fb) := px_op op_pow (st_I2 fun i j k h => by
  by_cases h0 : (decide (0 ≤ j) && decide (j ≤ 1000000) && decide (i.natAbs < 2 ^ 64)) = true
  · rw [if_pos h0] at h
    simp only [Bool.and_eq_true, decide_eq_true_eq] at h0
    exact ⟨⟨h0.1.1, h0.1.2, h0.2⟩, Option.some.inj h⟩
  · rw [if_neg h0] at h; cases h) ha hb
def dNeg (d : D) : Option D := match d with
  | .int i => some (.int (-i))
  | _ => none
theorem px_neg (ha : PB X g W a fa) : PP X g W (.UnaryOp .USub a pos) (e1 dNeg fa) := px_un un_neg (fun c Hs H s d z x Q w rx hz q => by
  unfold dNeg at hz
  split at hz
  · cases hz
    have := rx.int; subst x
    exact ⟨_, rfl, q _ H (Ext.refl _ _) w rfl⟩
  · cases hz) ha
/-! ### comparisons -/
theorem px_ne (hK : X.K = g.K) (hu : X.A.units + 64 < cLine) (ha : PB X g W a fa) (hb : PB X g W b fb) : PP X g W (.Compare a [.NotEq] [b] pos) (e2 dNe fa fb) := px_cmp (by rw [← hK]; exact op_neD hu) st_ne ha hb (nomark _)
theorem px_lt (hK : X.K = g.K) (hu : X.A.units + 64 < cLine) (ha : PB X g W a fa) (hb : PB X g W b fb) : PP X g W (.Compare a [.Lt] [b] pos) (e2 dLt fa fb) := px_cmp (by rw [← hK]; exact op_ltD hu) st_lt ha hb (nomark _)
theorem px_gt (hK : X.K = g.K) (hu : X.A.units + 64 < cLine) (ha : PB X g W a fa) (hb : PB X g W b fb) : PP X g W (.Compare a [.Gt] [b] pos) (e2 dGt fa fb) := px_cmp (by rw [← hK]; exact op_gtD hu) st_gt ha hb (nomark _)
theorem px_le (hK : X.K = g.K) (hu : X.A.units + 64 < cLine) (ha : PB X g W a fa) (hb : PB X g W b fb) : PP X g W (.Compare a [.LtE] [b] pos) (e2 dLe fa fb) := px_cmp (by rw [← hK]; exact op_leD hu) st_le ha hb (nomark _)
theorem px_ge (hK : X.K = g.K) (hu : X.A.units + 64 < cLine) (ha : PB X g W a fa) (hb : PB X g W b fb) : PP X g W (.Compare a [.GtE] [b] pos) (e2 dGe fa fb) := px_cmp (by rw [← hK]; exact op_geD hu) st_ge ha hb (nomark _)
theorem pt_eq (hK : X.K = g.K) (hu : X.A.units + 64 < cLine) (ha : PB X g W a fa) (hb : PB X g W b fb) : PTx X g W (.Compare a [.Eq] [b] pos) (tB (e2 dEq fa fb)) := ptx_cmp (by rw [← hK]; exact op_eqD hu) st_eq ha hb (nomark _)
theorem pt_ne (hK : X.K = g.K) (hu : X.A.units + 64 < cLine) (ha : PB X g W a fa) (hb : PB X g W b fb) : PTx X g W (.Compare a [.NotEq] [b] pos) (tB (e2 dNe fa fb)) := ptx_cmp (by rw [← hK]; exact op_neD hu) st_ne ha hb (nomark _)
theorem pt_lt (hK : X.K = g.K) (hu : X.A.units + 64 < cLine) (ha : PB X g W a fa) (hb : PB X g W b fb) : PTx X g W (.Compare a [.Lt] [b] pos) (tB (e2 dLt fa fb)) := ptx_cmp (by rw [← hK]; exact op_ltD hu) st_lt ha hb (nomark _)
theorem pt_gt (hK : X.K = g.K) (hu : X.A.units + 64 < cLine) (ha : PB X g W a fa) (hb : PB X g W b fb) : PTx X g W (.Compare a [.Gt] [b] pos) (tB (e2 dGt fa fb)) := ptx_cmp (by rw [← hK]; exact op_gtD hu) st_gt ha hb (nomark _)
theorem pt_le (hK : X.K = g.K) (hu : X.A.units + 64 < cLine) (ha : PB X g W a fa) (hb : PB X g W b fb) : PTx X g W (.Compare a [.LtE] [b] pos) (tB (e2 dLe fa fb)) := ptx_cmp (by rw [← hK]; exact op_leD hu) st_le ha hb (nomark _)
theorem pt_ge (hK : X.K = g.K) (hu : X.A.units + 64 < cLine) (ha : PB X g W a fa) (hb : PB X g W b fb) : PTx X g W (.Compare a [.GtE] [b] pos) (tB (e2 dGe fa fb)) := ptx_cmp (by rw [← hK]; exact op_geD hu) st_ge ha hb (nomark _)
/-- a is None -/
def isN (d : D) : Bool := match d with
  | .non => true
  | _ => false
def dIsN (d e : D) : Option D := match e with
  | .non => some (.bl (isN d))
  | _ => none
def dNotN (d e : D) : Option D := match e with
  | .non => some (.bl (!isN d))
  | _ => none
theorem RB.isN {c : Addr} {Hs H : Hp} {d : D} {x : V} (h : RB g c Hs H d x) (hd : ∀ k v, d ≠ .dic k v) : decide (x = V.non) = isN d := by
  cases d with
  | non => rw [h.non]; rfl
  | bl b => rw [h.bl]; rfl
  | int b => rw [h.int]; rfl
  | str b => rw [h.str]; rfl
  | tup l => obtain ⟨p, vs, rfl, _⟩ := h.tup; rfl
  | lst l => obtain ⟨p, vs, rfl, _⟩ := h.lst; rfl
  | dic k v => exact absurd rfl (hd k v)
  | fn n =>
    rcases h with h | ⟨l, p, vs, z, _⟩
    · have h : x = V.ref (g.fv n) := h
      subst h; rfl
    · cases z
  | cup =>
    rcases h with h | ⟨l, p, vs, z, _⟩
    · have h : x = V.ref c := h
      subst h; rfl
    · cases z
theorem st_isN : Step2 g RP (fun x y H Q => y = .non ∧ Q (.bl (decide (x = .non))) H) dIsN := by
  intro c Hs Hs' H s d e z x y Q w rx ry hz q
  unfold dIsN at hz
  split at hz
  · cases hz
    have := ry.non; subst y
    by_cases hd : ∃ k v, d = .dic k v
    · obtain ⟨k, v, rfl⟩ := hd
      rcases rx with h | ⟨l, p, vs, z, _⟩
      · exact h.elim
      · cases z
    · exact ⟨rfl, q _ H (Ext.refl _ _) w (by rw [rx.isN fun k v z => hd ⟨k, v, z⟩]; rfl)⟩
  · cases hz
theorem st_notN : Step2 g RP (fun x y H Q => y = .non ∧ Q (.bl (!decide (x = .non))) H) dNotN := by
  intro c Hs Hs' H s d e z x y Q w rx ry hz q
  unfold dNotN at hz
  split at hz
  · cases hz
    have := ry.non; subst y
    by_cases hd : ∃ k v, d = .dic k v
    · obtain ⟨k, v, rfl⟩ := hd
      rcases rx with h | ⟨l, p, vs, z, _⟩
      · exact h.elim
      · cases z
    · exact ⟨rfl, q _ H (Ext.refl _ _) w (by rw [rx.isN fun k v z => hd ⟨k, v, z⟩]; rfl)⟩
  · cases hz
theorem px_isN (ha : PB X g W a fa) (hb : PB X g W b fb) : PP X g W (.Compare a [.Is] [b] pos) (e2 dIsN fa fb) := px_cmp op_isN st_isN ha hb (nomark _)
theorem pt_isN (ha : PB X g W a fa) (hb : PB X g W b fb) : PTx X g W (.Compare a [.Is] [b] pos) (tB (e2 dIsN fa fb)) := ptx_cmp op_isN st_isN ha hb (nomark _)
theorem px_notN (ha : PB X g W a fa) (hb : PB X g W b fb) : PP X g W (.Compare a [.IsNot] [b] pos) (e2 dNotN fa fb) := px_cmp op_notN st_notN ha hb (nomark _)
theorem pt_notN (ha : PB X g W a fa) (hb : PB X g W b fb) : PTx X g W (.Compare a [.IsNot] [b] pos) (tB (e2 dNotN fa fb)) := ptx_cmp op_notN st_notN ha hb (nomark _)
/-- a in b, b a list or a tuple -/
def dIn (d e : D) : Option D := match e with
  | .lst l => if sh d && sh (.lst l) then some (.bl ((D.pys l).any fun z => PyData.eqv z d.py)) else none
  | .tup l => if sh d && sh (.tup l) then some (.bl ((D.pys l).any fun z => PyData.eqv z d.py)) else none
  | _ => none
def dNotIn (d e : D) : Option D := match e with
  | .lst l => if sh d && sh (.lst l) then some (.bl (!(D.pys l).any fun z => PyData.eqv z d.py)) else none
  | .tup l => if sh d && sh (.tup l) then some (.bl (!(D.pys l).any fun z => PyData.eqv z d.py)) else none
  | _ => none
theorem st_in : Step2 g RP (fun x y H Q => rInD g.K x y H Q ∨ rInT g.K x y H Q) dIn := by
  intro c Hs Hs' H s d e z x y Q w rx ry hz q
  unfold dIn at hz
  split at hz
  · split at hz
    · rename_i l h
      obtain ⟨⟨h1, h2⟩, h3, h4⟩ := sh_ok h
      cases hz
      have k := ry.dp h3
      rw [D.py] at k h4
      exact .inl ⟨_, _, rx.dp h1, k, h2, h4, q _ H (Ext.refl _ _) w rfl⟩
    · cases hz
  · split at hz
    · rename_i l h
      obtain ⟨⟨h1, h2⟩, h3, h4⟩ := sh_ok h
      cases hz
      have k := ry.dp h3
      rw [D.py] at k h4
      exact .inr ⟨_, _, rx.dp h1, k, h2, h4, q _ H (Ext.refl _ _) w rfl⟩
    · cases hz
  · cases hz
theorem st_notIn : Step2 g RP (fun x y H Q => rNotInD g.K x y H Q ∨ rNotInT g.K x y H Q) dNotIn := by
  intro c Hs Hs' H s d e z x y Q w rx ry hz q
  unfold dNotIn at hz
  split at hz
  · split at hz
    · rename_i l h
      obtain ⟨⟨h1, h2⟩, h3, h4⟩ := sh_ok h
      cases hz
      have k := ry.dp h3
      rw [D.py] at k h4
      exact .inl ⟨_, _, rx.dp h1, k, h2, h4, q _ H (Ext.refl _ _) w rfl⟩
    · cases hz
  · split at hz
    · rename_i l h
      obtain ⟨⟨h1, h2⟩, h3, h4⟩ := sh_ok h
      cases hz
      have k := ry.dp h3
      rw [D.py] at k h4
      exact .inr ⟨_, _, rx.dp h1, k, h2, h4, q _ H (Ext.refl _ _) w rfl⟩
    · cases hz
  · cases hz
theorem px_in (hK : X.K = g.K) (hu : X.A.units + 65 < cLine) (ha : PB X g W a fa) (hb : PB X g W b fb) (hm : behindInMarks .In b = false := by rfl) : PP X g W (.Compare a [.In] [b] pos) (e2 dIn fa fb) := px_cmp (by rw [← hK]; exact (op_inD hu).or (op_inT hu)) st_in ha hb hm
theorem pt_in (hK : X.K = g.K) (hu : X.A.units + 65 < cLine) (ha : PB X g W a fa) (hb : PB X g W b fb) (hm : behindInMarks .In b = false := by rfl) : PTx X g W (.Compare a [.In] [b] pos) (tB (e2 dIn fa fb)) := ptx_cmp (by rw [← hK]; exact (op_inD hu).or (op_inT hu)) st_in ha hb hm
theorem px_notIn (hK : X.K = g.K) (hu : X.A.units + 65 < cLine) (ha : PB X g W a fa) (hb : PB X g W b fb) (hm : behindInMarks .NotIn b = false := by rfl) : PP X g W (.Compare a [.NotIn] [b] pos) (e2 dNotIn fa fb) := px_cmp (by rw [← hK]; exact (op_notInD hu).or (op_notInT hu)) st_notIn ha hb hm
theorem pt_notIn (hK : X.K = g.K) (hu : X.A.units + 65 < cLine) (ha : PB X g W a fa) (hb : PB X g W b fb) (hm : behindInMarks .NotIn b = false := by rfl) : PTx X g W (.Compare a [.NotIn] [b] pos) (tB (e2 dNotIn fa fb)) := ptx_cmp (by rw [← hK]; exact (op_notInD hu).or (op_notInT hu)) st_notIn ha hb hm
/-- a < b < c -/
def e3c (φ φ' : D → D → Option D) (fa fb fc : EF) : EF := fun env => (fa env).bind fun d => (fb env).bind fun e => (M.opt (φ d e)).bind fun z => match z with
  | .bl true => (fc env).bind fun u => M.opt (φ' e u)
  | .bl false => M.pure (.bl false)
  | _ => fun _ => .stuck
theorem rdc {r r' : R2} {φ φ' : D → D → Option D} (st : Step2 g RP r φ) (st' : Step2 g RP r' φ') (σ : L2.St) (H : Hp) (Q : VK) (h : rdm g W RP (e3c φ φ' fa fb fc) σ H Q) :
    tChain r r' (rdm g W RB fa) (rdm g W RB fb) (rdm g W RB fc) σ H Q := by
  obtain ⟨c, H0, env, s, er, w, q⟩ := h
  refine ⟨c, H0, env, s, er, w, Fin.bind (α := D) q fun d s1 v H1 _ x1 w1 r1 q1 => ?_⟩
  refine ⟨c, H0, env, s1, er.extH w x1, w1, Fin.bind (α := D) q1 fun d2 s2 v2 H2 _ x2 w2 r2 q2 => ?_⟩
  cases hz : φ d d2 with
  | none => rw [hz] at q2; exact q2.elim
  | some z =>
    rw [hz] at q2
    refine st c H H1 H2 s2 d d2 z v v2 _ w2 (r1.ext w1 x2) r2 hz fun v3 H3 x3 w3 r3 => ?_
    cases z with
    | bl k =>
      refine ⟨k, r3, ?_⟩
      cases k with
      | false => exact iteF (q2 _ H3 x3 w3 rfl)
      | true =>
        have er2 := (er.extH w x1).extH w1 x2
        refine iteT ⟨c, H0, env, s2, er2.extH w2 x3, w3, ?_⟩
        have q3 : Fin g W RP c σ H2 (((fc env s2).bind fun u s => M.opt (φ' d2 u) s)) Q := q2
        revert q3
        cases fc env s2 with
        | ok u s4 =>
          intro q3 v4 H4 x4 w4 r4
          have q3 : Fin g W RP c σ H2 (M.opt (φ' d2 u) s4) Q := q3
          cases hz' : φ' d2 u with
          | none => rw [hz'] at q3; exact q3.elim
          | some z' =>
            rw [hz'] at q3
            exact st' c H1 H3 H4 s4 d2 u z' v2 v4 Q w4 ((r2.ext w2 x3).ext w3 x4) r4 hz' fun v5 H5 x5 w5 r5 => q3 v5 H5 (x3.trans (x4.trans x5)) w5 r5
        | err k p s4 => exact fun q3 dd H' x' w' r' => q3 dd H' (x3.trans x') w' r'
        | stuck => exact id
    | _ => exact (show False from q2).elim
theorem px_chain {op op' : CmpOp} {r r' : R2} {φ φ' : D → D → Option D} (ho : OpR X (compareOp op) r) (ho' : OpR X (compareOp op') r') (st : Step2 g RP r φ) (st' : Step2 g RP r' φ') (ha : PB X g W a fa) (hb : PB X g W b fb) (hc : PB X g W cc fc)
    (hm : lastMarks [op, op'] [b, cc] = false := by with_unfolding_all rfl) : PP X g W (.Compare a [op, op'] [b, cc] pos) (e3c φ φ' fa fb fc) :=
  PE.weak (pe_chain ho ho' ha hb hc hm) fun σ H Q h => rdc st st' σ H Q h
theorem ptx_chain {op op' : CmpOp} {r r' : R2} {φ φ' : D → D → Option D} (ho : OpR X (compareOp op) r) (ho' : OpR X (compareOp op') r') (st : Step2 g RP r φ) (st' : Step2 g RP r' φ') (ha : PB X g W a fa) (hb : PB X g W b fb) (hc : PB X g W cc fc)
    (hm : lastMarks [op, op'] [b, cc] = false := by with_unfolding_all rfl) : PTx X g W (.Compare a [op, op'] [b, cc] pos) (tB (e3c φ φ' fa fb fc)) :=
  PT.weak (pt_chain ho ho' ha hb hc hm) fun σ H Q h => rdc st st' σ H _ (rd_tB h)
end
end PL
namespace PL
open PySem PySem.Spec PyProof.Rows L2
section
variable {g : Gb} {W : WX} {X : Cx} {Rl : RL} {e a b cc : Expr} {es : List Expr} {fa fb fc f : EF} {pos : Pos} {fs : AF}

/-! ### displays -/
theorem FinA.bindE2 {c : Addr} {σ : L2.St} {H : Hp} {m : R (List D)} {k : List D → S → R D} {Q : VK} {Q1 : List V → Hp → Prop} {Rl1 : RL} [GoodRL Rl] (h : Fin g W Rl c σ H (m.bind k) Q)
    (st : ∀ ds s vs H1, m = .ok ds s → Ext c H H1 → Wd g c H1 s → vs.length = ds.length → (∀ (i : Nat) (d : D) (v : V), ds[i]? = some d → vs[i]? = some v → Rl1 g c H H1 d v) → Fin g W Rl c σ H1 (k ds s) Q → Q1 vs H1) : FinA g W Rl1 c σ H m Q1 := by
  cases m with
  | ok ds s =>
    intro vs H1 e1 w1 hl r1
    refine st ds s vs H1 rfl e1 w1 hl r1 ?_
    have h' : Fin g W Rl c σ H (k ds s) Q := h
    revert h'
    cases k ds s with
    | ok d2 s2 => exact fun h' v2 H2 e2 w2 r2 => h' v2 H2 (e1.trans e2) w2 (GoodRL.base e1 r2)
    | err kk p s2 => exact fun h' dd H2 e2 w2 r2 => h' dd H2 (e1.trans e2) w2 r2
    | stuck => exact id
  | err k p s => exact h
  | stuck => exact h
theorem reps_of {c : Addr} {Hs H : Hp} : ∀ {ds : List D} {vs : List V}, vs.length = ds.length → (∀ (i : Nat) (d : D) (v : V), ds[i]? = some d → vs[i]? = some v → RP g c Hs H d v) → Reps g c H ds vs
  | [], [], _, _ => Reps.nil
  | [], _ :: _, h, _ => by simp at h
  | _ :: _, [], h, _ => by simp at h
  | d :: ds, v :: vs, h, r => Reps.cons (r 0 d v rfl rfl) (reps_of (by simpa using h) fun i d' v' a b => r (i + 1) d' v' (by simpa using a) (by simpa using b))
def eTup (fs : AF) : EF := fun env => (fs env).bind fun ds => if ds.length ≤ sizeLine then M.pure (.tup ds) else fun _ => .stuck
def eLst (fs : AF) : EF := fun env => (fs env).bind fun ds => if ds.length ≤ sizeLine then M.pure (.lst ds) else fun _ => .stuck
theorem px_tup {x1} (h : PAx RP X g W es fs) : PP X g W (.Tuple es x1 pos) (eTup fs) := PE.weak (pe_tup h) fun σ H Q ⟨c, H0, env, s, er, w, q⟩ => by
  refine ⟨c, H0, env, s, er, w, FinA.bindE2 (Rl := RP) (Rl1 := RP) q fun ds s1 vs H1 _ x1 w1 hl r1 q1 => ?_⟩
  have q1 : Fin g W RP c σ H1 ((if ds.length ≤ sizeLine then M.pure (.tup ds) else fun _ => .stuck : M D) s1) Q := q1
  by_cases hz : ds.length ≤ sizeLine
  · rw [if_pos hz] at q1
    exact ⟨by rw [hl]; exact hz, newTup w1 (reps_of hl r1) q1⟩
  · rw [if_neg hz] at q1; exact q1.elim
theorem px_lst (h : PAx RP X g W es fs) : PF X g W (.List es pos) (eLst fs) := PE.weak (pe_lst h) fun σ H Q ⟨c, H0, env, s, er, w, q⟩ => by
  refine ⟨c, H0, env, s, er, w, FinA.bindE2 (Rl := RF) (Rl1 := RP) q fun ds s1 vs H1 _ x1 w1 hl r1 q1 => ?_⟩
  have q1 : Fin g W RF c σ H1 ((if ds.length ≤ sizeLine then M.pure (.lst ds) else fun _ => .stuck : M D) s1) Q := q1
  by_cases hz : ds.length ≤ sizeLine
  · rw [if_pos hz] at q1
    exact ⟨by rw [hl]; exact hz, newLst w1 (reps_of hl r1) q1⟩
  · rw [if_neg hz] at q1; exact q1.elim
/-! ### a[i], a[lo:hi] -/
def dIx (d e : D) : Option D := match d, e with
  | .tup l, .int i => atI l i
  | .lst l, .int i => atI l i
  | .str z, .int i => if z.length ≤ sizeLine then (atI z.cps.toList i).map fun c => .str ⟨#[c]⟩ else none
  | _, _ => none
theorem Reps.atI {c : Addr} {H : Hp} {ds : List D} {vs : List V} {i : Int} {d : D} (r : Reps g c H ds vs) (h : atI ds i = some d) : ∃ v, L2.atI vs i = some v ∧ Rep g c H d v := by
  unfold L2.atI at h ⊢
  rw [r.length]
  cases hn : ixN ds.length i with
  | none => rw [hn] at h; cases h
  | some j =>
    rw [hn] at h
    exact r.get h
theorem st_ix : Step2 g RP (rIx g.K) dIx := by
  intro c Hs Hs' H s d e z x y Q w rx ry hz q
  unfold dIx at hz
  split at hz
  · have := ry.int; subst y
    obtain ⟨p, vs, rfl, h1, r1⟩ := rx.tup
    obtain ⟨v, hv, r⟩ := r1.atI hz
    exact .inr (.inl ⟨p, vs, _, v, rfl, rfl, h1, hv, q v H (Ext.refl _ _) w r⟩)
  · have := ry.int; subst y
    obtain ⟨p, vs, rfl, h1, r1⟩ := rx.lst
    obtain ⟨v, hv, r⟩ := r1.atI hz
    exact .inl ⟨p, vs, _, v, rfl, rfl, .inl h1, hv, q v H (Ext.refl _ _) w r⟩
  · split at hz
    · rename_i zz i h
      have := ry.int; have := rx.str; subst x; subst y
      cases hc : atI zz.cps.toList i with
      | none => rw [hc] at hz; cases hz
      | some cp =>
        rw [hc] at hz
        cases hz
        exact .inr (.inr ⟨zz, i, cp, rfl, rfl, h, hc, q _ H (Ext.refl _ _) w rfl⟩)
    · cases hz
  · cases hz
theorem px_ix (hK : X.K = g.K) (ha : PB X g W a fa) (hb : PB X g W b fb) (hs : PlainIx b) : PP X g W (.Subscript a b pos) (e2 dIx fa fb) :=
  PE.weak (pe_ix (by rw [← hK]; exact ix_seq) ha hb hs) fun σ H Q h => rd2 st_ix σ H Q h
abbrev OF := Env → M (Option Int)
def FinO (g : Gb) (W : WX) (c : Addr) (σ : L2.St) (H : Hp) (r : R (Option Int)) (Q : Option Int → Hp → Prop) : Prop := match r with
  | .ok b s => ∀ H', Ext c H H' → Wd g c H' s → Q b H'
  | .err k p s => ∀ dd H', Ext c H H' → Wd g c H' s → ErrRep g k p dd H' → W (g.cl k) dd σ H'
  | .stuck => False
def rdo (g : Gb) (W : WX) (f : OF) : TO := fun σ H Q => ∃ c H0 env s, ER g c H0 σ H env ∧ Wd g c H s ∧ FinO g W c σ H (f env s) Q
abbrev POx (X : Cx) (g : Gb) (W : WX) (e : Option Expr) (f : OF) : Prop := PO X e (rdo g W f)
theorem PO.weak {X : Cx} {e : Option Expr} {t t' : TO} (h : PO X e t) (w : ∀ σ H Q, t' σ H Q → t σ H Q) : PO X e t' := ⟨fun pins s σ H Q I q => h.run pins s σ H Q I (w σ H Q q)⟩
def oNone : OF := fun _ => M.pure none
def oSome (f : EF) : OF := fun env => (f env).bind fun d => match d with
  | .int i => M.pure (some i)
  | _ => fun _ => .stuck
theorem pox_none : POx X g W none oNone := PO.weak po_none fun σ H Q ⟨c, H0, env, s, er, w, q⟩ => q H (Ext.refl _ _) w
theorem pox_some (h : PP X g W e f) : POx X g W (some e) (oSome f) := PO.weak (po_some h) fun σ H Q ⟨c, H0, env, s, er, w, q⟩ => by
  refine ⟨c, H0, env, s, er, w, ?_⟩
  have q : FinO g W c σ H ((f env s).bind fun d s => (match d with | .int i => M.pure (some i) | _ => fun _ => .stuck : M (Option Int)) s) Q := q
  revert q
  cases f env s with
  | ok d s1 =>
    intro q v H1 x1 w1 r1
    cases d with
    | int i => exact ⟨i, r1, q H1 x1 w1⟩
    | _ => exact (show False from q).elim
  | err k p s1 => exact id
  | stuck => exact id
theorem FinO.bind {c : Addr} {σ : L2.St} {H : Hp} {m : R (Option Int)} {k : Option Int → S → R D} {Q : VK} {Q1 : Option Int → Hp → Prop} [GoodRL Rl] (h : Fin g W Rl c σ H (m.bind k) Q)
    (st : ∀ d s H1, m = .ok d s → Ext c H H1 → Wd g c H1 s → Fin g W Rl c σ H1 (k d s) Q → Q1 d H1) : FinO g W c σ H m Q1 := by
  cases m with
  | ok d s =>
    intro H1 e1 w1
    refine st d s H1 rfl e1 w1 ?_
    have h' : Fin g W Rl c σ H (k d s) Q := h
    revert h'
    cases k d s with
    | ok d2 s2 => exact fun h' v2 H2 e2 w2 r2 => h' v2 H2 (e1.trans e2) w2 (GoodRL.base e1 r2)
    | err kk p s2 => exact fun h' dd H2 e2 w2 r2 => h' dd H2 (e1.trans e2) w2 r2
    | stuck => exact id
  | err k p s => exact h
  | stuck => exact h
def cutD {α : Type} (xs : List α) (lo hi : Option Int) : List α := (xs.drop (HT.sIx xs.length 0 lo)).take (HT.sIx xs.length xs.length hi - HT.sIx xs.length 0 lo)
def dSl (d : D) (lo hi : Option Int) : Option D := match d with
  | .tup l => some (.tup (cutD l lo hi))
  | .lst l => some (.lst (cutD l lo hi))
  | .str z => if z.length ≤ sizeLine then some (.str (cutS z lo hi)) else none
  | _ => none
def eSl (fa : EF) (lo hi : OF) : EF := fun env => (fa env).bind fun d => (lo env).bind fun l => (hi env).bind fun h => M.opt (dSl d l h)
def rSlAll (K : PySem.W.Frag) : V → Option Int → Option Int → Hp → VK → Prop := fun x lo hi H Q => rSlA K x lo hi H Q ∨ rSlL K x lo hi H Q ∨ (∃ z, x = .str z ∧ z.length ≤ sizeLine ∧ Q (.str (cutS z lo hi)) H)
theorem Reps.cut {c : Addr} {H : Hp} {ds : List D} {vs : List V} (r : Reps g c H ds vs) (lo hi : Option Int) : Reps g c H (cutD ds lo hi) (cutV vs lo hi) := by
  unfold cutD cutV
  rw [r.length]
  exact (r.drop _).take _
theorem cut_all {c : Addr} {H : Hp} {ds : List D} {vs : List V} (r : Reps g c H ds vs) {lo hi : Option Int} (h1 : HT.sIx vs.length 0 lo = 0) (h2 : HT.sIx vs.length vs.length hi = vs.length) : cutD ds lo hi = ds := by
  unfold cutD
  rw [← r.length, h1, h2, List.drop_zero, Nat.sub_zero, r.length, List.take_length]
theorem st_sl {c : Addr} {Hs H : Hp} {s : S} {d z : D} {lo hi : Option Int} {x : V} {Q : VK} (w : Wd g c H s) (rx : RB g c Hs H d x) (hz : dSl d lo hi = some z)
    (q : ∀ v H', Ext c H H' → Wd g c H' s → RZ g c H H' z v → Q v H') : rSlAll g.K x lo hi H Q := by
  unfold dSl at hz
  split at hz
  · cases hz
    obtain ⟨p, vs, rfl, h1, r1⟩ := rx.tup
    refine .inl ⟨p, vs, rfl, h1, fun ⟨a1, a2⟩ => ?_, fun _ => newTup w (r1.cut lo hi) fun v H' x w' r => q v H' x w' (.inl r)⟩
    rw [cut_all r1 a1 a2] at q
    exact q _ H (Ext.refl _ _) w (.inl ⟨p, vs, rfl, h1, r1⟩)
  · cases hz
    obtain ⟨p, vs, rfl, h1, r1⟩ := rx.lst
    exact .inr (.inl ⟨p, vs, rfl, .inl h1, newLst w (r1.cut lo hi) fun v H' x w' r => q v H' x w' (.inr r)⟩)
  · split at hz
    · rename_i zz h
      cases hz
      have := rx.str; subst x
      exact .inr (.inr ⟨zz, rfl, h, q _ H (Ext.refl _ _) w (.inl rfl)⟩)
    · cases hz
  · cases hz
theorem px_sl {lo hi : Option Expr} {fl fh : OF} {p2 : Pos} (hK : X.K = g.K) (ha : PB X g W a fa) (hl : POx X g W lo fl) (hh : POx X g W hi fh) : PP X g W (.Subscript a (.Slice lo hi none p2) pos) (eSl fa fl fh) :=
  PP.frz (PE.weak (pe_slice (r := rSlAll g.K) (by rw [← hK]; exact sl_tupA.or (sl_list.or sl_str)) ha hl hh) fun σ H Q ⟨c, H0, env, s, er, w, q⟩ => by
    have q : Fin g W RZ c σ H ((fa env s).bind fun d s => (fl env s).bind fun l s => (fh env s).bind fun h s => M.opt (dSl d l h) s) Q := by
      revert q
      show Fin g W RZ c σ H ((fa env s).bind _) Q → _
      exact id
    refine ⟨c, H0, env, s, er, w, Fin.bind (α := D) q fun d s1 v H1 _ x1 w1 r1 q1 => ?_⟩
    refine ⟨c, H0, env, s1, er.extH w x1, w1, FinO.bind (Rl := RZ) q1 fun l s2 H2 _ x2 w2 q2 => ?_⟩
    have er2 := (er.extH w x1).extH w1 x2
    refine ⟨c, H0, env, s2, er2, w2, FinO.bind (Rl := RZ) q2 fun h s3 H3 _ x3 w3 q3 => ?_⟩
    cases hz : dSl d l h with
    | none => rw [hz] at q3; exact q3.elim
    | some z =>
      rw [hz] at q3
      exact st_sl w3 ((r1.ext w1 x2).ext w2 x3) hz q3)
/-! ### calls of built-ins -/
def eN (φ : List D → Option D) (fs : AF) : EF := fun env => (fs env).bind fun ds => M.opt (φ ds)
theorem rdN [GoodRL Rl] {r : List V → Hp → VK → Prop} {φ : List D → Option D} (st : StepN g Rl r φ) (σ : L2.St) (H : Hp) (Q : VK) (h : rdm g W Rl (eN φ fs) σ H Q) : rda g W RB fs σ H (fun x H1 => r x H1 Q) := by
  obtain ⟨c, H0, env, s, er, w, q⟩ := h
  refine ⟨c, H0, env, s, er, w, FinA.bindE2 (Rl := Rl) (Rl1 := RB) q fun ds s1 vs H1 _ x1 w1 hl r1 q1 => ?_⟩
  cases hz : φ ds with
  | none => rw [hz] at q1; exact q1.elim
  | some z => rw [hz] at q1; exact st c H H1 s1 ds z vs Q w1 hl r1 hz q1
theorem px_callB [GoodRL Rl] {x : Str} {id : String} {r : List V → Hp → VK → Prop} {φ : List D → Option D} {p : Pos} (hc : CallR X (.builtin id) r) (st : StepN g Rl r φ) (hg : Gl X x) (hm : X.mg x = none) (hv : bootBuiltins x = some (.builtin id))
    (ha : PAx RB X g W (e :: es) fs) (hn : x ≠ "__name__" := by decide) (hdb : (x == ("__debug__" : Str)) = false := by decide)
    (he : starEach (e :: es) X.env = (false, eval e X.env) :: starEach es X.env := by rfl) (hpl : (backTo pos (starEach es X.env)).any (·.1) = false := by rfl) : PX Rl X g W (.Call (.Name x p) (e :: es) [] pos) (eN φ fs) :=
  PE.weak (pe_callB hc hg hm hv ha hn hdb he hpl) fun σ H Q h => rdN st σ H Q h
theorem px_callTy [GoodRL Rl] {x : Str} {T : String} {r : List V → Hp → VK → Prop} {φ : List D → Option D} {p : Pos} (hc : CallR X (.type T) r) (st : StepN g Rl r φ) (hg : Gl X x) (hm : X.mg x = none) (hv : bootBuiltins x = some (.type T))
    (ha : PAx RB X g W (e :: es) fs) (hn : x ≠ "__name__" := by decide) (hdb : (x == ("__debug__" : Str)) = false := by decide)
    (he : starEach (e :: es) X.env = (false, eval e X.env) :: starEach es X.env := by rfl) (hpl : (backTo pos (starEach es X.env)).any (·.1) = false := by rfl) : PX Rl X g W (.Call (.Name x p) (e :: es) [] pos) (eN φ fs) :=
  PE.weak (pe_callTy hc hg hm hv ha hn hdb he hpl) fun σ H Q h => rdN st σ H Q h
theorem px_callF [GoodRL Rl] {x : Str} {id : String} {r : List V → Hp → VK → Prop} {φ : List D → Option D} {p : Pos} (hc : CallR X (.builtin id) r) (st : StepN g Rl r φ) (hg : Gl X x) (hm : X.mg x = some (.builtin id))
    (ha : PAx RB X g W (e :: es) fs) (hdb : (x == ("__debug__" : Str)) = false := by decide)
    (he : starEach (e :: es) X.env = (false, eval e X.env) :: starEach es X.env := by rfl) (hpl : (backTo pos (starEach es X.env)).any (·.1) = false := by rfl) : PX Rl X g W (.Call (.Name x p) (e :: es) [] pos) (eN φ fs) :=
  PE.weak (pe_callBfun hc hg hm ha hdb he hpl) fun σ H Q h => rdN st σ H Q h
/-- one argument -/
theorem one_arg {ds : List D} {xs : List V} {d : D} (hl : xs.length = ds.length) (h : ds = [d]) : ∃ x, xs = [x] := by
  subst h
  match xs, hl with
  | [x], _ => exact ⟨x, rfl⟩
def n1 (φ : D → Option D) (ds : List D) : Option D := match ds with
  | [d] => φ d
  | _ => none
theorem st_n1 {r : List V → Hp → VK → Prop} {φ : D → Option D} (st : Step1 g Rl (fun x H Q => r [x] H Q) φ) : StepN g Rl r (n1 φ) := by
  intro c Hs H s ds z xs Q w hl rx hz q
  match ds, xs, hl, hz, rx with
  | [d], [x], _, hz, rx => exact st c Hs H s d z x Q w (rx 0 d x rfl rfl) hz q
def n2 (φ : D → D → Option D) (ds : List D) : Option D := match ds with
  | [d, e] => φ d e
  | _ => none
theorem st_n2 {r : List V → Hp → VK → Prop} {φ : D → D → Option D} (st : Step2 g Rl (fun x y H Q => r [x, y] H Q) φ) : StepN g Rl r (n2 φ) := by
  intro c Hs H s ds z xs Q w hl rx hz q
  match ds, xs, hl, hz, rx with
  | [d, e], [x, y], _, hz, rx => exact st c Hs Hs H s d e z x y Q w (rx 0 d x rfl rfl) (rx 1 e y rfl rfl) hz q
def dAbs (d : D) : Option D := match d with
  | .int i => some (.int (if i < 0 then -i else i))
  | _ => none
theorem st_abs : Step1 g RP (fun x H Q => ∃ i, [x] = [V.int i] ∧ Q (.int (if i < 0 then -i else i)) H) dAbs := by
  intro c Hs H s d z x Q w rx hz q
  unfold dAbs at hz
  split at hz
  · cases hz
    have := rx.int; subst x
    exact ⟨_, rfl, q _ H (Ext.refl _ _) w rfl⟩
  · cases hz
theorem px_abs {p : Pos} (hg : Gl X "abs") (hm : X.mg "abs" = none) (ha : PAx RB X g W [a] fs) (he : starEach [a] X.env = (false, eval a X.env) :: starEach [] X.env := by rfl) : PP X g W (.Call (.Name "abs" p) [a] [] pos) (eN (n1 dAbs) fs) :=
  px_callB call_abs (st_n1 st_abs) hg hm boot_abs ha (he := he)
def dInt (d : D) : Option D := match d with
  | .int i => some (.int i)
  | .bl k => some (.int (if k then 1 else 0))
  | _ => none
theorem st_int : Step1 g RP (fun x H Q => (∃ i, [x] = [V.int i] ∧ Q (.int i) H) ∨ ∃ k, [x] = [V.bl k] ∧ Q (.int (if k then 1 else 0)) H) dInt := by
  intro c Hs H s d z x Q w rx hz q
  unfold dInt at hz
  split at hz
  · cases hz
    have := rx.int; subst x
    exact .inl ⟨_, rfl, q _ H (Ext.refl _ _) w rfl⟩
  · cases hz
    have := rx.bl; subst x
    exact .inr ⟨_, rfl, q _ H (Ext.refl _ _) w rfl⟩
  · cases hz
theorem px_intc {p : Pos} (hg : Gl X "int") (hm : X.mg "int" = none) (ha : PAx RB X g W [a] fs) (he : starEach [a] X.env = (false, eval a X.env) :: starEach [] X.env := by rfl) : PP X g W (.Call (.Name "int" p) [a] [] pos) (eN (n1 dInt) fs) :=
  px_callTy call_int1 (st_n1 st_int) hg hm boot_int ha (he := he)
def dLen (d : D) : Option D := match d with
  | .tup l => some (.int l.length)
  | .lst l => some (.int l.length)
  | .str z => if z.length ≤ sizeLine then some (.int z.length) else none
  | _ => none
theorem st_len : Step1 g RP (fun x H Q => ∃ y n, [x] = [y] ∧ LenV g.K y H n ∧ Q (.int n) H) dLen := by
  intro c Hs H s d z x Q w rx hz q
  unfold dLen at hz
  split at hz
  · cases hz
    obtain ⟨p, vs, rfl, h1, r1⟩ := rx.tup
    exact ⟨_, _, rfl, .inr ⟨vs, h1, rfl⟩, q _ H (Ext.refl _ _) w (by show V.int _ = V.int _; rw [r1.length])⟩
  · cases hz
    obtain ⟨p, vs, rfl, h1, r1⟩ := rx.lst
    exact ⟨_, _, rfl, .inl ⟨vs, .inl h1, rfl⟩, q _ H (Ext.refl _ _) w (by show V.int _ = V.int _; rw [r1.length])⟩
  · split at hz
    · rename_i zz h
      cases hz
      have := rx.str; subst x
      exact ⟨_, _, rfl, ⟨h, rfl⟩, q _ H (Ext.refl _ _) w rfl⟩
    · cases hz
  · cases hz
theorem px_len {p : Pos} (hK : X.K = g.K) (hg : Gl X "len") (hm : X.mg "len" = none) (ha : PAx RB X g W [a] fs) (he : starEach [a] X.env = (false, eval a X.env) :: starEach [] X.env := by rfl) : PP X g W (.Call (.Name "len" p) [a] [] pos) (eN (n1 dLen) fs) :=
  px_callB (r := fun xs H Q => ∃ y n, xs = [y] ∧ LenV g.K y H n ∧ Q (.int n) H) (by rw [← hK]; exact call_len) (st_n1 st_len) hg hm boot_len ha (he := he)
/-! ### lists of one kind -/
def asInts : List D → Option (List Int)
  | [] => some []
  | .int i :: r => (asInts r).map (i :: ·)
  | _ :: _ => none
def asBls : List D → Option (List Bool)
  | [] => some []
  | .bl i :: r => (asBls r).map (i :: ·)
  | _ :: _ => none
def asStrs : List D → Option (List Str)
  | [] => some []
  | .str i :: r => (asStrs r).map (i :: ·)
  | _ :: _ => none
theorem Reps.ints {c : Addr} {H : Hp} : ∀ {ds : List D} {vs : List V} {ns : List Int}, Reps g c H ds vs → asInts ds = some ns → vs = ns.map V.int
  | [], _, _, h, e => by cases h; cases e; rfl
  | .int i :: r, _, _, ⟨v, t, e1, h, ht⟩, e => by
    subst e1
    cases hr : asInts r with
    | none => simp [asInts, hr] at e
    | some ns =>
      simp [asInts, hr] at e
      subst e
      cases h
      rw [Reps.ints ht hr]; rfl
  | .non :: _, _, _, _, e => by cases e
  | .bl _ :: _, _, _, _, e => by cases e
  | .str _ :: _, _, _, _, e => by cases e
  | .tup _ :: _, _, _, _, e => by cases e
  | .lst _ :: _, _, _, _, e => by cases e
  | .dic _ _ :: _, _, _, _, e => by cases e
  | .fn _ :: _, _, _, _, e => by cases e
  | .cup :: _, _, _, _, e => by cases e
theorem Reps.bls {c : Addr} {H : Hp} : ∀ {ds : List D} {vs : List V} {ns : List Bool}, Reps g c H ds vs → asBls ds = some ns → vs = ns.map V.bl
  | [], _, _, h, e => by cases h; cases e; rfl
  | .bl i :: r, _, _, ⟨v, t, e1, h, ht⟩, e => by
    subst e1
    cases hr : asBls r with
    | none => simp [asBls, hr] at e
    | some ns =>
      simp [asBls, hr] at e
      subst e
      cases h
      rw [Reps.bls ht hr]; rfl
  | .non :: _, _, _, _, e => by cases e
  | .int _ :: _, _, _, _, e => by cases e
  | .str _ :: _, _, _, _, e => by cases e
  | .tup _ :: _, _, _, _, e => by cases e
  | .lst _ :: _, _, _, _, e => by cases e
  | .dic _ _ :: _, _, _, _, e => by cases e
  | .fn _ :: _, _, _, _, e => by cases e
  | .cup :: _, _, _, _, e => by cases e
theorem Reps.strs {c : Addr} {H : Hp} : ∀ {ds : List D} {vs : List V} {ns : List Str}, Reps g c H ds vs → asStrs ds = some ns → vs = ns.map V.str
  | [], _, _, h, e => by cases h; cases e; rfl
  | .str i :: r, _, _, ⟨v, t, e1, h, ht⟩, e => by
    subst e1
    cases hr : asStrs r with
    | none => simp [asStrs, hr] at e
    | some ns =>
      simp [asStrs, hr] at e
      subst e
      cases h
      rw [Reps.strs ht hr]; rfl
  | .non :: _, _, _, _, e => by cases e
  | .int _ :: _, _, _, _, e => by cases e
  | .bl _ :: _, _, _, _, e => by cases e
  | .tup _ :: _, _, _, _, e => by cases e
  | .lst _ :: _, _, _, _, e => by cases e
  | .dic _ _ :: _, _, _, _, e => by cases e
  | .fn _ :: _, _, _, _, e => by cases e
  | .cup :: _, _, _, _, e => by cases e
def dSum (d : D) : Option D := match d with
  | .lst l => (asInts l).map fun ns => .int ns.sum
  | _ => none
def dAll (d : D) : Option D := match d with
  | .lst l => (asBls l).map fun ns => .bl (ns.all id)
  | _ => none
def dAny (d : D) : Option D := match d with
  | .lst l => (asBls l).map fun ns => .bl (ns.any id)
  | _ => none
theorem st_sum : Step1 g RP (fun x H Q => rSum g.K [x] H Q) dSum := by
  intro c Hs H s d z x Q w rx hz q
  unfold dSum at hz
  split at hz
  · rename_i l
    cases hn : asInts l with
    | none => rw [hn] at hz; cases hz
    | some ns =>
      rw [hn] at hz
      cases hz
      obtain ⟨p, vs, rfl, h1, r1⟩ := rx.lst
      have := r1.ints hn; subst vs
      exact ⟨p, ns, rfl, .inl h1, q _ H (Ext.refl _ _) w rfl⟩
  · cases hz
theorem st_all : Step1 g RP (fun x H Q => rAll g.K [x] H Q) dAll := by
  intro c Hs H s d z x Q w rx hz q
  unfold dAll at hz
  split at hz
  · rename_i l
    cases hn : asBls l with
    | none => rw [hn] at hz; cases hz
    | some ns =>
      rw [hn] at hz
      cases hz
      obtain ⟨p, vs, rfl, h1, r1⟩ := rx.lst
      have := r1.bls hn; subst vs
      exact ⟨p, ns, rfl, .inl h1, q _ H (Ext.refl _ _) w rfl⟩
  · cases hz
theorem st_any : Step1 g RP (fun x H Q => rAny g.K [x] H Q) dAny := by
  intro c Hs H s d z x Q w rx hz q
  unfold dAny at hz
  split at hz
  · rename_i l
    cases hn : asBls l with
    | none => rw [hn] at hz; cases hz
    | some ns =>
      rw [hn] at hz
      cases hz
      obtain ⟨p, vs, rfl, h1, r1⟩ := rx.lst
      have := r1.bls hn; subst vs
      exact ⟨p, ns, rfl, .inl h1, q _ H (Ext.refl _ _) w rfl⟩
  · cases hz
theorem px_sum {p : Pos} (hK : X.K = g.K) (hc : X.calm = true) (hg : Gl X "sum") (hm : X.mg "sum" = none) (ha : PAx RB X g W [a] fs) (he : starEach [a] X.env = (false, eval a X.env) :: starEach [] X.env := by rfl) : PP X g W (.Call (.Name "sum" p) [a] [] pos) (eN (n1 dSum) fs) :=
  px_callB (r := rSum g.K) (by rw [← hK]; exact cr_sum hc) (st_n1 st_sum) hg hm boot_sum ha (he := he)
theorem px_all {p : Pos} (hK : X.K = g.K) (hc : X.calm = true) (hg : Gl X "all") (hm : X.mg "all" = none) (ha : PAx RB X g W [a] fs) (he : starEach [a] X.env = (false, eval a X.env) :: starEach [] X.env := by rfl) : PP X g W (.Call (.Name "all" p) [a] [] pos) (eN (n1 dAll) fs) :=
  px_callB (r := rAll g.K) (by rw [← hK]; exact cr_all hc) (st_n1 st_all) hg hm boot_all ha (he := he)
theorem px_any {p : Pos} (hK : X.K = g.K) (hc : X.calm = true) (hg : Gl X "any") (hm : X.mg "any" = none) (ha : PAx RB X g W [a] fs) (he : starEach [a] X.env = (false, eval a X.env) :: starEach [] X.env := by rfl) : PP X g W (.Call (.Name "any" p) [a] [] pos) (eN (n1 dAny) fs) :=
  px_callB (r := rAny g.K) (by rw [← hK]; exact cr_any hc) (st_n1 st_any) hg hm boot_any ha (he := he)
/-! ### list(x), tuple(x) -/
def dList (d : D) : Option D := match d with
  | .tup l => some (.lst l)
  | .lst l => some (.lst l)
  | _ => none
def dTuple (d : D) : Option D := match d with
  | .tup l => some (.tup l)
  | .lst l => some (.tup l)
  | _ => none
theorem st_list : Step1 g RF (fun x H Q => ∃ p ys, [x] = [V.ref p] ∧ (SqL g.K H p ys ∨ SqT g.K H p ys) ∧ ∀ l, H l = none → Q (.ref l) (upd H l (.lst ys))) dList := by
  intro c Hs H s d z x Q w rx hz q
  unfold dList at hz
  split at hz
  · cases hz
    obtain ⟨p, vs, rfl, h1, r1⟩ := rx.tup
    exact ⟨p, vs, rfl, .inr h1, newLst w r1 q⟩
  · cases hz
    obtain ⟨p, vs, rfl, h1, r1⟩ := rx.lst
    exact ⟨p, vs, rfl, .inl (.inl h1), newLst w r1 q⟩
  · cases hz
theorem st_tuple : Step1 g RP (fun x H Q => ∃ p ys, [x] = [V.ref p] ∧ ((SqL g.K H p ys ∧ ∀ l, H l = none → Q (.ref l) (upd H l (.tup ys))) ∨ (SqT g.K H p ys ∧ Q (.ref p) H))) dTuple := by
  intro c Hs H s d z x Q w rx hz q
  unfold dTuple at hz
  split at hz
  · cases hz
    obtain ⟨p, vs, rfl, h1, r1⟩ := rx.tup
    exact ⟨p, vs, rfl, .inr ⟨h1, q _ H (Ext.refl _ _) w ⟨p, vs, rfl, h1, r1⟩⟩⟩
  · cases hz
    obtain ⟨p, vs, rfl, h1, r1⟩ := rx.lst
    exact ⟨p, vs, rfl, .inl ⟨.inl h1, newTup w r1 q⟩⟩
  · cases hz
theorem px_listc {p : Pos} (hK : X.K = g.K) (hg : Gl X "list") (hm : X.mg "list" = none) (ha : PAx RB X g W [a] fs) (he : starEach [a] X.env = (false, eval a X.env) :: starEach [] X.env := by rfl) : PF X g W (.Call (.Name "list" p) [a] [] pos) (eN (n1 dList) fs) :=
  px_callTy (r := fun xs H Q => ∃ p ys, xs = [V.ref p] ∧ (SqL g.K H p ys ∨ SqT g.K H p ys) ∧ ∀ l, H l = none → Q (.ref l) (upd H l (.lst ys))) (by rw [← hK]; exact call_list_of) (st_n1 st_list) hg hm boot_list ha (he := he)
theorem px_tuplec {p : Pos} (hK : X.K = g.K) (hg : Gl X "tuple") (hm : X.mg "tuple" = none) (ha : PAx RB X g W [a] fs) (he : starEach [a] X.env = (false, eval a X.env) :: starEach [] X.env := by rfl) : PP X g W (.Call (.Name "tuple" p) [a] [] pos) (eN (n1 dTuple) fs) :=
  px_callTy (r := fun xs H Q => ∃ p ys, xs = [V.ref p] ∧ ((SqL g.K H p ys ∧ ∀ l, H l = none → Q (.ref l) (upd H l (.tup ys))) ∨ (SqT g.K H p ys ∧ Q (.ref p) H))) (by rw [← hK]; exact call_tuple_of) (st_n1 st_tuple) hg hm boot_tuple ha (he := he)
/-! ### math.gcd -/
def dGcd (d e : D) : Option D := match d, e with
  | .int i, .int j => some (.int ((Nat.gcd i.natAbs j.natAbs : Nat) : Int))
  | _, _ => none
theorem st_gcd : Step2 g RP (fun x y H Q => rGcd [x, y] H Q) dGcd := by
  intro c Hs Hs' H s d e z x y Q w rx ry hz q
  unfold dGcd at hz
  split at hz
  · cases hz
    have := rx.int; have := ry.int; subst x; subst y
    exact ⟨_, _, rfl, q _ H (Ext.refl _ _) w rfl⟩
  · cases hz
theorem px_gcd {p : Pos} (hg : Gl X "gcd") (hm : X.mg "gcd" = some (.builtin "math.gcd")) (ha : PAx RB X g W [a, b] fs) (he : starEach [a, b] X.env = (false, eval a X.env) :: starEach [b] X.env := by rfl) (hpl : (backTo pos (starEach [b] X.env)).any (·.1) = false := by rfl) : PP X g W (.Call (.Name "gcd" p) [a, b] [] pos) (eN (n2 dGcd) fs) :=
  px_callF cr_gcd (st_n2 st_gcd) hg hm ha (he := he) (hpl := hpl)
/-! ### isinstance(x, T) -/
def dIsi (T : String) (d : D) : Option D := match d with
  | .non => some (.bl false)
  | .bl _ => some (.bl (T == "bool" || T == "int"))
  | .int _ => some (.bl (T == "int"))
  | .str _ => some (.bl (T == "str"))
  | .tup _ => some (.bl (T == "tuple"))
  | .lst _ => some (.bl (T == "list"))
  | _ => none
def okT (T : String) : Bool := T == "int" || T == "bool" || T == "str" || T == "tuple" || T == "list"
end
end PL
namespace PL
open PySem PySem.Spec PyProof.Rows L2
section
variable {g : Gb} {W : WX} {X : Cx} {Rl : RL} {e a b cc : Expr} {es : List Expr} {fa fb fc f : EF} {pos : Pos} {fs : AF}
/-! ### isinstance -/
def tyN (d : D) : Option String := match d with
  | .non => some "NoneType"
  | .bl _ => some "bool"
  | .int _ => some "int"
  | .str _ => some "str"
  | .tup _ => some "tuple"
  | .lst _ => some "list"
  | _ => none
theorem RB.ty {c : Addr} {Hs H : Hp} {d : D} {x : V} {n : String} (r : RB g c Hs H d x) (h : tyN d = some n) : TyX g.K H x (.type n) := by
  cases d with
  | non => cases h; rw [r.non]; exact .base .non
  | bl b => cases h; rw [r.bl]; exact .base (.bl b)
  | int b => cases h; rw [r.int]; exact .base (.int b)
  | str b => cases h; rw [r.str]; exact .base (.str b)
  | tup l =>
    cases h
    obtain ⟨p, vs, rfl, h1, _⟩ := r.tup
    rcases h1 with (h1 | ⟨o, h1⟩) | ⟨o, its, m, h1, h2, _⟩
    · exact .base (.tup h1)
    · exact .fTuple h1
    · exact .kTuple h1 h2
  | lst l =>
    cases h
    obtain ⟨p, vs, rfl, h1, _⟩ := r.lst
    rcases h1 with h1 | ⟨o, h1⟩
    · exact .base (.lst h1)
    · exact .base (.frz h1)
  | _ => cases h
theorem isi_tab : ∀ T ∈ ["int", "bool", "str", "tuple", "list"], ∀ n ∈ ["NoneType", "bool", "int", "str", "tuple", "list"], kitB n T = some (n == T || (n == "bool" && T == "int")) := by decide +kernel
theorem st_isi {T : String} (hT : T ∈ ["int", "bool", "str", "tuple", "list"]) : Step1 g RP (fun x H Q => rIsi g.K [x, .ty T] H Q) (dIsi T) := by
  intro c Hs H s d z x Q w rx hz q
  have go : ∀ (n : String), tyN d = some n → n ∈ ["NoneType", "bool", "int", "str", "tuple", "list"] → z = .bl (n == T || (n == "bool" && T == "int")) → rIsi g.K [x, .ty T] H Q := fun n h1 h2 h3 => by
    refine ⟨x, .ty T, .type n, .type T, _, rfl, .ty T, rx.ty h1, kit_ty (isi_tab T hT n h2), q _ H (Ext.refl _ _) w ?_⟩
    rw [h3]; rfl
  have key : ∀ m : String, m ∈ ["int", "bool", "str", "tuple", "list"] → ∀ n ∈ ["NoneType", "bool", "int", "str", "tuple", "list"], True := fun _ _ _ _ => trivial
  simp only [List.mem_cons, List.mem_nil_iff, or_false] at hT
  cases d with
  | non => cases hz; refine go "NoneType" rfl (by simp) ?_; rcases hT with rfl | rfl | rfl | rfl | rfl <;> rfl
  | bl b => cases hz; refine go "bool" rfl (by simp) ?_; rcases hT with rfl | rfl | rfl | rfl | rfl <;> rfl
  | int b => cases hz; refine go "int" rfl (by simp) ?_; rcases hT with rfl | rfl | rfl | rfl | rfl <;> rfl
  | str b => cases hz; refine go "str" rfl (by simp) ?_; rcases hT with rfl | rfl | rfl | rfl | rfl <;> rfl
  | tup l => cases hz; refine go "tuple" rfl (by simp) ?_; rcases hT with rfl | rfl | rfl | rfl | rfl <;> rfl
  | lst l => cases hz; refine go "list" rfl (by simp) ?_; rcases hT with rfl | rfl | rfl | rfl | rfl <;> rfl
  | _ => cases hz
theorem px_isi {T : String} {Tn : Str} {p p2 : Pos} (hT : T ∈ ["int", "bool", "str", "tuple", "list"]) (hK : X.K = g.K) (hg : Gl X "isinstance") (hm : X.mg "isinstance" = none) (hg2 : Gl X Tn) (hm2 : X.mg Tn = none) (hv2 : bootBuiltins Tn = some (.type T)) (ha : PB X g W a fa)
    (hn2 : Tn ≠ "__name__" := by decide) (hdb2 : (Tn == ("__debug__" : Str)) = false := by decide)
    (hs : starEach [a, .Name Tn p2] X.env = (false, eval a X.env) :: starEach [.Name Tn p2] X.env := by rfl) (hs2 : starEach [.Name Tn p2] X.env = (false, eval (.Name Tn p2) X.env) :: starEach [] X.env := by rfl)
    (hpl : (backTo pos (starEach [.Name Tn p2] X.env)).any (·.1) = false := by rfl) :
    PP X g W (.Call (.Name "isinstance" p) [a, .Name Tn p2] [] pos) (e1 (dIsi T) fa) :=
  PE.weak (pe_callB (r := rIsi g.K) (by rw [← hK]; exact call_isi) hg hm boot_isinstance (pa_cons ha (pa_cons (pe_bltn hg2 hm2 hv2 (show RelV (.ty T) _ from rfl) hn2 hdb2) pa_nil hs2) hs) (he := hs) (hpl := hpl))
    fun σ H Q h => rd1 (st_isi hT) σ H Q h

/-! ### what is walked -/
structure Wk (g : Gb) (c : Addr) (J : It) (ds : List D) (H1 : Hp) (Kp : Hp → Hp → Prop) : Prop where
  go : ∀ i H, Kp H1 H → i < ds.length → J.go i H
  yld : ∀ i x H H' s, Kp H1 H → Wd g c H s → J.yld i H x H' → i < ds.length → Ext c H H' ∧ Wd g c H' s ∧ ∃ d, ds[i]? = some d ∧ Rep g c H' d x
  stop : ∀ H, Kp H1 H → J.stop ds.length H
def FinI (g : Gb) (W : WX) (Kp : Addr → Hp → Hp → Prop) (c : Addr) (σ : L2.St) (H : Hp) (r : R (List D)) (Q : It → Hp → Prop) : Prop := match r with
  | .ok ds s => ∀ J H', Ext c H H' → Wd g c H' s → Wk g c J ds H' (Kp c) → Q J H'
  | .err k p s => ∀ dd H', Ext c H H' → Wd g c H' s → ErrRep g k p dd H' → W (g.cl k) dd σ H'
  | .stuck => False
def rdi (g : Gb) (W : WX) (Kp : Addr → Hp → Hp → Prop) (f : AF) : TI := fun σ H Q => ∃ c H0 env s, ER g c H0 σ H env ∧ Wd g c H s ∧ FinI g W Kp c σ H (f env s) Q
abbrev KM : Addr → Hp → Hp → Prop := fun _ => MonoH
abbrev KX : Addr → Hp → Hp → Prop := Ext
theorem PI.weak {tg iter : Expr} {t t' : TI} (h : PI X tg iter t) (w : ∀ σ H Q, t' σ H Q → t σ H Q) : PI X tg iter t' := ⟨fun pins s σ H Q I q => h.run pins s σ H Q I (w σ H Q q)⟩
theorem wk_tup {c p : Addr} {H : Hp} {vs : List V} {l : List D} {Kp : Hp → Hp → Prop} (hk : ∀ H', Kp H H' → ∀ s, Wd g c H' s → MonoH H H') (hk2 : ∀ H', Kp H H' → SqT g.K H' p vs) (r : Reps g c H l vs) : Wk g c (Itt g.K p) l H Kp where
  go := fun i H' k h => by
    have : i < vs.length := by rw [r.length]; exact h
    exact ⟨vs, vs[i], hk2 H' k, List.getElem?_eq_getElem this⟩
  yld := fun i x H' H2 s k w ⟨e, y⟩ h => by
    subst e
    have q := y vs (hk2 _ k)
    obtain ⟨d, hd, rd⟩ := r.getV q
    exact ⟨Ext.refl _ _, w, d, hd, rd.mono (hk _ k s w)⟩
  stop := fun H' k => ⟨vs, hk2 H' k, by rw [r.length]; exact Nat.le_refl _⟩
theorem wk_lst {c p : Addr} {H : Hp} {vs : List V} {l : List D} {Kp : Hp → Hp → Prop} (hk : ∀ H', Kp H H' → ∀ s, Wd g c H' s → MonoH H H') (hk2 : ∀ H', Kp H H' → SqL g.K H' p vs) (r : Reps g c H l vs) : Wk g c (Itl g.K p) l H Kp where
  go := fun i H' k h => by
    have : i < vs.length := by rw [r.length]; exact h
    exact ⟨vs, vs[i], hk2 H' k, List.getElem?_eq_getElem this⟩
  yld := fun i x H' H2 s k w ⟨e, y⟩ h => by
    subst e
    have q := y vs (hk2 _ k)
    obtain ⟨d, hd, rd⟩ := r.getV q
    exact ⟨Ext.refl _ _, w, d, hd, rd.mono (hk _ k s w)⟩
  stop := fun H' k => ⟨vs, hk2 H' k, by rw [r.length]; exact Nat.le_refl _⟩
/-- the items of a list, of a tuple -/
def iLst (f : EF) : AF := fun env => (f env).bind fun d => match d with
  | .lst l => M.pure l
  | _ => fun _ => .stuck
def iTup' (f : EF) : AF := fun env => (f env).bind fun d => match d with
  | .tup l => M.pure l
  | _ => fun _ => .stuck
theorem FinI.bind {Kp : Addr → Hp → Hp → Prop} {c : Addr} {σ : L2.St} {H : Hp} {m : R D} {k : D → S → R (List D)} {Q : It → Hp → Prop} {Q1 : VK} {Rl1 : RL} (h : FinI g W Kp c σ H (m.bind k) Q)
    (st : ∀ d s v H1, m = .ok d s → Ext c H H1 → Wd g c H1 s → Rl1 g c H H1 d v → FinI g W Kp c σ H1 (k d s) Q → Q1 v H1) : Fin g W Rl1 c σ H m Q1 := by
  cases m with
  | ok d s =>
    intro v H1 e1 w1 r1
    refine st d s v H1 rfl e1 w1 r1 ?_
    have h' : FinI g W Kp c σ H (k d s) Q := h
    revert h'
    cases k d s with
    | ok d2 s2 => exact fun h' v2 H2 e2 w2 r2 => h' v2 H2 (e1.trans e2) w2 r2
    | err kk p s2 => exact fun h' dd H2 e2 w2 r2 => h' dd H2 (e1.trans e2) w2 r2
    | stuck => exact id
  | err k p s => exact h
  | stuck => exact h
theorem pix_tup {tg : Expr} (hK : X.K = g.K) (h : PP X g W e f) : PI X tg e (rdi g W KM (iTup' f)) := PI.weak (pi_tup h) fun σ H Q ⟨c, H0, env, s, er, w, q⟩ => by
  refine ⟨c, H0, env, s, er, w, FinI.bind (Rl1 := RP) q fun d s1 v H1 _ x1 w1 r1 q1 => ?_⟩
  cases d with
  | tup l =>
    obtain ⟨p, vs, rfl, h1, r⟩ := r1
    exact ⟨p, rfl, ⟨vs, by rw [hK]; exact h1⟩, by rw [hK]; exact q1 _ H1 (Ext.refl _ _) w1 (wk_tup (fun _ k _ _ => k) (fun _ k => SqT.monoH k h1) r)⟩
  | _ => exact (show False from q1).elim
theorem pix_lst {tg : Expr} (hK : X.K = g.K) (h : PP X g W e f) : PI X tg e (rdi g W KM (iLst f)) := PI.weak (pi_list h) fun σ H Q ⟨c, H0, env, s, er, w, q⟩ => by
  refine ⟨c, H0, env, s, er, w, FinI.bind (Rl1 := RP) q fun d s1 v H1 _ x1 w1 r1 q1 => ?_⟩
  cases d with
  | lst l =>
    obtain ⟨p, vs, rfl, h1, r⟩ := r1
    exact ⟨p, rfl, ⟨vs, .inl h1.rd⟩, by rw [hK]; exact q1 _ H1 (Ext.refl _ _) w1 (wk_lst (fun _ k _ _ => k) (fun _ k => .inl (FL.mono k h1).rd) r)⟩
  | _ => exact (show False from q1).elim
/-- either -/
def iSeq (f : EF) : AF := fun env => (f env).bind fun d => match d with
  | .lst l => M.pure l
  | .tup l => M.pure l
  | _ => fun _ => .stuck
def seqTI (K : PySem.W.Frag) (tl : TE) : TI := fun σ H R => tl σ H fun x H1 => (∃ a, x = .ref a ∧ (∃ xs, SqL K H1 a xs) ∧ R (Itl K a) H1) ∨ ∃ a, x = .ref a ∧ (∃ xs, SqT K H1 a xs) ∧ R (Itt K a) H1
theorem pi_seq {tg : Expr} {l : Expr} {tl : TE} (hl : PE X l tl) : PI X tg l (seqTI X.K tl) := by
  refine ⟨fun pins s σ H R I h => ?_⟩
  refine thn (hl.run pins s σ H _ I h) fun v s1 ⟨x, H1, I1, r1, q1⟩ => ?_
  rcases q1 with ⟨a, e, ⟨xs, hq⟩, q⟩ | ⟨a, e, ⟨xs, hq⟩, q⟩
  · subst e
    cases r1
    obtain ⟨its, rv, p, hz⟩ := I1.list hq
    refine wpAny_pyIter_list p.isList ?_
    refine ⟨s1.heap.objs.size, [s1.heap.objs.size], _, _, H1, rfl, I1.kept (t' := s1.toks) fun b o e => Heap.get?_push_of_some _ e, turn_list a _, ⟨_, Heap.get?_push_size _ rfl, rfl, rfl⟩, fun b hb => ?_, q⟩
    have e : b = s1.heap.objs.size := by simpa using hb
    subst e
    exact I1.fpOk (Nat.le_refl _) (I1.hok.fresh (Nat.le_refl _))
  · subst e
    cases r1
    obtain ⟨its, rv, p, hz⟩ := I1.tuple hq
    refine wpAny_pyIter_tuple (show s1.heap.IsTuple a its.toArray from p) ?_
    refine ⟨s1.heap.objs.size, [s1.heap.objs.size], _, _, H1, rfl, I1.kept (t' := s1.toks) fun b o e => Heap.get?_push_of_some _ e, turn_tuple a _, ⟨_, Heap.get?_push_size _ rfl, rfl, rfl⟩, fun b hb => ?_, q⟩
    have e : b = s1.heap.objs.size := by simpa using hb
    subst e
    exact I1.fpOk (Nat.le_refl _) (I1.hok.fresh (Nat.le_refl _))
theorem pix_seq {tg : Expr} (hK : X.K = g.K) (h : PP X g W e f) : PI X tg e (rdi g W KM (iSeq f)) := PI.weak (pi_seq h) fun σ H Q ⟨c, H0, env, s, er, w, q⟩ => by
  refine ⟨c, H0, env, s, er, w, FinI.bind (Rl1 := RP) q fun d s1 v H1 _ x1 w1 r1 q1 => ?_⟩
  cases d with
  | lst l =>
    obtain ⟨p, vs, rfl, h1, r⟩ := r1
    exact .inl ⟨p, rfl, ⟨vs, .inl h1.rd⟩, by rw [hK]; exact q1 _ H1 (Ext.refl _ _) w1 (wk_lst (fun _ k _ _ => k) (fun _ k => .inl (FL.mono k h1).rd) r)⟩
  | tup l =>
    obtain ⟨p, vs, rfl, h1, r⟩ := r1
    exact .inr ⟨p, rfl, ⟨vs, by rw [hK]; exact h1⟩, by rw [hK]; exact q1 _ H1 (Ext.refl _ _) w1 (wk_tup (fun _ k _ _ => k) (fun _ k => SqT.monoH k h1) r)⟩
  | _ => exact (show False from q1).elim
/-- .. in a comprehension, where nothing is changed: a list that may still change too -/
theorem pix_seqB {tg : Expr} (hK : X.K = g.K) (h : PB X g W e f) : PI X tg e (rdi g W KX (iSeq f)) := PI.weak (pi_seq h) fun σ H Q ⟨c, H0, env, s, er, w, q⟩ => by
  refine ⟨c, H0, env, s, er, w, FinI.bind (Rl1 := RB) q fun d s1 v H1 _ x1 w1 r1 q1 => ?_⟩
  cases d with
  | lst l =>
    rcases r1 with ⟨p, vs, rfl, h1, r⟩ | ⟨l', p, vs, z, rfl, n, h1, r⟩
    · exact .inl ⟨p, rfl, ⟨vs, .inl h1.rd⟩, by rw [hK]; exact q1 _ H1 (Ext.refl _ _) w1 (wk_lst (fun _ k _ _ => k.mono w1) (fun _ k => .inl (FL.mono (k.mono w1) h1).rd) r)⟩
    · cases z
      exact .inl ⟨p, rfl, ⟨vs, .inl (.inl h1)⟩, by rw [hK]; exact q1 _ H1 (Ext.refl _ _) w1 (wk_lst (fun _ k _ _ => k.mono w1) (fun _ k => .inl (.inl (k p _ n h1 (fun _ z => by cases z)))) r)⟩
  | tup l =>
    obtain ⟨p, vs, rfl, h1, r⟩ := r1.tup
    exact .inr ⟨p, rfl, ⟨vs, by rw [hK]; exact h1⟩, by rw [hK]; exact q1 _ H1 (Ext.refl _ _) w1 (wk_tup (fun _ k _ _ => k.mono w1) (fun _ k => SqT.monoH (k.mono w1) h1) r)⟩
  | _ => exact (show False from q1).elim
/-- range(n), range(a, b) -/
def rngD (lo : Int) (n : Nat) : List D := (List.range n).map fun (i : Nat) => D.int (lo + (i : Int))
theorem wk_rng {c : Addr} {H : Hp} {lo : Int} {n : Nat} {Kp : Hp → Hp → Prop} : Wk g c (Itr lo n) (rngD lo n) H Kp where
  go := fun i H' _ h => by show i < n; simpa [rngD] using h
  yld := fun i x H' H2 s _ w ⟨e, y⟩ h => by
    subst e
    have h' : i < n := by simpa [rngD] using h
    exact ⟨Ext.refl _ _, w, .int (lo + (i : Int)), by simp [rngD, h'], y⟩
  stop := fun H' _ => by show n ≤ (rngD lo n).length; simp [rngD]
def iRng1 (f : EF) : AF := fun env => (f env).bind fun d => match d with
  | .int j => if decide (-(2 ^ 62) ≤ j) && decide (j < 2 ^ 62) then M.pure (rngD 0 j.toNat) else fun _ => .stuck
  | _ => fun _ => .stuck
def iRng2 (fa fb : EF) : AF := fun env => (fa env).bind fun d => (fb env).bind fun e => match d, e with
  | .int i, .int j => if decide (-(2 ^ 62) ≤ i) && decide (i < 2 ^ 62) && decide (-(2 ^ 62) ≤ j) && decide (j < 2 ^ 62) then M.pure (rngD i (j - i).toNat) else fun _ => .stuck
  | _, _ => fun _ => .stuck
theorem pix_rng1 {tg : Expr} {Kp : Addr → Hp → Hp → Prop} {p : Pos} (hg : Gl X "range") (hm : X.mg "range" = none) (h : PP X g W a fa) (hs : starEach [a] X.env = [(false, eval a X.env)] := by rfl) : PI X tg (.Call (.Name "range" p) [a] [] pos) (rdi g W Kp (iRng1 fa)) :=
  PI.weak (pi_range1 hg hm (pa_cons h pa_nil hs) hs) fun σ H Q ⟨c, H0, env, s, er, w, q⟩ => by
    refine ⟨c, H0, env, s, er, w, FinI.bind (Rl1 := RP) q fun d s1 v H1 _ x1 w1 r1 q1 => ?_⟩
    cases d with
    | int j =>
      cases r1
      by_cases hj : (decide (-(2 ^ 62) ≤ j) && decide (j < 2 ^ 62)) = true
      · simp only [if_pos hj] at q1
        simp only [Bool.and_eq_true, decide_eq_true_eq] at hj
        exact ⟨j, rfl, hj.1, hj.2, q1 _ H1 (Ext.refl _ _) w1 wk_rng⟩
      · simp only [if_neg hj] at q1
        exact (show False from q1).elim
    | _ => exact (show False from q1).elim
theorem pix_rng2 {tg : Expr} {Kp : Addr → Hp → Hp → Prop} {p : Pos} (hg : Gl X "range") (hm : X.mg "range" = none) (ha : PP X g W a fa) (hb : PP X g W b fb) (hs : starEach [a, b] X.env = [(false, eval a X.env), (false, eval b X.env)] := by rfl) (hs2 : starEach [b] X.env = [(false, eval b X.env)] := by rfl) :
    PI X tg (.Call (.Name "range" p) [a, b] [] pos) (rdi g W Kp (iRng2 fa fb)) :=
  PI.weak (pi_range2 hg hm (pa_cons ha (pa_cons hb pa_nil hs2) (by rw [hs, hs2])) hs hs2) fun σ H Q ⟨c, H0, env, s, er, w, q⟩ => by
    refine ⟨c, H0, env, s, er, w, FinI.bind (Rl1 := RP) q fun d s1 v H1 _ x1 w1 r1 q1 => ?_⟩
    refine ⟨c, H0, env, s1, er.extH w x1, w1, FinI.bind (Rl1 := RP) q1 fun d2 s2 v2 H2 _ x2 w2 r2 q2 => ?_⟩
    cases d with
    | int i =>
      cases d2 with
      | int j =>
        cases r1
        cases r2
        by_cases hj : (decide (-(2 ^ 62) ≤ i) && decide (i < 2 ^ 62) && decide (-(2 ^ 62) ≤ j) && decide (j < 2 ^ 62)) = true
        · simp only [if_pos hj] at q2
          simp only [Bool.and_eq_true, decide_eq_true_eq] at hj
          exact ⟨i, j, rfl, ⟨hj.1.1.1, hj.1.1.2, hj.1.2, hj.2⟩, q2 _ H2 (Ext.refl _ _) w2 wk_rng⟩
        · simp only [if_neg hj] at q2
          exact (show False from q2).elim
      | _ => exact (show False from q2).elim
    | _ => exact (show False from q2).elim
theorem Wk.ofM {c : Addr} {J : It} {ds : List D} {H1 : Hp} {s : S} (w : Wd g c H1 s) (k : Wk g c J ds H1 MonoH) : Wk g c J ds H1 (Ext c) :=
  ⟨fun i H x => k.go i H (x.mono w), fun i x H H' s x1 => k.yld i x H H' s (x1.mono w), fun H x => k.stop H (x.mono w)⟩
theorem pix_KX {tg iter : Expr} {fi : AF} (h : PI X tg iter (rdi g W KM fi)) : PI X tg iter (rdi g W KX fi) := PI.weak h fun σ H Q ⟨c, H0, env, s, er, w, q⟩ => by
  refine ⟨c, H0, env, s, er, w, ?_⟩
  cases hf : fi env s with
  | ok ds s' => rw [hf] at q; exact fun J H' x w' k => q J H' x w' (k.ofM w')
  | err k p s' => rw [hf] at q; exact q
  | stuck => rw [hf] at q; exact q
end
end PL
namespace PL
open PySem PySem.Spec PyProof.Rows L2
/-! ### targets -/
abbrev BF := D → Env → Option Env
def bName (i : Nat) : BF := fun d env => some (env.set i (.p d))
def bNil : List D → Env → Option Env := fun ds env => match ds with
  | [] => some env
  | _ => none
def bCons (t : BF) (u : List D → Env → Option Env) : List D → Env → Option Env := fun ds env => match ds with
  | d :: r => (t d env).bind fun e => u r e
  | [] => none
def bTup (n : Nat) (u : List D → Env → Option Env) : BF := fun d env => match d with
  | .tup l => if l.length = n then u l env else none
  | _ => none
/-- what a target's store leaves: ts the slots that it may touch -/
def rg (g : Gb) (ts : List Nat) (bt : BF) : TG := fun v σ H Q => ∃ c H0 env s d env', ER g c H0 σ H env ∧ Wd g c H s ∧ Rep g c H d v ∧ bt d env = some env' ∧
  ∀ σ', ER g c H0 σ' H env' → (∀ vs : List Nat, (∀ i ∈ ts, i ∈ vs) → wipe σ' vs = wipe σ vs) → Q σ' H
def rgs (g : Gb) (ts : List Nat) (bt : List D → Env → Option Env) : TGs := fun vs σ H Q => ∃ c H0 env s ds env', ER g c H0 σ H env ∧ Wd g c H s ∧ Reps g c H ds vs ∧ bt ds env = some env' ∧
  ∀ σ', ER g c H0 σ' H env' → (∀ vs : List Nat, (∀ i ∈ ts, i ∈ vs) → wipe σ' vs = wipe σ vs) → Q σ' H
theorem PG.weak {X : Cx} {e : Expr} {t t' : TG} (h : PG X e t) (w : ∀ v σ H Q, t' v σ H Q → t v σ H Q) : PG X e t' := ⟨fun pins s σ H v u Q I r q => h.run pins s σ H v u Q I r (w v σ H Q q)⟩
theorem PGs.weak {X : Cx} {e : List Expr} {t t' : TGs} (h : PGs X e t) (w : ∀ v σ H Q, t' v σ H Q → t v σ H Q) : PGs X e t' := ⟨fun pins s σ H v u Q I r q => h.run pins s σ H v u Q I r (w v σ H Q q)⟩
theorem wipe_set (σ : L2.St) (i : Nat) (o : Option V) : ∀ vs : List Nat, i ∈ vs → wipe (σ.set i o) vs = wipe σ vs
  | [], h => by simp at h
  | v :: vs, h => by
    unfold wipe
    by_cases e : v = i
    · subst e
      have : ∀ ws : List Nat, (wipe (σ.set v o) ws).set v none = (wipe σ ws).set v none := by
        intro ws
        induction ws with
        | nil => unfold wipe; rw [List.set_set]
        | cons x r ih =>
          unfold wipe
          by_cases ex : x = v
          · subst ex; rw [List.set_set, List.set_set, ih]
          · rw [List.set_comm _ _ ex, ih, List.set_comm _ _ (Ne.symm ex)]
      exact this vs
    · rw [wipe_set σ i o vs (by rcases List.mem_cons.mp h with z | z; exact absurd z.symm e; exact z)]
theorem wipe_none (σ : L2.St) {v : Nat} {vs : List Nat} (hv : v ∈ vs) : (L2.wipe σ vs).set v none = L2.wipe σ vs := by
  apply List.ext_getElem?
  intro j
  generalize hw : L2.wipe σ vs = u
  by_cases e : v = j
  · subst e
    by_cases hl : v < u.length
    · rw [List.getElem?_set_self hl]
      cases hj : u[v]? with
      | none => rw [List.getElem?_eq_none_iff] at hj; omega
      | some o =>
        cases o with
        | none => rfl
        | some x => rw [← hw] at hj; exact absurd hv (wipe_some hj).2
    · rw [List.getElem?_eq_none (by simpa using hl), List.getElem?_eq_none (by simpa using hl)]
  · rw [List.getElem?_set_ne e]
theorem wipe_idem (σ : L2.St) (vs ws : List Nat) (h : ∀ i ∈ ws, i ∈ vs) : L2.wipe (L2.wipe σ vs) ws = L2.wipe σ vs := by
  induction ws with
  | nil => rfl
  | cons v ws ih =>
    rw [L2.wipe, ih fun i hi => h i (List.mem_cons_of_mem _ hi)]
    exact wipe_none σ (h v (by simp))
theorem wipe_set2 (σ : L2.St) (i : Nat) (o : Option V) (vs : List Nat) (h : i ∈ vs) : wipe (σ.set i o) vs = wipe σ vs := wipe_set σ i o vs h
section
variable {g : Gb} {W : WX} {X : Cx} {Rl : RL} {e a b cc : Expr} {es : List Expr} {fa fb fc f : EF} {pos : Pos} {fs : AF} {ts us : List Nat} {bt : BF} {bu : List D → Env → Option Env}
theorem pgx_name (i : Nat) {x : Str} (h : PG X (.Name x pos) (gName i)) : PG X (.Name x pos) (rg g [i] (bName i)) := PG.weak h fun v σ H Q ⟨c, H0, env, s, d, env', er, w, r, hb, q⟩ => by
  cases hb
  exact q _ (er.setP i r) fun vs hv => wipe_set σ i _ vs (hv i (by simp))
theorem pgx_nil : PGs X [] (rgs g [] bNil) := PGs.weak pgs_nil fun vs σ H Q ⟨c, H0, env, s, ds, env', er, w, r, hb, q⟩ => by
  cases ds with
  | nil => cases hb; cases r; exact ⟨rfl, q σ er fun _ _ => rfl⟩
  | cons _ _ => cases hb
theorem pgx_cons (h1 : PG X e (rg g ts bt)) (h2 : PGs X es (rgs g us bu)) (hs : (assignEach (e :: es) X.env).map (·.2) = assign e X.env :: (assignEach es X.env).map (·.2) := by rfl) : PGs X (e :: es) (rgs g (ts ++ us) (bCons bt bu)) :=
  PGs.weak (pgs_cons h1 h2 hs) fun vs σ H Q ⟨c, H0, env, s, ds, env', er, w, r, hb, q⟩ => by
    cases ds with
    | nil => cases hb
    | cons d ds =>
      obtain ⟨v, t, rfl, r1, r2⟩ := r
      cases h1' : bt d env with
      | none => simp [bCons, h1'] at hb
      | some e1 =>
        simp only [bCons, h1', Option.bind_some] at hb
        refine ⟨v, t, rfl, c, H0, env, s, d, e1, er, w, r1, h1', fun σ' er' hw => ⟨c, H0, e1, s, ds, env', er', w, r2, hb, fun σ2 er2 hw2 => q σ2 er2 fun vs hv => ?_⟩⟩
        rw [hw2 vs fun i hi => hv i (List.mem_append_right _ hi), hw vs fun i hi => hv i (List.mem_append_left _ hi)]
theorem pgx_tup {k n : Nat} (hK : X.K = g.K) (hc : X.calm = true) (h : PGs X es (rgs g ts bu)) (hn : (assignEach es X.env).length = n := by rfl) (hst : (assignEach es X.env).findIdx? (·.1) = none := by rfl) : PG X (.Tuple es k pos) (rg g ts (bTup n bu)) :=
  PG.weak (pg_tup hc h hn hst) fun v σ H Q ⟨c, H0, env, s, d, env', er, w, r, hb, q⟩ => by
    cases d with
    | tup l =>
      obtain ⟨p, vs, rfl, h1, r1⟩ := r
      simp only [bTup] at hb
      by_cases hl : l.length = n
      · rw [if_pos hl] at hb
        exact ⟨p, vs, rfl, by rw [hK]; exact h1, by rw [r1.length]; exact hl, c, H0, env, s, l, env', er, w, r1, hb, q⟩
      · rw [if_neg hl] at hb; cases hb
    | _ => cases hb
/-! ### comprehensions -/
def wipeE (env : Env) : List Nat → Env
  | [] => env
  | v :: vs => (wipeE env vs).set v .un
theorem ER.wipe {c : Addr} {H0 H : Hp} {σ : L2.St} {env : Env} (er : ER g c H0 σ H env) : ∀ vs : List Nat, ER g c H0 (L2.wipe σ vs) H (wipeE env vs)
  | [] => er
  | v :: vs => by
    unfold L2.wipe wipeE
    exact (ER.wipe er vs).setU v none
/-- an error counts as nothing known -/
def M.nx {α : Type} (m : M α) : M α := fun s => match m s with
  | .ok a s' => .ok a s'
  | _ => .stuck
def lcM (bt : BF) (tt : TF) (fe : EF) (env : Env) : List D → M (List D)
  | [] => M.pure []
  | d :: r => match bt d env with
    | none => fun _ => .stuck
    | some e1 => (M.nx (tt e1)).bind fun b => if b then (M.nx (fe e1)).bind fun y => (lcM bt tt fe env r).bind fun ys => M.pure (y :: ys) else lcM bt tt fe env r
def eLc (ws : List Nat) (fi : AF) (bt : BF) (tt : TF) (fe : EF) : EF := fun env => (fi env).bind fun ds => if ds.length ≤ sizeLine then (lcM bt tt fe (wipeE env ws) ds).bind fun ys => M.pure (.lst ys) else fun _ => .stuck
def tTrue : TF := fun _ => M.pure true
abbrev W0 : WX := fun _ _ _ _ => False
theorem ptx_nil : PTs X [] (rtm g W tTrue) := ⟨fun pins s σ H Q I ⟨c, H0, env, s', er, w, q⟩ => pts_nil.run pins s σ H Q I (q H (Ext.refl _ _) w)⟩
theorem ptx_one {t : TF} (h : PTx X g W e t) : PTs X [e] (rtm g W t) := pts_one h
theorem lcM_cons {bt : BF} {tt : TF} {fe : EF} {env e1 : Env} {d : D} {r : List D} (h : bt d env = some e1) : lcM bt tt fe env (d :: r) = (M.nx (tt e1)).bind fun b => if b then (M.nx (fe e1)).bind fun y => (lcM bt tt fe env r).bind fun ys => M.pure (y :: ys) else lcM bt tt fe env r := by
  rw [lcM, h]
theorem bind_ok {α β : Type} {m : M α} {f : α → M β} {s s' : S} {a : α} (h : m s = .ok a s') : (m.bind f) s = f a s' := by
  show (m s).bind _ = _
  rw [h]; rfl
theorem nx_ok {α : Type} {m : M α} {s s' : S} {a : α} (h : m s = .ok a s') : M.nx m s = .ok a s' := by
  unfold M.nx; rw [h]
theorem rd_lc {fi : AF} {tt : TF} {fe : EF} {ws : List Nat} (hts : ∀ i ∈ ts, i ∈ ws) (σ : L2.St) (H : Hp) (Q : VK) (h : rdm g W RF (eLc ws fi bt tt fe) σ H Q) :
    tLc (rdi g W KX fi) (rg g ts bt) (rtm g W0 tt) (rdm g W0 RP fe) ws σ H Q := by
    obtain ⟨c, H0, env, s, er, w, q⟩ := h
    refine ⟨c, H0, env, s, er, w, ?_⟩
    have q : Fin g W RF c σ H ((fi env s).bind fun ds s1 => (if ds.length ≤ sizeLine then (lcM bt tt fe (wipeE env (ws)) ds).bind fun ys => M.pure (.lst ys) else fun _ => .stuck : M PL.D) s1) Q := q
    revert q
    cases hfi : fi env s with
    | err k p s1 => exact id
    | stuck => exact id
    | ok ds s1 =>
      intro q J H1 x1 w1 wk Lq hD
      have q : Fin g W RF c σ H ((if ds.length ≤ sizeLine then (lcM bt tt fe (wipeE env (ws)) ds).bind fun ys => M.pure (.lst ys) else fun _ => .stuck : M PL.D) s1) Q := q
      have hz : ds.length ≤ sizeLine := by
        by_cases hz : ds.length ≤ sizeLine
        · exact hz
        · rw [if_neg hz] at q; exact q.elim
      rw [if_pos hz] at q
      have q : Fin g W RF c σ H (((lcM bt tt fe (wipeE env (ws)) ds).bind fun ys => M.pure (.lst ys)) s1) Q := q
      have nDc : Lq ≠ c := fun z => by rw [z, w1.cup] at hD; cases hD
      have er1 := er.extH w x1
      -- the invariant
      refine ⟨fun i m H2 => m = ds.length - i ∧ i ≤ ds.length ∧ Ext c H1 H2 ∧ ∃ s2 acc av, Wd g c H2 s2 ∧ H2 Lq = some (.lst av) ∧ Reps g c H2 acc av ∧ acc.length ≤ i ∧
          ((lcM bt tt fe (wipeE env (ws)) ds).bind fun ys => M.pure (D.lst ys)) s1 = ((lcM bt tt fe (wipeE env (ws)) (ds.drop i)).bind fun ys => M.pure (D.lst (acc ++ ys))) s2,
        ⟨ds.length, by simp, Nat.zero_le _, Ext.laid hD, s1, [], [], w1.laid hD, upd_same, Reps.nil, Nat.zero_le _, by simp⟩, ?_⟩
      rintro i m H2 ⟨rfl, hi, x2, s2, acc, av, w2, hD2, r2, hacc, eq⟩
      by_cases hlt : i < ds.length
      · right
        refine ⟨wk.go i H2 x2 hlt, fun H' => i + 1 ≤ ds.length ∧ Ext c H1 H' ∧ ∃ s2 acc av, Wd g c H' s2 ∧ H' Lq = some (.lst av) ∧ Reps g c H' acc av ∧ acc.length ≤ i + 1 ∧
          ((lcM bt tt fe (wipeE env (ws)) ds).bind fun ys => M.pure (D.lst ys)) s1 = ((lcM bt tt fe (wipeE env (ws)) (ds.drop (i + 1))).bind fun ys => M.pure (D.lst (acc ++ ys))) s2,
          fun H' ⟨h1, h2, h3⟩ => ⟨ds.length - (i + 1), by omega, rfl, h1, h2, h3⟩, fun x H3 y => ?_⟩
        obtain ⟨x3, w3, d, hd, rd⟩ := wk.yld i x H2 H3 s2 x2 w2 y hlt
        have hdr : ds.drop i = d :: ds.drop (i + 1) := by
          rw [List.drop_eq_getElem_cons hlt]
          rw [List.getElem?_eq_getElem hlt] at hd
          cases hd; rfl
        rw [hdr] at eq
        cases hb : bt d (wipeE env (ws)) with
        | none =>
          have : lcM bt tt fe (wipeE env (ws)) (d :: ds.drop (i + 1)) = fun _ => .stuck := by rw [lcM, hb]
          rw [this] at eq
          rw [eq] at q
          exact q.elim
        | some e1 =>
          rw [lcM_cons hb] at eq
          have erb : ER g c H0 (L2.wipe σ (ws)) H3 (wipeE env (ws)) := (er1.wipe _).extH w1 (x2.trans x3)
          refine ⟨c, H0, _, s2, d, e1, erb, w3, rd, hb, fun σ' er' hw => ⟨?_, ?_⟩⟩
          · have hw' := hw (ws) hts
            rw [hw']
            exact wipe_idem _ _ _ fun i hi => hi
          · -- the test
            refine ⟨c, H0, e1, s2, er', w3, ?_⟩
            cases ht1 : tt e1 s2 with
            | stuck =>
              have : M.nx (tt e1) s2 = .stuck := by unfold M.nx; rw [ht1]
              have eq2 := eq.trans (show _ = R.stuck by
                show ((((M.nx (tt e1)).bind _) s2).bind _) = _
                show (((M.nx (tt e1) s2).bind _).bind _) = _
                rw [this]; rfl)
              rw [eq2] at q
              exact q.elim
            | err k p s3 =>
              have : M.nx (tt e1) s2 = .stuck := by unfold M.nx; rw [ht1]
              have eq2 := eq.trans (show _ = R.stuck by
                show (((M.nx (tt e1) s2).bind _).bind _) = _
                rw [this]; rfl)
              rw [eq2] at q
              exact q.elim
            | ok bb s3 =>
              intro H4 x4 w4
              have hD4 : H4 Lq = some (.lst av) := x4 Lq _ nDc (x3 Lq _ nDc hD2 (fun _ z => by cases z)) (fun _ z => by cases z)
              have r4 : Reps g c H4 acc av := r2.mono ((x3.trans x4).mono w2)
              have x14 : Ext c H1 H4 := x2.trans (x3.trans x4)
              have eq3 : ((lcM bt tt fe (wipeE env (ws)) ds).bind fun ys => M.pure (D.lst ys)) s1 = ((if bb then (M.nx (fe e1)).bind fun y => (lcM bt tt fe (wipeE env (ws)) (ds.drop (i + 1))).bind fun ys => M.pure (y :: ys) else lcM bt tt fe (wipeE env (ws)) (ds.drop (i + 1))) s3).bind fun ys => M.pure (D.lst (acc ++ ys)) := by
                rw [eq]
                show (((M.nx (tt e1) s2).bind _).bind _) = _
                rw [nx_ok ht1]; rfl
              cases bb with
              | false =>
                refine iteF ⟨hlt, x14, s3, acc, av, w4, hD4, r4, Nat.le_succ_of_le hacc, ?_⟩
                rw [eq3]; rfl
              | true =>
                refine iteT ⟨c, H0, e1, s3, er'.extH w3 x4, w4, ?_⟩
                cases he1 : fe e1 s3 with
                | stuck =>
                  have : M.nx (fe e1) s3 = .stuck := by unfold M.nx; rw [he1]
                  have eq4 := eq3.trans (show _ = R.stuck by
                    show (((M.nx (fe e1) s3).bind _).bind _) = _
                    rw [this]; rfl)
                  rw [eq4] at q
                  exact q.elim
                | err k p s4 =>
                  have : M.nx (fe e1) s3 = .stuck := by unfold M.nx; rw [he1]
                  have eq4 := eq3.trans (show _ = R.stuck by
                    show (((M.nx (fe e1) s3).bind _).bind _) = _
                    rw [this]; rfl)
                  rw [eq4] at q
                  exact q.elim
                | ok y s4 =>
                  intro v H5 x5 w5 r5
                  have hD5 : H5 Lq = some (.lst av) := x5 Lq _ nDc hD4 (fun _ z => by cases z)
                  have hal : acc.length < sizeLine := by omega
                  refine ⟨av, hD5, by rw [(r4.mono (x5.mono w4)).length]; exact hal, hlt, ?_, s4, acc ++ [y], av ++ [v], ?_, upd_same, ?_, by simp; omega, ?_⟩
                  · intro b o nb hb' nt
                    by_cases e : b = Lq
                    · rw [e, hD] at hb'; cases hb'
                    · rw [upd_ne e]; exact x5 b o nb (x14 b o nb hb' nt) nt
                  · exact ⟨by rw [upd_ne (Ne.symm nDc)]; exact w5.cup, tabs_upd w5.tab hD5⟩
                  · exact ((r4.mono (x5.mono w4)).append (Reps.cons r5 Reps.nil)).mono (monoH_upd hD5)
                  · rw [eq3]
                    show (((M.nx (fe e1) s3).bind _).bind _) = _
                    rw [nx_ok he1]
                    show ((((lcM bt tt fe (wipeE env (ws)) (ds.drop (i + 1))) s4).bind _).bind _) = (((lcM bt tt fe (wipeE env (ws)) (ds.drop (i + 1))) s4).bind _)
                    cases (lcM bt tt fe (wipeE env (ws)) (ds.drop (i + 1))) s4 with
                    | ok ys s5 => show R.ok _ _ = R.ok _ _; simp [M.pure]
                    | err => rfl
                    | stuck => rfl
      · left
        have e : i = ds.length := by omega
        subst e
        refine ⟨wk.stop H2 x2, ?_⟩
        have eq2 : ((lcM bt tt fe (wipeE env (ws)) ds).bind fun ys => M.pure (D.lst ys)) s1 = .ok (D.lst acc) s2 := by
          rw [eq, List.drop_length]
          show R.ok _ _ = R.ok _ _
          simp [M.pure]
        rw [eq2] at q
        exact q _ H2 (x1.trans x2) w2 ⟨acc, Lq, av, rfl, rfl, nDc, Nw.back x1 nDc (.of hD), hD2, r2⟩
theorem px_lc {tg iter : Expr} {ifs : List Expr} {scope : Scope} {own : List (Str × Nat)} {fi : AF} {tt : TF} {fe : EF} (hc : X.calm = true) (hN : X.N.Nodup) (hi : PI X tg iter (rdi g W KX fi)) (ok : BlkOk X.N X.env.scope scope own)
    (hg : ∀ (s : Shared) (H : Hp) (C : Addr) (cl : List (Str × Addr)) (fp : List Addr), PG (X.blk s H scope (compEnvC scope cl C X.env) fp) tg (rg g ts bt)) (hts : ∀ i ∈ ts, i ∈ own.map (·.2))
    (ht : ∀ (s : Shared) (H : Hp) (C : Addr) (cl : List (Str × Addr)) (fp : List Addr), PTs (X.blk s H scope (compEnvC scope cl C X.env) fp) ifs (rtm g W0 tt))
    (he : ∀ (s : Shared) (H : Hp) (C : Addr) (cl : List (Str × Addr)) (fp : List Addr), PP (X.blk s H scope (compEnvC scope cl C X.env) fp) g W0 e fe) (hs : ∀ x, foldedSetIterable iter X.env x = pure x := by intro _; rfl) :
    PF X g W (.ListComp e [⟨tg, iter, ifs, 0⟩] scope pos) (eLc (own.map (·.2)) fi bt tt fe) :=
  PE.weak (pe_lc hc hN hi ok hg ht he hs) fun σ H Q h => rd_lc hts σ H Q h
/-- name = [..] on one line -/
theorem ps_setLcx {i : Nat} {y : Str} {py spos : Pos} {tg iter : Expr} {ifs : List Expr} {scope : Scope} {own : List (Str × Nat)} {fi : AF} {tt : TF} {fe : EF} (hc : X.calm = true) (hN : X.N.Nodup) (hy : X.N[i]? = some y) (hyl : X.env.scope.names.lookup y = some .local) (hi : PI X tg iter (rdi g W KX fi)) (ok : BlkOk X.N X.env.scope scope own)
    (hg : ∀ (s : Shared) (H : Hp) (C : Addr) (cl : List (Str × Addr)) (fp : List Addr), PG (X.blk s H scope (compEnvC scope cl C X.env) fp) tg (rg g ts bt)) (hts : ∀ i ∈ ts, i ∈ own.map (·.2))
    (ht : ∀ (s : Shared) (H : Hp) (C : Addr) (cl : List (Str × Addr)) (fp : List Addr), PTs (X.blk s H scope (compEnvC scope cl C X.env) fp) ifs (rtm g W0 tt))
    (he : ∀ (s : Shared) (H : Hp) (C : Addr) (cl : List (Str × Addr)) (fp : List Addr), PP (X.blk s H scope (compEnvC scope cl C X.env) fp) g W0 e fe) (hs : ∀ x, foldedSetIterable iter X.env x = pure x := by intro _; rfl) (hsw : swapsWith (.ListComp e [⟨tg, iter, ifs, 0⟩] scope pos) (some (.Name y py)) spos.line X.env = pure true := by rfl) :
    PS X (.Assign [.Name y py] (.ListComp e [⟨tg, iter, ifs, 0⟩] scope pos) spos) (tAsg (rdm g W RF (eLc (own.map (·.2)) fi bt tt fe)) (gName i)) :=
  PS.weak (ps_setLc hc hN hy hyl hsw hi ok hg ht he hs) fun D σ H h => rd_lc hts σ H _ h
end
end PL
namespace PL
open PySem PySem.Spec PyProof.Rows L2
/-! ### statements -/
section
variable (g : Gb) (W : WX)
def FinS (c : Addr) (H0 H : Hp) (r : R Fl) (D : Ends) : Prop := match r with
  | .ok (.nx env) s => ∀ σ' H', MonoH H H' → ER g c H0 σ' H' env → Wd g c H' s → D.nx σ' H'
  | .ok (.rt d) s => ∀ v H', Ext c H0 H' → Wd g c H' s → Rep g c H' d v → D.rt v H'
  | .err k p s => ∀ dd σ' H', Ext c H0 H' → Wd g c H' s → ErrRep g k p dd H' → W (g.cl k) dd σ' H'
  | .stuck => False
def rs (sf : SF) : TS := fun D σ H => ∃ c H0 env s, ER g c H0 σ H env ∧ Wd g c H s ∧ FinS g W c H0 H (sf env s) D
end
abbrev PSx (X : Cx) (g : Gb) (W : WX) (st : Stmt) (sf : SF) : Prop := PS X st (rs g W sf)
abbrev PSsx (X : Cx) (g : Gb) (W : WX) (st : List Stmt) (sf : SF) : Prop := PSs X st (rs g W sf)
/-- the wish does not look at the slots -/
def Wσ (W : WX) : Prop := ∀ k dd σ σ' H, W k dd σ H → W k dd σ' H
section
variable {g : Gb} {W : WX} {X : Cx} {Rl : RL} {e a b cc : Expr} {es : List Expr} {fa fb fc f : EF} {pos : Pos} {fs : AF} {ts us : List Nat} {bt : BF} {st : Stmt} {rest sts : List Stmt} {sf sg : SF} {t : TF}
theorem FinS.up {c : Addr} {H0 H H1 : Hp} {r : R Fl} {D : Ends} (m : MonoH H H1) (h : FinS g W c H0 H r D) : FinS g W c H0 H1 r D := by
  cases r with
  | ok fl s =>
    cases fl with
    | nx env => exact fun σ' H' m' => h σ' H' (m.trans m')
    | rt d => exact h
  | err => exact h
  | stuck => exact h
def sNil : SF := fun env => M.pure (.nx env)
def sSeq (sf sg : SF) : SF := fun env => (sf env).bind fun fl => match fl with
  | .nx e => sg e
  | .rt d => M.pure (.rt d)
theorem psx_nil : PSsx X g W [] sNil := PSs.weak pss_nil fun D σ H ⟨c, H0, env, s, er, w, q⟩ => q σ H (MonoH.refl _) er w
theorem psx_cons (h1 : PSx X g W st sf) (h2 : PSsx X g W rest sg) : PSsx X g W (st :: rest) (sSeq sf sg) := PSs.weak (pss_cons h1 h2) fun D σ H ⟨c, H0, env, s, er, w, q⟩ => by
  refine ⟨c, H0, env, s, er, w, ?_⟩
  have q : FinS g W c H0 H ((sf env s).bind fun fl s1 => (match fl with | .nx e => sg e | .rt d => M.pure (.rt d) : M Fl) s1) D := q
  revert q
  cases sf env s with
  | ok fl s1 =>
    cases fl with
    | nx e1 => exact fun q σ' H' m er' w' => ⟨c, H0, e1, s1, er', w', FinS.up m q⟩
    | rt d => exact fun q => q
  | err k p s1 => exact fun q => q
  | stuck => exact fun q => q
theorem psx_one (h1 : PSx X g W st sf) : PSsx X g W [st] sf := pss_one h1
/-- from a thing's end to a statement's -/
theorem FinS.bindE {c : Addr} {σ : L2.St} {H0 H : Hp} {s : S} {env : Env} {m : R D} {k : D → S → R Fl} {Dn : Ends} {Q1 : VK} {Rl1 : RL} (hW : Wσ W) (er : ER g c H0 σ H env) (w : Wd g c H s) (h : FinS g W c H0 H (m.bind k) Dn)
    (st : ∀ d s v H1, m = .ok d s → Ext c H H1 → Wd g c H1 s → Rl1 g c H H1 d v → FinS g W c H0 H1 (k d s) Dn → Q1 v H1) : Fin g W Rl1 c σ H m Q1 := by
  cases m with
  | ok d s1 => exact fun v H1 x1 w1 r1 => st d s1 v H1 rfl x1 w1 r1 (FinS.up (x1.mono w) h)
  | err k p s1 => exact fun dd H1 x1 w1 r1 => h dd σ H1 (er.ext.trans x1) w1 r1
  | stuck => exact h
theorem FinS.bindT {c : Addr} {σ : L2.St} {H0 H : Hp} {s : S} {env : Env} {m : R Bool} {k : Bool → S → R Fl} {Dn : Ends} {Q1 : Bool → Hp → Prop} (hW : Wσ W) (er : ER g c H0 σ H env) (w : Wd g c H s) (h : FinS g W c H0 H (m.bind k) Dn)
    (st : ∀ d s H1, m = .ok d s → Ext c H H1 → Wd g c H1 s → FinS g W c H0 H1 (k d s) Dn → Q1 d H1) : FinT g W c σ H m Q1 := by
  cases m with
  | ok d s1 => exact fun H1 x1 w1 => st d s1 H1 rfl x1 w1 (FinS.up (x1.mono w) h)
  | err k p s1 => exact fun dd H1 x1 w1 r1 => h dd σ H1 (er.ext.trans x1) w1 r1
  | stuck => exact h
def sRet (f : EF) : SF := fun env => (f env).bind fun d => M.pure (.rt d)
def sRetN : SF := fun _ => M.pure (.rt .non)
def sExp (f : EF) : SF := fun env => (f env).bind fun _ => M.pure (.nx env)
def sIf (t : TF) (sf sg : SF) : SF := fun env => (t env).bind fun b => if b then sf env else sg env
def sSet (i : Nat) (f : EF) : SF := fun env => (f env).bind fun d => M.pure (.nx (env.set i (.p d)))
def sSetF (i : Nat) (f : EF) : SF := fun env => (f env).bind fun d => match d with
  | .lst l => M.pure (.nx (env.set i (.ol l)))
  | _ => fun _ => .stuck
def sTgt (bt : BF) (f : EF) : SF := fun env => (f env).bind fun d => match bt d env with
  | some e => M.pure (.nx e)
  | none => fun _ => .stuck
theorem psx_ret (hW : Wσ W) (h : PP X g W e f) : PSx X g W (.Return (some e) pos) (sRet f) := PS.weak (ps_ret h) fun D σ H ⟨c, H0, env, s, er, w, q⟩ =>
  ⟨c, H0, env, s, er, w, FinS.bindE (Rl1 := RP) hW er w q fun d s1 v H1 _ x1 w1 r1 q1 => q1 v H1 (er.ext.trans x1) w1 r1⟩
theorem psx_retN : PSx X g W (.Return none pos) sRetN := PS.weak ps_retN fun D σ H ⟨c, H0, env, s, er, w, q⟩ => q .non H er.ext w rfl
theorem psx_pass : PSx X g W (.Pass pos) sNil := PS.weak ps_pass fun D σ H ⟨c, H0, env, s, er, w, q⟩ => q σ H (MonoH.refl _) er w
theorem psx_exp (hW : Wσ W) (h : PP X g W e f) (hs : swapsWith e none pos.line X.env = pure false := by rfl) : PSx X g W (.Expr e pos) (sExp f) := PS.weak (ps_expr h hs) fun D σ H ⟨c, H0, env, s, er, w, q⟩ =>
  ⟨c, H0, env, s, er, w, FinS.bindE (Rl1 := RP) hW er w q fun d s1 v H1 _ x1 w1 r1 q1 => q1 σ H1 (MonoH.refl _) (er.extH w x1) w1⟩
theorem psx_if {aa bb : List Stmt} (hW : Wσ W) (hc : PTx X g W cc t) (ha : PSsx X g W aa sf) (hb : PSsx X g W bb sg) : PSx X g W (.If cc aa bb pos) (sIf t sf sg) := PS.weak (ps_if hc ha hb) fun D σ H ⟨c, H0, env, s, er, w, q⟩ =>
  ⟨c, H0, env, s, er, w, FinS.bindT hW er w q fun d s1 H1 _ x1 w1 q1 => by
    cases d with
    | true => exact iteT ⟨c, H0, env, s1, er.extH w x1, w1, q1⟩
    | false => exact iteF ⟨c, H0, env, s1, er.extH w x1, w1, q1⟩⟩
/-- name = e -/
theorem psx_set {i : Nat} {x : Str} {pos' : Pos} (hW : Wσ W) (h : PS X (.Assign [.Name x pos'] e pos) (tAsg (rdm g W RP f) (gName i))) : PSx X g W (.Assign [.Name x pos'] e pos) (sSet i f) := PS.weak h fun D σ H ⟨c, H0, env, s, er, w, q⟩ =>
  ⟨c, H0, env, s, er, w, FinS.bindE (Rl1 := RP) hW er w q fun d s1 v H1 _ x1 w1 r1 q1 => q1 _ H1 (MonoH.refl _) ((er.extH w x1).setP i r1) w1⟩
/-- name = a new list, which may be changed -/
theorem psx_setF {i : Nat} {x : Str} {pos' : Pos} (hW : Wσ W) (h : PS X (.Assign [.Name x pos'] e pos) (tAsg (rdm g W RF f) (gName i))) : PSx X g W (.Assign [.Name x pos'] e pos) (sSetF i f) := PS.weak h fun D σ H ⟨c, H0, env, s, er, w, q⟩ =>
  ⟨c, H0, env, s, er, w, FinS.bindE (Rl1 := RF) hW er w q fun d s1 v H1 _ x1 w1 r1 q1 => by
    obtain ⟨l, p, vs, rfl, rfl, n, nw, hp, r⟩ := r1
    exact q1 _ H1 (MonoH.refl _) ((er.extH w x1).setO i n (Nw.back er.ext n nw) hp r fun j q2 a _ ha oa hq z => by
      subst z
      have hs := er.ok j a _ ha hq
      cases a with
      | ol l2 => obtain ⟨p2, vs2, e2, _, _, h2, _⟩ := hs; cases e2; exact nw.ne h2 rfl
      | od k v => exact hs.elim
      | _ => cases oa) w1⟩
/-- target = e, a tuple's names -/
theorem psx_tgt {tg : Expr} (hW : Wσ W) (h : PS X (.Assign [tg] e pos) (tAsg (rdm g W RP f) (rg g ts bt))) : PSx X g W (.Assign [tg] e pos) (sTgt bt f) := PS.weak h fun D σ H ⟨c, H0, env, s, er, w, q⟩ =>
  ⟨c, H0, env, s, er, w, FinS.bindE (Rl1 := RP) hW er w q fun d s1 v H1 _ x1 w1 r1 q1 => by
    cases hb : bt d env with
    | none => simp only [hb] at q1; exact q1.elim
    | some e1 =>
      simp only [hb] at q1
      exact ⟨c, H0, env, s1, d, e1, er.extH w x1, w1, r1, hb, fun σ' er' _ => q1 σ' H1 (MonoH.refl _) er' w1⟩⟩
/-- a, b = x, y -/
def sPar (i j : Nat) (fs : AF) : SF := fun env => (fs env).bind fun ds => match ds with
  | [d, e] => M.pure (.nx ((env.set i (.p d)).set j (.p e)))
  | _ => fun _ => .stuck
theorem FinS.bindA {c : Addr} {σ : L2.St} {H0 H : Hp} {s : S} {env : Env} {m : R (List D)} {k : List D → S → R Fl} {Dn : Ends} {Q1 : List V → Hp → Prop} {Rl1 : RL} (hW : Wσ W) (er : ER g c H0 σ H env) (w : Wd g c H s) (h : FinS g W c H0 H (m.bind k) Dn)
    (st : ∀ ds s vs H1, m = .ok ds s → Ext c H H1 → Wd g c H1 s → vs.length = ds.length → (∀ (i : Nat) (d : D) (v : V), ds[i]? = some d → vs[i]? = some v → Rl1 g c H H1 d v) → FinS g W c H0 H1 (k ds s) Dn → Q1 vs H1) : FinA g W Rl1 c σ H m Q1 := by
  cases m with
  | ok d s1 => exact fun v H1 x1 w1 hl r1 => st d s1 v H1 rfl x1 w1 hl r1 (FinS.up (x1.mono w) h)
  | err k p s1 => exact fun dd H1 x1 w1 r1 => h dd σ H1 (er.ext.trans x1) w1 r1
  | stuck => exact h
theorem psx_par {i j : Nat} {st : Stmt} (hW : Wσ W) (h : PS X st (tPar i j (rda g W RP fs))) : PSx X g W st (sPar i j fs) := PS.weak h fun D σ H ⟨c, H0, env, s, er, w, q⟩ =>
  ⟨c, H0, env, s, er, w, FinS.bindA (Rl1 := RP) hW er w q fun ds s1 vs H1 _ x1 w1 hl r1 q1 => by
    match ds, vs, hl, r1, q1 with
    | [d, e], [v, u], _, r1, q1 => exact ⟨v, u, rfl, q1 _ H1 (MonoH.refl _) (((er.extH w x1).setP i (r1 0 d v rfl rfl)).setP j (r1 1 e u rfl rfl)) w1⟩
    | [], _, _, _, q1 => exact (show False from q1).elim
    | [_], _, _, _, q1 => exact (show False from q1).elim
    | _ :: _ :: _ :: _, _, _, _, q1 => exact (show False from q1).elim⟩
/-! ### for -/
def forM (bt : BF) (body : SF) : List D → SF
  | [] => sNil
  | d :: r => fun env => match bt d env with
    | none => fun _ => .stuck
    | some e1 => (body e1).bind fun fl => match fl with
      | .nx e2 => forM bt body r e2
      | .rt d => M.pure (.rt d)
def sFor (fi : AF) (bt : BF) (body : SF) : SF := fun env => (fi env).bind fun ds => forM bt body ds env
theorem psx_for {tg iter : Expr} {body : List Stmt} {fi : AF} (hW : Wσ W) (hp : PassesOwn (model X.prog X.w) X.A X.env X.xe) (hc : X.calm = true) (hi : PI X tg iter (rdi g W KM fi)) (hg : PG X tg (rg g ts bt)) (hb : PSsx X g W body sf)
    (hs : ∀ x, foldedSetIterable iter X.env x = pure x := by intro _; rfl) : PSx X g W (.For tg iter body [] pos) (sFor fi bt sf) := PS.weak (ps_for hp hc hi hg hb hs) fun D σ H ⟨c, H0, env, s, er, w, q⟩ => by
  refine ⟨c, H0, env, s, er, w, ?_⟩
  have q : FinS g W c H0 H ((fi env s).bind fun ds s1 => forM bt sf ds env s1) D := q
  revert q
  cases hfi : fi env s with
  | err k p s1 => exact fun q dd H1 x1 w1 r1 => q dd σ H1 (er.ext.trans x1) w1 r1
  | stuck => exact id
  | ok ds s1 =>
    intro q J H1 x1 w1 wk
    have q : FinS g W c H0 H (forM bt sf ds env s1) D := q
    refine ⟨fun i m σ2 H2 => m = ds.length - i ∧ i ≤ ds.length ∧ MonoH H1 H2 ∧ ∃ e2 s2, ER g c H0 σ2 H2 e2 ∧ Wd g c H2 s2 ∧ FinS g W c H0 H2 (forM bt sf (ds.drop i) e2 s2) D,
      ⟨ds.length, by simp, Nat.zero_le _, MonoH.refl _, env, s1, er.extH w x1, w1, by simpa using FinS.up (x1.mono w) q⟩, ?_⟩
    rintro i m σ2 H2 ⟨rfl, hi, m2, e2, s2, er2, w2, q2⟩
    by_cases hlt : i < ds.length
    · right
      refine ⟨wk.go i H2 m2 hlt, fun σ' H' => i + 1 ≤ ds.length ∧ MonoH H1 H' ∧ ∃ e2 s2, ER g c H0 σ' H' e2 ∧ Wd g c H' s2 ∧ FinS g W c H0 H' (forM bt sf (ds.drop (i + 1)) e2 s2) D,
        fun σ' H' ⟨h1, h2, h3⟩ => ⟨ds.length - (i + 1), by omega, rfl, h1, h2, h3⟩, fun x H3 y => ?_⟩
      obtain ⟨x3, w3, d, hd, rd⟩ := wk.yld i x H2 H3 s2 m2 w2 y hlt
      have hdr : ds.drop i = d :: ds.drop (i + 1) := by
        rw [List.drop_eq_getElem_cons hlt]
        rw [List.getElem?_eq_getElem hlt] at hd
        cases hd; rfl
      rw [hdr] at q2
      have q2 : FinS g W c H0 H2 ((match bt d e2 with
        | none => fun _ => .stuck
        | some e1 => (sf e1).bind fun fl => match fl with
          | .nx e2 => forM bt sf (ds.drop (i + 1)) e2
          | .rt d => M.pure (.rt d) : M Fl) s2) D := q2
      cases hb : bt d e2 with
      | none => rw [hb] at q2; exact q2.elim
      | some e3 =>
        rw [hb] at q2
        have m23 := x3.mono w2
        refine ⟨c, H0, e2, s2, d, e3, er2.extH w2 x3, w3, rd, hb, fun σ3 er3 _ => ⟨c, H0, e3, s2, er3, w3, ?_⟩⟩
        have q3 : FinS g W c H0 H2 ((sf e3 s2).bind fun fl s => (match fl with
          | .nx e2 => forM bt sf (ds.drop (i + 1)) e2
          | .rt d => M.pure (.rt d) : M Fl) s) D := q2
        revert q3
        cases sf e3 s2 with
        | ok fl s4 =>
          cases fl with
          | nx e4 => exact fun q3 σ4 H4 m4 er4 w4 => ⟨hlt, m2.trans (m23.trans m4), e4, s4, er4, w4, FinS.up (m23.trans m4) q3⟩
          | rt d => exact fun q3 => q3
        | err k p s4 => exact fun q3 => q3
        | stuck => exact fun q3 => q3
    · left
      have e : i = ds.length := by omega
      subst e
      rw [List.drop_length] at q2
      exact ⟨wk.stop H2 m2, q2 σ2 H2 (MonoH.refl _) er2 w2⟩
/-! ### raise -/
def sRaise (k : Nat) : SF := fun _ s => .err k .non s
theorem psx_raise {k : Nat} {C : Addr} {tk : Takes X W} (hcl : g.cl k = .ref C) (h : PS X st (fun _ σ H => W (.ref C) none σ H)) : PSx X g W st (sRaise k) := PS.weak h fun D σ H ⟨c, H0, env, s, er, w, q⟩ => by
  rw [← hcl]
  exact q none σ H er.ext w rfl
/-! ### a local list is changed -/
def sApp (i : Nat) (f : EF) : SF := fun env => match env[i]? with
  | some (.ol l) => (f env).bind fun d => if l.length < sizeLine then M.pure (.nx (env.set i (.ol (l ++ [d])))) else fun _ => .stuck
  | _ => fun _ => .stuck
/-- the list in slot i becomes another one -/
theorem ER.chg {c : Addr} {H0 H : Hp} {σ : L2.St} {env : Env} {s : S} (er : ER g c H0 σ H env) (w : Wd g c H s) {i : Nat} {l l' : List D} {p : Addr} {vs vs' : List V} (hi : env[i]? = some (.ol l)) (hs : σ[i]? = some (some (.ref p))) (hp : H p = some (.lst vs)) (nc : p ≠ c)
    (n0 : Nw H0 p) (r : Reps g c H l' vs') : ER g c H0 σ (upd H p (.lst vs')) (env.set i (.ol l')) ∧ Wd g c (upd H p (.lst vs')) s := by
  have mo : MonoH H (upd H p (.lst vs')) := monoH_upd hp
  refine ⟨⟨by rw [List.length_set]; exact er.len, fun j sl o ha hb => ?_, fun j k a b q hjk ha hb oa ob hq => ?_, fun b o nb hb nt => ?_⟩, ⟨by rw [upd_ne (Ne.symm nc)]; exact w.cup, tabs_upd w.tab hp⟩⟩
  · by_cases e : i = j
    · subst e
      obtain ⟨hl, _⟩ := List.getElem?_eq_some_iff.mp hi
      rw [List.getElem?_set_self hl] at ha
      cases ha
      rw [hs] at hb
      cases hb
      exact ⟨p, vs', rfl, nc, n0, upd_same, r.mono mo⟩
    · rw [List.getElem?_set_ne e] at ha
      have h := er.ok j sl o ha hb
      cases sl with
      | un => trivial
      | p d => obtain ⟨v, q, r⟩ := h; exact ⟨v, q, r.mono mo⟩
      | ol l2 =>
        obtain ⟨p2, vs2, q, n2, n02, h2, r2⟩ := h
        have : p2 ≠ p := fun z => by
          subst z
          exact er.dis i j _ _ p2 e hi ha rfl rfl hs (by rw [hb, q])
        exact ⟨p2, vs2, q, n2, n02, by rw [upd_ne this]; exact h2, r2.mono mo⟩
      | od k v => exact h
  · have gt : ∀ (j : Nat) (a : Sl), (env.set i (.ol l'))[j]? = some a → a.own = true → ∃ a' : Sl, env[j]? = some a' ∧ a'.own = true := fun j a ha oa => by
      by_cases e : i = j
      · subst e; exact ⟨_, hi, rfl⟩
      · rw [List.getElem?_set_ne e] at ha; exact ⟨a, ha, oa⟩
    obtain ⟨a', ha', oa'⟩ := gt j a ha oa
    obtain ⟨b', hb', ob'⟩ := gt k b hb ob
    exact er.dis j k a' b' q hjk ha' hb' oa' ob' hq
  · have h1 := er.ext b o nb hb nt
    rw [upd_ne (fun z => by subst z; obtain ⟨ps, z⟩ := n0 _ hb; exact nt ps z)]
    exact h1
theorem psx_app {i : Nat} {o : Expr} {pos1 pos2 : Pos} (hW : Wσ W) (ho : PE X o (tVar i)) (h : PP X g W e f) (hs : swapsWith (.Call (.Attribute o "append" pos1) [e] [] pos2) none pos.line X.env = pure false := by rfl)
    (hbase : attributeBase o "append" X.env (eval o X.env) = eval o X.env := by rfl)
    (hfew : ((backTo pos2 (starEach [e] X.env)).all (fun x => !x.1) && (backToKw pos2 (keywordEach [] X.env)).all (fun x => x.1.isSome)
      && decide (([e] : List Expr).length + ([] : List Keyword).length + (if ([] : List Keyword).isEmpty then 0 else 1) < 30)) = true := by rfl)
    (hline : (pos1.endLine == pos2.line) = true := by rfl) (hse : starEach [e] X.env = (false, eval e X.env) :: starEach [] X.env := by rfl) :
    PSx X g W (.Expr (.Call (.Attribute o "append" pos1) [e] [] pos2) pos) (sApp i f) :=
  PS.weak (ps_expr (pe_bm PySem.F.plainAttrs_list PySem.F.slot_list_append PySem.F.type_list_append mt_append ho (pa_cons h pa_nil hse) hbase hfew hline hse rfl) hs) fun D σ H ⟨c, H0, env, s, er, w, q⟩ => by
    have q : FinS g W c H0 H ((match env[i]? with
      | some (.ol l) => (f env).bind fun d => if l.length < sizeLine then M.pure (.nx (env.set i (.ol (l ++ [d])))) else fun _ => .stuck
      | _ => fun _ => .stuck : M Fl) s) D := q
    cases hi : env[i]? with
    | none => rw [hi] at q; exact q.elim
    | some sl =>
      cases sl with
      | ol l =>
        rw [hi] at q
        obtain ⟨p, vs, hsl, nc, n0, hp, r⟩ := er.ol hi
        refine ⟨.ref p, hsl, .inl ⟨rfl, vs, SqL.of hp⟩, c, H0, env, s, er, w, FinS.bindE (Rl1 := RP) hW er w q fun d s1 v H1 _ x1 w1 r1 q1 => ?_⟩
        have hp1 : H1 p = some (.lst vs) := x1 p _ nc hp (fun _ z => by cases z)
        by_cases hz : l.length < sizeLine
        · simp only [if_pos hz] at q1
          have r' : Reps g c H1 l vs := r.mono (x1.mono w)
          obtain ⟨er2, w2⟩ := (er.extH w x1).chg w1 hi hsl hp1 nc n0 (r'.append (Reps.cons r1 Reps.nil))
          exact ⟨p, vs, v, rfl, rfl, hp1, by rw [r'.length]; exact hz, q1 _ _ (monoH_upd hp1) er2 w2⟩
        · simp only [if_neg hz] at q1
          exact q1.elim
      | _ => rw [hi] at q; exact q.elim
end
end PL
namespace PL
open PySem PySem.Spec PyProof.Rows L2
/-! ### defs -/
def FinF (g : Gb) (c : Addr) (H : Hp) (r : R D) (Q : VK) (E : XK) : Prop := match r with
  | .ok d s => ∀ v H', Ext c H H' → Wd g c H' s → Rep g c H' d v → Q v H'
  | .err k p s => ∀ dd H', Ext c H H' → Wd g c H' s → ErrRep g k p dd H' → E (g.cl k) dd H'
  | .stuck => False
def spP (g : Gb) (n : Nat) (F : List D → M D) : Sp := fun vs H Q E => vs.length = n ∧ ∃ c ds s, Wd g c H s ∧ Reps g c H ds vs ∧ FinF g c H (F ds s) Q E
/-- a def's body, from its arguments -/
def runF (n N : Nat) (sf : SF) : List D → M D := fun ds => if ds.length = n then (sf (ds.map Sl.p ++ List.replicate (N - n) .un)).bind fun fl => match fl with
  | .nx _ => M.pure .non
  | .rt d => M.pure d
  else fun _ => .stuck
/-- a def at f, n parameters, that does F -/
structure Df (P : Program) (w : World) (mg : Str → Option Value) (base : Heap) (g : Gb) (k : Nat) (f : Addr) (n : Nat) (F : List D → M D) : Prop where
  len : ∀ ds s, F ds s ≠ .stuck → ds.length = n
  ex : ∃ fd ps, FnOk P w g.K mg base (L2N.CX P w) k f fd ps (spP g n F) ∧ PySem.W.keepIn g.K (.ref f) = true ∧ Binds g.K fd ps []
theorem Df.mono {P : Program} {w : World} {mg : Str → Option Value} {base : Heap} {g : Gb} {j k : Nat} {f : Addr} {n : Nat} {F : List D → M D} (h : Df P w mg base g j f n F) (hjk : j ≤ k) : Df P w mg base g k f n F :=
  let ⟨fd, ps, h1, h2, h3⟩ := h.ex; ⟨h.len, fd, ps, h1.mono hjk, h2, h3⟩
theorem er_start {g : Gb} {c : Addr} {H : Hp} {s : S} {ds : List D} {vs : List V} {N : List Str} {n : Nat} (r : Reps g c H ds vs) (hn : ds.length = n) (hN : n ≤ N.length) :
    ER g c H (L2.start N vs) H (ds.map Sl.p ++ List.replicate (N.length - n) .un) := by
  have hv := r.length
  unfold L2.start
  rw [hv, hn]
  refine ⟨by simp [hv, hn], fun i sl o a b => ?_, fun i j a b p hij ha hb oa ob => ?_, Ext.refl _ _⟩
  · by_cases hi : i < ds.length
    · rw [List.getElem?_append_left (by simpa using hi)] at a
      rw [List.getElem?_append_left (by simpa [hv] using hi)] at b
      rw [List.getElem?_map] at a b
      cases hd : ds[i]? with
      | none => rw [hd] at a; cases a
      | some d =>
        obtain ⟨v, h1, h2⟩ := r.get hd
        rw [hd] at a
        rw [h1] at b
        cases a; cases b
        exact ⟨v, rfl, h2⟩
    · rw [List.getElem?_append_right (by simpa using hi), List.getElem?_replicate] at a
      split at a
      · cases a; trivial
      · cases a
  · by_cases hi : i < ds.length
    · rw [List.getElem?_append_left (by simpa using hi), List.getElem?_map] at ha
      cases hd : ds[i]? with
      | none => rw [hd] at ha; cases ha
      | some d => rw [hd] at ha; cases ha; cases oa
    · rw [List.getElem?_append_right (by simpa using hi), List.getElem?_replicate] at ha
      split at ha
      · cases ha; cases oa
      · cases ha
abbrev WF (E : XK) : WX := fun cls dd _ H => E cls dd H
theorem WF.σ (E : XK) : Wσ (WF E) := fun _ _ _ _ _ h => h
section
variable {P : Program} {w : World} {mg : Str → Option Value} {base : Heap} {g : Gb}
theorem Df.of {x qual : Str} {params : Arguments} {body : List Stmt} {scope : Scope} {f : Addr} {fd : FuncData} {N ps : List Str} {k : Nat} {sf : SF} (F : FunD g.K x qual params body scope [] [] f fd) (S : FnScope N ps scope) (hN : ps.length ≤ N.length) (hb : Binds g.K fd ps [])
    (hbody : ∀ (cdv : Value) (A : Around) (outer : List PySem.Env) (s : Shared) (H : Hp) (E : XK), Room k (A.deeper (envOfC qual scope s.heap.objs.size f cdv)) → PSsx (cxOf (L2N.CX P w) P w g.K mg base N qual scope f cdv A outer s H E) g (WF E) body sf) :
    Df P w mg base g (k + 1) f ps.length (runF ps.length N.length sf) := by
  refine ⟨fun ds s h => by
    unfold runF at h
    by_cases hn : ds.length = ps.length
    · exact hn
    · rw [if_neg hn] at h; exact absurd rfl h, fd, ps, FunD.ok F S (fun vs H Q E h => h.1) (fun cdv A outer s H vs Q E hr h => ⟨_, hbody cdv A outer s H E hr, ?_⟩), F.kp, hb⟩
  obtain ⟨hl, c, ds, s1, w, r, q⟩ := h
  have hn : ds.length = ps.length := by rw [← r.length]; exact hl
  refine ⟨c, H, _, s1, er_start (s := s1) r hn hN, w, ?_⟩
  unfold runF at q
  rw [if_pos hn] at q
  have q : FinF g c H ((sf (ds.map Sl.p ++ List.replicate (N.length - ps.length) .un) s1).bind fun fl s => (match fl with | .nx _ => M.pure .non | .rt d => M.pure d : M D) s) Q E := q
  revert q
  cases sf (ds.map Sl.p ++ List.replicate (N.length - ps.length) .un) s1 with
  | ok fl s2 =>
    cases fl with
    | nx e => exact fun q σ' H' _ er' w' => q .non H' er'.ext w' rfl
    | rt d => exact fun q v H' x w' r' => q v H' x w' r'
  | err kk p s2 => exact fun q dd σ' H' x w' r' => q dd H' x w' r'
  | stuck => exact fun q => q
end
section
variable {g : Gb} {W : WX} {X : Cx} {Rl : RL} {e a b cc : Expr} {es : List Expr} {fa fb fc f : EF} {pos p : Pos} {fs : AF} {k n : Nat} {x : Str} {F : List D → M D} {fad : Addr}
def eCall (F : List D → M D) (fs : AF) : EF := fun env => (fs env).bind fun ds => F ds
theorem FinF.fin {c : Addr} {H H1 : Hp} {σ : L2.St} {s : S} {r : R D} {Q : VK} (hx : Ext c H H1) (h : Fin g W RP c σ H r Q) : FinF g c H1 r Q (fun cls dd H => W cls dd σ H) := by
  cases r with
  | ok d s => exact fun v H' x w r => h v H' (hx.trans x) w r
  | err k p s => exact fun dd H' x w r => h dd H' (hx.trans x) w r
  | stuck => exact h
theorem px_call (G : Df X.prog X.w X.mg X.base g k fad n F) (hK : X.K = g.K) (hr : Room k X.A) (hg : Gl X x) (hm : X.mg x = some (.ref fad)) (tk : L2N.Takes X W) (ha : PAx RP X g W (e :: es) fs)
    (hdb : (x == ("__debug__" : Str)) = false := by decide) (he : starEach (e :: es) X.env = (false, eval e X.env) :: starEach es X.env := by rfl) (hpl : (backTo pos (starEach es X.env)).any (·.1) = false := by rfl) :
    PP X g W (.Call (.Name x p) (e :: es) [] pos) (eCall F fs) := by
  obtain ⟨fd, ps, h1, h2, h3⟩ := G.ex
  refine PE.weak (pe_callS (E := fun σ cls dd H => W cls dd σ H) (by rw [hK]; exact h1) hr hg hm (by rw [hK]; exact h2) (by rw [hK]; exact h3) (fun σ => L2N.passAt tk σ) ha hdb he hpl) fun σ H Q ⟨c, H0, env, s, er, w, q⟩ => ?_
  have q : Fin g W RP c σ H ((fs env s).bind fun ds s1 => F ds s1) Q := q
  refine ⟨c, H0, env, s, er, w, ?_⟩
  cases hf : fs env s with
  | ok ds s1 =>
    rw [hf] at q
    intro vs H1 x1 w1 hl r1
    have q : Fin g W RP c σ H (F ds s1) Q := q
    exact ⟨by rw [hl]; exact G.len ds s1 (fun z => by rw [z] at q; exact q), c, ds, s1, w1, reps_of hl r1, FinF.fin (s := s1) x1 q⟩
  | err k p s1 => rw [hf] at q; exact q
  | stuck => rw [hf] at q; exact q
end
end PL
namespace PL
open PySem PySem.Spec PyProof.Rows L2
section
variable {g : Gb} {W : WX} {X : Cx} {Rl : RL} {e a b cc : Expr} {es : List Expr} {fa fb fc f : EF} {pos p : Pos} {fs : AF} {k n : Nat} {x : Str} {F : List D → M D} {fad : Addr} {sts : List Stmt} {sf : SF} {ts : List Nat} {bt : BF}
/-! ### a def without parameters -/
theorem px_call0 (G : Df X.prog X.w X.mg X.base g k fad n F) (hK : X.K = g.K) (hr : Room k X.A) (hg : Gl X x) (hm : X.mg x = some (.ref fad)) (tk : L2N.Takes X W) (hdb : (x == ("__debug__" : Str)) = false := by decide) :
    PP X g W (.Call (.Name x p) [] [] pos) (eCall F aNil) := by
  obtain ⟨fd, ps, h1, h2, h3⟩ := G.ex
  refine ⟨fun pins s σ H Q I ⟨c, H0, env, s0, er, w, q⟩ => ?_⟩
  refine wpAny_Call_Name_kw (ld_glob I hg hm ?_ hdb)
  refine PySem.W.callWith_K0 I.kIn (by rw [hK]; exact h2) (run_fnS (us := []) (vs := []) (E := fun σ cls dd H => W cls dd σ H) (by rw [hK]; exact h1) hr (by rw [hK]; exact h3) (L2N.passAt tk σ) I .nil ?_)
  have q : Fin g W RP c σ H (F [] s0) Q := q
  exact ⟨(G.len [] s0 (fun z => by rw [z] at q; exact q)).symm ▸ rfl, c, [], s0, w, Reps.nil, FinF.fin (s := s0) (Ext.refl _ _) q⟩
/-! ### the cup -/
def eCup (i : Nat) (k : Int) : EF := fun env s => match env[i]? with
  | some (.p .cup) => if k = 0 then .ok (.int s.1) s else if k = 1 then .ok (.int s.2) s else .stuck
  | _ => .stuck
theorem px_cup {i : Nat} {k : Int} {o b : Expr} (hK : X.K = g.K) (ho : PE X o (tVar i)) (hb : PE X b (tC (.int k))) (hs : PlainIx b) : PP X g W (.Subscript o b pos) (eCup i k) :=
  PE.weak (pe_ix ix_list ho hb hs) fun σ H Q ⟨c, H0, env, s, er, w, q⟩ => by
    cases he : env[i]? with
    | none => simp [eCup, he, Fin] at q
    | some sl =>
      cases sl with
      | p d =>
        cases d with
        | cup =>
          obtain ⟨v, hv, r⟩ := er.pv he
          cases r
          simp only [eCup, he] at q
          refine ⟨_, hv, c, [.int s.1, .int s.2], k, ?_⟩
          by_cases h0 : k = 0
          · subst h0
            rw [if_pos rfl] at q
            exact ⟨_, rfl, rfl, .inl (.inl w.cup), rfl, q _ H (Ext.refl _ _) w rfl⟩
          · rw [if_neg h0] at q
            by_cases h1 : k = 1
            · subst h1
              rw [if_pos rfl] at q
              exact ⟨_, rfl, rfl, .inl (.inl w.cup), rfl, q _ H (Ext.refl _ _) w rfl⟩
            · rw [if_neg h1] at q; exact q.elim
        | _ => simp [eCup, he, Fin] at q
      | _ => simp [eCup, he, Fin] at q
def sCup (i : Nat) (k : Int) (f : EF) : SF := fun env => match env[i]? with
  | some (.p .cup) => (f env).bind fun d => match d with
    | .int v => fun s => if k = 0 then .ok (.nx env) (v, s.2) else if k = 1 then .ok (.nx env) (s.1, v) else .stuck
    | _ => fun _ => .stuck
  | _ => fun _ => .stuck
theorem wd_cup {c : Addr} {H : Hp} {s : S} {x y : Int} (w : Wd g c H s) : Wd g c (upd H c (.lst [.int x, .int y])) (x, y) := ⟨upd_same, tabs_upd w.tab w.cup⟩
theorem ext_cup {c : Addr} {H : Hp} {o : HO} : Ext c H (upd H c o) := fun b u nb h _ => by rw [upd_ne nb]; exact h
theorem psx_cup {i : Nat} {k : Int} {o b : Expr} {tpos : Pos} (hW : Wσ W) (ho : PE X o (tVar i)) (hb : PE X b (tC (.int k))) (h : PP X g W e f)
    (ha : ∀ v, assign (.Subscript o b tpos) X.env v = (do
      let ov ← holding [v] (eval o X.env)
      let iv ← holding [v, ov] (eval b X.env)
      standAt tpos
      holding [v, ov, iv] (setItem ov iv v)
      release [v, ov, iv] []) := by intro _; rfl)
    (hs : swapsWithSole [.Subscript o b tpos] e pos.line X.env = pure false := by rfl) (hw : swappedStores [.Subscript o b tpos] e X.env = pure none := by rfl)
    (h1 : (assignEach [.Subscript o b tpos] X.env).map (·.2) = [assign (.Subscript o b tpos) X.env] := by rfl) :
    PSx X g W (.Assign [.Subscript o b tpos] e pos) (sCup i k f) :=
  PS.weak (ps_asg h (pg_sub ho hb set_list ha) hs hw h1) fun Dn σ H ⟨c, H0, env, s, er, w, q⟩ => by
    refine ⟨c, H0, env, s, er, w, ?_⟩
    have q : FinS g W c H0 H ((match env[i]? with
      | some (.p .cup) => (f env).bind fun d => match d with
        | .int v => fun s => if k = 0 then .ok (.nx env) (v, s.2) else if k = 1 then .ok (.nx env) (s.1, v) else .stuck
        | _ => fun _ => .stuck
      | _ => fun _ => .stuck : M Fl) s) Dn := q
    cases he : env[i]? with
    | none => rw [he] at q; exact q.elim
    | some sl =>
      cases sl with
      | p d =>
        cases d with
        | cup =>
          rw [he] at q
          refine FinS.bindE (Rl1 := RP) hW er w q fun d s1 v H1 _ x1 w1 r1 q1 => ?_
          cases d with
          | int j =>
            cases r1
            obtain ⟨v, hv, r⟩ := er.pv he
            cases r
            refine ⟨_, hv, c, [.int s1.1, .int s1.2], k, ?_⟩
            have w1c := w1.cup
            have q1 : FinS g W c H0 H1 (if k = 0 then .ok (.nx env) (j, s1.2) else if k = 1 then .ok (.nx env) (s1.1, j) else .stuck) Dn := q1
            have er1 := er.extH w x1
            by_cases h0 : k = 0
            · subst h0
              rw [if_pos rfl] at q1
              exact ⟨0, rfl, rfl, w1c, rfl, q1 σ _ (ext_cup.mono w1) (er1.extH w1 ext_cup) (wd_cup w1)⟩
            · rw [if_neg h0] at q1
              by_cases h1' : k = 1
              · subst h1'
                rw [if_pos rfl] at q1
                exact ⟨1, rfl, rfl, w1c, rfl, q1 σ _ (ext_cup.mono w1) (er1.extH w1 ext_cup) (wd_cup w1)⟩
              · rw [if_neg h1'] at q1; exact q1.elim
          | _ => exact (show False from q1).elim
        | _ => rw [he] at q; exact q.elim
      | _ => rw [he] at q; exact q.elim
/-! ### a list of one's own is frozen -/
theorem PSs.frz {t : TS} (h : PSs X sts t) : PSs X sts (fun Dn σ H => ∃ p xs, H p = some (.lst xs) ∧ ∀ o, t Dn σ (upd H p (.frz o (.lst xs)))) :=
  ⟨fun pins s σ H Dn I ⟨p, xs, hp, q⟩ => by
    obtain ⟨o, I2⟩ := inv_frz I hp
    exact h.run pins s σ _ Dn I2 (q o)⟩
def sFrz (i : Nat) (sf : SF) : SF := fun env => match env[i]? with
  | some (.ol l) => sf (env.set i (.p (.lst l)))
  | _ => fun _ => .stuck
theorem ER.frz {c : Addr} {H0 H : Hp} {σ : L2.St} {env : Env} {s : S} (er : ER g c H0 σ H env) (w : Wd g c H s) {i : Nat} {l : List D} {pp : Addr} {vs : List V} {o : Obj} (hi : env[i]? = some (.ol l)) (hs : σ[i]? = some (some (.ref pp))) (hp : H pp = some (.lst vs)) (nc : pp ≠ c)
    (n0 : Nw H0 pp) (r : Reps g c H l vs) : ER g c H0 σ (upd H pp (.frz o (.lst vs))) (env.set i (.p (.lst l))) ∧ Wd g c (upd H pp (.frz o (.lst vs))) s := by
  have mo : MonoH H (upd H pp (.frz o (.lst vs))) := monoH_upd hp
  refine ⟨⟨by rw [List.length_set]; exact er.len, fun j sl o' ha hb => ?_, fun j k a b q hjk ha hb oa ob hq => ?_, fun b u nb hb nt => ?_⟩, ⟨by rw [upd_ne (Ne.symm nc)]; exact w.cup, tabs_upd w.tab hp⟩⟩
  · by_cases ee : i = j
    · subst ee
      obtain ⟨hl, _⟩ := List.getElem?_eq_some_iff.mp hi
      rw [List.getElem?_set_self hl] at ha
      cases ha
      rw [hs] at hb
      cases hb
      exact ⟨_, rfl, pp, vs, rfl, ⟨o, upd_same⟩, r.mono mo⟩
    · rw [List.getElem?_set_ne ee] at ha
      have h := er.ok j sl o' ha hb
      cases sl with
      | un => trivial
      | p d => obtain ⟨v, q, r⟩ := h; exact ⟨v, q, r.mono mo⟩
      | ol l2 =>
        obtain ⟨p2, vs2, q, n2, n02, h2, r2⟩ := h
        have : p2 ≠ pp := fun z => by
          subst z
          exact er.dis i j _ _ p2 ee hi ha rfl rfl hs (by rw [hb, q])
        exact ⟨p2, vs2, q, n2, n02, by rw [upd_ne this]; exact h2, r2.mono mo⟩
      | od k v => exact h
  · have gt : ∀ (j : Nat) (a : Sl), (env.set i (.p (.lst l)))[j]? = some a → a.own = true → env[j]? = some a := fun j a ha oa => by
      by_cases ee : i = j
      · subst ee
        obtain ⟨hl, _⟩ := List.getElem?_eq_some_iff.mp hi
        rw [List.getElem?_set_self hl] at ha
        cases ha; cases oa
      · rw [List.getElem?_set_ne ee] at ha; exact ha
    exact er.dis j k a b q hjk (gt j a ha oa) (gt k b hb ob) oa ob hq
  · rw [upd_ne (fun z => by subst z; obtain ⟨ps, z⟩ := n0 _ hb; exact nt ps z)]
    exact er.ext b u nb hb nt
theorem psx_frz (i : Nat) (h : PSsx X g W sts sf) : PSsx X g W sts (sFrz i sf) := PSs.weak (PSs.frz h) fun Dn σ H ⟨c, H0, env, s, er, w, q⟩ => by
  have q : FinS g W c H0 H ((match env[i]? with
    | some (.ol l) => sf (env.set i (.p (.lst l)))
    | _ => fun _ => .stuck : M Fl) s) Dn := q
  cases he : env[i]? with
  | none => rw [he] at q; exact q.elim
  | some sl =>
    cases sl with
    | ol l =>
      rw [he] at q
      obtain ⟨pp, vs, hs, nc, n0, hp, r⟩ := er.ol he
      refine ⟨pp, vs, hp, fun o => ?_⟩
      obtain ⟨er2, w2⟩ := er.frz (o := o) w he hs hp nc n0 r
      exact ⟨c, H0, _, s, er2, w2, FinS.up (monoH_upd hp) q⟩
    | _ => rw [he] at q; exact q.elim
/-! ### xs.extend(t), t a tuple or a list -/
set_option maxRecDepth 8000 in
theorem list_extend_tupG (l : Addr) (items : Array Value) (n : Nat) (b : Addr) (items2 : Array Value) (n2 : Nat) (dd : Option Addr) (sl : Array (Option Value)) (hs0 : ¬(!items.isEmpty && Builtin.List.listTooLong (items.size + items2.size)) = true) (hs1 : items.size ≤ sizeLine) (hs2 : items.size + items2.size ≤ sizeLine + 1) :
    Meets (Builtin.«list.extend» ⟨[.ref l, .ref b], []⟩) (fun _ R s => s.heap.get? l = some { cls := .type "list", dict := none, data := .seq items n, slots := #[] } ∧ s.heap.get? b = some ⟨.type "tuple", dd, .seq items2 n2, sl⟩ ∧
      R (.ok (.ret Value.none)) { s with heap := s.heap.update l (Obj.mapSeq fun x => x ++ items2), toks := s.toks }) :=
  .of_wp fun prog w A R s h => by
    obtain ⟨hp, g, d, tk, os⟩ := s
    obtain ⟨hl, hb, h⟩ := h
    have f1 := AutoSeq1.idx_int
    have f2 := AutoSeq1.sub_tuple_tuple
    have f3 := AutoSeq1.sub_list_list
    have f4 := AutoSeq1.sub_tuple_list
    have f5 := AutoSeq1.sub_list_tuple
    have hz' : (items ++ items2).size ≤ sizeLine + 1 := by rw [Array.size_append]; exact hs2
    wp_walk using (wpAny_updateSeq hl rfl (hz := hs1) (_hz' := hz')), wpAny_loadPart' hl, wpAny_loadPart' hb
    exact ⟨_, rfl, h⟩
def rExtA (K : PySem.W.Frag) : V → List V → Hp → VK → Prop := fun x vs H Q => ∃ l b xs zs, x = .ref l ∧ vs = [.ref b] ∧ H l = some (.lst xs) ∧ (SqT K H b zs ∨ Rd H b (.lst zs)) ∧ xs.length + zs.length ≤ sizeLine ∧ Q .non (upd H l (.lst (xs ++ zs)))
theorem notLong2 {m : Nat} {items : Array Value} (h : m ≤ sizeLine) : ¬ (!items.isEmpty && Builtin.List.listTooLong m) = true := by
  rw [notLongL h, Bool.and_false]
  exact Bool.false_ne_true
theorem mt_extA : MtM X "list.extend" (rExtA X.K) := by
  intro pins s σ H x vs v us Q I rx rv ⟨l, b, xs, zs, e1, e2, hH, hB, hz, q⟩
  subst e1 e2
  cases rx
  obtain ⟨u, rfl, ru⟩ := rv.one
  cases ru
  obtain ⟨z, its, n, r, hl, eo⟩ := I.lstM hH
  have done : ∀ its2 : List Value, Vals zs its2 → ∀ st, st = { s with heap := s.heap.update l (Obj.mapSeq fun x => x ++ its2.toArray), toks := s.toks } → EP X pins σ Q .none st := fun its2 r2 st hst => by
    subst hst
    exact ⟨.non, _, I.lset (its' := its ++ its2) hH eo (by simp) (r.append r2) (by rw [List.length_append]; omega), rfl, q⟩
  rcases hB with hB | hB
  · obtain ⟨its2, r2, ⟨⟨cl, dd, dt, sl⟩, ho2, hc2, n2, hd2⟩, hz2⟩ := I.tuple hB
    simp only at hc2 hd2
    subst hc2 hd2
    have l2 := r2.length
    have hs2 : its.toArray.size + its2.toArray.size ≤ sizeLine := by rw [List.size_toArray, List.size_toArray]; omega
    exact call_meets F.slot_list_extend ⟨_, eo, rfl⟩ F.entry_list_extend (F.args_list_extend_2 _ _) (list_extend_tupG l its.toArray n b its2.toArray n2 dd sl (notLong2 hs2) (by rw [List.size_toArray]; omega) (by omega)) ⟨eo, ho2, done its2 r2 _ rfl⟩
  · obtain ⟨hz2, its2, n2, r2, h2, eo2⟩ := PL.Inv.rdM I hB
    have l2 := r2.length
    have hs2 : its.toArray.size + its2.toArray.size ≤ sizeLine := by rw [List.size_toArray, List.size_toArray]; omega
    exact call_meets F.slot_list_extend ⟨_, eo, rfl⟩ F.entry_list_extend (F.args_list_extend_2 _ _) (AutoSeq1.list_extend_list_list_0 l its.toArray n b its2.toArray n2 (notLong2 hs2) (by rw [List.size_toArray]; omega) (by omega)) ⟨eo, eo2, done its2 r2 _ rfl⟩
def sExt (i : Nat) (f : EF) : SF := fun env => match env[i]? with
  | some (.ol l) => (f env).bind fun d => match d with
    | .tup t => if l.length + t.length ≤ sizeLine then M.pure (.nx (env.set i (.ol (l ++ t)))) else fun _ => .stuck
    | .lst t => if l.length + t.length ≤ sizeLine then M.pure (.nx (env.set i (.ol (l ++ t)))) else fun _ => .stuck
    | _ => fun _ => .stuck
  | _ => fun _ => .stuck
theorem psx_ext {i : Nat} {o : Expr} {pos1 pos2 : Pos} (hK : X.K = g.K) (hW : Wσ W) (ho : PE X o (tVar i)) (h : PP X g W e f) (hs : swapsWith (.Call (.Attribute o "extend" pos1) [e] [] pos2) none pos.line X.env = pure false := by rfl)
    (hbase : attributeBase o "extend" X.env (eval o X.env) = eval o X.env := by rfl)
    (hfew : ((backTo pos2 (starEach [e] X.env)).all (fun x => !x.1) && (backToKw pos2 (keywordEach [] X.env)).all (fun x => x.1.isSome)
      && decide (([e] : List Expr).length + ([] : List Keyword).length + (if ([] : List Keyword).isEmpty then 0 else 1) < 30)) = true := by rfl)
    (hline : (pos1.endLine == pos2.line) = true := by rfl) (hse : starEach [e] X.env = (false, eval e X.env) :: starEach [] X.env := by rfl) :
    PSx X g W (.Expr (.Call (.Attribute o "extend" pos1) [e] [] pos2) pos) (sExt i f) :=
  PS.weak (ps_expr (pe_bm PySem.F.plainAttrs_list PySem.F.slot_list_extend PySem.F.type_list_extend (r := rExtA g.K) (by rw [← hK]; exact mt_extA) ho (pa_cons h pa_nil hse) hbase hfew hline hse rfl) hs) fun Dn σ H ⟨c, H0, env, s, er, w, q⟩ => by
    have q : FinS g W c H0 H ((match env[i]? with
      | some (.ol l) => (f env).bind fun d => match d with
        | .tup t => if l.length + t.length ≤ sizeLine then M.pure (.nx (env.set i (.ol (l ++ t)))) else fun _ => .stuck
        | .lst t => if l.length + t.length ≤ sizeLine then M.pure (.nx (env.set i (.ol (l ++ t)))) else fun _ => .stuck
        | _ => fun _ => .stuck
      | _ => fun _ => .stuck : M Fl) s) Dn := q
    cases hi : env[i]? with
    | none => rw [hi] at q; exact q.elim
    | some sl =>
      cases sl with
      | ol l =>
        rw [hi] at q
        obtain ⟨pp, vs, hsl, nc, n0, hp, r⟩ := er.ol hi
        refine ⟨.ref pp, hsl, .inl ⟨rfl, vs, SqL.of hp⟩, c, H0, env, s, er, w, FinS.bindE (Rl1 := RP) hW er w q fun d s1 v H1 _ x1 w1 r1 q1 => ?_⟩
        have hp1 : H1 pp = some (.lst vs) := x1 pp _ nc hp (fun _ z => by cases z)
        have r' : Reps g c H1 l vs := r.mono (x1.mono w)
        have go : ∀ t zs b, v = .ref b → (SqT g.K H1 b zs ∨ Rd H1 b (.lst zs)) → Reps g c H1 t zs → FinS g W c H0 H1 ((if l.length + t.length ≤ sizeLine then M.pure (.nx (env.set i (.ol (l ++ t)))) else fun _ => .stuck : M Fl) s1) Dn → rExtA g.K (.ref pp) [v] H1 (fun v H2 => Dn.nx σ H2) := fun t zs b ev hb r2 q2 => by
          by_cases hz : l.length + t.length ≤ sizeLine
          · rw [if_pos hz] at q2
            obtain ⟨er2, w2⟩ := (er.extH w x1).chg w1 hi hsl hp1 nc n0 (r'.append r2)
            exact ⟨pp, b, vs, zs, rfl, by rw [ev], hp1, hb, by rw [r'.length, r2.length]; exact hz, q2 _ _ (monoH_upd hp1) er2 w2⟩
          · rw [if_neg hz] at q2; exact q2.elim
        cases d with
        | tup t => obtain ⟨b, zs, ev, hb, r2⟩ := r1; exact go t zs b ev (.inl hb) r2 q1
        | lst t => obtain ⟨b, zs, ev, hb, r2⟩ := r1; exact go t zs b ev (.inr hb.rd) r2 q1
        | _ => exact (show False from q1).elim
      | _ => rw [hi] at q; exact q.elim
/-- return x, x a list of one's own -/
def sRetO (i : Nat) : SF := fun env => match env[i]? with
  | some (.ol l) => M.pure (.rt (.lst l))
  | _ => fun _ => .stuck
theorem psx_retO {i : Nat} {o : Expr} (ho : PE X o (tVar i)) : PSx X g W (.Return (some o) pos) (sRetO i) := PS.weak (ps_ret (PE.frz ho)) fun Dn σ H ⟨c, H0, env, s, er, w, q⟩ => by
  have q : FinS g W c H0 H ((match env[i]? with
    | some (.ol l) => M.pure (.rt (.lst l))
    | _ => fun _ => .stuck : M Fl) s) Dn := q
  cases hi : env[i]? with
  | none => rw [hi] at q; exact q.elim
  | some sl =>
    cases sl with
    | ol l =>
      rw [hi] at q
      obtain ⟨pp, vs, hsl, nc, n0, hp, r⟩ := er.ol hi
      refine ⟨.ref pp, hsl, .inr ⟨pp, vs, rfl, hp, fun o => ?_⟩⟩
      obtain ⟨er2, w2⟩ := er.frz (o := o) w hi hsl hp nc n0 r
      exact q _ _ er2.ext w2 ⟨pp, vs, rfl, ⟨o, upd_same⟩, r.mono (monoH_upd hp)⟩
    | _ => rw [hi] at q; exact q.elim
/-! ### zip -/
def zipD : List D → List D → List D
  | d :: r, e :: t => .tup [d, e] :: zipD r t
  | _, _ => []
theorem zipD_get : ∀ (l m : List D) (i : Nat) (d e : D), l[i]? = some d → m[i]? = some e → (zipD l m)[i]? = some (.tup [d, e])
  | [], _, _, _, _, h, _ => by simp at h
  | _ :: _, [], _, _, _, _, h => by simp at h
  | a :: l, b :: m, 0, d, e, h1, h2 => by simp at h1 h2; subst h1; subst h2; rfl
  | a :: l, b :: m, i + 1, d, e, h1, h2 => by
    show (zipD l m)[i]? = _
    exact zipD_get l m i d e (by simpa using h1) (by simpa using h2)
theorem zipD_len : ∀ (l m : List D), (zipD l m).length = min l.length m.length
  | [], m => by simp [zipD]
  | _ :: _, [] => by simp [zipD]
  | a :: l, b :: m => by simp only [zipD, List.length_cons, zipD_len l m]; omega
def iZipD (fa fb : EF) : AF := fun env => (fa env).bind fun d => (fb env).bind fun e => match d, e with
  | .lst l, .lst m => M.pure (zipD l m)
  | .tup l, .tup m => M.pure (zipD l m)
  | _, _ => fun _ => .stuck
theorem wk_zip {c a b : Addr} {H : Hp} {xs ys : List V} {l m : List D} (h1 : ∀ H', MonoH H H' → SqL g.K H' a xs) (h2 : ∀ H', MonoH H H' → SqL g.K H' b ys) (r1 : Reps g c H l xs) (r2 : Reps g c H m ys) : Wk g c (Itz g.K a b) (zipD l m) H MonoH where
  go := fun i H' k h => by
    rw [zipD_len] at h
    have e1 : i < xs.length := by rw [r1.length]; omega
    have e2 : i < ys.length := by rw [r2.length]; omega
    exact ⟨xs, ys, xs[i], ys[i], h1 H' k, h2 H' k, List.getElem?_eq_getElem e1, List.getElem?_eq_getElem e2⟩
  yld := fun i x H' H2 s k w ⟨T, x1, y1, ex, nT, eH, f1, f2⟩ h => by
    subst ex eH
    have m1 : MonoH H' (upd H' T (.tup [x1, y1])) := (Ext.laid (c := c) nT).mono w
    obtain ⟨d, hd, rd⟩ := r1.getV (f1 xs (h1 H' k))
    obtain ⟨e, he, re⟩ := r2.getV (f2 ys (h2 H' k))
    exact ⟨Ext.laid nT, w.laid nT, _, zipD_get l m i d e hd he, T, [x1, y1], rfl, SqT.of upd_same, Reps.cons (rd.mono (k.trans m1)) (Reps.cons (re.mono (k.trans m1)) Reps.nil)⟩
  stop := fun H' k => ⟨xs, ys, h1 H' k, h2 H' k, by rw [zipD_len, r1.length, r2.length]; omega⟩
theorem wk_zipT {c a b : Addr} {H : Hp} {xs ys : List V} {l m : List D} (h1 : ∀ H', MonoH H H' → SqT g.K H' a xs) (h2 : ∀ H', MonoH H H' → SqT g.K H' b ys) (r1 : Reps g c H l xs) (r2 : Reps g c H m ys) : Wk g c (RZ.ItzT g.K a b) (zipD l m) H MonoH where
  go := fun i H' k h => by
    rw [zipD_len] at h
    have e1 : i < xs.length := by rw [r1.length]; omega
    have e2 : i < ys.length := by rw [r2.length]; omega
    exact ⟨xs, ys, xs[i], ys[i], h1 H' k, h2 H' k, List.getElem?_eq_getElem e1, List.getElem?_eq_getElem e2⟩
  yld := fun i x H' H2 s k w ⟨T, x1, y1, ex, nT, eH, f1, f2⟩ h => by
    subst ex eH
    have m1 : MonoH H' (upd H' T (.tup [x1, y1])) := (Ext.laid (c := c) nT).mono w
    obtain ⟨d, hd, rd⟩ := r1.getV (f1 xs (h1 H' k))
    obtain ⟨e, he, re⟩ := r2.getV (f2 ys (h2 H' k))
    exact ⟨Ext.laid nT, w.laid nT, _, zipD_get l m i d e hd he, T, [x1, y1], rfl, SqT.of upd_same, Reps.cons (rd.mono (k.trans m1)) (Reps.cons (re.mono (k.trans m1)) Reps.nil)⟩
  stop := fun H' k => ⟨xs, ys, h1 H' k, h2 H' k, by rw [zipD_len, r1.length, r2.length]; omega⟩
theorem pix_zip {elts : List Expr} {kk : Nat} {tpos : Pos} (hK : X.K = g.K) (hg : Gl X "zip") (hm : X.mg "zip" = none) (ha : PP X g W a fa) (hb : PP X g W b fb) (hs : starEach [a, b] X.env = (false, eval a X.env) :: starEach [b] X.env := by rfl) (hs2 : starEach [b] X.env = (false, eval b X.env) :: starEach [] X.env := by rfl) (hpl : (backTo pos (starEach [b] X.env)).any (·.1) = false := by rfl) :
    PI X (.Tuple elts kk tpos) (.Call (.Name "zip" p) [a, b] [] pos) (rdi g W KM (iZipD fa fb)) :=
  PI.weak (RZ.pi_zipA hg hm (pa_cons ha (pa_cons hb pa_nil hs2) hs) hs hpl) fun σ H Q ⟨c, H0, env, s, er, w, q⟩ => by
    refine ⟨c, H0, env, s, er, w, FinI.bind (Rl1 := RP) q fun d s1 v H1 _ x1 w1 r1 q1 => ?_⟩
    refine ⟨c, H0, env, s1, er.extH w x1, w1, FinI.bind (Rl1 := RP) q1 fun d2 s2 v2 H2 _ x2 w2 r2 q2 => ?_⟩
    have r1' : Rep g c H2 d v := Rep.mono (x2.mono w1) r1
    cases d with
    | lst l =>
      cases d2 with
      | lst m =>
        obtain ⟨a, xs, rfl, h1, q1⟩ := r1'
        obtain ⟨b, ys, rfl, h2, q3⟩ := r2
        exact ⟨a, b, xs, ys, rfl, .inl ⟨.inl h1.rd, .inl h2.rd, by rw [hK]; exact q2 _ H2 (Ext.refl _ _) w2 (wk_zip (fun _ k => .inl (h1.mono k).rd) (fun _ k => .inl (h2.mono k).rd) q1 q3)⟩⟩
      | _ => exact (show False from q2).elim
    | tup l =>
      cases d2 with
      | tup m =>
        obtain ⟨a, xs, rfl, h1, q1⟩ := r1'
        obtain ⟨b, ys, rfl, h2, q3⟩ := r2
        exact ⟨a, b, xs, ys, rfl, .inr ⟨by rw [hK]; exact h1, by rw [hK]; exact h2, by rw [hK]; exact q2 _ H2 (Ext.refl _ _) w2 (wk_zipT (fun _ k => SqT.monoH k h1) (fun _ k => SqT.monoH k h2) q1 q3)⟩⟩
      | _ => exact (show False from q2).elim
    | _ => exact (show False from q2).elim
end
end PL
namespace PL
open PySem PySem.Spec PyProof.Rows L2
/-! ### sorted -/
section
open PySem.W PySem.SeqAt PySem.Calls
variable {M : Model} {prog : Program} {w : World} {A : Around} {E : Value → Shared → Prop} {s : Shared}
theorem wp_mapM_each {α β : Type} {P : α → β → Prop} {f : α → Sem β} : ∀ (l : List α) {Q : List β → Shared → Prop}, (∀ v ∈ l, ∃ r, P v r ∧ ∀ (Q' : β → Shared → Prop), Q' r s → wpAny M A (f v) Q' E s) → (∀ rs, EachIs P l rs → Q rs s) → wpAny M A (l.mapM f) Q E s
  | [], Q, _, h => by rw [List.mapM_nil]; exact wpAny_pure (h [] .nil)
  | x :: l, Q, hf, h => by
    rw [List.mapM_cons]
    obtain ⟨r, hp, hr⟩ := hf x (.head _)
    exact wpAny_bind (hr _ (wpAny_bind (wp_mapM_each l (Q := fun bs s' => wpAny M A (pure (r :: bs)) Q E s') (fun v hv => hf v (.tail _ hv)) fun rs hrs => wpAny_pure (h _ (.cons hp hrs)))))
theorem call_tuple_lt {Q : Value → Shared → Prop} {l b : Addr} {items items2 : Array Value} {e r : Nat → Bool} (hl : s.heap.IsTuple l items) (hb : s.heap.IsTuple b items2)
    (he : ∀ j (h1 : j < items.size) (h2 : j < items2.size), EqAt A.in1 s items[j] items2[j] (e j)) (hr : ∀ j (h1 : j < items.size) (h2 : j < items2.size), e j = false → RcLt A.in1 s items[j] items2[j] (r j))
    (h : Q (.bool (firstLt e r (decide (items.size < items2.size)) (List.range (min items.size items2.size)))) s) : wpAny (model prog w) A (call (.builtin "tuple.__lt__") [.ref l, .ref b]) Q E s := by
  obtain ⟨⟨c1, d1, a1, s1⟩, ho, hc, n, hd⟩ := id hl
  obtain ⟨⟨c2, d2, a2, s2⟩, ho2, hc2, n2, hd2⟩ := id hb
  simp only at hc hd hc2 hd2
  subst hc hd hc2 hd2
  exact call_meets F.slot_tuple_lt ⟨_, ho, rfl⟩ F.entry_tuple_lt (F.args_tuple_lt_2 _ _) (tuple_ltAt l b items items2 n n2 d1 d2 s1 s2 e r) ⟨ho, ho2, he, hr, h⟩
theorem oneLt_tup {xs ys : List PyData} {a b : Value} {as bs : List Addr} {Q : Bool → Shared → Prop} (ra : Reads s.heap a (.tuple xs) as) (rb : Reads s.heap b (.tuple ys) bs) (hal : alikeAll xs ys = true)
    (hu : A.units + min (PyData.tuple xs).depth (PyData.tuple ys).depth < cLine) (hq : Q (dataLt (.tuple xs) (.tuple ys)) s) : wpAny (model prog w) A (oneLt' true a b) Q E s := by
  cases ra with
  | @tuple l o vs n _ as₁ h1 h2 h3 h4 =>
    cases rb with
    | @tuple l' o' vs' n' _ bs₁ k1 k2 k3 k4 =>
      have n1 : vs.size = xs.length := by simpa using ReadsAll.length _ _ _ h4
      have n2 : vs'.size = ys.length := by simpa using ReadsAll.length _ _ _ k4
      rw [dataLt_tuple, ← firstLt_toks xs ys hal, ← n1, ← n2] at hq
      rw [oneLt'_eq]
      simp only [if_true]
      refine wpAny_bind (wpAny_cRoomFor (room_here hu) ?_)
      refine wpAny_bind (wpAny_callSpecialIfBound?_slot (T := "tuple") ⟨_, h1, h2⟩ F.slot_tuple_lt (call_tuple_lt (e := pairEq xs ys) (r := fun j => dataLt (xs.getD j .none) (ys.getD j .none)) ⟨_, h1, h2, _, h3⟩ ⟨_, k1, k2, _, k3⟩ (fun j j1 j2 => ?_) (fun j j1 j2 hj => ?_) ?_))
      · have := eqAt_alikeAll xs ys A.in1 s vs.toList vs'.toList _ _ h4 k4 hal (room_in hu) j (by simpa using j1) (by simpa using j2)
        simpa using this
      · have := rcLt_alikeAll xs ys A.in1 s vs.toList vs'.toList _ _ h4 k4 hal (room_in hu) j (by simpa using j1) (by simpa using j2) hj
        simpa using this
      · exact wpAny_truthy_bool hq
theorem each_right {α β : Type} {R : α → β → Prop} : ∀ {l : List α} {m : List β}, EachIs R l m → ∀ b ∈ m, ∃ a ∈ l, R a b
  | _, _, .nil, _, h => by simp at h
  | _, _, .cons h t, b, e => by
    rcases List.mem_cons.mp e with rfl | e
    · exact ⟨_, .head _, h⟩
    · obtain ⟨a, h1, h2⟩ := each_right t b e
      exact ⟨a, .tail _ h1, h2⟩
theorem firsts_nth {α β : Type} {R : α → β → Prop} : ∀ {l : List α} {m : List β}, EachIs R l m → ∀ v, l[0]? = some v → ∃ r, m[0]? = some r ∧ R v r
  | _, _, .nil, _, h => by simp at h
  | _, _, .cons h _, v, e => by simp at e; subst e; exact ⟨_, rfl, h⟩
/-- what firstOfTuple' gives at a tuple -/
theorem first_tup {v : Value} {xs : List PyData} {as : List Addr} (r : Reads s.heap v (.tuple xs) as) : ∃ r : Option Value, r.isSome = !xs.isEmpty ∧ ∀ (Q' : Option Value → Shared → Prop), Q' r s → wpAny M A (firstOfTuple' v) Q' E s := by
  cases r with
  | @tuple a o ws n _ _ ho hc hd hr =>
    refine ⟨ws[0]?, ?_, fun Q' hq => ?_⟩
    · have hn : ws.size = xs.length := by simpa using SeqAt.ReadsAll.length _ _ _ hr
      cases xs with
      | nil => have : ws = #[] := Array.size_eq_zero_iff.mp hn; subst this; rfl
      | cons x t =>
        have : 0 < ws.size := by rw [hn]; simp
        rw [Array.getElem?_eq_getElem this]; rfl
    · rw [kas_first_eq]
      refine wpAny_bind (Looks.here (show Looks M s.heap (typeOf (.ref a)) o.cls from (Looks.ld ho).andThen .now) ?_)
      rw [hc, if_neg (by first | decide | simp)]
      exact wpAny_bind (listItems_at ho hd (wpAny_pure hq))
theorem sortsAt_tups {vs : List Value} {ds : List PyData} (e : EachIs (fun v d => ∃ as, Reads s.heap v d as) vs ds) (hal : AllAlike ds) (ht : ∀ d, d ∈ ds → ∃ xs, d = .tuple xs) (hu : ∀ d, d ∈ ds → A.units + d.depth < cLine) : SortsAt prog w A s (dataKind s.heap ds) vs := by
  by_cases hne : ∀ d, d ∈ ds → ∃ x r, d = .tuple (x :: r)
  · exact SortsAt.data e hal (.inl hne) hu
  have room : ∀ {d d' : PyData}, d ∈ ds → A.units + min d.depth d'.depth < cLine := fun {d d'} hd => Nat.lt_of_le_of_lt (Nat.add_le_add_left (Nat.min_le_left _ _) _) (hu d hd)
  have hem : PyData.tuple [] ∈ ds := by
    apply Classical.byContradiction
    intro hno
    refine hne fun d hd => ?_
    obtain ⟨xs, rfl⟩ := ht d hd
    cases xs with
    | nil => exact absurd hd hno
    | cons x r => exact ⟨x, r, rfl⟩
  refine ⟨fun v hv => ?_, ?_⟩
  · obtain ⟨d, hd, as, r⟩ := e.left v hv
    exact ⟨_, dataKind_some hal hd r⟩
  -- the walk of keyKind'
  have walk : ∀ (b : Bool) (x0 : List PyData) (rest : List PyData), ds = .tuple x0 :: rest → x0.isEmpty = b → ∀ (E : Value → Shared → Prop) {Q : SortKind → Shared → Prop}, Q (if b then oneType' else general') s → wpAny (model prog w) A (keyKind' vs.toArray) Q E s := by
    intro b x0 rest hds hb E Q hq
    rw [keyKind'_eq, List.mapM_toArray, map_eq_pure_bind]
    refine wpAny_bind (wpAny_bind (wp_mapM_each (P := fun v r => ∃ xs as, .tuple xs ∈ ds ∧ Reads s.heap v (.tuple xs) as ∧ r.isSome = !xs.isEmpty) vs (fun v hv => ?_) fun rs hrs => wpAny_pure ?_))
    · obtain ⟨d, hd, as, r⟩ := e.left v hv
      obtain ⟨xs, rfl⟩ := ht d hd
      obtain ⟨r', h1, h2⟩ := first_tup (M := model prog w) (A := A) (E := E) r
      exact ⟨r', ⟨xs, as, hd, r, h1⟩, h2⟩
    have uniq : ∀ {v : Value} {xs ys : List PyData} {as bs : List Addr}, PyData.tuple xs ∈ ds → PyData.tuple ys ∈ ds → Reads s.heap v (.tuple xs) as → Reads s.heap v (.tuple ys) bs → xs = ys := fun h1 h2 r1 r2 => by
      have := alike_unique _ _ _ _ _ (hal _ h1 _ h2) r1 r2
      cases this; rfl
    have hsome : ¬ (rs.toArray.all (·.isSome)) = true := fun z => by
      rw [List.all_toArray, List.all_eq_true] at z
      obtain ⟨v, hv, as, r⟩ := each_right e _ hem
      obtain ⟨r', hr', xs, bs, hx, rx, h3⟩ := hrs.left v hv
      have := uniq hx hem rx r
      subst this
      have := z r' hr'
      rw [h3] at this
      exact absurd this (by simp)
    rw [if_neg hsome]
    subst hds
    cases e with
    | @cons v0 _ vs' _ h0 te =>
    obtain ⟨as0, r0⟩ := h0
    obtain ⟨r', hr', xs, bs, hx, rx, h3⟩ := firsts_nth hrs v0 rfl
    have := uniq hx (.head _) rx r0
    subst this
    rw [List.getElem?_toArray, hr']
    cases b with
    | false =>
      have h4 : ((some r').bind id).isSome = true := by
        show r'.isSome = true
        rw [h3, hb]; rfl
      rw [if_pos h4]
      exact wpAny_pure hq
    | true =>
      have h4 : ¬ ((some r').bind id).isSome = true := by
        show ¬ r'.isSome = true
        rw [h3, hb]; simp
      rw [if_neg h4]
      have hT : ∀ v ∈ v0 :: vs', Looks (model prog w) s.heap (typeOf v) (Value.type "tuple") := fun v hv => by
        obtain ⟨d, hd, as, r⟩ := (EachIs.cons ⟨as0, r0⟩ te : EachIs (fun v d => ∃ as, Reads s.heap v d as) _ _).left v hv
        obtain ⟨xs, rfl⟩ := ht d hd
        exact looks_reads r
      rw [oneTypeOnly'_eq, List.mapM_toArray, map_eq_pure_bind]
      refine wpAny_bind (wpAny_bind (wpAny_bind (kas_mapM (r := Value.type "tuple") _ (fun v hv Q' hq => (hT v hv).here hq) (wpAny_pure ?_))))
      have hall : ((List.map (fun _ => Value.type "tuple") (v0 :: vs')).toArray.all fun x => x == Value.type "tuple") = true := by
        simp only [List.all_toArray, List.all_map, List.all_eq_true]
        intro _ _
        rfl
      have h0 : (List.map (fun _ => Value.type "tuple") (v0 :: vs')).toArray[0]? = some (Value.type "tuple") := by simp
      rw [h0]
      simp only [hall, if_true]
      exact wpAny_pure (wpAny_pure hq)
  cases ds with
  | nil => exact absurd hem (by simp)
  | cons d0 rest =>
    obtain ⟨x0, rfl⟩ := ht d0 (.head _)
    cases hb : x0.isEmpty with
    | false =>
      refine ⟨general', ?_, fun _ E Q hq => walk false x0 rest rfl hb E hq⟩
      intro E x y a b Q ha hbb hq
      obtain ⟨d, as, hd, ra, rfl⟩ := dataKind_inv ha
      obtain ⟨d', as', hd', rb, rfl⟩ := dataKind_inv hbb
      obtain ⟨xs, rfl⟩ := ht d hd
      show wpAny (model prog w) A (oneLt' false x y) Q E s
      exact oneLt_alike (f := false) (fun z => by cases z) ra rb (hal _ hd d' hd') (by simp) (room hd) hq
    | true =>
      refine ⟨oneType', ?_, fun _ E Q hq => walk true x0 rest rfl hb E hq⟩
      intro E x y a b Q ha hbb hq
      obtain ⟨d, as, hd, ra, rfl⟩ := dataKind_inv ha
      obtain ⟨d', as', hd', rb, rfl⟩ := dataKind_inv hbb
      obtain ⟨xs, rfl⟩ := ht d hd
      obtain ⟨ys, rfl⟩ := ht d' hd'
      rw [keyLt'_oneType]
      exact oneLt_tup ra rb (by simpa [alike] using hal _ hd _ hd') (room hd) hq

/-- sorted of a list or a tuple -/
theorem sorted_any {κ : Heap → PyProof.Rows.KeyKind} {l : Addr} {T : String} {o : Obj} {vs : List Value} {n : Nat} {Q : Value → Shared → Prop} (hT : T = "list" ∨ T = "tuple") (ho : s.heap.get? l = some o) (hc : o.cls = .type T) (hd : o.data = .seq vs.toArray n) (hL : vs.length ≤ sizeLine)
    (S : ∀ h1 : Heap, (∀ b o, s.heap.get? b = some o → h1.get? b = some o) → SortsAt prog w A.in1.in1 { s with heap := h1 } (κ h1) vs)
    (h : ∀ (h3 h2 : Heap) (a : Addr) (k : Nat), (∀ b o, s.heap.get? b = some o → h3.get? b = some o) → (∃ h1 : Heap, (∀ b o, s.heap.get? b = some o → h1.get? b = some o) ∧ a = h1.objs.size) → (∀ b o, s.heap.get? b = some o → h2.get? b = some o) → h2.get? a = some (seqObj "list" (sortVals (κ h3) false vs vs).toArray k) → Q (.ref a) { s with heap := h2 }) :
    wpAny (model prog w) A (call (.builtin "sorted") [.ref l]) Q E s := by
  refine call_function_entry_kw kind_sorted plain_sorted entry_sorted (args_sorted1 _) ?_
  unfold Builtin.«sorted»
  refine wpAny_bind (m := checkCount "sorted" 1 1 _) (wpAny_pure ?_)
  refine wpAny_bind (wpAny_collect_seq l hT ho hc hd (fun h' k => ?_) (by rw [List.size_toArray]; exact hL))
  rw [List.toList_toArray]
  refine wpAny_bind (wpAny_newList ?_ hL)
  have hat : (h'.push (seqObj "list" vs.toArray 0)).get? h'.objs.size = some (seqObj "list" vs.toArray 0) := Heap.get?_push_size _ rfl
  have old : ∀ b o, s.heap.get? b = some o → (h'.push (seqObj "list" vs.toArray 0)).get? b = some o := fun b o q => Heap.get?_push_of_some _ (k b o q)
  refine wpAny_bind (wpAny_holding (wpAny_call_entry_kw slot_list_sort ⟨_, hat, rfl⟩ entry_list_sort ?body (args_list_sort _)))
  case body =>
    have nb : ∀ b o, s.heap.get? b = some o → b ≠ h'.objs.size := fun b o q z => by
      have := Heap.lt_size (k b o q)
      rw [z] at this
      exact absurd this (Nat.lt_irrefl _)
    have k3 : ∀ b o, s.heap.get? b = some o → (sortingHeap (h'.push (seqObj "list" vs.toArray 0)) h'.objs.size vs).get? b = some o := fun b o q => sortingHeap_old (nb b o q) (old b o q)
    refine list_sort_vals (s := { s with heap := h'.push (seqObj "list" vs.toArray 0) }) hat (S _ k3) hL ⟨_, rfl, wpAny_pure ?_⟩
    obtain ⟨e, he⟩ := sortedHeap_at (vs := vs) (out := (sortVals (κ (sortingHeap (h'.push (seqObj "list" vs.toArray 0)) h'.objs.size vs)) false vs vs).toArray) hat
    exact ⟨_, rfl, h _ _ _ e k3 ⟨h', k, rfl⟩ (fun b o q => by rw [sortedHeap_old (nb b o q) (Heap.lt_size (old b o q))]; exact old b o q) he⟩
end
/-- sorted(x), x a list or a tuple of data -/
def rSrt (K : PySem.W.Frag) : List V → Hp → VK → Prop := fun vs H Q => ∃ (p : Addr) (ys : List V) (ds : List PyData), vs = [.ref p] ∧ (SqL K H p ys ∨ SqT K H p ys) ∧ DpAll K H ys ds ∧ PySem.W.AllAlike ds ∧ (∀ d ∈ ds, d ≠ .none ∧ d.depth ≤ 60) ∧
  ∀ l, H l = none → Q (.ref l) (upd H l (.lst (((ys.zip ds).mergeSort (PySem.W.dataLe false Prod.snd)).map Prod.fst)))
theorem each_zipV {X : Cx} {pins : List (Addr × Obj)} {σ : L2.St} {H : Hp} {s : Shared} (I : Inv X pins σ H s) {h' : Heap} (k : ∀ b o, s.heap.get? b = some o → h'.get? b = some o) : ∀ {ys : List V} {ds : List PyData} {its : List Value}, DpAll X.K H ys ds → Vals ys its →
    PySem.W.EachIs (fun v (b : V × PyData) => RelV b.1 v) its (ys.zip ds) ∧ PySem.W.EachIs (fun v (b : V × PyData) => ∃ as, Reads h' v b.2 as) its (ys.zip ds) ∧ (ys.zip ds).map Prod.snd = ds
  | _, _, _, .nil, r => by cases r; exact ⟨.nil, .nil, rfl⟩
  | _, _, _, .cons h t, r => by
    cases r with
    | cons r1 r2 =>
      obtain ⟨as, q⟩ := Dp.reads I _ _ _ h r1
      obtain ⟨a, b, c⟩ := each_zipV I k t r2
      exact ⟨.cons r1 a, .cons ⟨as, PyProof.Rows.Reads.keeps k q⟩ b, by rw [List.zip_cons_cons, List.map_cons, c]⟩
theorem vals_out : ∀ {out : List Value} {bs : List (V × PyData)}, PySem.W.EachIs (fun v (b : V × PyData) => RelV b.1 v) out bs → Vals (bs.map Prod.fst) out
  | _, _, .nil => .nil
  | _, _, .cons h t => .cons h (vals_out t)
theorem tups_or {ds : List PyData} (hal : PySem.W.AllAlike ds) (hn : ∀ d ∈ ds, d ≠ .none) : (∀ d, d ∈ ds → ∃ xs, d = .tuple xs) ∨ PySem.W.Sortable ds := by
  by_cases h : ∃ xs, PyData.tuple xs ∈ ds
  · obtain ⟨xs, hx⟩ := h
    refine .inl fun d hd => ?_
    have := hal _ hx _ hd
    cases d with
    | tuple ys => exact ⟨ys, rfl⟩
    | _ => simp [PySem.W.alike] at this
  · refine .inr (.inr fun d hd => ⟨hn d hd, fun xs z => h ⟨xs, z ▸ hd⟩⟩)
section
variable {X : Cx}
theorem call_srt (hu : X.A.units + 64 < cLine) : CallR X (.builtin "sorted") (rSrt X.K) := by
  intro pins s σ H vs us Q I r h
  obtain ⟨p, ys, ds, rfl, hs, hd, hal, hn, q⟩ := h
  rw [Vals.ref1 r]
  obtain ⟨T, its, o, n, hT, rv, ho, hc, hdt, hz⟩ : ∃ T its o n, (T = "list" ∨ T = "tuple") ∧ Vals ys its ∧ s.heap.get? p = some o ∧ o.cls = .type T ∧ o.data = .seq its.toArray n ∧ ys.length ≤ sizeLine := by
    rcases hs with hs | hs
    · obtain ⟨its, rv, hl, hz⟩ := I.list hs
      obtain ⟨o, ho, hc, n, hd⟩ := hl.isList
      exact ⟨_, its, o, n, .inl rfl, rv, ho, hc, hd, hz⟩
    · obtain ⟨its, rv, ⟨o, ho, hc, n, hd⟩, hz⟩ := I.tuple hs
      exact ⟨_, its, o, n, .inr rfl, rv, ho, hc, hd, hz⟩
  have hzi : its.length ≤ sizeLine := by rw [← rv.length]; exact hz
  refine sorted_any (κ := fun h => PySem.W.dataKind h ds) hT ho hc hdt hzi (fun h1 k => ?_) fun h3 h2 a ep k3 ⟨h1, k1, ha⟩ k2 hat => ?_
  · obtain ⟨e1, e2, e3⟩ := each_zipV I k hd rv
    have e4 : PySem.W.EachIs (fun v d => ∃ as, Reads h1 v d as) its ds := by
      have := PySem.W.each_map (R := fun v d => ∃ as, Reads h1 v d as) (Prod.snd : V × PyData → PyData) e2
      rwa [e3] at this
    have room : ∀ d, d ∈ ds → X.A.in1.in1.units + d.depth < cLine := fun d hd => by
      have := (hn d hd).2
      have e : X.A.in1.in1.units = X.A.units + 2 := rfl
      omega
    rcases tups_or hal fun d hd => (hn d hd).1 with ht | ht
    · exact sortsAt_tups (s := { s with heap := h1 }) e4 hal ht room
    · exact PySem.W.SortsAt.data (s := { s with heap := h1 }) e4 hal ht room
  · obtain ⟨e1, e2, e3⟩ := each_zipV I k3 hd rv
    have e5 := PySem.W.sortVals_data (h' := h3) false e1 e2 (by rw [e3]; exact hal)
    rw [e3] at e5
    have hn' : H a = none := by
      rw [ha]
      exact (I.hok.kept k1).fresh (Nat.le_refl _)
    have hs' : s.heap.get? a = none := by
      cases e : s.heap.get? a with
      | none => rfl
      | some o =>
        have := Heap.lt_size (k1 _ _ e)
        rw [ha] at this
        exact absurd this (Nat.lt_irrefl _)
    have rv2 := vals_out e5
    have hlen : (((ys.zip ds).mergeSort (PySem.W.dataLe false Prod.snd)).map Prod.fst).length ≤ sizeLine := by
      rw [List.length_map, (List.mergeSort_perm _ _).length_eq, List.length_zip]
      omega
    exact ⟨.ref a, upd H a (.lst (((ys.zip ds).mergeSort (PySem.W.dataLe false Prod.snd)).map Prod.fst)), I.laidN (t' := s.toks) k2 hs' hn' ⟨hlen, _, ep, rv2, hat⟩, rfl, q a hn'⟩
end
section
variable {g : Gb} {W : WX} {X : Cx} {a : Expr} {fs : AF} {pos p : Pos}
/-- data that sorted can order: alike, not None -/
def srtOk (l : List D) : Bool := l.all (fun d => d.dat && decide (d.py.depth ≤ 60) && (match d with | .non => false | _ => true)) && l.all fun d => l.all fun e => PySem.W.alike d.py e.py
def leD (d e : D) : Bool := !PySem.W.dataLt e.py d.py
def dSort (d : D) : Option D := match d with
  | .lst l => if srtOk l then some (.lst (l.mergeSort leD)) else none
  | .tup l => if srtOk l then some (.lst (l.mergeSort leD)) else none
  | _ => none
theorem pys_map : ∀ l : List D, D.pys l = l.map D.py
  | [] => by rw [D.pys]; rfl
  | d :: l => by rw [D.pys, pys_map l]; rfl
theorem dats_all : ∀ l : List D, D.dats l = l.all D.dat
  | [] => by rw [D.dats]; rfl
  | d :: l => by rw [D.dats, dats_all l]; rfl
theorem Reps.zip {c : Addr} {H : Hp} : ∀ {ds : List D} {vs : List V}, Reps g c H ds vs → ∀ q ∈ ds.zip vs, Rep g c H q.1 q.2
  | [], _, h, q, hq => by cases h; simp at hq
  | d :: ds, _, ⟨v, r, e, h, t⟩, q, hq => by
    subst e
    rw [List.zip_cons_cons] at hq
    rcases List.mem_cons.mp hq with rfl | hq
    · exact h
    · exact Reps.zip t q hq
theorem reps_map {c : Addr} {H : Hp} : ∀ {zs : List (D × V)}, (∀ q ∈ zs, Rep g c H q.1 q.2) → Reps g c H (zs.map Prod.fst) (zs.map Prod.snd)
  | [], _ => Reps.nil
  | z :: zs, h => Reps.cons (h z (.head _)) (reps_map fun q hq => h q (.tail _ hq))
theorem zip_sort {ds : List D} {vs : List V} (hl : ds.length = vs.length) : ds.mergeSort leD = ((ds.zip vs).mergeSort fun p q => leD p.1 q.1).map Prod.fst ∧
    ((vs.zip (D.pys ds)).mergeSort (PySem.W.dataLe false Prod.snd)).map Prod.fst = ((ds.zip vs).mergeSort fun p q => leD p.1 q.1).map Prod.snd := by
  refine ⟨?_, ?_⟩
  · rw [List.map_mergeSort (s := leD) (fun _ _ _ _ => rfl), List.map_fst_zip (Nat.le_of_eq hl)]
  · have e : vs.zip (D.pys ds) = (ds.zip vs).map fun q => (q.2, q.1.py) := by
      rw [pys_map]
      clear hl
      induction ds generalizing vs with
      | nil => simp
      | cons d ds ih =>
        cases vs with
        | nil => simp
        | cons v vs => simp only [List.map_cons, List.zip_cons_cons, ih]
    rw [e, ← List.map_mergeSort (r := fun p q : D × V => leD p.1 q.1) (s := PySem.W.dataLe false Prod.snd) (f := fun q : D × V => (q.2, q.1.py)) (fun _ _ _ _ => rfl), List.map_map]
    rfl
theorem srtOk_ok {l : List D} (h : srtOk l = true) : D.dats l = true ∧ PySem.W.AllAlike (D.pys l) ∧ ∀ d ∈ D.pys l, d ≠ .none ∧ d.depth ≤ 60 := by
  rw [srtOk, Bool.and_eq_true, List.all_eq_true, List.all_eq_true] at h
  obtain ⟨h1, h2⟩ := h
  have h1' : ∀ d ∈ l, d.dat = true ∧ d.py.depth ≤ 60 ∧ d.py ≠ .none := fun d hd => by
    have := h1 d hd
    rw [Bool.and_eq_true, Bool.and_eq_true, decide_eq_true_eq] at this
    obtain ⟨⟨a, b⟩, c⟩ := this
    refine ⟨a, b, fun z => ?_⟩
    cases d <;> simp_all [D.py]
  refine ⟨by rw [dats_all, List.all_eq_true]; exact fun d hd => (h1' d hd).1, ?_, ?_⟩
  · rw [pys_map]
    intro x hx y hy
    obtain ⟨d, hd, rfl⟩ := List.mem_map.mp hx
    obtain ⟨e, he, rfl⟩ := List.mem_map.mp hy
    exact List.all_eq_true.mp (h2 d hd) e he
  · rw [pys_map]
    intro x hx
    obtain ⟨d, hd, rfl⟩ := List.mem_map.mp hx
    exact ⟨(h1' d hd).2.2, (h1' d hd).2.1⟩
theorem st_sort : Step1 g RF (fun x H Q => rSrt g.K [x] H Q) dSort := by
  intro c Hs H s d z x Q w rx hz q
  have go : ∀ l p vs, srtOk l = true → z = .lst (l.mergeSort leD) → x = .ref p → (SqL g.K H p vs ∨ SqT g.K H p vs) → Reps g c H l vs → rSrt g.K [x] H Q := fun l p vs hl hz hx hs r => by
    subst hz hx
    obtain ⟨k1, k2, k3⟩ := srtOk_ok hl
    obtain ⟨e1, e2⟩ := zip_sort (ds := l) (vs := vs) r.length.symm
    have r2 : Reps g c H (l.mergeSort leD) (((vs.zip (D.pys l)).mergeSort (PySem.W.dataLe false Prod.snd)).map Prod.fst) := by
      rw [e1, e2]
      exact reps_map fun q hq => r.zip q (List.mem_mergeSort.mp hq)
    exact ⟨p, vs, D.pys l, rfl, hs, r.dp k1, k2, k3, newLst w r2 q⟩
  unfold dSort at hz
  split at hz
  · rename_i l
    split at hz
    · rename_i hk
      cases hz
      rcases rx with ⟨p, vs, rfl, hf, r⟩ | ⟨_, p, vs, e, rfl, _, hp, r⟩
      · exact go l p vs hk rfl rfl (.inl (.inl hf.rd)) r
      · cases e; exact go l p vs hk rfl rfl (.inl (.inl (.inl hp))) r
    · cases hz
  · rename_i l
    split at hz
    · rename_i hk
      cases hz
      rcases rx with ⟨p, vs, rfl, hf, r⟩ | ⟨_, p, vs, e, rfl, _, hp, r⟩
      · exact go l p vs hk rfl rfl (.inr hf) r
      · cases e
    · cases hz
  · cases hz
theorem px_sorted (hK : X.K = g.K) (hu : X.A.units + 64 < cLine) (hg : Gl X "sorted") (hm : X.mg "sorted" = none) (ha : PAx RB X g W [a] fs) (he : starEach [a] X.env = (false, eval a X.env) :: starEach [] X.env := by rfl) : PF X g W (.Call (.Name "sorted" p) [a] [] pos) (eN (n1 dSort) fs) :=
  px_callB (r := rSrt g.K) (by rw [← hK]; exact call_srt hu) (st_n1 st_sort) hg hm PyProof.Rows.boot_sorted ha (he := he)
end
end PL
namespace PL
open PySem PySem.Spec PyProof.Rows L2
/-! ### while an exception is handled: the ends of iterators -/
section
open HotX
variable {prog : Program} {w : World} {A : Around} {E : Value → Shared → Prop} {s : Shared}
/-- StopIteration raised while x1 is handled, all live objects kept but perhaps the one at b0 -/
theorem stop_hot {x1 b0 : Addr} {h1 : Heap} {P : Value → Shared → Prop} {Q : PySem.Fin → Shared → Prop} (hot : HotAt A x1 h1) (k : Heap.SameBut b0 s.heap h1)
    (hP : ∀ a h', Shared.TypeIs { s with heap := h' } (.ref a) "StopIteration" → Heap.ExtBut b0 s.heap h' → P (.ref a) { s with heap := h' }) :
    wpAny (model prog w) A (do let e ← newExc (.type "StopIteration") []; raiseNew e : Sem PySem.Fin) Q P { s with heap := h1 } := by
  obtain ⟨hh, o1, vs1, g1, d1, c1⟩ := hot
  refine wpAny_bind ?_
  simp only [newExc, newTuple]
  refine wpAny_bind (wpAny_newObj_type ?_ (by size_fits))
  refine wpAny_bind (m := firstArgMember _ _) (wpAny_of_eq (a := Value.none) (by first | rfl | (simp only [firstArgMember]; rfl)) ?_)
  refine wpAny_newObj_type ?_ (by size_fits)
  refine raiseNew_hot ⟨hh, o1, vs1, Heap.get?_push_of_some _ (Heap.get?_push_of_some _ g1), d1, c1⟩ (Nat.ne_of_lt (Heap.lt_size (Heap.get?_push_of_some _ g1))) (Heap.get?_push_size _ rfl) rfl (by first | (simp; done) | (simp; omega) | (simp only [Array.size_append]; simp; omega)) ?_
  refine hP _ _ ⟨_, Heap.get?_update_self _ (Heap.get?_push_size _ rfl) rfl, rfl⟩ fun b o hb e => ?_
  have e1 := (k.2 b hb).trans e
  rw [Heap.get?_update_other _ _ (Nat.ne_of_gt (Heap.lt_size (Heap.get?_push_of_some _ e1)))]
  exact Heap.get?_push_of_some _ (Heap.get?_push_of_some _ e1)
theorem next_list_stop {it l x1 : Addr} {i : Nat} {items} {Q : Option Value → Shared → Prop} (hot : HotAt A x1 s.heap) (hne : x1 ≠ it) (hit : s.heap.IsListIter it l i) (hl : s.heap.IsList l items) (hx : items[i]? = none)
    (hQ : ∀ h', Heap.ExtBut it s.heap h' → Q none { s with heap := h' }) : wpAny (model prog w) A (pyNext (.ref it)) Q E s := by
  obtain ⟨o, ho, hc, hd⟩ := id hit
  obtain ⟨ol, hol, _, nl, hdl⟩ := hl
  obtain ⟨hh, o1, vs1, g1, d1, c1⟩ := hot
  unfold pyNext
  refine wpAny_bind (wpAny_attempt (wpAny_callSpecial?_slot (name := Str.ofString "__next__") hit.typeIs slot_listiter_next
    (wpAny_call_entry slot_listiter_next hit.typeIs entry_listiter_next ?_ (args_listiter_next _))))
  show wpAny _ _ (field (.ref it) 0 >>= _) _ _ s
  refine wpAny_bind (wpAny_field ho hd (x := .ref l) rfl ?_)
  show wpAny _ _ (if (Value.ref l == Value.none) = true then _ else _) _ _ s
  rw [if_neg (show ¬ ((Value.ref l == Value.none) = true) from Bool.false_ne_true)]
  show wpAny _ _ (field (.ref it) 1 >>= _) _ _ s
  refine wpAny_bind (wpAny_field ho hd (x := .int i 0) rfl ?_)
  show wpAny _ _ (seqItems? (.ref l) >>= _) _ _ s
  refine wpAny_bind (wpAny_seqItems hol hdl ?_)
  simp only [Int.toNat_natCast, hx]
  refine wpAny_bind (wpAny_rule (wpAny_bind (wpAny_setField ho hd (by simp) ?_)))
  refine stop_hot (s := s) (b0 := it) (x1 := x1) ⟨hh, o1, vs1, by rw [Heap.get?_update_other _ _ (Ne.symm hne)]; exact g1, d1, c1⟩ (Heap.SameBut.update ..) fun a h' ht k => ?_
  exact wpAny_bind (wpAny_isInstance (T := "StopIteration") (b := true) ht isSubtype_stop (wpAny_pure (hQ _ k)))
theorem next_tup_stop {it l x1 : Addr} {i : Nat} {items} {Q : Option Value → Shared → Prop} (hot : HotAt A x1 s.heap) (hne : x1 ≠ it) (hit : PyProof.Rows.IsTupIter s.heap it l i) (hl : PyProof.Rows.IsTup s.heap l items) (hx : items[i]? = none)
    (hQ : ∀ h', Heap.ExtBut it s.heap h' → Q none { s with heap := h' }) : wpAny (model prog w) A (pyNext (.ref it)) Q E s := by
  obtain ⟨o, ho, hc, hd⟩ := id hit
  obtain ⟨ol, hol, _, nl, hdl⟩ := hl
  obtain ⟨hh, o1, vs1, g1, d1, c1⟩ := hot
  unfold pyNext
  refine wpAny_bind (wpAny_attempt (wpAny_callSpecial?_slot (name := Str.ofString "__next__") hit.typeIs PyProof.Rows.slot_tupleiter_next
    (wpAny_call_entry PyProof.Rows.slot_tupleiter_next hit.typeIs PyProof.Rows.entry_tupleiter_next ?_ (PyProof.Rows.args_tupleiter_next _))))
  show wpAny _ _ (field (.ref it) 0 >>= _) _ _ s
  refine wpAny_bind (wpAny_field ho hd (x := .ref l) rfl ?_)
  show wpAny _ _ (if (Value.ref l == Value.none) = true then _ else _) _ _ s
  rw [if_neg (show ¬ ((Value.ref l == Value.none) = true) from Bool.false_ne_true)]
  show wpAny _ _ (field (.ref it) 1 >>= _) _ _ s
  refine wpAny_bind (wpAny_field ho hd (x := .int i 0) rfl ?_)
  show wpAny _ _ (seqItems? (.ref l) >>= _) _ _ s
  refine wpAny_bind (wpAny_seqItems hol hdl ?_)
  simp only [Int.toNat_natCast, hx]
  refine wpAny_bind (wpAny_rule (wpAny_bind (wpAny_setField ho hd (by simp) ?_)))
  refine stop_hot (s := s) (b0 := it) (x1 := x1) ⟨hh, o1, vs1, by rw [Heap.get?_update_other _ _ (Ne.symm hne)]; exact g1, d1, c1⟩ (Heap.SameBut.update ..) fun a h' ht k => ?_
  exact wpAny_bind (wpAny_isInstance (T := "StopIteration") (b := true) ht isSubtype_stop (wpAny_pure (hQ _ k)))
theorem unpackItems_hot {t x1 : Addr} {items : Array Value} {Q : List Value → Shared → Prop} (hot : HotAt A x1 s.heap) (ht : PyProof.Rows.IsTup s.heap t items)
    (hQ : ∀ h', Heap.ExtBut s.heap.objs.size s.heap h' → Q items.toList { s with heap := h' }) : wpAny (model prog w) A (unpackItems (.ref t) items.size none) Q E s := by
  have hlt : t ≠ s.heap.objs.size := by obtain ⟨o, ho, _⟩ := ht; exact Nat.ne_of_lt (Heap.lt_size ho)
  obtain ⟨hh, o1, vs1, g1, d1, c1⟩ := hot
  have hx1 : x1 ≠ s.heap.objs.size := Nat.ne_of_lt (Heap.lt_size g1)
  unfold unpackItems notIterableAtAll
  refine wpAny_bind (wpAny_bind (wpAny_specialOf ht.typeIs PyProof.Rows.slot_tuple_iter.lookup (wpAny_pure ?_)))
  simp only [Bool.false_eq_true, if_false]
  refine wpAny_bind (wpAny_holding (PyProof.Rows.iter_tuple ht ?_))
  refine wpAny_bind (wpAny_holding (PyProof.Rows.draw_tuple hlt items.size 0 _ _ ⟨_, Heap.get?_push_size _ rfl, rfl, rfl⟩ (ht.push _) (by omega) fun h₁ hit₁ hs₁ => ?_))
  have hall : List.take items.size (List.drop 0 items.toList) = items.toList := by
    rw [List.drop_zero]; exact List.take_of_length_le (by simp)
  rw [hall, if_neg (by simp)]
  have ht₁ : PyProof.Rows.IsTup h₁ t items := (ht.push _).extBut hs₁.extBut hlt
  refine wpAny_bind (wpAny_holding (next_tup_stop (x1 := x1) ⟨hh, o1, vs1, hs₁.extBut x1 _ hx1 (Heap.get?_push_of_some _ g1), d1, c1⟩ hx1 hit₁ ht₁ (by simp) fun h₂ he₂ => ?_))
  simp only [Option.isSome_none, Bool.false_eq_true, if_false]
  exact wpAny_pure (hQ h₂ fun b o hb e => he₂ b o hb (hs₁.extBut b o hb (Heap.get?_push_of_some _ e)))
theorem assign_tup_hot {env : PySem.Env} {elts : List Expr} {k} {pos : Pos} {t x1 : Addr} {items : Array Value} {Q : Unit → Shared → Prop} (hot : HotAt A x1 s.heap) (ht : PyProof.Rows.IsTup s.heap t items)
    (hn : (assignEach elts env).length = items.size) (hstar : (assignEach elts env).findIdx? (·.1) = none)
    (h : ∀ h', Heap.ExtBut s.heap.objs.size s.heap h' → wpAny (model prog w) A (assignInOrder ((assignEach elts env).map (·.2)) items.toList) Q E { s with heap := h' }) :
    wpAny (model prog w) A (assign (.Tuple elts k pos) env (.ref t)) Q E s := by
  rw [PyProof.Rows.assign_Tuple]
  refine wpAny_bind (wpAny_standAt ?_)
  unfold unpack
  rw [hn, hstar]
  exact wpAny_bind (wpAny_holding (unpackItems_hot hot ht h))
end
end PL
namespace PL
open PySem PySem.Spec PyProof.Rows L2
/-! ### contexts in which an exception is handled -/
def HotV (X : Cx) : Prop := ∃ (x1 : Addr) (o : Obj) (vs : Array Value), X.A.handled = some (.ref x1) ∧ o.data = .fields vs ∧ vs[2]? = some .none ∧
  ∀ (pins : List (Addr × Obj)) (σ : L2.St) (H : Hp) (s : Shared), Inv X pins σ H s → s.heap.get? x1 = some o ∧ H x1 = none ∧ x1 ∉ frs X.stack
theorem HotV.suite {X : Cx} {a : Addr} {oe : Obj} {cls : Value} {d : Option Addr} {pn : List (Addr × Obj)} (hz : L2N.Zn cls d oe) (hd : ∃ vs, oe.data = .fields vs) : HotV (X.suite a ((a, oe) :: pn)) := by
  obtain ⟨vs, hd⟩ := hd
  refine ⟨a, oe, vs, rfl, hd, hz.2.2 vs hd, fun pins σ H s I => ?_⟩
  obtain ⟨h1, h2, h3, h4, h5⟩ := I.pin (a, oe) (List.mem_append_left _ (.head _))
  exact ⟨h1, h2, fun z => (List.mem_cons.mp (I.stkSub _ z)).elim h3 h4⟩
theorem HotV.at {X : Cx} (h : HotV X) {pins : List (Addr × Obj)} {σ : L2.St} {H : Hp} {s : Shared} (I : Inv X pins σ H s) : ∃ x1 o vs, X.A.handled = some (.ref x1) ∧ s.heap.get? x1 = some o ∧ o.data = .fields vs ∧ vs[2]? = some .none ∧ H x1 = none := by
  obtain ⟨x1, o, vs, h1, h2, h3, h4⟩ := h
  obtain ⟨a, b, c⟩ := h4 _ _ _ _ I
  exact ⟨x1, o, vs, h1, a, h2, h3, b⟩
theorem HotV.blk {X : Cx} (h : HotV X) {pins : List (Addr × Obj)} {σ : L2.St} {H : Hp} {s : Shared} (I : Inv X pins σ H s) {scope : Scope} {ce : PySem.Env} {fp : List Addr} (hf : ∀ o x, s.heap.get? x = some o → X.A.handled = some (.ref x) → x ∉ fp) (hstk : ce.frame = none ∨ True) : ∃ x1 o vs, X.A.handled = some (.ref x1) ∧ o.data = .fields vs ∧ vs[2]? = some .none ∧
    ∀ (pins' : List (Addr × Obj)) (σ' : L2.St) (H' : Hp) (s' : Shared), Inv (X.blk s H scope ce fp) pins' σ' H' s' → s'.heap.get? x1 = some o ∧ H' x1 = none := by
  obtain ⟨x1, o, vs, h1, h2, h3, h4⟩ := h
  obtain ⟨a, b, c⟩ := h4 _ _ _ _ I
  have nf : x1 ∉ fp := hf o x1 a h1
  exact ⟨x1, o, vs, h1, h2, h3, fun pins' σ' H' s' I' => ⟨I'.base.keep x1 o a b c nf, I'.base.free x1 o a b nf⟩⟩
/-- (t0, t1, ..) = a tuple, while an exception is handled -/
theorem pg_tupH {X : Cx} {es : List Expr} {k : Nat} {t : TGs} {n : Nat} {pos : Pos} (hot : ∀ pins σ H s, Inv X pins σ H s → ∃ x1, HotX.HotAt X.A x1 s.heap) (h : PGs X es t)
    (hn : (assignEach es X.env).length = n := by rfl) (hst : (assignEach es X.env).findIdx? (·.1) = none := by rfl) : PG X (.Tuple es k pos) (gTup X.K n t) := by
  refine ⟨fun pins s σ H v u Q I r ⟨a, xs, e1, hq, hl, hw⟩ => ?_⟩
  subst e1
  cases r
  obtain ⟨its, rv, ht, hz⟩ := I.tuple hq
  obtain ⟨x1, hx1⟩ := hot _ _ _ _ I
  exact assign_tup_hot hx1 ht (by simp [hn, ← hl, rv.length]) hst fun h' k => h.run pins _ σ H xs _ Q (I.kept (t' := s.toks) fun b o e => k b o (Nat.ne_of_lt (Heap.lt_size e)) e) (by simpa using rv) hw
/-- [elt for tg in xs if ..], xs a list that stays, while an exception is handled -/
def tLcH (K : PySem.W.Frag) (ti : TE) (g : TG) (tt : TT) (te : TE) (ws : List Nat) : TE := fun σ H Q => ti σ H fun v H1 => ∃ a xs, v = .ref a ∧ SqL K H1 a xs ∧ ∀ D, H1 D = none → ∃ W : Nat → Hp → Prop, W 0 (upd H1 D (.lst [])) ∧ ∀ i H2, W i H2 → SqL K H2 a xs ∧
  ((xs.length ≤ i ∧ Q (.ref D) H2) ∨ ∃ x, xs[i]? = some x ∧ g x (wipe σ ws) H2 fun σ2 H3 => wipe σ2 ws = wipe σ ws ∧ tt σ2 H3 fun b H4 =>
    if b = true then te σ2 H4 fun y H5 => ∃ acc, H5 D = some (.lst acc) ∧ acc.length < sizeLine ∧ W (i + 1) (upd H5 D (.lst (acc ++ [y]))) else W (i + 1) H4)
section
variable {X : Cx}
theorem lcH_core {pins : List (Addr × Obj)} {s : Shared} {σ : L2.St} {H : Hp} {Q : VK} {use : Option (Value → Sem Unit)} {Qf : Value → Shared → Prop} {elt tg iter : Expr} {ifs : List Expr} {scope : Scope} {own : List (Str × Nat)} {pos pos' : Pos} {ti : TE} {g : TG} {tt : TT} {te : TE} (I : Inv X pins σ H s) (hot : HotV X) (hN : X.N.Nodup) (hi : PE X iter ti) (ok : BlkOk X.N X.env.scope scope own)
    (hg : ∀ (Y : Cx), (∀ pins σ H s, Inv Y pins σ H s → ∃ x1, HotX.HotAt Y.A x1 s.heap) → (∃ s H C cl fp, Y = X.blk s H scope (compEnvC scope cl C X.env) fp) → PG Y tg g) (ht : ∀ (s : Shared) (H : Hp) (C : Addr) (cl : List (Str × Addr)) (fp : List Addr), PTs (X.blk s H scope (compEnvC scope cl C X.env) fp) ifs tt)
    (he : ∀ (s : Shared) (H : Hp) (C : Addr) (cl : List (Str × Addr)) (fp : List Addr), PE (X.blk s H scope (compEnvC scope cl C X.env) fp) elt te) (hs : ∀ x, foldedSetIterable iter X.env x = pure x)
    (h : tLcH X.K ti g tt te (own.map (·.2)) σ H Q)
    (hRR : ∀ D C s' m H', Inv X pins σ H' s' → Q (.ref D) H' → s'.heap.Ns C m → FpOk X pins H' C → compPost (model X.prog X.w) X.A X.xe use Qf (.ref D) C (.ok .next) s') :
    wpAny (model X.prog X.w) X.A (comprehension (.ListComp elt [⟨tg, iter, ifs, 0⟩] scope pos) scope X.env pos' (newList []) false (eval iter X.env) use) Qf X.xe s := by
  have hfree : ∀ y ∈ scope.names, y.2 = .free → ∃ c, X.env.cells.lookup y.1 = some c := fun y hy e => by
    rcases ok.free y hy e with k | k
    · exact I.ok.has _ (.inl k)
    · exact I.ok.has _ (.inr k)
  refine wpAny_comprehension_free (use := use) rfl hs (closure_ok hfree) ok.kind (fun y hy e => by rw [ok.uniq y hy, e]) (thn (hi.run pins s σ H _ I h) fun xv s1 ⟨v, H1, I1, r1, a, xs, ev, hq, hD⟩ => ?_)
  subst ev
  cases r1
  obtain ⟨its, rv, pl, hz⟩ := I1.list hq
  refine wpAny_pyIter_list pl.isList ?_
  -- the iterator
  generalize eit : s1.heap.objs.size = it
  generalize es2 : ({ s1 with heap := s1.heap.push { cls := .type "list_iterator", data := .fields #[.ref a, .int 0 0] } } : Shared) = s2
  have I2 : Inv X pins σ H1 s2 := by subst es2; exact I1.kept (t' := s1.toks) fun b o e => Heap.get?_push_of_some _ e
  have it2 : s2.heap.IsListIter it a 0 := by subst es2 eit; exact ⟨_, Heap.get?_push_size _ rfl, rfl, rfl⟩
  have fp2 : FpOk X pins H1 it := by subst eit; exact I1.fpOk (Nat.le_refl _) (I1.hok.fresh (Nat.le_refl _))
  have xit : ∀ o x, s1.heap.get? x = some o → x ≠ it := fun o x e => by subst eit; exact Nat.ne_of_lt (Heap.lt_size e)
  refine wpAny_newObj_type (newEnv_comp ?_) (by show 0 ≤ sizeLine; decide)
  -- the new list
  generalize eD : s2.heap.objs.size = D
  have nD : H1 D = none := I2.hok.fresh (Nat.le_of_eq eD)
  obtain ⟨W, w0, turn⟩ := hD D nD
  generalize es3 : ({ s2 with heap := s2.heap.push { cls := .type "list", data := .seq ([] : List Value).toArray } } : Shared) = s3
  have k3 : ∀ b o, s2.heap.get? b = some o → s3.heap.get? b = some o := fun b o e => by subst es3; exact Heap.get?_push_of_some _ e
  have I3 : Inv X pins σ (upd H1 D (.lst [])) s3 := by
    subst es3
    exact I2.laid (t' := s2.toks) (fun b o e => Heap.get?_push_of_some _ e) (Nat.le_of_eq eD) ⟨Nat.zero_le _, [], 0, .nil, by rw [← eD]; exact Heap.get?_push_size _ rfl⟩
  have lit : it < s2.heap.objs.size := by
    obtain ⟨o, e, _⟩ := it2
    exact Heap.lt_size e
  have nit : (upd H1 D (.lst [])) it = none := by rw [upd_ne (by rw [← eD]; exact Nat.ne_of_lt lit)]; exact fp2.1
  have l3 : it < s3.heap.objs.size := by
    obtain ⟨o, e, _⟩ := it2
    exact Heap.lt_size (k3 _ _ e)
  have it3 : s3.heap.IsListIter it a 0 := it2.at fun o e => k3 _ _ e
  have f3 : ∀ b ∈ [it], FpOk X pins (upd H1 D (.lst [])) b ∧ b < s3.heap.objs.size := fun b hb => by
    have e : b = it := by simpa using hb
    subst e
    exact ⟨⟨nit, fp2.2⟩, l3⟩
  have I4 := block_start I3 ok hN f3
  have pt := ht s3 (upd H1 D (.lst [])) s3.heap.objs.size (cellsFrom (s3.heap.objs.size + 1) scope.names (cloFrom X.env.cells scope.names [])) [it]
  have pe := he s3 (upd H1 D (.lst [])) s3.heap.objs.size (cellsFrom (s3.heap.objs.size + 1) scope.names (cloFrom X.env.cells scope.names [])) [it]
  have hv : ∃ x1 o vs, X.A.handled = some (.ref x1) ∧ o.data = .fields vs ∧ vs[2]? = some .none ∧ x1 ≠ it ∧ ∀ (pins' : List (Addr × Obj)) (σ' : L2.St) (H' : Hp) (s' : Shared), Inv (X.blk s3 (upd H1 D (.lst [])) scope (compEnvC scope (cellsFrom (s3.heap.objs.size + 1) scope.names (cloFrom X.env.cells scope.names [])) s3.heap.objs.size X.env) [it]) pins' σ' H' s' → s'.heap.get? x1 = some o ∧ H' x1 = none := by
    obtain ⟨x1, o, vs, h1, h2, h3, h4⟩ := hot
    obtain ⟨b1, b2, b3⟩ := h4 _ _ _ _ I1
    have b4 := (h4 _ _ _ _ I3).2.1
    have b5 := (h4 _ _ _ _ I3).1
    have nf : x1 ∉ [it] := by simpa using xit _ _ b1
    exact ⟨x1, o, vs, h1, h2, h3, xit _ _ b1, fun pins' σ' H' s' I' => ⟨I'.base.keep x1 o b5 b4 b3 nf, I'.base.free x1 o b5 b4 nf⟩⟩
  have pg := hg (X.blk s3 (upd H1 D (.lst [])) scope (compEnvC scope (cellsFrom (s3.heap.objs.size + 1) scope.names (cloFrom X.env.cells scope.names [])) s3.heap.objs.size X.env) [it]) (by
    obtain ⟨x1, o, vs, h1, h2, h3, _, h4⟩ := hv
    exact fun pins' σ' H' s' I' => ⟨x1, h1, o, vs, (h4 _ _ _ _ I').1, h2, h3⟩) ⟨_, _, _, _, _, rfl⟩
  show codeAny _ _ (.compStart (.ListComp elt [⟨tg, iter, ifs, 0⟩] scope pos) 0 (.ref it) (.ref D) (compEnvC scope (cellsFrom (s3.heap.objs.size + 1) scope.names (cloFrom X.env.cells scope.names [])) s3.heap.objs.size X.env)) (compPost (model X.prog X.w) X.A X.xe use Qf (.ref D) s3.heap.objs.size) { s3 with heap := pushCells (s3.heap.push { cls := .type "dict", data := .dict #[] }) scope.names }
  generalize hce : compEnvC scope (cellsFrom (s3.heap.objs.size + 1) scope.names (cloFrom X.env.cells scope.names [])) s3.heap.objs.size X.env = ce at I4 pg pt pe hv ⊢
  have cL : ce.locals = s3.heap.objs.size := by subst hce; rfl
  generalize eH3 : upd H1 D (.lst []) = H3 at I3 I4 pg pt pe w0 nit f3 hv
  generalize es4 : ({ s3 with heap := pushCells (s3.heap.push { cls := .type "dict", data := .dict #[] }) scope.names } : Shared) = s4 at I4 ⊢
  have it4 : s4.heap.IsListIter it a 0 := it3.at fun o e => by subst es4; exact pushCells_keeps _ _ _ _ (Heap.get?_push_of_some _ e)
  have stat : ∀ {σ' : L2.St} {H' : Hp} {s' : Shared}, Inv (X.blk s3 H3 scope ce [it]) [] σ' H' s' → H' it = none → FpOk (X.blk s3 H3 scope ce [it]) [] H' it := fun {σ' H' s'} I' hn =>
    ⟨hn, (I'.ok.exf it (.head _)).1, I'.ok.exfs it (.head _), .inl (.head _), fun x c e => (I'.ok.exf it (.head _)).2 x c e, fun p hp => absurd (show p ∈ ([] : List (Addr × Obj)) ++ [] from hp) (by simp)⟩
  have loop : codeAny (model X.prog X.w) X.A (.compLoop (.ListComp elt [⟨tg, iter, ifs, 0⟩] scope pos) 0 (.ref it) (.ref D) ce) (compPost (model X.prog X.w) X.A X.xe use Qf (.ref D) s3.heap.objs.size) s4 := by
    refine compLoop_any (fun n s' => ∃ i H', n = xs.length - i ∧ Inv (X.blk s3 H3 scope ce [it]) [] (wipe σ (own.map (·.2))) H' s' ∧ s'.heap.IsListIter it a i ∧ H' it = none ∧ W i H') ?_ (xs.length - 0) ⟨0, H3, rfl, I4, it4, nit, w0⟩
    rintro n s5 ⟨i, H5, rfl, I5, it5, n5, w5⟩
    obtain ⟨hq5, step⟩ := turn i H5 w5
    have hq5' : SqL (X.blk s3 H3 scope ce [it]).K H5 a xs := hq5
    obtain ⟨its5, rv5, pl5, _⟩ := I5.list hq5'
    have len5 := rv5.length
    obtain ⟨f0, f1, f2, f3', f4, f5⟩ := stat I5 n5
    rcases step with ⟨hge, qq⟩ | ⟨x, hx, gx⟩
    · -- the end
      obtain ⟨x1, o, vs, h1, h2, h3, h4, h5⟩ := hv
      refine next_list_stop (x1 := x1) ⟨h1, o, vs, (h5 _ _ _ _ I5).1, h2, h3⟩ h4 it5 pl5.isList (by simp; omega) fun h' eb => ?_
      have I6 : Inv (X.blk s3 H3 scope ce [it]) [] (wipe σ (own.map (·.2))) H5 { s5 with heap := h' } := I5.turned (t' := s5.toks) (fun b o hb e => eb b o hb e) f0 f1 f3' f4 f5
      have I7 : Inv X pins σ H5 { s5 with heap := h' } := I3.call' (ch := [it]) I6.os I6.base I6.hok I6.bare fun b hb => ⟨(f3 b hb).1.2.2.2.1, (f3 b hb).1.2.1, (f3 b hb).1.2.2.2.2.1, (f3 b hb).1.2.2.2.2.2⟩
      have nC : H5 s3.heap.objs.size = none := by
        have z : H5 ce.locals = none := I6.free
        rw [cL] at z
        exact z
      obtain ⟨m, hn, _⟩ := I6.loc
      have hn : h'.Ns ce.locals m := hn
      rw [cL] at hn
      exact hRR D s3.heap.objs.size _ m H5 I7 qq hn (I3.fpOk (Nat.le_refl _) nC)
    · -- a turn
      have hlt : i < xs.length := (List.getElem?_eq_some_iff.mp hx).1
      obtain ⟨u, hu, ru⟩ := rv5.get hx
      refine wpAny_pyNext_list_item it5 pl5.isList (x := u) (by simpa using hu) fun h' it6 sb => ?_
      have I6 : Inv (X.blk s3 H3 scope ce [it]) [] (wipe σ (own.map (·.2))) H5 { s5 with heap := h' } := I5.turned (t' := s5.toks) (fun b o hb e => (sb.2 b hb).trans e) f0 f1 f3' f4 f5
      obtain ⟨oi, ei, ci, di⟩ := id it6
      refine go_of (s := { s5 with heap := h' }) ei ci di (by decide) ?_
      have I6' : Inv (X.blk s3 H3 scope ce [it]) [(it, oi)] (wipe σ (own.map (·.2))) H5 { s5 with heap := h' } := I6.pins_of fun p hp => by
        have e : p = (it, oi) := by simpa using hp
        subst e
        exact ⟨ei, n5, f1, f2, fun v z => by rw [show oi.data = _ from di] at z; cases z⟩
      refine thnF (pg.run _ _ _ H5 x u _ I6' ru gx) fun _ s8 ⟨σ8, H8, I8, hw8, q8⟩ => ?_
      refine thnF (pt.run _ s8 σ8 H8 _ I8 q8) fun b s9 ⟨H9, I9, q9⟩ => ?_
      have fin : ∀ {s' : Shared} {H' : Hp}, Inv (X.blk s3 H3 scope ce [it]) [(it, oi)] σ8 H' s' → W (i + 1) H' → ∃ m, m < xs.length - i ∧ ∃ i H', m = xs.length - i ∧ Inv (X.blk s3 H3 scope ce [it]) [] (wipe σ (own.map (·.2))) H' s' ∧ s'.heap.IsListIter it a i ∧ H' it = none ∧ W i H' := fun {s' H'} I' nx => by
        obtain ⟨z1, z2, _⟩ := I'.pin (it, oi) (List.mem_append_right _ (.head _))
        have hl : (wipe σ (own.map (·.2))).length = σ8.length := by rw [← hw8, wipe_length]
        refine ⟨xs.length - (i + 1), by omega, i + 1, H', rfl, (I'.pins_of (pins' := []) fun p hp => absurd hp (by simp)).weak hl (fun j v e => ?_), ⟨oi, z1, ci, di⟩, z2, nx⟩
        rw [← hw8] at e
        exact (wipe_some e).1
      cases b with
      | false =>
        simp only [Bool.false_eq_true, if_false] at q9 ⊢
        exact fin I9 q9
      | true =>
        simp only [if_true] at q9 ⊢
        refine thnF (pe.run _ s9 σ8 H9 _ I9 q9) fun z s10 ⟨yv, H10, I10, r10, acc, hD10, hz10, nx⟩ => ?_
        exact app_ok (X := X.blk s3 H3 scope ce [it]) I10 hD10 hz10 r10 fun s11 I11 => fin I11 nx
  exact codeAny_compStart_list loop (wpAny_pyIter_listiter it4 loop)
theorem pe_lcH {elt tg iter : Expr} {ifs : List Expr} {scope : Scope} {own : List (Str × Nat)} {pos : Pos} {ti : TE} {g : TG} {tt : TT} {te : TE} (hot : HotV X) (hN : X.N.Nodup) (hi : PE X iter ti) (ok : BlkOk X.N X.env.scope scope own)
    (hg : ∀ (Y : Cx), (∀ pins σ H s, Inv Y pins σ H s → ∃ x1, HotX.HotAt Y.A x1 s.heap) → (∃ s H C cl fp, Y = X.blk s H scope (compEnvC scope cl C X.env) fp) → PG Y tg g) (ht : ∀ (s : Shared) (H : Hp) (C : Addr) (cl : List (Str × Addr)) (fp : List Addr), PTs (X.blk s H scope (compEnvC scope cl C X.env) fp) ifs tt)
    (he : ∀ (s : Shared) (H : Hp) (C : Addr) (cl : List (Str × Addr)) (fp : List Addr), PE (X.blk s H scope (compEnvC scope cl C X.env) fp) elt te) (hs : ∀ x, foldedSetIterable iter X.env x = pure x := by intro _; rfl) :
    PE X (.ListComp elt [⟨tg, iter, ifs, 0⟩] scope pos) (tLcH X.K ti g tt te (own.map (·.2))) := by
  refine ⟨fun pins s σ H Q I h => ?_⟩
  rw [eval_ListComp]
  refine lcH_core I hot hN hi ok hg ht he hs h fun D C s' m H' I' q hn ⟨f0, f1, f2, f3, f4, f5⟩ => ⟨m, hn, fun h'' sb => ?_⟩
  exact ⟨.ref D, H', I'.turned (t' := s'.toks) (fun b o hb e => (sb.2 b hb).trans e) f0 f1 f3 f4 f5, rfl, q⟩
theorem ps_lcH {i : Nat} {y : Str} {py spos : Pos} {elt tg iter : Expr} {ifs : List Expr} {scope : Scope} {own : List (Str × Nat)} {pos : Pos} {ti : TE} {g : TG} {tt : TT} {te : TE} (hot : HotV X) (hN : X.N.Nodup) (hy : X.N[i]? = some y) (hyl : X.env.scope.names.lookup y = some .local) (hi : PE X iter ti) (ok : BlkOk X.N X.env.scope scope own)
    (hg : ∀ (Y : Cx), (∀ pins σ H s, Inv Y pins σ H s → ∃ x1, HotX.HotAt Y.A x1 s.heap) → (∃ s H C cl fp, Y = X.blk s H scope (compEnvC scope cl C X.env) fp) → PG Y tg g) (ht : ∀ (s : Shared) (H : Hp) (C : Addr) (cl : List (Str × Addr)) (fp : List Addr), PTs (X.blk s H scope (compEnvC scope cl C X.env) fp) ifs tt)
    (he : ∀ (s : Shared) (H : Hp) (C : Addr) (cl : List (Str × Addr)) (fp : List Addr), PE (X.blk s H scope (compEnvC scope cl C X.env) fp) elt te) (hs : ∀ x, foldedSetIterable iter X.env x = pure x) (hsw : swapsWith (.ListComp elt [⟨tg, iter, ifs, 0⟩] scope pos) (some (.Name y py)) spos.line X.env = pure true) :
    PS X (.Assign [.Name y py] (.ListComp elt [⟨tg, iter, ifs, 0⟩] scope pos) spos) (tAsg (tLcH X.K ti g tt te (own.map (·.2))) (gName i)) := by
  refine ⟨fun pins s σ H Dn I h => ?_⟩
  rw [exec_Assign_Name_used _ _ _ _ hsw]
  refine wpAny_bind (wpAny_standAt (wpAny_bind ?_))
  have h : tLcH X.K ti g tt te (own.map (·.2)) σ H (fun x H1 => gName i x σ H1 Dn.nx) := h
  refine wpAny_bind (thn (lcH_core (use := some (assign (.Name y py) X.env)) (Qf := fun _ s' => SP X pins Dn .next s') I hot hN hi ok hg ht he hs h fun Ls C s' m H' I' q hn f => ?_) fun _ s' hq => wpAny_pure (wpAny_pure hq))
  refine wpAny_assign_Name (store_ok2 (v := V.ref Ls) I' hN hy (.inl hyl) rfl (fun s2 I2 ⟨a, sb, ha⟩ => ?_) (.inr hyl))
  obtain ⟨f0, f1, f2, f3, f4, f5⟩ := f
  have nCa : C ≠ a := ha.elim (fun z => z ▸ f1) fun z e => f4 y a z e.symm
  exact ⟨m, hn.sameBut sb nCa, fun h3 sb3 => ⟨_, H', I2.turned (t' := s2.toks) (fun b o hb e => (sb3.2 b hb).trans e) f0 f1 f3 f4 f5, q⟩⟩
/-! ### the comprehension's meaning, while an exception is handled -/
def eLcH (ws : List Nat) (fi : EF) (bt : BF) (tt : TF) (fe : EF) : EF := fun env => (fi env).bind fun d => match d with
  | .lst ds => if ds.length ≤ sizeLine then (lcM bt tt fe (wipeE env ws) ds).bind fun ys => M.pure (.lst ys) else fun _ => .stuck
  | _ => fun _ => .stuck
end
section
variable {g : Gb} {W : WX} {X : Cx} {e a b cc : Expr} {es : List Expr} {fi fe f : EF} {pos : Pos} {fs : AF} {ts us : List Nat} {bt : BF} {bu : List D → Env → Option Env} {tt : TF}
theorem pgx_tupH {k n : Nat} (hK : X.K = g.K) (hot : ∀ pins σ H s, Inv X pins σ H s → ∃ x1, HotX.HotAt X.A x1 s.heap) (h : PGs X es (rgs g ts bu)) (hn : (assignEach es X.env).length = n := by rfl) (hst : (assignEach es X.env).findIdx? (·.1) = none := by rfl) : PG X (.Tuple es k pos) (rg g ts (bTup n bu)) :=
  PG.weak (pg_tupH hot h hn hst) fun v σ H Q ⟨c, H0, env, s, d, env', er, w, r, hb, q⟩ => by
    cases d with
    | tup l =>
      obtain ⟨p, vs, rfl, h1, r1⟩ := r
      simp only [bTup] at hb
      by_cases hl : l.length = n
      · rw [if_pos hl] at hb
        exact ⟨p, vs, rfl, by rw [hK]; exact h1, by rw [r1.length]; exact hl, c, H0, env, s, l, env', er, w, r1, hb, q⟩
      · rw [if_neg hl] at hb; cases hb
    | _ => cases hb
theorem rd_lcH {fi : EF} {ws : List Nat} (K : PySem.W.Frag) (hts : ∀ i ∈ ts, i ∈ ws) (σ : L2.St) (H : Hp) (Q : VK) (h : rdm g W RF (eLcH ws fi bt tt fe) σ H Q) :
    tLcH K (rdm g W RB fi) (rg g ts bt) (rtm g W0 tt) (rdm g W0 RP fe) ws σ H Q := by
    obtain ⟨c, H0, env, s, er, w, q⟩ := h
    refine ⟨c, H0, env, s, er, w, ?_⟩
    have q : Fin g W RF c σ H ((fi env s).bind fun d s1 => (match d with
      | .lst ds => if ds.length ≤ sizeLine then (lcM bt tt fe (wipeE env (ws)) ds).bind fun ys => M.pure (.lst ys) else fun _ => .stuck
      | _ => fun _ => .stuck : M PL.D) s1) Q := q
    revert q
    cases hfi : fi env s with
    | err k p s1 => exact id
    | stuck => exact id
    | ok dd s1 =>
     intro q v H1 x1 w1 rb
     cases dd with
     | lst ds =>
      obtain ⟨la, lvs, rfl, hrd, nla, rl⟩ : ∃ p vs, v = .ref p ∧ Rd H1 p (.lst vs) ∧ p ≠ c ∧ Reps g c H1 ds vs := by
        rcases rb with ⟨p, vs, e1, e2, r⟩ | ⟨l', p, vs, e1, e2, n, q, r⟩
        · obtain ⟨o, e3⟩ := e2
          exact ⟨p, vs, e1, .inr ⟨o, e3⟩, (fun z => by rw [z, w1.cup] at e3; cases e3), r⟩
        · cases e1; exact ⟨p, vs, e2, .inl q, n, r⟩
      have sql : SqL K H1 la lvs := .inl hrd
      refine ⟨la, lvs, rfl, sql, fun Lq hD => ?_⟩
      have q : Fin g W RF c σ H ((if ds.length ≤ sizeLine then (lcM bt tt fe (wipeE env (ws)) ds).bind fun ys => M.pure (.lst ys) else fun _ => .stuck : M PL.D) s1) Q := q
      have hz : ds.length ≤ sizeLine := by
        by_cases hz : ds.length ≤ sizeLine
        · exact hz
        · rw [if_neg hz] at q; exact q.elim
      rw [if_pos hz] at q
      have q : Fin g W RF c σ H (((lcM bt tt fe (wipeE env (ws)) ds).bind fun ys => M.pure (.lst ys)) s1) Q := q
      have nDc : Lq ≠ c := fun z => by rw [z, w1.cup] at hD; cases hD
      have er1 := er.extH w x1
      have hll := rl.length
      -- the invariant
      refine ⟨fun i H2 => i ≤ ds.length ∧ Ext c H1 H2 ∧ ∃ s2 acc av, Wd g c H2 s2 ∧ H2 Lq = some (.lst av) ∧ Reps g c H2 acc av ∧ acc.length ≤ i ∧
          ((lcM bt tt fe (wipeE env (ws)) ds).bind fun ys => M.pure (D.lst ys)) s1 = ((lcM bt tt fe (wipeE env (ws)) (ds.drop i)).bind fun ys => M.pure (D.lst (acc ++ ys))) s2,
        ⟨Nat.zero_le _, Ext.laid hD, s1, [], [], w1.laid hD, upd_same, Reps.nil, Nat.zero_le _, by simp⟩, ?_⟩
      rintro i H2 ⟨hi, x2, s2, acc, av, w2, hD2, r2, hacc, eq⟩
      have sql2 : SqL K H2 la lvs := .inl (hrd.elim (fun h => .inl (x2 _ _ nla h (fun _ z => by cases z))) fun ⟨o, h⟩ => .inr ⟨o, x2 _ _ nla h (fun _ z => by cases z)⟩)
      refine ⟨sql2, ?_⟩
      by_cases hlt : i < ds.length
      · right
        have hlv : i < lvs.length := by omega
        refine ⟨lvs[i], List.getElem?_eq_getElem hlv, ?_⟩
        have x3 : Ext c H2 H2 := Ext.refl _ _
        have w3 := w2
        obtain ⟨d, hd, rd0⟩ := rl.getV (List.getElem?_eq_getElem hlv)
        have rd : Rep g c H2 d lvs[i] := rd0.mono (x2.mono w1)
        have hdr : ds.drop i = d :: ds.drop (i + 1) := by
          rw [List.drop_eq_getElem_cons hlt]
          rw [List.getElem?_eq_getElem hlt] at hd
          cases hd; rfl
        rw [hdr] at eq
        cases hb : bt d (wipeE env (ws)) with
        | none =>
          have : lcM bt tt fe (wipeE env (ws)) (d :: ds.drop (i + 1)) = fun _ => .stuck := by rw [lcM, hb]
          rw [this] at eq
          rw [eq] at q
          exact q.elim
        | some e1 =>
          rw [lcM_cons hb] at eq
          have erb : ER g c H0 (L2.wipe σ (ws)) H2 (wipeE env (ws)) := (er1.wipe _).extH w1 x2
          refine ⟨c, H0, _, s2, d, e1, erb, w3, rd, hb, fun σ' er' hw => ⟨?_, ?_⟩⟩
          · have hw' := hw (ws) hts
            rw [hw']
            exact wipe_idem _ _ _ fun i hi => hi
          · -- the test
            refine ⟨c, H0, e1, s2, er', w3, ?_⟩
            cases ht1 : tt e1 s2 with
            | stuck =>
              have : M.nx (tt e1) s2 = .stuck := by unfold M.nx; rw [ht1]
              have eq2 := eq.trans (show _ = R.stuck by
                show ((((M.nx (tt e1)).bind _) s2).bind _) = _
                show (((M.nx (tt e1) s2).bind _).bind _) = _
                rw [this]; rfl)
              rw [eq2] at q
              exact q.elim
            | err k p s3 =>
              have : M.nx (tt e1) s2 = .stuck := by unfold M.nx; rw [ht1]
              have eq2 := eq.trans (show _ = R.stuck by
                show (((M.nx (tt e1) s2).bind _).bind _) = _
                rw [this]; rfl)
              rw [eq2] at q
              exact q.elim
            | ok bb s3 =>
              intro H4 x4 w4
              have hD4 : H4 Lq = some (.lst av) := x4 Lq _ nDc (x3 Lq _ nDc hD2 (fun _ z => by cases z)) (fun _ z => by cases z)
              have r4 : Reps g c H4 acc av := r2.mono ((x3.trans x4).mono w2)
              have x14 : Ext c H1 H4 := x2.trans (x3.trans x4)
              have eq3 : ((lcM bt tt fe (wipeE env (ws)) ds).bind fun ys => M.pure (D.lst ys)) s1 = ((if bb then (M.nx (fe e1)).bind fun y => (lcM bt tt fe (wipeE env (ws)) (ds.drop (i + 1))).bind fun ys => M.pure (y :: ys) else lcM bt tt fe (wipeE env (ws)) (ds.drop (i + 1))) s3).bind fun ys => M.pure (D.lst (acc ++ ys)) := by
                rw [eq]
                show (((M.nx (tt e1) s2).bind _).bind _) = _
                rw [nx_ok ht1]; rfl
              cases bb with
              | false =>
                refine iteF ⟨hlt, x14, s3, acc, av, w4, hD4, r4, Nat.le_succ_of_le hacc, ?_⟩
                rw [eq3]; rfl
              | true =>
                refine iteT ⟨c, H0, e1, s3, er'.extH w3 x4, w4, ?_⟩
                cases he1 : fe e1 s3 with
                | stuck =>
                  have : M.nx (fe e1) s3 = .stuck := by unfold M.nx; rw [he1]
                  have eq4 := eq3.trans (show _ = R.stuck by
                    show (((M.nx (fe e1) s3).bind _).bind _) = _
                    rw [this]; rfl)
                  rw [eq4] at q
                  exact q.elim
                | err k p s4 =>
                  have : M.nx (fe e1) s3 = .stuck := by unfold M.nx; rw [he1]
                  have eq4 := eq3.trans (show _ = R.stuck by
                    show (((M.nx (fe e1) s3).bind _).bind _) = _
                    rw [this]; rfl)
                  rw [eq4] at q
                  exact q.elim
                | ok y s4 =>
                  intro v H5 x5 w5 r5
                  have hD5 : H5 Lq = some (.lst av) := x5 Lq _ nDc hD4 (fun _ z => by cases z)
                  have hal : acc.length < sizeLine := by omega
                  refine ⟨av, hD5, by rw [(r4.mono (x5.mono w4)).length]; exact hal, hlt, ?_, s4, acc ++ [y], av ++ [v], ?_, upd_same, ?_, by simp; omega, ?_⟩
                  · intro b o nb hb' nt
                    by_cases e : b = Lq
                    · rw [e, hD] at hb'; cases hb'
                    · rw [upd_ne e]; exact x5 b o nb (x14 b o nb hb' nt) nt
                  · exact ⟨by rw [upd_ne (Ne.symm nDc)]; exact w5.cup, tabs_upd w5.tab hD5⟩
                  · exact ((r4.mono (x5.mono w4)).append (Reps.cons r5 Reps.nil)).mono (monoH_upd hD5)
                  · rw [eq3]
                    show (((M.nx (fe e1) s3).bind _).bind _) = _
                    rw [nx_ok he1]
                    show ((((lcM bt tt fe (wipeE env (ws)) (ds.drop (i + 1))) s4).bind _).bind _) = (((lcM bt tt fe (wipeE env (ws)) (ds.drop (i + 1))) s4).bind _)
                    cases (lcM bt tt fe (wipeE env (ws)) (ds.drop (i + 1))) s4 with
                    | ok ys s5 => show R.ok _ _ = R.ok _ _; simp [M.pure]
                    | err => rfl
                    | stuck => rfl
      · left
        have e : i = ds.length := by omega
        subst e
        refine ⟨by omega, ?_⟩
        have eq2 : ((lcM bt tt fe (wipeE env (ws)) ds).bind fun ys => M.pure (D.lst ys)) s1 = .ok (D.lst acc) s2 := by
          rw [eq, List.drop_length]
          show R.ok _ _ = R.ok _ _
          simp [M.pure]
        rw [eq2] at q
        exact q _ H2 (x1.trans x2) w2 ⟨acc, Lq, av, rfl, rfl, nDc, Nw.back x1 nDc (.of hD), hD2, r2⟩
     | _ => exact (show False from q).elim
theorem px_lcH {tg iter : Expr} {ifs : List Expr} {scope : Scope} {own : List (Str × Nat)} (hK : X.K = g.K) (hot : HotV X) (hN : X.N.Nodup) (hi : PB X g W iter fi) (ok : BlkOk X.N X.env.scope scope own)
    (hg : ∀ (Y : Cx), (∀ pins σ H s, Inv Y pins σ H s → ∃ x1, HotX.HotAt Y.A x1 s.heap) → (∃ s H C cl fp, Y = X.blk s H scope (compEnvC scope cl C X.env) fp) → PG Y tg (rg g ts bt)) (hts : ∀ i ∈ ts, i ∈ own.map (·.2))
    (ht : ∀ (s : Shared) (H : Hp) (C : Addr) (cl : List (Str × Addr)) (fp : List Addr), PTs (X.blk s H scope (compEnvC scope cl C X.env) fp) ifs (rtm g W0 tt))
    (he : ∀ (s : Shared) (H : Hp) (C : Addr) (cl : List (Str × Addr)) (fp : List Addr), PP (X.blk s H scope (compEnvC scope cl C X.env) fp) g W0 e fe) (hs : ∀ x, foldedSetIterable iter X.env x = pure x := by intro _; rfl) :
    PF X g W (.ListComp e [⟨tg, iter, ifs, 0⟩] scope pos) (eLcH (own.map (·.2)) fi bt tt fe) :=
  PE.weak (pe_lcH hot hN hi ok hg ht he hs) fun σ H Q h => rd_lcH X.K hts σ H Q h
theorem ps_lcHx {i : Nat} {y : Str} {py spos : Pos} {tg iter : Expr} {ifs : List Expr} {scope : Scope} {own : List (Str × Nat)} (hK : X.K = g.K) (hot : HotV X) (hN : X.N.Nodup) (hy : X.N[i]? = some y) (hyl : X.env.scope.names.lookup y = some .local) (hi : PB X g W iter fi) (ok : BlkOk X.N X.env.scope scope own)
    (hg : ∀ (Y : Cx), (∀ pins σ H s, Inv Y pins σ H s → ∃ x1, HotX.HotAt Y.A x1 s.heap) → (∃ s H C cl fp, Y = X.blk s H scope (compEnvC scope cl C X.env) fp) → PG Y tg (rg g ts bt)) (hts : ∀ i ∈ ts, i ∈ own.map (·.2))
    (ht : ∀ (s : Shared) (H : Hp) (C : Addr) (cl : List (Str × Addr)) (fp : List Addr), PTs (X.blk s H scope (compEnvC scope cl C X.env) fp) ifs (rtm g W0 tt))
    (he : ∀ (s : Shared) (H : Hp) (C : Addr) (cl : List (Str × Addr)) (fp : List Addr), PP (X.blk s H scope (compEnvC scope cl C X.env) fp) g W0 e fe) (hs : ∀ x, foldedSetIterable iter X.env x = pure x := by intro _; rfl) (hsw : swapsWith (.ListComp e [⟨tg, iter, ifs, 0⟩] scope pos) (some (.Name y py)) spos.line X.env = pure true := by rfl) :
    PS X (.Assign [.Name y py] (.ListComp e [⟨tg, iter, ifs, 0⟩] scope pos) spos) (tAsg (rdm g W RF (eLcH (own.map (·.2)) fi bt tt fe)) (gName i)) :=
  PS.weak (ps_lcH hot hN hy hyl hi ok hg ht he hs hsw) fun D σ H h => rd_lcH X.K hts σ H _ h
end
end PL
namespace PL
open PySem PySem.Spec PyProof.Rows L2 LamX
/-! ### a lambda's body, what it lets out told as a def's -/
def lamN (X : Cx) (A : Around) (outer : List PySem.Env) (s : Shared) (H : Hp) (E : XK) (scope : Scope) (f c' : Addr) : Cx :=
  (lamCx X A outer s H E scope f c').wish fun e s' => wpAny (model X.prog X.w) (A.deeper (lamEnv X scope s.heap.objs.size f c')) (leaving (lamEnv X scope s.heap.objs.size f c') e) (fun _ s'' => L2N.CX X.prog X.w outer H s E e s'') (fun e' s'' => L2N.CX X.prog X.w outer H s E e' s'') s'
theorem lamN_takes {X : Cx} {A : Around} {outer : List PySem.Env} {s : Shared} {H : Hp} {E : XK} {scope : Scope} {f c' : Addr} : L2N.Takes (lamN X A outer s H E scope f c') (WF E) :=
  L2N.takes_of (X := lamN X A outer s H E scope f c') (E := E) rfl rfl rfl rfl
section
variable {X : Cx} {pins : List (Addr × Obj)} {σ : L2.St} {H : Hp} {s : Shared}
/-- a(), a the parameter of the def that got the lambda -/
theorem pe_actN {Eg : XK} {Ng : List Str} {qg : Str} {sg : Scope} {fg f c' : Addr} {cdg pm ctv : Value} {params : Arguments} {body : Expr} {scope : Scope} {k i : Nat} {a : Str} {pn : List (Addr × Obj)} {xe : Value → Shared → Prop} {W : WX} {tb : XK → TE} {p1 p2 : Pos}
    (I : Inv X pins σ H s) (L : LamS X.env.scope scope) (hf : s.heap.get? f = some (PySem.W.kla_obj "<lambda>" (X.env.qual ++ "<lambda>") params body scope (cloFrom X.env.cells scope.names []) pm c' ctv)) (hfn : H f = none) (hfr : f ∉ frs X.stack)
    (hbind : bindArgs (PySem.W.kla_fn "<lambda>" (X.env.qual ++ "<lambda>") params body scope (cloFrom X.env.cells scope.names []) pm (.ref c') ctv) ⟨[], []⟩ = pure [])
    (tk : L2N.Takes ((cxOf (L2N.CX X.prog X.w) X.prog X.w X.K X.mg X.base Ng qg sg fg cdg X.A X.stack s H Eg).tr pn xe) W) (hr : Room (k + 1) (X.A.deeper (envOfC qg sg s.heap.objs.size fg cdg)))
    (hbody : ∀ (A : Around) (outer : List PySem.Env) (s : Shared) (H : Hp) (E : XK), Room k (A.deeper (lamEnv X scope s.heap.objs.size f c')) → PE (lamN X A outer s H E scope f c') body (tb E))
    (hN : Ng[i]? = some a) (hv : Vis sg a) (hd : (a == ("__debug__" : Str)) = false := by decide) (hcd : (a == ("__classdict__" : Str)) = false := by decide) :
    PE ((cxOf (L2N.CX X.prog X.w) X.prog X.w X.K X.mg X.base Ng qg sg fg cdg X.A X.stack s H Eg).tr pn xe) (.Call (.Name a p1) [] [] p2)
      (fun σZ HZ Q => σZ[i]? = some (some (.ref f)) ∧ HZ c' = some (CodeO c' (X.env.qual ++ "<lambda>")) ∧ tb (fun cls d H' => W cls d σZ H') σ HZ Q) := by
  refine ⟨fun pinsZ sZ σZ HZ Q IZ ⟨hs, hc, ht⟩ => ?_⟩
  refine wpAny_Call_Name_kw (thn ((pe_var (pos := p1) (i := i) hN hv hd hcd).run pinsZ sZ σZ HZ (fun v H1 => v = .ref f ∧ H1 = HZ) IZ ⟨.ref f, hs, rfl, rfl⟩) fun u s1 ⟨v, H1, I1, r1, ev, eH⟩ => ?_)
  subst ev
  rw [eH] at I1
  obtain rfl : u = Value.ref f := r1
  have of1 := I1.base.keep f _ hf hfn hfr (fun z => nomatch (show f ∈ ([] : List Addr) from z))
  refine PySem.W.callWith_F0 ⟨_, _, _, _, of1⟩ ?_
  obtain ⟨⟨oc, vs, t, hoc, hdc, hvc⟩, _, _⟩ := I1.hok c' _ hc
  have rc : codeAny (model X.prog X.w) (X.A.deeper (envOfC qg sg s.heap.objs.size fg cdg)) (.call (.ref f) ⟨[], []⟩) (CR (L2N.CX X.prog X.w) (envOfC qg sg s.heap.objs.size fg cdg :: X.stack) X.prog X.w HZ s1 Q (fun cls d H' => W cls d σZ H')) s1 := by
    refine PySem.W.kla_callFunE hr.depth of1 rfl L.co L.gen rfl ⟨c', oc, vs, t, rfl, hoc, hdc, hvc⟩ ?_
    rw [hbind]
    refine wpAny_pure (wpAny_newFunctionEnv (fun y hy => (L.own y hy).2) (fun y hy => absurd hy (by simp)) (fun h₁ hns hsb => ⟨I1.nolimit.fresh _ hsb, ?_⟩) L.kind)
    show codeAny _ _ (.expr body (lamEnv X scope s1.heap.objs.size f c')) _ _
    have J := lam_start2 (E := fun cls d H' => W cls d σZ H') (f := f) (c' := c') (tk := s1.toks + ([] : List (Str × Value)).length) I L I1.env0 hr.hd I1.base hns (fun b o e => hsb.extBut b o (Nat.ne_of_lt (Heap.lt_size e)) (Heap.get?_push_of_some _ e))
    refine PySem.W.kla_codeExpr (wpAny_mono ((hbody _ _ s1 HZ _ (hr.deeper _)).run [] _ _ HZ Q (J.wish _) ht) (fun v s' ⟨w', H', J', rv, q⟩ => ⟨w', H', J'.os, J'.bare, J'.base, J'.hok, rv, q⟩) fun e s' hq => hq)
  refine wpAny_call (codeAny_mono rc fun r s' hq => ?_)
  cases r with
  | error e => exact L2N.passAt tk σZ pinsZ HZ s1 e s' I1 hq
  | ok fl =>
    cases fl with
    | ret u => exact I1.after hq
    | next => exact False.elim hq
    | brk => exact False.elim hq
    | cont => exact False.elim hq
end
/-! ### x(lambda: body), x a def that calls it and catches -/
def Gb.wf (g : Gb) (a : Addr) : Gb := { g with fv := fun _ => a }
theorem Wd.wf {g : Gb} {c : Addr} {H : Hp} {s : S} (w : Wd g c H s) (a : Addr) : Wd (g.wf a) c H s := ⟨w.cup, w.tab⟩
theorem Wd.unwf {g : Gb} {c : Addr} {H : Hp} {s : S} {a : Addr} (w : Wd (g.wf a) c H s) : Wd g c H s := ⟨w.cup, w.tab⟩
/-- what the handler tells: a text -/
def eFails (cat : Nat → Option Bool) (hnd : Nat → Str) (r0 : D) (fE : EF) : EF := fun env s => match fE env s with
  | .ok _ s' => .ok r0 s'
  | .err k .non s' => match cat k with
    | some true => .ok (.str (hnd k)) s'
    | some false => .err k .non s'
    | none => .stuck
  | .err _ _ _ => .stuck
  | .stuck => .stuck
/-- the handler's suite, the exception in slot j -/
def HandS (P : Program) (w : World) (K : PySem.W.Frag) (g : Gb) (mg : Str → Option Value) (base : Heap) (Ng : List Str) (x : Str) (sg : Scope) (fg : Addr) (cat : Nat → Option Bool) (hnd : Nat → Str) (j : Nat) (suite : List Stmt) : Prop :=
  ∀ (k : Nat), cat k = some true → ∃ sf : SF, (∀ s, sf ((List.replicate Ng.length Sl.un).set j (.p (.fn 0))) s = .ok (.rt (.str (hnd k))) s) ∧
    ∀ (cdv : Value) (A : Around) (outer : List PySem.Env) (s : Shared) (H : Hp) (E : XK) (a : Addr) (oe : Obj) (pn : List (Addr × Obj)), Room 1 (A.deeper (envOfC x sg s.heap.objs.size fg cdv)) → L2N.Zn (g.cl k) none oe → (∃ vs, oe.data = .fields vs) → HotV ((cxOf (L2N.CX P w) P w K mg base Ng x sg fg cdv A outer s H E).suite a ((a, oe) :: pn)) →
      PSsx ((cxOf (L2N.CX P w) P w K mg base Ng x sg fg cdv A outer s H E).suite a ((a, oe) :: pn)) (g.wf a) W0 suite sf
theorem er_un {g : Gb} {c : Addr} {H : Hp} (σ : L2.St) : ER g c H σ H (List.replicate σ.length .un) := by
  have un : ∀ (i : Nat) (sl : Sl), (List.replicate σ.length Sl.un)[i]? = some sl → sl = .un := fun i sl a => by
    rw [List.getElem?_replicate] at a
    split at a
    · cases a; rfl
    · cases a
  refine ⟨by simp, fun i sl o a b => ?_, fun i j a b p _ ha _ oa => ?_, Ext.refl _ _⟩
  · rw [un i sl a]; trivial
  · rw [un i a ha] at oa; cases oa
section
variable {g : Gb} {W : WX} {X : Cx} {fE : EF}
theorem px_fails {x a e n : Str} {fg cc P CS : Addr} {k j : Nat} {pg : Arguments} {b₀ : Stmt} {suite : List Stmt} {re : Expr} {r0 : D} {v0 : V} {fd : FuncData} {sg : Scope} {Ng : List Str} {params : Arguments} {body : Expr} {scope : Scope} {p lpos pos p1 p2 p3 p4 p5 p6 p7 : Pos} {cat : Nat → Option Bool} {hnd : Nat → Str}
    (hK : X.K = g.K) (hg : Gl X x) (hm : X.mg x = some (.ref fg))
    (F : FunD g.K x x pg [.Try [.Expr (.Call (.Name a p1) [] [] p2) p3] [.ExceptHandler (some (.Name e p4)) (some n) (b₀ :: suite) p5] [] [] p6, .Return (some re) p7] sg [] [] fg fd)
    (hb : L2.Binds g.K fd [a] []) (Sg : FnScope Ng [a] sg) (hNg : Ng[0]? = some a) (hva : Vis sg a) (hj : Ng[j]? = some n) (hjn : Ng.Nodup) (hjl : sg.names.lookup n = some .local) (hge : sg.names.lookup e = some .globalImplicit) (hme : X.mg e = some (.ref CS))
    (hr0 : ∀ (X' : Cx), PE X' re (tC v0)) (hv0 : ∀ (g : Gb) (c : Addr) (H : Hp), Rep g c H r0 v0) (hcat : ∀ k b, cat k = some b → PySem.W.exmOne g.K (g.cl k) (.ref CS) = some b)
    (hh : HandS X.prog X.w X.K g X.mg X.base Ng x sg fg cat hnd j (b₀ :: suite))
    (TB : TabB X.base X.mg cc P) (hcode : X.env.code = .ref cc) (hmT : (P, X.env.qual ++ "<lambda>") ∈ g.T) (hu : ∀ p ∈ g.T, p.1 = P → p.2 = X.env.qual ++ "<lambda>") (hr : Room (k + 2) X.A) (tk : L2N.Takes X W) (L : LamS X.env.scope scope) (hdef : defaultsOf params X.env = ([], []))
    (hbind : ∀ (q : Str) (cl : List (Str × Addr)) (pm cv ctv : Value), bindArgs (PySem.W.kla_fn "<lambda>" q params body scope cl pm cv ctv) ⟨[], []⟩ = pure [])
    (hbody : ∀ (A : Around) (outer : List PySem.Env) (s : Shared) (H : Hp) (E : XK) (f c' : Addr), Room k (A.deeper (lamEnv X scope s.heap.objs.size f c')) → PP (lamN X A outer s H E scope f c') g (WF E) body fE)
    (hdb : (x == ("__debug__" : Str)) = false := by decide) (hd : (a == ("__debug__" : Str)) = false := by decide) (hcd : (a == ("__classdict__" : Str)) = false := by decide) (hde : (e == ("__debug__" : Str)) = false := by decide) :
    PP X g W (.Call (.Name x p) [.Lambda params body scope lpos] [] pos) (eFails cat hnd r0 fE) := by
  obtain ⟨oc, od, dV, kV, doc, pm0, an, cdv, ct, osl, rfl, lk, hcg, _, _⟩ := F.ex
  refine ⟨fun pins s σ H Q I ⟨c, H0, env, sd, er, w, q⟩ => ?_⟩
  refine wpAny_Call_Name_kw (ld_glob I hg hm ?_ hdb)
  refine PySem.W.callWith_K (h₀ := X.base) I.ok.mod.kin (by rw [hK]; exact F.kp) ?_ (by rfl) (by rfl)
  show wpAny _ _ (spliced ((false, eval (.Lambda params body scope lpos) X.env) :: backTo pos (starEach [] X.env))) _ _ s
  refine Calls.spliced_cons (lam_make2 I TB hcode hmT hu w.tab hdef (L.has I.ok) fun f c' pm' ctv H1 s' I1 eN T1 hf hfn hfr hco => ?_)
  refine Calls.spliced_nil ⟨I1.kIn, ?_⟩
  have x1 : Ext c H H1 := fun b o _ e nt => eN b o e nt
  have w1 : Wd g c H1 sd := ⟨eN _ _ w.cup (fun _ z => by cases z), T1⟩
  have er1 := er.extH w x1
  have lN : 0 < Ng.length := (List.getElem?_eq_some_iff.mp hNg).1
  have ls : (L2.start Ng [V.ref f]).length = Ng.length := by
    unfold L2.start
    simp
    omega
  have s0 : (L2.start Ng [V.ref f])[0]? = some (some (.ref f)) := by
    unfold L2.start
    simp
  have hl0 : sg.names.lookup n = some .local := hjl
  have rc : codeAny (model X.prog X.w) X.A (.call (.ref fg) ⟨[.ref f], []⟩) (CR (L2N.CX X.prog X.w) X.stack X.prog X.w H1 s' Q (fun cls d H' => W cls d σ H')) s' := by
    refine run_ofS (N := Ng) (ps := [a]) (us := [.ref f]) (vs := [.ref f]) (by rw [hK]; exact lk) (by rw [hK]; exact hcg) Sg hr I1.env0 (hb s' [.ref f] (by rw [← hK]; exact I1.kIn) rfl) (.cons rfl .nil) rfl fun hr' => ?_
    -- the def's body
    let Z := cxOf (L2N.CX X.prog X.w) X.prog X.w X.K X.mg X.base Ng x sg fg cdv X.A X.stack s' H1 (fun cls d H' => W cls d σ H')
    have tkZ : L2N.Takes Z (fun cls d _ H' => W cls d σ H') := L2N.takes_of (X := Z) (E := fun cls d H' => W cls d σ H') rfl rfl rfl rfl
    have hglZ : Gl Z e := hge
    let ts : Addr → Value → Option Addr → TS := fun aa cls d => fun Dn σ' H' => ∃ kk, cls = g.cl kk ∧ d = none ∧ cat kk = some true ∧ ∃ c0 s0, σ' = (L2.start Ng [V.ref f]).set j (some (.ref aa)) ∧ Wd g c0 H' s0 ∧ ∀ v H2, Ext c0 H' H2 → Wd g c0 H2 s0 → v = .str (hnd kk) → Dn.rt v H2
    refine ⟨_, pss_cons (L2N.ps_try_as (X := Z) (i := j) (n := n) (c := .ref CS) (Wout := fun cls d _ H' => W cls d σ H') (ts := ts)
      (tb := fun W' D σ' H' => σ' = L2.start Ng [V.ref f] ∧ H' c' = some (CodeO c' (X.env.qual ++ "<lambda>")) ∧ rdm g (WF fun cls d H'' => W' cls d σ' H'') RP fE σ H' (fun _ H'' => D.nx σ' H''))
      rfl rfl hjn hj hjl ⟨hglZ, hde, .inl hme⟩ tkZ (fun W' pn xe tk' _ => ?_) (fun aa oe cls d pn hz hv => ?_)) (pss_one (ps_ret (hr0 Z))), ?_⟩
    · -- the call of the lambda
      refine pss_one (PS.weak (ps_expr (pe_actN (p1 := p1) (p2 := p2) (i := 0) (tb := fun E => rdm g (WF E) RP fE) I1 L hf hfn hfr (hbind _ _ _ _ _) tk' hr' (fun A outer s H E hr2 => hbody A outer s H E f c' hr2) hNg hva hd hcd)) fun D σ' H' ⟨e1, e2, e3⟩ => ?_)
      subst e1
      exact ⟨s0, e2, e3⟩
    · -- the suite
      refine ⟨fun pins2 s2 σ2 H2 Dn I2 ⟨kk, e1, e2, e3, c0, sd0, e4, w0, q0⟩ => ?_⟩
      subst e1 e2 e4
      obtain ⟨sf, h1, h2⟩ := hh kk e3
      have hot : HotV (Z.suite aa ((aa, oe) :: pn)) := HotV.suite hz hv
      refine (h2 cdv X.A X.stack s' H1 (fun cls d H' => W cls d σ H') aa oe pn (hr'.mono (by omega)) hz hv hot).run pins2 s2 _ H2 Dn I2 ⟨c0, H2, (List.replicate Ng.length Sl.un).set j (.p (.fn 0)), sd0, ?_, w0.wf aa, ?_⟩
      · have := (er_un (g := g.wf aa) (c := c0) (H := H2) (L2.start Ng [V.ref f])).setP j (d := .fn 0) (v := .ref aa) rfl
        rw [ls] at this
        exact this
      · rw [h1]
        exact fun v H3 x3 w3 r3 => q0 v H3 x3 w3.unwf r3
    · refine ⟨rfl, hco, c, H0, env, sd, er1, w1, ?_⟩
      have q : Fin g W RP c σ H (eFails cat hnd r0 fE env sd) Q := q
      unfold eFails at q
      revert q
      cases fE env sd with
      | ok d s2 =>
        intro q v H2 x2 w2 _
        exact q v0 H2 (x1.trans x2) w2 (hv0 g c H2)
      | err kk pp s2 =>
        intro q dd H2 x2 w2 r2
        cases pp with
        | non =>
          have ed : dd = none := r2
          subst ed
          have q : Fin g W RP c σ H (match cat kk with
            | some true => .ok (.str (hnd kk)) s2
            | some false => .err kk .non s2
            | none => .stuck) Q := q
          cases hc : cat kk with
          | none => rw [hc] at q; exact q.elim
          | some b =>
            rw [hc] at q
            refine ⟨b, by rw [show Z.K = g.K from hK]; exact hcat kk b hc, fun hb aa na => ?_, fun hb => ?_⟩
            · subst hb
              exact ⟨kk, rfl, rfl, hc, c, s2, rfl, w2, fun v H3 x3 w3 e => q v H3 ((x1.trans x2).trans x3) w3 e⟩
            · subst hb
              exact q none H2 (x1.trans x2) w2 rfl
        | _ => exact q.elim
      | stuck => exact fun q => q.elim
  refine wpAny_call (codeAny_mono rc fun r s2 hq => ?_)
  cases r with
  | error e => exact L2N.passAt tk σ pins H1 s' e s2 I1 hq
  | ok fl =>
    cases fl with
    | ret u => exact I1.after hq
    | next => exact False.elim hq
    | brk => exact False.elim hq
    | cont => exact False.elim hq
end
end PL
namespace PL
open PySem PySem.Spec PyProof.Rows L2 LamX
/-! ### isinstance(e, C) in an except suite -/
section
variable {g : Gb} {X : Cx} {pos p p1 p2 : Pos}
def eIsE (j : Nat) (b : Bool) : EF := fun env => match env[j]? with
  | some (.p (.fn _)) => M.pure (.bl b)
  | _ => fun _ => .stuck
theorem px_isE {n y : Str} {a D CA : Addr} {oe : Obj} {pn : List (Addr × Obj)} {j : Nat} {b : Bool} (hK : X.K = g.K) (C : ExcC g.K D) (hz : L2N.Zn (.ref D) none oe) (hf : ∃ vs, oe.data = .fields vs)
    (hb : PySem.W.kitOne g.K (.ref D) (.ref CA) = some b) (hg : Gl (X.suite a ((a, oe) :: pn)) "isinstance") (hm : X.mg "isinstance" = none) (hv : PE (X.suite a ((a, oe) :: pn)) (.Name n p1) (tVar j)) (hg2 : Gl (X.suite a ((a, oe) :: pn)) y) (hm2 : X.mg y = some (.ref CA))
    (hdb2 : (y == ("__debug__" : Str)) = false := by decide)
    (hs : starEach [.Name n p1, .Name y p2] (X.suite a ((a, oe) :: pn)).env = (false, eval (.Name n p1) (X.suite a ((a, oe) :: pn)).env) :: starEach [.Name y p2] (X.suite a ((a, oe) :: pn)).env := by rfl) (hs2 : starEach [.Name y p2] (X.suite a ((a, oe) :: pn)).env = (false, eval (.Name y p2) (X.suite a ((a, oe) :: pn)).env) :: starEach [] (X.suite a ((a, oe) :: pn)).env := by rfl)
    (hpl : (backTo pos (starEach [.Name y p2] (X.suite a ((a, oe) :: pn)).env)).any (·.1) = false := by rfl) :
    PP (X.suite a ((a, oe) :: pn)) (g.wf a) W0 (.Call (.Name "isinstance" p) [.Name n p1, .Name y p2] [] pos) (eIsE j b) :=
  PE.weak (pe_callB (r := rIsE g.K D a) (by have := call_isE (X := X) (a := a) (D := D) (oe := oe) (pn := pn) (by rw [hK]; exact C) ⟨hz.1, hz.2.1⟩ hf; rw [hK] at this; exact this) hg hm boot_isinstance
      (pa_cons hv (pa_cons (pe_glob hg2 hm2 (show RelV (.ref CA) _ from rfl) hdb2) pa_nil hs2) hs) (he := hs) (hpl := hpl)) fun σ H Q ⟨c, H0, env, s, er, w, q⟩ => by
    cases hj : env[j]? with
    | none => simp [eIsE, hj, Fin] at q
    | some sl =>
      cases sl with
      | p d =>
        cases d with
        | fn n =>
          obtain ⟨v, hv, r⟩ := er.pv hj
          simp only [eIsE, hj] at q
          cases r
          exact ⟨_, hv, .ref CA, .ref CA, b, rfl, fun u r => r, hb, q _ H (Ext.refl _ _) w rfl⟩
        | _ => simp [eIsE, hj, Fin] at q
      | _ => simp [eIsE, hj, Fin] at q
end
/-! ### raise X("..") -/
section
variable {g : Gb} {W : WX} {X : Cx} {fs : AF} {e : Expr} {es : List Expr} {pos p p2 p3 : Pos}
theorem psx_raiseX {x m : Str} {k j : Nat} {C : Addr} (hcl : g.cl k = .ref C) (hc : X.calm = true) (tk : L2N.Takes X W) (hK : X.K = g.K) (q : PySem.W.excIn g.K C [.type "ValueError", .type "Exception", .type "BaseException", .type "object"] "ValueError.__new__" = true)
    (gC : X.mg x = some (.ref C)) (kC : PySem.W.keepIn g.K (.ref C) = true) (r1 : PySem.W.subIn g.K (.ref C) (.type "BaseException") = some true) (r2 : PySem.W.typeIn g.K (.ref C) = some (.type "type")) (hg : Gl X x) (hdb : (x == ("__debug__" : Str)) = false := by decide) :
    PSx X g W (.Raise (some (.Call (.Name x p) [.Constant (.str m) j p2] [] p3)) none pos) (sRaise k) :=
  PS.weak (L2N.ps_raise hc tk (L2N.pmk_own PySem.F.excBase_ValueError (by rw [hK]; exact q) gC (by rw [hK]; exact kC) (raises_own (by rw [hK]; exact r1) (by rw [hK]; exact r2)) hg hdb)) fun D σ H ⟨c, H0, env, s, er, w, q⟩ => by
    rw [← hcl]
    exact q none σ H er.ext w rfl
/-! ### a call of what a local holds -/
def eCallV (i : Nat) (Fs : Nat → Option (List D → M D)) (fs : AF) : EF := fun env => match env[i]? with
  | some (.p (.fn n)) => (match Fs n with
    | some F => (fs env).bind fun ds => F ds
    | none => fun _ => .stuck)
  | _ => fun _ => .stuck
theorem px_callV {i k : Nat} {x : Str} {Fs : Nat → Option (List D → M D)} (G : ∀ n F, Fs n = some F → ∃ m, Df X.prog X.w X.mg X.base g k (g.fv n) m F) (hK : X.K = g.K) (hr : Room k X.A) (hN : X.N[i]? = some x) (hv : Vis X.env.scope x) (tk : L2N.Takes X W) (ha : PAx RP X g W (e :: es) fs)
    (hdb : (x == ("__debug__" : Str)) = false := by decide) (hcd : (x == ("__classdict__" : Str)) = false := by decide) (he : starEach (e :: es) X.env = (false, eval e X.env) :: starEach es X.env := by rfl) (hpl : (backTo pos (starEach es X.env)).any (·.1) = false := by rfl) :
    PP X g W (.Call (.Name x p) (e :: es) [] pos) (eCallV i Fs fs) := by
  refine ⟨fun pins s σ H Q I ⟨c, H0, env, sd, er, w, q⟩ => ?_⟩
  have q : Fin g W RP c σ H ((match env[i]? with
    | some (.p (.fn n)) => (match Fs n with
      | some F => (fs env).bind fun ds => F ds
      | none => fun _ => .stuck)
    | _ => fun _ => .stuck : M D) sd) Q := q
  cases hi : env[i]? with
  | none => rw [hi] at q; exact q.elim
  | some sl =>
    rw [hi] at q
    cases sl with
    | p d =>
      cases d with
      | fn n =>
        cases hF : Fs n with
        | none => simp only [hF] at q; exact q.elim
        | some F =>
          simp only [hF] at q
          obtain ⟨v, hs, r⟩ := er.pv hi
          cases r
          obtain ⟨m, G⟩ := G n F hF
          obtain ⟨fd, ps, h1, h2, h3⟩ := G.ex
          have q : Fin g W RP c σ H ((fs env sd).bind fun ds s1 => F ds s1) Q := q
          refine wpAny_Call_Name_kw (thn ((pe_var (pos := p) hN hv hdb hcd).run pins s σ H (fun v H1 => v = .ref (g.fv n) ∧ H1 = H) I ⟨.ref (g.fv n), hs, rfl, rfl⟩) fun u s1 ⟨v, H1, I1, r1, ev, eH⟩ => ?_)
          subst ev
          rw [eH] at I1
          cases r1
          have rda' : rda g W RP fs σ H (fun vs H1 => spP g m F vs H1 Q (fun cls dd H => W cls dd σ H)) := by
            refine ⟨c, H0, env, sd, er, w, ?_⟩
            cases hf : fs env sd with
            | ok ds s1 =>
              rw [hf] at q
              intro vs H1 x1 w1 hl r1
              have q : Fin g W RP c σ H (F ds s1) Q := q
              exact ⟨by rw [hl]; exact G.len ds s1 (fun z => by rw [z] at q; exact q), c, ds, s1, w1, reps_of hl r1, FinF.fin (s := s1) x1 q⟩
            | err k p s1 => rw [hf] at q; exact q
            | stuck => rw [hf] at q; exact q
          refine PySem.W.callWith_K (h₀ := X.base) I.ok.mod.kin (by rw [hK]; exact h2) (thn (ha.run pos pins s1 σ _ _ I1 rda') fun us s2 ⟨vs, H2, I2, r, q2⟩ => ⟨I2.kIn, ?_⟩) he hpl
          exact run_fnS (E := fun σ cls dd H => W cls dd σ H) (by rw [hK]; exact h1) hr (by rw [hK]; exact h3) (L2N.passAt tk σ) I2 r q2
      | _ => exact q.elim
    | _ => exact q.elim
end
end PL
namespace PL
open PySem PySem.Spec PyProof.Rows L2
section
variable {g : Gb} {W : WX} {X : Cx} {e a b cc : Expr} {fa fb fc f : EF} {pos apos : Pos} {fs : AF}
/-! ### 'sep'.join(texts) -/
theorem Fin.impQ {Rl : RL} {c : Addr} {σ : L2.St} {H : Hp} {r : R D} {Q Q' : VK} (h : Fin g W Rl c σ H r Q) (i : ∀ v H', Q v H' → Q' v H') : Fin g W Rl c σ H r Q' := by
  cases r with
  | ok d s => exact fun v H' e w q => i _ _ (h v H' e w q)
  | err k p s => exact h
  | stuck => exact h
def dJoin (a : Str) (e : D) : Option D := match e with
  | .lst l => (match asStrs l with
    | some ys => if (ys.map (·.length)).sum + ys.length * a.length ≤ 16777216 then some (.str (Txt.join a ys)) else none
    | none => none)
  | .tup l => (match asStrs l with
    | some ys => if (ys.map (·.length)).sum + ys.length * a.length ≤ 16777216 then some (.str (Txt.join a ys)) else none
    | none => none)
  | _ => none
def rJoin (K : PySem.W.Frag) (a : Str) (y : V) (H : Hp) (Q : VK) : Prop := ∃ p, ∃ ys : List Str, y = .ref p ∧ (SqL K H p (ys.map V.str) ∨ SqT K H p (ys.map V.str)) ∧ (ys.map (·.length)).sum + ys.length * a.length ≤ 16777216 ∧ Q (.str (Txt.join a ys)) H
theorem st_join (a : Str) : Step1 g RP (rJoin g.K a) (dJoin a) := by
  intro c Hs H s d z x Q w rx hz q
  unfold dJoin at hz
  split at hz
  · rename_i l
    split at hz
    · rename_i ys hy
      split at hz
      · rename_i hl
        cases hz
        obtain ⟨p, vs, rfl, h1, r1⟩ := rx.lst
        exact ⟨p, ys, rfl, .inl (by rw [← r1.strs hy]; exact .inl h1), hl, q _ H (Ext.refl _ _) w rfl⟩
      · cases hz
    · cases hz
  · rename_i l
    split at hz
    · rename_i ys hy
      split at hz
      · rename_i hl
        cases hz
        obtain ⟨p, vs, rfl, h1, r1⟩ := rx.tup
        exact ⟨p, ys, rfl, .inr (by rw [← r1.strs hy]; exact h1), hl, q _ H (Ext.refl _ _) w rfl⟩
      · cases hz
    · cases hz
  · cases hz
theorem px_join {x : Str} {j} {p2 : Pos} (hK : X.K = g.K) (he : PB X g W e fb) (hs : starEach [e] X.env = [(false, eval e X.env)] := by rfl) (hbase : attributeBase (.Constant (.str x) j p2) "join" X.env (eval (.Constant (.str x) j p2) X.env) = eval (.Constant (.str x) j p2) X.env := by rfl) (hline : (apos.endLine == pos.line) = true := by rfl) :
    PP X g W (.Call (.Attribute (.Constant (.str x) j p2) "join" apos) [e] [] pos) (e1 (dJoin x) fb) :=
  PE.weak (pe_join pe_str he hs hbase hline) fun σ H Q h => ⟨⟨x, rfl⟩, by
    obtain ⟨c, H0, env, s, er, w, q⟩ := rd1 (st_join x) σ H Q h
    refine ⟨c, H0, env, s, er, w, q.impQ fun v H' ⟨p, ys, e1, e2, e3, e4⟩ => ⟨x, p, ys, rfl, by rw [e1], by rw [hK]; exact e2, e3, e4⟩⟩⟩
/-! ### a, b, c = x, y, z -/
def sPar3 (i j k : Nat) (fs : AF) : SF := fun env => (fs env).bind fun ds => match ds with
  | [d, e, f] => M.pure (.nx (((env.set i (.p d)).set j (.p e)).set k (.p f)))
  | _ => fun _ => .stuck
theorem psx_par3 {i j k : Nat} {st : Stmt} (hW : Wσ W) (h : PS X st (tPar3 i j k (rda g W RP fs))) : PSx X g W st (sPar3 i j k fs) := PS.weak h fun D σ H ⟨c, H0, env, s, er, w, q⟩ =>
  ⟨c, H0, env, s, er, w, FinS.bindA (Rl1 := RP) hW er w q fun ds s1 vs H1 _ x1 w1 hl r1 q1 => by
    match ds, vs, hl, r1, q1 with
    | [d, e, f], [v, u, t], _, r1, q1 => exact ⟨v, u, t, rfl, q1 _ H1 (MonoH.refl _) ((((er.extH w x1).setP i (r1 0 d v rfl rfl)).setP j (r1 1 e u rfl rfl)).setP k (r1 2 f t rfl rfl)) w1⟩
    | [], _, _, _, q1 => exact (show False from q1).elim
    | [_], _, _, _, q1 => exact (show False from q1).elim
    | [_, _], _, _, _, q1 => exact (show False from q1).elim
    | _ :: _ :: _ :: _ :: _, _, _, _, q1 => exact (show False from q1).elim⟩
theorem _root_.L2.Room.u64 {k : Nat} {A : Around} (r : Room k A) : A.units + 64 < cLine := by have := r.un; omega
theorem _root_.L2.Room.u65 {k : Nat} {A : Around} (r : Room k A) : A.units + 65 < cLine := by have := r.un; omega
theorem tk0 : L2N.Takes X W0 := fun _ _ ⟨_, _, _, _, _, _, _, _, _, _, _, _, _, _, _, _, z⟩ => z.elim
theorem W0.σ : Wσ W0 := fun _ _ _ _ _ h => h
end
end PL
namespace PL
open PySem PySem.Spec PyProof.Rows L2
theorem psx_stuck {g : Gb} {W : WX} {X : Cx} {sts : List Stmt} : PSsx X g W sts (fun _ _ => .stuck) := ⟨fun pins s σ H Dn I ⟨_, _, _, _, _, _, q⟩ => q.elim⟩
section
variable {P : Program} {w : World} {mg : Str → Option Value} {base : Heap} {g : Gb}
theorem tkF {K : PySem.W.Frag} {N : List Str} {q : Str} {sc : Scope} {f : Addr} {cdv : Value} {A : Around} {outer : List PySem.Env} {s : Shared} {H : Hp} {E : XK} : L2N.Takes (cxOf (L2N.CX P w) P w K mg base N q sc f cdv A outer s H E) (WF E) :=
  L2N.takes_of (E := E) rfl rfl rfl rfl
theorem poF {K : PySem.W.Frag} {N : List Str} {q : Str} {sc : Scope} {f : Addr} {cdv : Value} {A : Around} {outer : List PySem.Env} {s : Shared} {H : Hp} {E : XK} {X : Cx} (h : X = cxOf (L2N.CX P w) P w K mg base N q sc f cdv A outer s H E := by rfl) : PassesOwn (model X.prog X.w) X.A X.env X.xe := by
  subst h; exact PassesOwn.leaving
/-- the code object that a def bears -/
theorem codeD {K : PySem.W.Frag} {p : Str × Option Str} {x qual : Str} {params : Arguments} {body : List Stmt} {scope : Scope} {fd : FuncData} (F : FunD K x qual params body scope [] [] (He.fAd K p) fd) : fd.code = .ref (He.codeOf K p) := by
  obtain ⟨oc, od, dV, kV, doc, pm, an, cdv, ct, osl, rfl, lk, hcd, _, _⟩ := F.ex
  obtain ⟨c, rfl⟩ := He.codeIn_ref hcd
  exact (congrArg Value.ref (He.codeOf_eq lk rfl)).symm
/-- Df.of where the body is told the code object -/
theorem Df.ofC {x qual : Str} {params : Arguments} {body : List Stmt} {scope : Scope} {f : Addr} {fd : FuncData} {N ps : List Str} {k : Nat} {sf : SF} (F : FunD g.K x qual params body scope [] [] f fd) (S : FnScope N ps scope) (hN : ps.length ≤ N.length) (hb : Binds g.K fd ps [])
    (hbody : ∀ (A : Around) (outer : List PySem.Env) (s : Shared) (H : Hp) (E : XK), Room k (A.deeper (envOfC qual scope s.heap.objs.size f fd.code)) → PSsx (cxOf (L2N.CX P w) P w g.K mg base N qual scope f fd.code A outer s H E) g (WF E) body sf) :
    Df P w mg base g (k + 1) f ps.length (runF ps.length N.length sf) := by
  refine ⟨fun ds s h => by
    unfold runF at h
    by_cases hn : ds.length = ps.length
    · exact hn
    · rw [if_neg hn] at h; exact absurd rfl h, fd, ps, ?_, F.kp, hb⟩
  obtain ⟨oc, od, dV, kV, doc, pm, an, cdv, ct, osl, rfl, lk, hcd, _, _⟩ := F.ex
  refine fn_of lk hcd S (fun vs H Q E h => h.1) (fun A outer s H vs Q E hr h => ⟨_, hbody A outer s H E hr, ?_⟩)
  obtain ⟨hl, c, ds, s1, w, r, q⟩ := h
  have hn : ds.length = ps.length := by rw [← r.length]; exact hl
  refine ⟨c, H, _, s1, er_start (s := s1) r hn hN, w, ?_⟩
  unfold runF at q
  rw [if_pos hn] at q
  have q : FinF g c H ((sf (ds.map Sl.p ++ List.replicate (N.length - ps.length) .un) s1).bind fun fl s => (match fl with | .nx _ => M.pure .non | .rt d => M.pure d : M D) s) Q E := q
  revert q
  cases sf (ds.map Sl.p ++ List.replicate (N.length - ps.length) .un) s1 with
  | ok fl s2 =>
    cases fl with
    | nx e => exact fun q σ' H' _ er' w' => q .non H' er'.ext w' rfl
    | rt d => exact fun q v H' x w' r' => q v H' x w' r'
  | err kk p s2 => exact fun q dd σ' H' x w' r' => q dd H' x w' r'
  | stuck => exact fun q => q
end
end PL
/-! the meaning at work: what each word does at a place, for simp -/
namespace PL
open PySem
section
variable {α β : Type} {env : Env} {s s' : S} {i n k : Nat} {d d' e f : D} {fa fb fc : EF} {fs : AF} {ds l : List D} {t u : TF} {sl : Sl} {r : Env} {sf sg : SF} {j m : Int}
@[simp] theorem ev_ok {a : α} {g : α → S → R β} : R.bind (.ok a s) g = g a s := rfl
@[simp] theorem ev_err {p : D} {g : α → S → R β} : R.bind (.err k p s) g = .err k p s := rfl
@[simp] theorem ev_stuck {g : α → S → R β} : R.bind .stuck g = .stuck := rfl
@[simp] theorem ev_some {a : α} : M.opt (some a) s = .ok a s := rfl
@[simp] theorem ev_none : (M.opt (none : Option α)) s = .stuck := rfl
@[simp] theorem ev_pure {a : α} : M.pure a s = .ok a s := rfl
@[simp] theorem ev_bind {x : M α} {g : α → M β} : (x.bind g) s = (x s).bind fun a s => g a s := rfl
@[simp] theorem ev_v0 : eVar 0 (.p d :: r) s = .ok d s := rfl
@[simp] theorem ev_vS : eVar (i + 1) (sl :: r) s = eVar i r s := rfl
@[simp] theorem ev_o0 : eVarO 0 (.ol l :: r) s = .ok (.lst l) s := rfl
@[simp] theorem ev_oS : eVarO (i + 1) (sl :: r) s = eVarO i r s := rfl
@[simp] theorem ev_c : eC d env s = .ok d s := rfl
@[simp] theorem ev_e1 {φ : D → Option D} : e1 φ fa env s = (fa env s).bind fun d s => M.opt (φ d) s := rfl
@[simp] theorem ev_e2 {φ : D → D → Option D} : e2 φ fa fb env s = (fa env s).bind fun d s => (fb env s).bind fun e s => M.opt (φ d e) s := rfl
@[simp] theorem ev_tB : tB fa env s = (fa env s).bind fun d s => (match d with | .bl b => .ok b s | _ => .stuck) := by
  show (fa env s).bind _ = _
  congr 1; funext d s; cases d <;> rfl
@[simp] theorem ev_not : tNotF t env s = (t env s).bind fun b s => .ok (!b) s := rfl
@[simp] theorem ev_and : tAndF t u env s = (t env s).bind fun b s => if b then u env s else .ok false s := by
  show (t env s).bind _ = _
  congr 1; funext b s; cases b <;> rfl
@[simp] theorem ev_or : tOrF t u env s = (t env s).bind fun b s => if b then .ok true s else u env s := by
  show (t env s).bind _ = _
  congr 1; funext b s; cases b <;> rfl
@[simp] theorem ev_andV : eAndV fa fb env s = (fa env s).bind fun d s => (match d with | .bl true => fb env s | .bl false => .ok (.bl false) s | _ => .stuck) := by
  show (fa env s).bind _ = _
  congr 1; funext d s; cases d with
  | bl b => cases b <;> rfl
  | _ => rfl
@[simp] theorem ev_orV : eOrV fa fb env s = (fa env s).bind fun d s => (match d with | .bl false => fb env s | .bl true => .ok (.bl true) s | _ => .stuck) := by
  show (fa env s).bind _ = _
  congr 1; funext d s; cases d with
  | bl b => cases b <;> rfl
  | _ => rfl
@[simp] theorem ev_notV : eNotV fa env s = (fa env s).bind fun d s => (match d with | .bl b => .ok (.bl (!b)) s | _ => .stuck) := by
  show (fa env s).bind _ = _
  congr 1; funext d s; cases d <;> rfl
@[simp] theorem ev_if : eIf t fa fb env s = (t env s).bind fun b s => if b then fa env s else fb env s := by
  show (t env s).bind _ = _
  congr 1; funext b s; cases b <;> rfl
@[simp] theorem ev_nil : aNil env s = .ok [] s := rfl
@[simp] theorem ev_cons : aCons fa fs env s = (fa env s).bind fun d s => (fs env s).bind fun ds s => .ok (d :: ds) s := rfl
@[simp] theorem ev_tup : eTup fs env s = (fs env s).bind fun ds s => if ds.length ≤ sizeLine then .ok (.tup ds) s else .stuck := by
  show (fs env s).bind _ = _
  congr 1; funext ds s; split <;> rfl
@[simp] theorem ev_lst : eLst fs env s = (fs env s).bind fun ds s => if ds.length ≤ sizeLine then .ok (.lst ds) s else .stuck := by
  show (fs env s).bind _ = _
  congr 1; funext ds s; split <;> rfl
@[simp] theorem ev_N {φ : List D → Option D} : eN φ fs env s = (fs env s).bind fun ds s => M.opt (φ ds) s := rfl
@[simp] theorem ev_n1 {φ : D → Option D} : n1 φ [d] = φ d := rfl
@[simp] theorem ev_n2 {φ : D → D → Option D} : n2 φ [d, e] = φ d e := rfl
@[simp] theorem ev_call {F : List D → M D} : eCall F fs env s = (fs env s).bind fun ds s => F ds s := rfl
@[simp] theorem ev_3 {φ φ' : D → D → Option D} : e3c φ φ' fa fb fc env s = (fa env s).bind fun d s => (fb env s).bind fun e s => (M.opt (φ d e) s).bind fun z s => (match z with | .bl true => (fc env s).bind fun u s => M.opt (φ' e u) s | .bl false => .ok (.bl false) s | _ => .stuck) := by
  show (fa env s).bind _ = _
  congr 1; funext d s
  show (fb env s).bind _ = _
  congr 1; funext e s
  show (M.opt (φ d e) s).bind _ = _
  congr 1; funext z s; cases z with
  | bl b => cases b <;> rfl
  | _ => rfl
@[simp] theorem ev_o_none : oNone env s = .ok none s := rfl
@[simp] theorem ev_o_some : oSome fa env s = (fa env s).bind fun d s => (match d with | .int i => .ok (some i) s | _ => .stuck) := by
  show (fa env s).bind _ = _
  congr 1; funext d s; cases d <;> rfl
@[simp] theorem ev_sl {lo hi : OF} : eSl fa lo hi env s = (fa env s).bind fun d s => (lo env s).bind fun l s => (hi env s).bind fun h s => M.opt (dSl d l h) s := rfl
@[simp] theorem ev_iseq : iSeq fa env s = (fa env s).bind fun d s => (match d with | .lst l => .ok l s | .tup l => .ok l s | _ => .stuck) := by
  show (fa env s).bind _ = _
  congr 1; funext d s; cases d <;> rfl
@[simp] theorem ev_zip : iZipD fa fb env s = (fa env s).bind fun d s => (fb env s).bind fun e s => (match d, e with | .lst l, .lst m => .ok (zipD l m) s | .tup l, .tup m => .ok (zipD l m) s | _, _ => .stuck) := by
  show (fa env s).bind _ = _
  congr 1; funext d s
  show (fb env s).bind _ = _
  congr 1; funext e s; cases d <;> cases e <;> rfl
@[simp] theorem ev_rng1 : iRng1 fa env s = (fa env s).bind fun d s => (match d with | .int j => if decide (-(2 ^ 62) ≤ j) && decide (j < 2 ^ 62) then .ok (rngD 0 j.toNat) s else .stuck | _ => .stuck) := by
  show (fa env s).bind _ = _
  congr 1; funext d s; cases d with
  | int j => dsimp only; split <;> rfl
  | _ => rfl
@[simp] theorem ev_lc {ws : List Nat} {fi : AF} {bt : BF} {tt : TF} {fe : EF} : eLc ws fi bt tt fe env s = (fi env s).bind fun ds s => if ds.length ≤ sizeLine then (lcM bt tt fe (wipeE env ws) ds s).bind fun ys s => .ok (.lst ys) s else .stuck := by
  show (fi env s).bind _ = _
  congr 1; funext ds s; split <;> rfl
@[simp] theorem ev_w0 : wipeE env [] = env := rfl
@[simp] theorem ev_wS {v : Nat} {vs : List Nat} : wipeE env (v :: vs) = (wipeE env vs).set v .un := rfl
/-! statements -/
@[simp] theorem ev_snil : sNil env s = .ok (.nx env) s := rfl
@[simp] theorem ev_seq : sSeq sf sg env s = (sf env s).bind fun fl s => (match fl with | .nx e => sg e s | .rt d => .ok (.rt d) s) := by
  show (sf env s).bind _ = _
  congr 1; funext fl s; cases fl <;> rfl
@[simp] theorem ev_ret : sRet fa env s = (fa env s).bind fun d s => .ok (.rt d) s := rfl
@[simp] theorem ev_exp : sExp fa env s = (fa env s).bind fun d s => .ok (.nx env) s := rfl
@[simp] theorem ev_sif : sIf t sf sg env s = (t env s).bind fun b s => if b then sf env s else sg env s := by
  show (t env s).bind _ = _
  congr 1; funext b s; cases b <;> rfl
@[simp] theorem ev_set : sSet i fa env s = (fa env s).bind fun d s => .ok (.nx (env.set i (.p d))) s := rfl
@[simp] theorem ev_setF : sSetF i fa env s = (fa env s).bind fun d s => (match d with | .lst l => .ok (.nx (env.set i (.ol l))) s | _ => .stuck) := by
  show (fa env s).bind _ = _
  congr 1; funext d s; cases d <;> rfl
@[simp] theorem ev_tgt {bt : BF} : sTgt bt fa env s = (fa env s).bind fun d s => (match bt d env with | some e => .ok (.nx e) s | none => .stuck) := by
  show (fa env s).bind _ = _
  congr 1; funext d s; cases bt d env <;> rfl
@[simp] theorem ev_par : sPar i k fs env s = (fs env s).bind fun ds s => (match ds with | [d, e] => .ok (.nx ((env.set i (.p d)).set k (.p e))) s | _ => .stuck) := by
  show (fs env s).bind _ = _
  congr 1; funext ds s
  match ds with
  | [] => rfl
  | [_] => rfl
  | [_, _] => rfl
  | _ :: _ :: _ :: _ => rfl
@[simp] theorem ev_for {fi : AF} {bt : BF} : sFor fi bt sf env s = (fi env s).bind fun ds s => forM bt sf ds env s := rfl
@[simp] theorem ev_for0 {bt : BF} : forM bt sf [] env s = .ok (.nx env) s := rfl
theorem ev_forS {bt : BF} {env1 : Env} (h : bt d env = some env1) : forM bt sf (d :: l) env s = (sf env1 s).bind fun fl s => (match fl with | .nx e => forM bt sf l e s | .rt d => .ok (.rt d) s) := by
  show (match bt d env with
    | none => fun _ => R.stuck
    | some e1 => (sf e1).bind fun fl => match fl with
      | .nx e2 => forM bt sf l e2
      | .rt d => M.pure (.rt d)) s = _
  rw [h]
  show (sf env1 s).bind _ = _
  congr 1; funext fl s; cases fl <;> rfl
@[simp] theorem ev_forN {i : Nat} : forM (bName i) sf (d :: l) env s = (sf (env.set i (.p d)) s).bind fun fl s => (match fl with | .nx e => forM (bName i) sf l e s | .rt d => .ok (.rt d) s) := ev_forS rfl
@[simp] theorem ev_bN : bName i d env = some (env.set i (.p d)) := rfl
@[simp] theorem ev_b0 : bNil [] env = some env := rfl
@[simp] theorem ev_bS {b : BF} {u : List D → Env → Option Env} : bCons b u (d :: l) env = (b d env).bind fun e => u l e := rfl
@[simp] theorem ev_bT {u : List D → Env → Option Env} : bTup n u (.tup l) env = if l.length = n then u l env else none := rfl
@[simp] theorem ev_frz0 : sFrz 0 sf (.ol l :: r) s = sf (.p (.lst l) :: r) s := rfl
theorem ev_frz (h : env[i]? = some (.ol l)) : sFrz i sf env s = sf (env.set i (.p (.lst l))) s := by
  show (match env[i]? with | some (.ol l) => sf (env.set i (.p (.lst l))) | _ => fun _ => .stuck : M Fl) s = _
  rw [h]
theorem ev_app (h : env[i]? = some (.ol l)) : sApp i fa env s = (fa env s).bind fun d s => if l.length < sizeLine then .ok (.nx (env.set i (.ol (l ++ [d])))) s else .stuck := by
  show (match env[i]? with | some (.ol l) => (fa env).bind fun d => if l.length < sizeLine then M.pure (.nx (env.set i (.ol (l ++ [d])))) else fun _ => .stuck | _ => fun _ => .stuck : M Fl) s = _
  rw [h]
  show (fa env s).bind _ = _
  congr 1; funext d s; split <;> rfl
theorem ev_ext (h : env[i]? = some (.ol l)) : sExt i fa env s = (fa env s).bind fun d s => (match d with | .tup t => if l.length + t.length ≤ sizeLine then .ok (.nx (env.set i (.ol (l ++ t)))) s else .stuck | .lst t => if l.length + t.length ≤ sizeLine then .ok (.nx (env.set i (.ol (l ++ t)))) s else .stuck | _ => .stuck) := by
  unfold sExt
  rw [h]
  show (fa env s).bind _ = _
  congr 1; funext d s; cases d with
  | tup t => dsimp only; split <;> rfl
  | lst t => dsimp only; split <;> rfl
  | _ => rfl
theorem ev_retO (h : env[i]? = some (.ol l)) : sRetO i env s = .ok (.rt (.lst l)) s := by
  unfold sRetO; rw [h]; rfl
@[simp] theorem ev_raise : sRaise k env s = .err k .non s := rfl
theorem ev_run {n N : Nat} (h : ds.length = n) : runF n N sf ds s = (sf (ds.map Sl.p ++ List.replicate (N - n) .un) s).bind fun fl s => (match fl with | .nx _ => .ok .non s | .rt d => .ok d s) := by
  unfold runF
  rw [if_pos h]
  show (sf _ s).bind _ = _
  congr 1; funext fl s; cases fl <;> rfl
theorem ev_run0 {N : Nat} : runF 0 N sf [] s = (sf (List.replicate N .un) s).bind fun fl s => (match fl with | .nx _ => .ok .non s | .rt d => .ok d s) := ev_run rfl
theorem ev_run1 {N : Nat} {a : D} : runF 1 N sf [a] s = (sf (.p a :: List.replicate (N - 1) .un) s).bind fun fl s => (match fl with | .nx _ => .ok .non s | .rt d => .ok d s) := ev_run rfl
theorem ev_run2 {N : Nat} {a b : D} : runF 2 N sf [a, b] s = (sf (.p a :: .p b :: List.replicate (N - 2) .un) s).bind fun fl s => (match fl with | .nx _ => .ok .non s | .rt d => .ok d s) := ev_run rfl
theorem ev_run3 {N : Nat} {a b c : D} : runF 3 N sf [a, b, c] s = (sf (.p a :: .p b :: .p c :: List.replicate (N - 3) .un) s).bind fun fl s => (match fl with | .nx _ => .ok .non s | .rt d => .ok d s) := ev_run rfl
theorem ev_run4 {N : Nat} {a b c d : D} : runF 4 N sf [a, b, c, d] s = (sf (.p a :: .p b :: .p c :: .p d :: List.replicate (N - 4) .un) s).bind fun fl s => (match fl with | .nx _ => .ok .non s | .rt d => .ok d s) := ev_run rfl
@[simp] theorem ev_rep0 {x : Sl} : List.replicate 0 x = [] := rfl
/-! the operators -/
@[simp] theorem ev_add : dAdd (.int j) (.int m) = some (.int (j + m)) := rfl
@[simp] theorem ev_sub : dSub (.int j) (.int m) = some (.int (j - m)) := rfl
theorem ev_mul (h : mulOk j m = true) : dMul (.int j) (.int m) = some (.int (j * m)) := by
  show (if mulOk j m then some (D.int (j * m)) else none) = _
  rw [if_pos h]
theorem ev_div (h : 0 < m) (h2 : m.natAbs.log2 < 9000) : dDiv (.int j) (.int m) = some (.int (j / m)) := by simp [dDiv, dI2, h, h2]
theorem ev_mod (h : 0 < m) : dMod (.int j) (.int m) = some (.int (j % m)) := by simp [dMod, dI2, h]
@[simp] theorem ev_neg : dNeg (.int j) = some (.int (-j)) := rfl
@[simp] theorem ev_lt : dLt (.int j) (.int m) = some (.bl (decide (j < m))) := rfl
@[simp] theorem ev_gt : dGt (.int j) (.int m) = some (.bl (decide (m < j))) := rfl
@[simp] theorem ev_le : dLe (.int j) (.int m) = some (.bl (decide (j ≤ m))) := rfl
@[simp] theorem ev_ge : dGe (.int j) (.int m) = some (.bl (decide (m ≤ j))) := rfl
@[simp] theorem ev_eq : dEq (.int j) (.int m) = some (.bl (decide (j = m))) := by
  have k : ∀ j : Int, sh (.int j) = true := fun j => by simp [sh, D.dat, D.py, SeqAt.shaped, PyData.canLay0, PyData.depth]
  simp [dEq, k, D.py, PyData.eqv]
  by_cases h : j = m <;> simp [h]
@[simp] theorem ev_abs : dAbs (.int j) = some (.int (if j < 0 then -j else j)) := rfl
@[simp] theorem ev_int : dInt (.int j) = some (.int j) := rfl
@[simp] theorem ev_lenT : dLen (.tup l) = some (.int l.length) := rfl
@[simp] theorem ev_lenL : dLen (.lst l) = some (.int l.length) := rfl
@[simp] theorem ev_list : dList (.tup l) = some (.lst l) := rfl
@[simp] theorem ev_listL : dList (.lst l) = some (.lst l) := rfl
@[simp] theorem ev_tuple : dTuple (.tup l) = some (.tup l) := rfl
@[simp] theorem ev_tupleL : dTuple (.lst l) = some (.tup l) := rfl
@[simp] theorem ev_gcd : dGcd (.int j) (.int m) = some (.int (Nat.gcd j.natAbs m.natAbs : Nat)) := rfl
@[simp] theorem ev_ixT : dIx (.tup l) (.int j) = L2.atI l j := rfl
@[simp] theorem ev_ixL : dIx (.lst l) (.int j) = L2.atI l j := rfl
@[simp] theorem ev_at0 : L2.atI (d :: l) 0 = some d := by
  have : L2.ixN (d :: l).length 0 = some 0 := by unfold L2.ixN; simp
  unfold L2.atI; rw [this]; rfl
theorem ev_atN (n : Nat) : L2.atI l (n : Int) = l[n]? := by
  unfold L2.atI L2.ixN
  by_cases h : n < l.length
  · simp [h]
  · simp [h]
@[simp] theorem ev_at1 : L2.atI l 1 = l[1]? := ev_atN 1
@[simp] theorem ev_at2 : L2.atI l 2 = l[2]? := ev_atN 2
@[simp] theorem ev_at3 : L2.atI l 3 = l[3]? := ev_atN 3
theorem mulOk_of {i j : Int} {a b : Nat} (h1 : i.natAbs < 2 ^ a) (h2 : j.natAbs < 2 ^ b) (h : a + b ≤ 1000000) : mulOk i j = true := by
  unfold mulOk
  rw [Bool.or_eq_true]
  right
  rw [decide_eq_true_eq]
  have k : ∀ (x c : Nat), x < 2 ^ c → x.log2 ≤ c - 1 ∧ (c = 0 → x.log2 = 0) := fun x c hx => by
    by_cases h0 : x = 0
    · subst h0; simp
    · have := (Nat.log2_lt h0).mpr hx
      exact ⟨by omega, fun z => by omega⟩
  have k1 := k _ _ h1
  have k2 := k _ _ h2
  omega
/-! comprehensions -/
section
variable {bt : BF} {tt : TF} {fe : EF} {env e1 : Env} {d y : D} {l : List D} {s s1 s2 : S}
@[simp] theorem lc_nil : lcM bt tt fe env [] s = .ok [] s := rfl
theorem lc_t (h : bt d env = some e1) (ht : tt e1 s = .ok true s1) (he : fe e1 s1 = .ok y s2) : lcM bt tt fe env (d :: l) s = (lcM bt tt fe env l s2).bind fun ys s => .ok (y :: ys) s := by
  rw [lcM_cons h, bind_ok (nx_ok ht)]
  show ((M.nx (fe e1)).bind _) s1 = _
  rw [bind_ok (nx_ok he)]
  rfl
theorem lc_f (h : bt d env = some e1) (ht : tt e1 s = .ok false s1) : lcM bt tt fe env (d :: l) s = lcM bt tt fe env l s1 := by
  rw [lcM_cons h, bind_ok (nx_ok ht)]
  rfl
/-- nothing but the value comes of a turn -/
theorem lc_pure {f : D → D} : ∀ {l : List D} {s : S}, (∀ d ∈ l, ∃ e1, bt d env = some e1 ∧ ∀ s, tt e1 s = .ok true s ∧ fe e1 s = .ok (f d) s) → lcM bt tt fe env l s = .ok (l.map f) s
  | [], s, _ => rfl
  | d :: l, s, h => by
    obtain ⟨e1, h1, h2⟩ := h d (.head _)
    rw [lc_t h1 (h2 s).1 (h2 s).2, lc_pure fun y hy => h y (List.mem_cons_of_mem _ hy)]
    rfl
theorem lc_none : ∀ {l : List D} {s : S}, (∀ d ∈ l, ∃ e1, bt d env = some e1 ∧ ∀ s, tt e1 s = .ok false s) → lcM bt tt fe env l s = .ok [] s
  | [], s, _ => rfl
  | d :: l, s, h => by
    obtain ⟨e1, h1, h2⟩ := h d (.head _)
    rw [lc_f h1 (h2 s), lc_none fun y hy => h y (List.mem_cons_of_mem _ hy)]
@[simp] theorem tTrue_ap : tTrue env s = .ok true s := rfl
end
/-! data of ints -/
theorem pys_ints : ∀ l : List Int, D.pys (l.map .int) = l.map PyData.int
  | [] => by simp [D.pys]
  | i :: l => by simp [D.pys, D.py, pys_ints l]
theorem dats_ints : ∀ l : List Int, D.dats (l.map .int) = true
  | [] => by simp [D.dats]
  | i :: l => by simp [D.dats, D.dat, dats_ints l]
theorem asInts_map : ∀ l : List Int, asInts (l.map .int) = some l
  | [] => rfl
  | i :: l => by simp [asInts, asInts_map l]
theorem asBls_map {α : Type} (f : α → Bool) : ∀ l : List α, asBls (l.map fun x => .bl (f x)) = some (l.map f)
  | [] => rfl
  | i :: l => by simp [asBls, asBls_map f l]
theorem tail_cut {α : Type} (l : List α) : cutD l (some 1) none = l.tail := by
  cases l with
  | nil => rfl
  | cons a l =>
    unfold cutD HT.sIx
    simp
theorem any_false : ∀ n : Nat, dAny (.lst (List.replicate n (.bl false))) = some (.bl false)
  | 0 => rfl
  | n + 1 => by
    have := any_false n
    simp only [dAny, List.replicate_succ, asBls, Option.map_map] at this ⊢
    cases h : asBls (List.replicate n (.bl false)) with
    | none => rw [h] at this; cases this
    | some b =>
      rw [h] at this
      simp at this ⊢
      exact this
theorem all_true : ∀ n : Nat, dAll (.lst (List.replicate n (.bl true))) = some (.bl true)
  | 0 => rfl
  | n + 1 => by
    have := all_true n
    simp only [dAll, List.replicate_succ, asBls, Option.map_map] at this ⊢
    cases h : asBls (List.replicate n (.bl true)) with
    | none => rw [h] at this; cases this
    | some b =>
      rw [h] at this
      simp at this ⊢
      exact this
theorem map_const' {α β : Type} (b : β) : ∀ l : List α, l.map (fun _ => b) = List.replicate l.length b
  | [] => rfl
  | _ :: l => by simp [map_const' b l, List.replicate_succ]
theorem mem_zip_tail {P : D → D → Prop} : ∀ {l : List D}, l.Pairwise P → ∀ d ∈ zipD l l.tail, ∃ a b, d = .tup [a, b] ∧ P a b
  | [], _, d, h => by simp [zipD] at h
  | [a], _, d, h => by simp [zipD] at h
  | a :: b :: l, hp, d, h => by
    rw [List.tail_cons, zipD] at h
    rcases List.mem_cons.mp h with rfl | h
    · exact ⟨a, b, rfl, (List.pairwise_cons.mp hp).1 b (.head _)⟩
    · exact mem_zip_tail (l := b :: l) (List.pairwise_cons.mp hp).2 d h
/-- tuples of ints are ordered as the sort has them -/
theorem lt_ints {a b : List Int} (h : leD (.tup (a.map .int)) (.tup (b.map .int)) = true) : dLt (.tup (b.map .int)) (.tup (a.map .int)) = some (.bl false) := by
  have h' : PySem.W.dataLt (D.tup (b.map .int)).py (D.tup (a.map .int)).py = false := by
    unfold leD at h
    cases e : PySem.W.dataLt (D.tup (b.map .int)).py (D.tup (a.map .int)).py with
    | false => rfl
    | true => rw [e] at h; cases h
  have k : lk (.tup (b.map .int)) (.tup (a.map .int)) = true := by
    simp [lk, D.dat, dats_ints, D.py, pys_ints, PySem.W.alike, PySem.W.alike_ints, PyData.depth, PySem.W.depth_ints]
  show (if lk (.tup (b.map .int)) (.tup (a.map .int)) then some (D.bl (PySem.W.dataLt (D.tup (b.map .int)).py (D.tup (a.map .int)).py)) else none) = _
  rw [if_pos k, h']
/-! more operators -/
section
variable {j m : Int} {d : D} {l : List D}
@[simp] theorem ev_ne : dNe (.int j) (.int m) = some (.bl (!decide (j = m))) := by
  have k : ∀ j : Int, sh (.int j) = true := fun j => by simp [sh, D.dat, D.py, SeqAt.shaped, PyData.canLay0, PyData.depth]
  simp [dNe, k, D.py, PyData.eqv]
  by_cases h : j = m <;> simp [h]
theorem ev_div1 : dDiv (.int j) (.int 1) = some (.int j) := by
  rw [ev_div (by decide) (by decide), Int.ediv_one]
theorem ev_mul1 : dMul (.int j) (.int 1) = some (.int j) := by
  rw [ev_mul (mulOk_one j), Int.mul_one]
where
  mulOk_one (j : Int) : mulOk j 1 = true := by simp [mulOk]
theorem ev_eq_pr {a b c d : Int} : dEq (.tup [.int a, .int b]) (.tup [.int c, .int d]) = some (.bl (decide (a = c) && decide (b = d))) := by
  have k : ∀ a b : Int, sh (.tup [.int a, .int b]) = true := fun a b => by simp [sh, D.dat, D.dats, D.py, D.pys, SeqAt.shaped, PyData.canLay0, PyData.canLayAll0, PyData.depth, PyData.depthAll]
  simp [dEq, k, D.py, D.pys, PyData.eqv, PyData.eqvAll]
  by_cases h : a = c <;> by_cases h2 : b = d <;> simp [h, h2]
theorem mem_zip_self : ∀ {l : List D}, ∀ d ∈ zipD l l, ∃ x ∈ l, d = .tup [x, x]
  | [], d, h => by simp [zipD] at h
  | a :: l, d, h => by
    rw [zipD] at h
    rcases List.mem_cons.mp h with rfl | h
    · exact ⟨a, .head _, rfl⟩
    · obtain ⟨x, h1, h2⟩ := mem_zip_self d h
      exact ⟨x, List.mem_cons_of_mem _ h1, h2⟩
/-- what the laws' like may be asked of -/
def okL : Nat → D → Prop
  | 0, _ => False
  | n + 1, d => match d with
    | .tup l => l.length ≤ 1000000 ∧ ∀ x ∈ l, okL n x
    | .lst l => l.length ≤ 1000000 ∧ ∀ x ∈ l, okL n x
    | .non => True
    | .bl _ => True
    | .int _ => True
    | .str x => dEq (.str x) (.str x) = some (.bl true)
    | _ => False
end
section
variable {bt : BF} {fe : EF} {env : Env} {d : D} {l : List D} {s : S} {i : Nat} {j : Int}
theorem ev_nx {α : Type} {m : M α} : M.nx m s = (match m s with | .ok a s' => .ok a s' | _ => .stuck) := rfl
/-- a turn of a comprehension that keeps all, written out -/
theorem lc_tN : lcM (bName i) tTrue fe env (d :: l) s = (match fe (env.set i (.p d)) s with | .ok a s' => .ok a s' | _ => .stuck : R D).bind fun y s => (lcM (bName i) tTrue fe env l s).bind fun ys s => .ok (y :: ys) s := by
  have h : M.nx (tTrue (env.set i (.p d))) s = .ok true s := rfl
  rw [lcM_cons (e1 := env.set i (.p d)) rfl, bind_ok h, if_pos rfl]
  show (M.nx (fe (env.set i (.p d))) s).bind _ = _
  cases h2 : fe (env.set i (.p d)) s <;> simp [ev_nx, h2] <;> rfl
theorem ev_1mul : dMul (.int 1) (.int j) = some (.int j) := by
  rw [ev_mul (by simp [mulOk]), Int.one_mul]
end
theorem seq_ok {sf sg : SF} {env e : Env} {s s' : S} (h : sf env s = .ok (.nx e) s') : sSeq sf sg env s = sg e s' := by
  rw [ev_seq, h]; rfl
theorem seq_rt {sf sg : SF} {env : Env} {d : D} {s s' : S} (h : sf env s = .ok (.rt d) s') : sSeq sf sg env s = .ok (.rt d) s' := by
  rw [ev_seq, h]; rfl
/-! the cup, sorting -/
section
variable {r env : Env} {s : S} {i : Nat} {k : Int} {fa : EF} {d : D} {l : List D}
@[simp] theorem ev_cup0 : eCup 0 0 (.p .cup :: r) s = .ok (.int s.1) s := rfl
@[simp] theorem ev_cup1 : eCup 0 1 (.p .cup :: r) s = .ok (.int s.2) s := rfl
@[simp] theorem ev_setc0 : sCup 0 0 fa (.p .cup :: r) s = (fa (.p .cup :: r) s).bind fun d s => (match d with | .int v => .ok (.nx (.p .cup :: r)) (v, s.2) | _ => .stuck) := by
  show (fa (.p .cup :: r) s).bind _ = _
  congr 1; funext d s; cases d <;> rfl
@[simp] theorem ev_setc1 : sCup 0 1 fa (.p .cup :: r) s = (fa (.p .cup :: r) s).bind fun d s => (match d with | .int v => .ok (.nx (.p .cup :: r)) (s.1, v) | _ => .stuck) := by
  show (fa (.p .cup :: r) s).bind _ = _
  congr 1; funext d s; cases d <;> rfl
theorem sorted_leD (l : List D) : (l.mergeSort leD).Pairwise fun a b => leD a b = true :=
  (PySem.W.sort_pairwise (PySem.W.sortLe_total (PyProof.Rows.listOrd PyProof.Rows.itemOrd) false fun d : D => PySem.W.keyToks d.py) l).imp fun h => h
theorem leD_int (i j : Int) : leD (.int i) (.int j) = decide (i ≤ j) := by
  show (!PySem.W.dataLt (.int j) (.int i)) = _
  rw [PySem.W.dataLt_int, not_dec_lt]
theorem srtOk_ints (l : List Int) : srtOk (l.map .int) = true := by
  simp [srtOk, D.dat, D.py, PyData.depth, PySem.W.alike]
theorem sort_ints (l : List Int) : (l.map D.int).mergeSort leD = (l.mergeSort fun a b => decide (a ≤ b)).map .int :=
  (List.map_mergeSort (f := D.int) (r := fun a b => decide (a ≤ b)) (s := leD) fun a _ b _ => (leD_int a b).symm).symm
theorem srtOk_tups (l : List (List Int)) : srtOk (l.map fun r => .tup (r.map .int)) = true := by
  unfold srtOk
  rw [Bool.and_eq_true, List.all_eq_true, List.all_eq_true]
  refine ⟨fun d hd => ?_, fun d hd => ?_⟩
  · obtain ⟨r, _, rfl⟩ := List.mem_map.mp hd
    simp [D.dat, dats_ints, D.py, pys_ints, PyData.depth, PySem.W.depth_ints]
  · obtain ⟨r, _, rfl⟩ := List.mem_map.mp hd
    rw [List.all_eq_true]
    intro e he
    obtain ⟨r', _, rfl⟩ := List.mem_map.mp he
    rw [D.py, D.py, pys_ints, pys_ints, PySem.W.alike]
    exact PySem.W.alike_ints r r'
end
end
end PL
/-! fractions: pairs of whole numbers in lowest terms -/
namespace PL
open PySem
def pr (p : Int × Int) : D := .tup [.int p.1, .int p.2]
def Red (p : Int × Int) : Prop := 0 < p.2 ∧ Nat.gcd p.1.natAbs p.2.natAbs = 1
def val (p : Int × Int) : Rat := (p.1 : Rat) / (p.2 : Rat)
def nrm (a b : Int) : Int × Int := (a / (Nat.gcd a.natAbs b.natAbs : Nat), b / (Nat.gcd a.natAbs b.natAbs : Nat))
theorem cast_ne {b : Int} (h : 0 < b) : (b : Rat) ≠ 0 := fun z => by
  have : b = 0 := by exact_mod_cast z
  omega
theorem val_eq {p q : Int × Int} (hp : 0 < p.2) (hq : 0 < q.2) : val p = val q ↔ p.1 * q.2 = q.1 * p.2 := by
  have h1 := cast_ne hp
  have h2 := cast_ne hq
  unfold val
  constructor
  · intro h
    have : (p.1 : Rat) * q.2 = q.1 * p.2 := by grind
    exact_mod_cast this
  · intro h
    have : (p.1 : Rat) * q.2 = q.1 * p.2 := by exact_mod_cast h
    grind
theorem red_unique {p q : Int × Int} (hp : Red p) (hq : Red q) (h : val p = val q) : p = q := by
  rw [val_eq hp.1 hq.1] at h
  obtain ⟨a, b⟩ := p
  obtain ⟨c, d⟩ := q
  obtain ⟨b0, g1⟩ := hp
  obtain ⟨d0, g2⟩ := hq
  simp only at *
  have hn : a.natAbs * d.natAbs = c.natAbs * b.natAbs := by rw [← Int.natAbs_mul, ← Int.natAbs_mul, h]
  have e1 : b.natAbs ∣ d.natAbs := by
    have : b.natAbs ∣ a.natAbs * d.natAbs := ⟨c.natAbs, by rw [hn, Nat.mul_comm]⟩
    exact Nat.Coprime.dvd_of_dvd_mul_left (Nat.Coprime.symm g1) this
  have e2 : d.natAbs ∣ b.natAbs := by
    have : d.natAbs ∣ c.natAbs * b.natAbs := ⟨a.natAbs, by rw [← hn, Nat.mul_comm]⟩
    exact Nat.Coprime.dvd_of_dvd_mul_left (Nat.Coprime.symm g2) this
  have e3 : b.natAbs = d.natAbs := Nat.dvd_antisymm e1 e2
  have e4 : b = d := by omega
  subst e4
  have : a = c := Int.eq_of_mul_eq_mul_right (by omega) h
  rw [this]
theorem gcd_pos {a b : Int} (h : 0 < b) : 0 < Nat.gcd a.natAbs b.natAbs := Nat.gcd_pos_of_pos_right _ (by omega)
theorem nrm_spec {a b : Int} (h : 0 < b) : Red (nrm a b) ∧ val (nrm a b) = (a : Rat) / b ∧ (nrm a b).1.natAbs ≤ a.natAbs ∧ (nrm a b).2.natAbs ≤ b.natAbs := by
  have g0 := gcd_pos (a := a) h
  generalize hg : Nat.gcd a.natAbs b.natAbs = g at g0
  have da : (g : Int) ∣ a := by rw [← hg]; exact Int.ofNat_dvd_left.mpr (Nat.gcd_dvd_left _ _)
  have db : (g : Int) ∣ b := by rw [← hg]; exact Int.ofNat_dvd_left.mpr (Nat.gcd_dvd_right _ _)
  obtain ⟨x, hx⟩ := da
  obtain ⟨y, hy⟩ := db
  have gz : (g : Int) ≠ 0 := by omega
  have e : nrm a b = (x, y) := by
    unfold nrm
    rw [hg, hx, hy, Int.mul_ediv_cancel_left _ gz, Int.mul_ediv_cancel_left _ gz]
  have y0 : 0 < y := by
    have : 0 < (g : Int) * y := by rw [← hy]; exact h
    apply Classical.byContradiction
    intro hn
    have : (g : Int) * y ≤ 0 := Int.mul_nonpos_of_nonneg_of_nonpos (by omega) (by omega)
    omega
  rw [e]
  have hgr : (g : Rat) ≠ 0 := by exact_mod_cast (by omega : g ≠ 0)
  have hyr := cast_ne y0
  refine ⟨⟨y0, ?_⟩, ?_, ?_, ?_⟩
  · have e1 : a.natAbs = g * x.natAbs := by rw [hx, Int.natAbs_mul]; simp
    have e2 : b.natAbs = g * y.natAbs := by rw [hy, Int.natAbs_mul]; simp
    have e3 : Nat.gcd (g * x.natAbs) (g * y.natAbs) = g * Nat.gcd x.natAbs y.natAbs := Nat.gcd_mul_left _ _ _
    rw [← e1, ← e2, hg] at e3
    have e4 : g * 1 = g * Nat.gcd x.natAbs y.natAbs := by omega
    exact (Nat.eq_of_mul_eq_mul_left g0 e4).symm
  · unfold val
    rw [hx, hy]
    simp only [Rat.intCast_mul, Rat.intCast_natCast]
    grind
  · rw [hx, Int.natAbs_mul]
    simp
    exact Nat.le_mul_of_pos_left _ g0
  · rw [hy, Int.natAbs_mul]
    simp
    exact Nat.le_mul_of_pos_left _ g0
end PL
namespace L58
open PySem PySem.Spec PyProof.Rows L2 PL
def top (i : Nat) : Stmt := PySem.Challenge.pw_patternsturn_k58_whole_costs_of_pieces.main.body.getD i (.Pass ⟨0, 0, 0, 0⟩)
def dn : List Str := ["is_whole", "is_tuple_of", "are_turns", "is_falling", "fits", "need_piece", "corners_of", "lowest", "plus", "points_cost", "halved", "parts_in", "cost_in", "rest_in", "cost_of", "rest_of_piece", "rest_word", "cost_parts", "_law_cup", "_law_roll", "_law_some", "_law_sort", "_law_like", "_law_low", "_law_parts", "_law_piece", "_law_known", "_law_no_pieces", "_law_fails", "_law_sum", "_law_right", "law"]
def cn : List Str := ["PatternError", "InvalidPiece"]
def gOf (K : PySem.W.Frag) : Gb := ⟨K, [((He.cT K ("law", none)).2, ("law" : Str) ++ ".<locals>." ++ "<lambda>")], fun n => He.ga K (dn.getD n ""), fun n => .ref (He.ga K (cn.getD n "")), fun _ => ""⟩
def hsuite : List Stmt → List Stmt
  | .Try _ (.ExceptHandler _ _ s _ :: _) _ _ _ :: _ => s
  | _ => []
structure Txt (P : Program) (w : World) (mg : Str → Option Value) (base : Heap) (K : PySem.W.Frag) : Prop where
  f_is_whole : ∃ fd, FunD K "is_whole" "is_whole" (defArgs (top 5)) (defBody (top 5)) (defScope (top 5)) [] [] (He.fAd K ("is_whole", none)) fd
  m_is_whole : mg "is_whole" = some (.ref (He.ga K "is_whole"))
  f_is_tuple_of : ∃ fd, FunD K "is_tuple_of" "is_tuple_of" (defArgs (top 6)) (defBody (top 6)) (defScope (top 6)) [] [] (He.fAd K ("is_tuple_of", none)) fd
  m_is_tuple_of : mg "is_tuple_of" = some (.ref (He.ga K "is_tuple_of"))
  f_are_turns : ∃ fd, FunD K "are_turns" "are_turns" (defArgs (top 12)) (defBody (top 12)) (defScope (top 12)) [] [] (He.fAd K ("are_turns", none)) fd
  m_are_turns : mg "are_turns" = some (.ref (He.ga K "are_turns"))
  f_is_falling : ∃ fd, FunD K "is_falling" "is_falling" (defArgs (top 13)) (defBody (top 13)) (defScope (top 13)) [] [] (He.fAd K ("is_falling", none)) fd
  m_is_falling : mg "is_falling" = some (.ref (He.ga K "is_falling"))
  f_fits : ∃ fd, FunD K "fits" "fits" (defArgs (top 14)) (defBody (top 14)) (defScope (top 14)) [] [] (He.fAd K ("fits", none)) fd
  m_fits : mg "fits" = some (.ref (He.ga K "fits"))
  f_need_piece : ∃ fd, FunD K "need_piece" "need_piece" (defArgs (top 15)) (defBody (top 15)) (defScope (top 15)) [] [] (He.fAd K ("need_piece", none)) fd
  m_need_piece : mg "need_piece" = some (.ref (He.ga K "need_piece"))
  f_corners_of : ∃ fd, FunD K "corners_of" "corners_of" (defArgs (top 16)) (defBody (top 16)) (defScope (top 16)) [] [] (He.fAd K ("corners_of", none)) fd
  m_corners_of : mg "corners_of" = some (.ref (He.ga K "corners_of"))
  f_lowest : ∃ fd, FunD K "lowest" "lowest" (defArgs (top 18)) (defBody (top 18)) (defScope (top 18)) [] [] (He.fAd K ("lowest", none)) fd
  m_lowest : mg "lowest" = some (.ref (He.ga K "lowest"))
  f_plus : ∃ fd, FunD K "plus" "plus" (defArgs (top 19)) (defBody (top 19)) (defScope (top 19)) [] [] (He.fAd K ("plus", none)) fd
  m_plus : mg "plus" = some (.ref (He.ga K "plus"))
  f_points_cost : ∃ fd, FunD K "points_cost" "points_cost" (defArgs (top 21)) (defBody (top 21)) (defScope (top 21)) [] [] (He.fAd K ("points_cost", none)) fd
  m_points_cost : mg "points_cost" = some (.ref (He.ga K "points_cost"))
  f_halved : ∃ fd, FunD K "halved" "halved" (defArgs (top 22)) (defBody (top 22)) (defScope (top 22)) [] [] (He.fAd K ("halved", none)) fd
  m_halved : mg "halved" = some (.ref (He.ga K "halved"))
  f_parts_in : ∃ fd, FunD K "parts_in" "parts_in" (defArgs (top 23)) (defBody (top 23)) (defScope (top 23)) [] [] (He.fAd K ("parts_in", none)) fd
  m_parts_in : mg "parts_in" = some (.ref (He.ga K "parts_in"))
  f_cost_in : ∃ fd, FunD K "cost_in" "cost_in" (defArgs (top 24)) (defBody (top 24)) (defScope (top 24)) [] [] (He.fAd K ("cost_in", none)) fd
  m_cost_in : mg "cost_in" = some (.ref (He.ga K "cost_in"))
  f_rest_in : ∃ fd, FunD K "rest_in" "rest_in" (defArgs (top 25)) (defBody (top 25)) (defScope (top 25)) [] [] (He.fAd K ("rest_in", none)) fd
  m_rest_in : mg "rest_in" = some (.ref (He.ga K "rest_in"))
  f_cost_of : ∃ fd, FunD K "cost_of" "cost_of" (defArgs (top 26)) (defBody (top 26)) (defScope (top 26)) [] [] (He.fAd K ("cost_of", none)) fd
  m_cost_of : mg "cost_of" = some (.ref (He.ga K "cost_of"))
  f_rest_of_piece : ∃ fd, FunD K "rest_of_piece" "rest_of_piece" (defArgs (top 27)) (defBody (top 27)) (defScope (top 27)) [] [] (He.fAd K ("rest_of_piece", none)) fd
  m_rest_of_piece : mg "rest_of_piece" = some (.ref (He.ga K "rest_of_piece"))
  f_rest_word : ∃ fd, FunD K "rest_word" "rest_word" (defArgs (top 28)) (defBody (top 28)) (defScope (top 28)) [] [] (He.fAd K ("rest_word", none)) fd
  m_rest_word : mg "rest_word" = some (.ref (He.ga K "rest_word"))
  f_cost_parts : ∃ fd, FunD K "cost_parts" "cost_parts" (defArgs (top 29)) (defBody (top 29)) (defScope (top 29)) [] [] (He.fAd K ("cost_parts", none)) fd
  m_cost_parts : mg "cost_parts" = some (.ref (He.ga K "cost_parts"))
  f__law_cup : ∃ fd, FunD K "_law_cup" "_law_cup" (defArgs (top 31)) (defBody (top 31)) (defScope (top 31)) [] [] (He.fAd K ("_law_cup", none)) fd
  m__law_cup : mg "_law_cup" = some (.ref (He.ga K "_law_cup"))
  f__law_roll : ∃ fd, FunD K "_law_roll" "_law_roll" (defArgs (top 32)) (defBody (top 32)) (defScope (top 32)) [] [] (He.fAd K ("_law_roll", none)) fd
  m__law_roll : mg "_law_roll" = some (.ref (He.ga K "_law_roll"))
  f__law_some : ∃ fd, FunD K "_law_some" "_law_some" (defArgs (top 33)) (defBody (top 33)) (defScope (top 33)) [] [] (He.fAd K ("_law_some", none)) fd
  m__law_some : mg "_law_some" = some (.ref (He.ga K "_law_some"))
  f__law_sort : ∃ fd, FunD K "_law_sort" "_law_sort" (defArgs (top 34)) (defBody (top 34)) (defScope (top 34)) [] [] (He.fAd K ("_law_sort", none)) fd
  m__law_sort : mg "_law_sort" = some (.ref (He.ga K "_law_sort"))
  f__law_like : ∃ fd, FunD K "_law_like" "_law_like" (defArgs (top 35)) (defBody (top 35)) (defScope (top 35)) [] [] (He.fAd K ("_law_like", none)) fd
  m__law_like : mg "_law_like" = some (.ref (He.ga K "_law_like"))
  f__law_low : ∃ fd, FunD K "_law_low" "_law_low" (defArgs (top 36)) (defBody (top 36)) (defScope (top 36)) [] [] (He.fAd K ("_law_low", none)) fd
  m__law_low : mg "_law_low" = some (.ref (He.ga K "_law_low"))
  f__law_parts : ∃ fd, FunD K "_law_parts" "_law_parts" (defArgs (top 37)) (defBody (top 37)) (defScope (top 37)) [] [] (He.fAd K ("_law_parts", none)) fd
  m__law_parts : mg "_law_parts" = some (.ref (He.ga K "_law_parts"))
  f__law_piece : ∃ fd, FunD K "_law_piece" "_law_piece" (defArgs (top 38)) (defBody (top 38)) (defScope (top 38)) [] [] (He.fAd K ("_law_piece", none)) fd
  m__law_piece : mg "_law_piece" = some (.ref (He.ga K "_law_piece"))
  f__law_known : ∃ fd, FunD K "_law_known" "_law_known" (defArgs (top 39)) (defBody (top 39)) (defScope (top 39)) [] [] (He.fAd K ("_law_known", none)) fd
  m__law_known : mg "_law_known" = some (.ref (He.ga K "_law_known"))
  f__law_no_pieces : ∃ fd, FunD K "_law_no_pieces" "_law_no_pieces" (defArgs (top 40)) (defBody (top 40)) (defScope (top 40)) [] [] (He.fAd K ("_law_no_pieces", none)) fd
  m__law_no_pieces : mg "_law_no_pieces" = some (.ref (He.ga K "_law_no_pieces"))
  f__law_fails : ∃ fd, FunD K "_law_fails" "_law_fails" (defArgs (top 41)) (defBody (top 41)) (defScope (top 41)) [] [] (He.fAd K ("_law_fails", none)) fd
  m__law_fails : mg "_law_fails" = some (.ref (He.ga K "_law_fails"))
  f__law_sum : ∃ fd, FunD K "_law_sum" "_law_sum" (defArgs (top 42)) (defBody (top 42)) (defScope (top 42)) [] [] (He.fAd K ("_law_sum", none)) fd
  m__law_sum : mg "_law_sum" = some (.ref (He.ga K "_law_sum"))
  f__law_right : ∃ fd, FunD K "_law_right" "_law_right" (defArgs (top 43)) (defBody (top 43)) (defScope (top 43)) [] [] (He.fAd K ("_law_right", none)) fd
  m__law_right : mg "_law_right" = some (.ref (He.ga K "_law_right"))
  f_law : ∃ fd, FunD K "law" "law" (defArgs (top 44)) (defBody (top 44)) (defScope (top 44)) [] [] (He.fAd K ("law", none)) fd
  m_law : mg "law" = some (.ref (He.ga K "law"))
  b_abs : mg "abs" = none
  b_all : mg "all" = none
  b_any : mg "any" = none
  b_bool : mg "bool" = none
  b_int : mg "int" = none
  b_isinstance : mg "isinstance" = none
  b_len : mg "len" = none
  b_list : mg "list" = none
  b_range : mg "range" = none
  b_sorted : mg "sorted" = none
  b_str : mg "str" = none
  b_sum : mg "sum" = none
  b_tuple : mg "tuple" = none
  b_zip : mg "zip" = none
  c_GREAT : ∃ tk, mg "GREAT" = some (.int 100 tk)
  c_LEAST : ∃ tk, mg "LEAST" = some (.int 2 tk)
  c_LONG : ∃ tk, mg "LONG" = some (.int 8 tk)
  c_MOST : ∃ tk, mg "MOST" = some (.int 4 tk)
  i_gcd : mg "gcd" = some (.builtin "math.gcd")
  m_PatternError : mg "PatternError" = some (.ref (He.ga K "PatternError"))
  x_PatternError : PySem.W.excIn K (He.ga K "PatternError") He.veBase "ValueError.__new__" = true ∧ PySem.W.keepIn K (.ref (He.ga K "PatternError")) = true ∧ PySem.W.subIn K (.ref (He.ga K "PatternError")) (.type "BaseException") = some true ∧ PySem.W.typeIn K (.ref (He.ga K "PatternError")) = some (.type "type")
  m_InvalidPiece : mg "InvalidPiece" = some (.ref (He.ga K "InvalidPiece"))
  x_InvalidPiece : PySem.W.excIn K (He.ga K "InvalidPiece") He.veBase "ValueError.__new__" = true ∧ PySem.W.keepIn K (.ref (He.ga K "InvalidPiece")) = true ∧ PySem.W.subIn K (.ref (He.ga K "InvalidPiece")) (.type "BaseException") = some true ∧ PySem.W.typeIn K (.ref (He.ga K "InvalidPiece")) = some (.type "type")
  e_PatternError_PatternError : PySem.W.exmOne K (.ref (He.ga K "PatternError")) (.ref (He.ga K "PatternError")) = some true
  e_InvalidPiece_PatternError : PySem.W.exmOne K (.ref (He.ga K "InvalidPiece")) (.ref (He.ga K "PatternError")) = some true
  xc_PatternError : ExcC K (He.ga K "PatternError")
  xc_InvalidPiece : ExcC K (He.ga K "InvalidPiece")
  kit_PatternError_InvalidPiece : PySem.W.kitOne K (.ref (He.ga K "PatternError")) (.ref (He.ga K "InvalidPiece")) = some false
  kit_InvalidPiece_InvalidPiece : PySem.W.kitOne K (.ref (He.ga K "InvalidPiece")) (.ref (He.ga K "InvalidPiece")) = some true
  tb_law : LamX.TabB base mg (He.cT K ("law", none)).1 (He.cT K ("law", none)).2
variable {P : Program} {w : World} {mg : Str → Option Value} {base : Heap} {K : PySem.W.Frag}
theorem tab_mem {K : PySem.W.Frag} (i : Nat) {q} (h : (gOf K).T[i]? = some q := by rfl) : q ∈ (gOf K).T := List.mem_of_getElem? h
theorem tab_uq {K : PySem.W.Frag} (i : Nat) {q : Addr × Str} (h : (gOf K).T = [q] := by rfl) : ∀ p ∈ (gOf K).T, p.1 = q.1 → p.2 = q.2 := by
  rw [h]; intro p hp _; rw [List.mem_singleton.mp hp]
/-! ### is_whole -/
theorem sc_is_whole : FnScope ["value", "low", "high"] ["value", "low", "high"] (defScope (top 5)) := ⟨rfl, rfl, rfl, by decide +kernel, rfl, by decide +kernel, by decide +kernel⟩
theorem bd_is_whole {fd : FuncData} (F : FunD K "is_whole" "is_whole" (defArgs (top 5)) (defBody (top 5)) (defScope (top 5)) [] [] (He.fAd K ("is_whole", none)) fd) : L2.Binds K fd ["value", "low", "high"] [] :=
  F.bindsN fun _ _ _ _ _ _ us hl => match us, hl with | [_, _, _], _ => rfl
def sf_is_whole : SF := (sRet (eAndV (e1 (dIsi "int") (eVar 0)) (eAndV (eNotV (e1 (dIsi "bool") (eVar 0))) (e3c dLe dLe (eVar 1) (eVar 0) (eVar 2)))))
def F_is_whole : List D → M D := runF 3 3 sf_is_whole
theorem df_is_whole (t : Txt P w mg base K) : Df P w mg base (gOf K) 1 (He.fAd K ("is_whole", none)) 3 F_is_whole := by
  obtain ⟨fd, F⟩ := t.f_is_whole
  exact Df.of (g := gOf K) (k := 0) F sc_is_whole (by decide) (bd_is_whole F) fun cdv A outer s H E hr => (psx_one (psx_ret (WF.σ _) (px_and (px_isi (T := "int") (by simp) rfl rfl t.b_isinstance rfl t.b_int boot_int (PB.of (px_var 0 (pv 0)))) (px_and (px_not (px_isi (T := "bool") (by simp) rfl rfl t.b_isinstance rfl t.b_bool boot_bool (PB.of (px_var 0 (pv 0))))) (px_one (px_chain (op_leD hr.u64) (op_leD hr.u64) st_le st_le (PB.of (px_var 1 (pv 1))) (PB.of (px_var 0 (pv 0))) (PB.of (px_var 2 (pv 2)))))))))
/-! ### is_tuple_of -/
theorem sc_is_tuple_of : FnScope ["value", "low", "high"] ["value", "low", "high"] (defScope (top 6)) := ⟨rfl, rfl, rfl, by decide +kernel, rfl, by decide +kernel, by decide +kernel⟩
theorem bd_is_tuple_of {fd : FuncData} (F : FunD K "is_tuple_of" "is_tuple_of" (defArgs (top 6)) (defBody (top 6)) (defScope (top 6)) [] [] (He.fAd K ("is_tuple_of", none)) fd) : L2.Binds K fd ["value", "low", "high"] [] :=
  F.bindsN fun _ _ _ _ _ _ us hl => match us, hl with | [_, _, _], _ => rfl
def sf_is_tuple_of : SF := (sRet (eAndV (e1 (dIsi "tuple") (eVar 0)) (e3c dLe dLe (eVar 1) (eN (n1 dLen) (aCons (eVar 0) aNil)) (eVar 2))))
def F_is_tuple_of : List D → M D := runF 3 3 sf_is_tuple_of
theorem df_is_tuple_of (t : Txt P w mg base K) : Df P w mg base (gOf K) 1 (He.fAd K ("is_tuple_of", none)) 3 F_is_tuple_of := by
  obtain ⟨fd, F⟩ := t.f_is_tuple_of
  exact Df.of (g := gOf K) (k := 0) F sc_is_tuple_of (by decide) (bd_is_tuple_of F) fun cdv A outer s H E hr => (psx_one (psx_ret (WF.σ _) (px_and (px_isi (T := "tuple") (by simp) rfl rfl t.b_isinstance rfl t.b_tuple boot_tuple (PB.of (px_var 0 (pv 0)))) (px_one (px_chain (op_leD hr.u64) (op_leD hr.u64) st_le st_le (PB.of (px_var 1 (pv 1))) (PB.of (px_len rfl rfl t.b_len (pax_cons (PB.of (px_var 0 (pv 0))) pax_nil))) (PB.of (px_var 2 (pv 2))))))))
/-! ### are_turns -/
theorem sc_are_turns : FnScope ["value", "own"] ["value"] (defScope (top 12)) := ⟨rfl, rfl, rfl, by decide +kernel, rfl, by decide +kernel, by decide +kernel⟩
theorem bd_are_turns {fd : FuncData} (F : FunD K "are_turns" "are_turns" (defArgs (top 12)) (defBody (top 12)) (defScope (top 12)) [] [] (He.fAd K ("are_turns", none)) fd) : L2.Binds K fd ["value"] [] :=
  F.bindsN fun _ _ _ _ _ _ us hl => match us, hl with | [_], _ => rfl
def sf_are_turns : SF := (sRet (eAndV (eCall F_is_tuple_of (aCons (eVar 0) (aCons (eC (.int 0)) (aCons (eC (.int 8)) aNil)))) (eN (n1 dAll) (aCons (eLc [1] (iSeq (eVar 0)) (bName 1) tTrue (eCall F_is_whole (aCons (eVar 1) (aCons (eC (.int 2)) (aCons (eC (.int 100)) aNil))))) aNil))))
def F_are_turns : List D → M D := runF 1 2 sf_are_turns
theorem df_are_turns (t : Txt P w mg base K) : Df P w mg base (gOf K) 2 (He.fAd K ("are_turns", none)) 1 F_are_turns := by
  obtain ⟨fd, F⟩ := t.f_are_turns
  exact Df.of (g := gOf K) (k := 1) F sc_are_turns (by decide) (bd_are_turns F) fun cdv A outer s H E hr => (psx_one (psx_ret (WF.σ _) (px_and (px_call ((df_is_tuple_of t).mono (by omega)) rfl hr rfl t.m_is_tuple_of tkF (pax_cons (px_var 0 (pv 0)) (pax_cons px_int (pax_cons (px_gint rfl t.c_LONG.choose_spec) pax_nil)))) (px_one (px_all rfl rfl rfl t.b_all (pax_cons (PB.ofF (px_lc (own := [("own", 1)]) rfl sc_are_turns.nd (pix_seqB rfl (PB.of (px_var 0 (pv 0)))) (blkOk_by (by kernel_rfl)) (fun _ _ _ _ _ => (pgx_name 1 (pg_name sc_are_turns.nd rfl (Or.inl rfl)))) (by decide) (fun _ _ _ _ _ => ptx_nil) (fun _ _ _ _ _ => (px_call ((df_is_whole t).mono (by omega)) rfl hr rfl t.m_is_whole tk0 (pax_cons (px_var 1 (pv 1)) (pax_cons (px_gint rfl t.c_LEAST.choose_spec) (pax_cons (px_gint rfl t.c_GREAT.choose_spec) pax_nil))))))) pax_nil))))))
/-! ### is_falling -/
theorem sc_is_falling : FnScope ["values", "one", "other"] ["values"] (defScope (top 13)) := ⟨rfl, rfl, rfl, by decide +kernel, rfl, by decide +kernel, by decide +kernel⟩
theorem bd_is_falling {fd : FuncData} (F : FunD K "is_falling" "is_falling" (defArgs (top 13)) (defBody (top 13)) (defScope (top 13)) [] [] (He.fAd K ("is_falling", none)) fd) : L2.Binds K fd ["values"] [] :=
  F.bindsN fun _ _ _ _ _ _ us hl => match us, hl with | [_], _ => rfl
def sf_is_falling : SF := (sRet (eN (n1 dAny) (aCons (eLc [1, 2] (iZipD (eVar 0) (eSl (eVar 0) (oSome (eC (.int 1))) oNone)) (bTup 2 (bCons (bName 1) (bCons (bName 2) bNil))) tTrue (e2 dLt (eVar 2) (eVar 1))) aNil)))
def F_is_falling : List D → M D := runF 1 3 sf_is_falling
theorem df_is_falling (t : Txt P w mg base K) : Df P w mg base (gOf K) 1 (He.fAd K ("is_falling", none)) 1 F_is_falling := by
  obtain ⟨fd, F⟩ := t.f_is_falling
  exact Df.of (g := gOf K) (k := 0) F sc_is_falling (by decide) (bd_is_falling F) fun cdv A outer s H E hr => (psx_one (psx_ret (WF.σ _) (px_any rfl rfl rfl t.b_any (pax_cons (PB.ofF (px_lc (own := [("one", 1), ("other", 2)]) rfl sc_is_falling.nd (pix_KX (pix_zip rfl rfl t.b_zip (px_var 0 (pv 0)) (px_sl rfl (PB.of (px_var 0 (pv 0))) (pox_some px_int) pox_none))) (blkOk_by (by kernel_rfl)) (fun _ _ _ _ _ => (pgx_tup rfl rfl (pgx_cons (pgx_name 1 (pg_name sc_is_falling.nd rfl (Or.inl rfl))) (pgx_cons (pgx_name 2 (pg_name sc_is_falling.nd rfl (Or.inl rfl))) pgx_nil)))) (by decide) (fun _ _ _ _ _ => ptx_nil) (fun _ _ _ _ _ => (px_lt rfl hr.u64 (PB.of (px_var 2 (pv 2))) (PB.of (px_var 1 (pv 1))))))) pax_nil))))
/-! ### fits -/
theorem sc_fits : FnScope ["value", "rim"] ["value"] (defScope (top 14)) := ⟨rfl, rfl, rfl, by decide +kernel, rfl, by decide +kernel, by decide +kernel⟩
theorem bd_fits {fd : FuncData} (F : FunD K "fits" "fits" (defArgs (top 14)) (defBody (top 14)) (defScope (top 14)) [] [] (He.fAd K ("fits", none)) fd) : L2.Binds K fd ["value"] [] :=
  F.bindsN fun _ _ _ _ _ _ us hl => match us, hl with | [_], _ => rfl
def sf_fits : SF := (sSeq (sIf (tOrF (tNotF (tB (eCall F_is_tuple_of (aCons (eVar 0) (aCons (eC (.int 4)) (aCons (eC (.int 4)) aNil)))))) (tOrF (tNotF (tB (eCall F_is_whole (aCons (e2 dIx (eVar 0) (eC (.int 0))) (aCons (eC (.int 0)) (aCons (eC (.int 4)) aNil)))))) (tNotF (tB (eCall F_is_whole (aCons (e2 dIx (eVar 0) (eC (.int 3))) (aCons (eC (.int 0)) (aCons (eC (.int 4)) aNil)))))))) (sRet (eC (.bl false))) sNil) (sSeq (sIf (tOrF (tNotF (tB (eCall F_are_turns (aCons (e2 dIx (eVar 0) (eC (.int 1))) aNil)))) (tOrF (tNotF (tB (eCall F_is_tuple_of (aCons (e2 dIx (eVar 0) (eC (.int 2))) (aCons (eC (.int 0)) (aCons (eC (.int 4)) aNil)))))) (tNotF (tB (eN (n1 dAll) (aCons (eLc [1] (iSeq (e2 dIx (eVar 0) (eC (.int 2)))) (bName 1) tTrue (eCall F_are_turns (aCons (eVar 1) aNil))) aNil)))))) (sRet (eC (.bl false))) sNil) (sRet (eAndV (eNotV (eCall F_is_falling (aCons (e2 dIx (eVar 0) (eC (.int 1))) aNil))) (eAndV (eNotV (eCall F_is_falling (aCons (e2 dIx (eVar 0) (eC (.int 2))) aNil))) (eOrV (e2 dEq (e2 dIx (eVar 0) (eC (.int 0))) (eC (.int 0))) (e2 dEq (e2 dIx (eVar 0) (eC (.int 3))) (eC (.int 0)))))))))
def F_fits : List D → M D := runF 1 2 sf_fits
theorem df_fits (t : Txt P w mg base K) : Df P w mg base (gOf K) 3 (He.fAd K ("fits", none)) 1 F_fits := by
  obtain ⟨fd, F⟩ := t.f_fits
  exact Df.of (g := gOf K) (k := 2) F sc_fits (by decide) (bd_fits F) fun cdv A outer s H E hr => (psx_cons (psx_if (WF.σ _) (ptx_pw (pwx_or (ptx_not (pt_of (px_call ((df_is_tuple_of t).mono (by omega)) rfl hr rfl t.m_is_tuple_of tkF (pax_cons (px_var 0 (pv 0)) (pax_cons px_int (pax_cons px_int pax_nil)))))) (pwx_or (ptx_not (pt_of (px_call ((df_is_whole t).mono (by omega)) rfl hr rfl t.m_is_whole tkF (pax_cons (px_ix rfl (PB.of (px_var 0 (pv 0))) (PB.of px_int) (fun _ _ => rfl)) (pax_cons px_int (pax_cons (px_gint rfl t.c_MOST.choose_spec) pax_nil)))))) (pwx_or1 (ptx_not (pt_of (px_call ((df_is_whole t).mono (by omega)) rfl hr rfl t.m_is_whole tkF (pax_cons (px_ix rfl (PB.of (px_var 0 (pv 0))) (PB.of px_int) (fun _ _ => rfl)) (pax_cons px_int (pax_cons (px_gint rfl t.c_MOST.choose_spec) pax_nil)))))))))) (psx_one (psx_ret (WF.σ _) px_bl)) psx_nil) (psx_cons (psx_if (WF.σ _) (ptx_pw (pwx_or (ptx_not (pt_of (px_call ((df_are_turns t).mono (by omega)) rfl hr rfl t.m_are_turns tkF (pax_cons (px_ix rfl (PB.of (px_var 0 (pv 0))) (PB.of px_int) (fun _ _ => rfl)) pax_nil)))) (pwx_or (ptx_not (pt_of (px_call ((df_is_tuple_of t).mono (by omega)) rfl hr rfl t.m_is_tuple_of tkF (pax_cons (px_ix rfl (PB.of (px_var 0 (pv 0))) (PB.of px_int) (fun _ _ => rfl)) (pax_cons px_int (pax_cons (px_gint rfl t.c_MOST.choose_spec) pax_nil)))))) (pwx_or1 (ptx_not (pt_of (px_all rfl rfl rfl t.b_all (pax_cons (PB.ofF (px_lc (own := [("rim", 1)]) rfl sc_fits.nd (pix_seqB rfl (PB.of (px_ix rfl (PB.of (px_var 0 (pv 0))) (PB.of px_int) (fun _ _ => rfl)))) (blkOk_by (by kernel_rfl)) (fun _ _ _ _ _ => (pgx_name 1 (pg_name sc_fits.nd rfl (Or.inl rfl)))) (by decide) (fun _ _ _ _ _ => ptx_nil) (fun _ _ _ _ _ => (px_call ((df_are_turns t).mono (by omega)) rfl hr rfl t.m_are_turns tk0 (pax_cons (px_var 1 (pv 1)) pax_nil))))) pax_nil)))))))) (psx_one (psx_ret (WF.σ _) px_bl)) psx_nil) (psx_one (psx_ret (WF.σ _) (px_and (px_not (px_call ((df_is_falling t).mono (by omega)) rfl hr rfl t.m_is_falling tkF (pax_cons (px_ix rfl (PB.of (px_var 0 (pv 0))) (PB.of px_int) (fun _ _ => rfl)) pax_nil))) (px_and (px_not (px_call ((df_is_falling t).mono (by omega)) rfl hr rfl t.m_is_falling tkF (pax_cons (px_ix rfl (PB.of (px_var 0 (pv 0))) (PB.of px_int) (fun _ _ => rfl)) pax_nil))) (px_one (px_or (px_eq rfl hr.u64 (PB.of (px_ix rfl (PB.of (px_var 0 (pv 0))) (PB.of px_int) (fun _ _ => rfl))) (PB.of px_int)) (px_one (px_eq rfl hr.u64 (PB.of (px_ix rfl (PB.of (px_var 0 (pv 0))) (PB.of px_int) (fun _ _ => rfl))) (PB.of px_int)))))))))))
/-! ### need_piece -/
theorem sc_need_piece : FnScope ["piece"] ["piece"] (defScope (top 15)) := ⟨rfl, rfl, rfl, by decide +kernel, rfl, by decide +kernel, by decide +kernel⟩
theorem bd_need_piece {fd : FuncData} (F : FunD K "need_piece" "need_piece" (defArgs (top 15)) (defBody (top 15)) (defScope (top 15)) [] [] (He.fAd K ("need_piece", none)) fd) : L2.Binds K fd ["piece"] [] :=
  F.bindsN fun _ _ _ _ _ _ us hl => match us, hl with | [_], _ => rfl
def sf_need_piece : SF := (sIf (tNotF (tB (eCall F_fits (aCons (eVar 0) aNil)))) (sRaise 1) sNil)
def F_need_piece : List D → M D := runF 1 1 sf_need_piece
theorem df_need_piece (t : Txt P w mg base K) : Df P w mg base (gOf K) 4 (He.fAd K ("need_piece", none)) 1 F_need_piece := by
  obtain ⟨fd, F⟩ := t.f_need_piece
  exact Df.of (g := gOf K) (k := 3) F sc_need_piece (by decide) (bd_need_piece F) fun cdv A outer s H E hr => (psx_one (psx_if (WF.σ _) (ptx_not (pt_of (px_call ((df_fits t).mono (by omega)) rfl hr rfl t.m_fits tkF (pax_cons (px_var 0 (pv 0)) pax_nil)))) (psx_one (psx_raiseX (k := 1) rfl rfl tkF rfl t.x_InvalidPiece.1 t.m_InvalidPiece t.x_InvalidPiece.2.1 t.x_InvalidPiece.2.2.1 t.x_InvalidPiece.2.2.2 rfl)) psx_nil))
/-! ### corners_of -/
theorem sc_corners_of : FnScope ["piece", "found", "rim"] ["piece"] (defScope (top 16)) := ⟨rfl, rfl, rfl, by decide +kernel, rfl, by decide +kernel, by decide +kernel⟩
theorem bd_corners_of {fd : FuncData} (F : FunD K "corners_of" "corners_of" (defArgs (top 16)) (defBody (top 16)) (defScope (top 16)) [] [] (He.fAd K ("corners_of", none)) fd) : L2.Binds K fd ["piece"] [] :=
  F.bindsN fun _ _ _ _ _ _ us hl => match us, hl with | [_], _ => rfl
def sf_corners_of : SF := (sSeq (sSetF 1 (eLst aNil)) (sSeq (sFor (iSeq (e2 dIx (eVar 0) (eC (.int 2)))) (bName 2) (sExt 1 (eVar 2))) (sRetO 1)))
def F_corners_of : List D → M D := runF 1 3 sf_corners_of
theorem df_corners_of (t : Txt P w mg base K) : Df P w mg base (gOf K) 1 (He.fAd K ("corners_of", none)) 1 F_corners_of := by
  obtain ⟨fd, F⟩ := t.f_corners_of
  exact Df.of (g := gOf K) (k := 0) F sc_corners_of (by decide) (bd_corners_of F) fun cdv A outer s H E hr => (psx_cons (psx_setF (i := 1) (WF.σ _) (ps_set sc_corners_of.nd rfl (Or.inl rfl) (px_lst pax_nil))) (psx_cons (psx_for (WF.σ _) PassesOwn.leaving rfl (pix_seq rfl (px_ix rfl (PB.of (px_var 0 (pv 0))) (PB.of px_int) (fun _ _ => rfl))) (pgx_name 2 (pg_name sc_corners_of.nd rfl (Or.inl rfl))) (psx_one (psx_ext rfl (WF.σ _) (pv 1) (px_var 2 (pv 2))))) (psx_one (psx_retO (pv 1)))))
/-! ### lowest -/
theorem sc_lowest : FnScope ["top", "bottom", "shared"] ["top", "bottom"] (defScope (top 18)) := ⟨rfl, rfl, rfl, by decide +kernel, rfl, by decide +kernel, by decide +kernel⟩
theorem bd_lowest {fd : FuncData} (F : FunD K "lowest" "lowest" (defArgs (top 18)) (defBody (top 18)) (defScope (top 18)) [] [] (He.fAd K ("lowest", none)) fd) : L2.Binds K fd ["top", "bottom"] [] :=
  F.bindsN fun _ _ _ _ _ _ us hl => match us, hl with | [_, _], _ => rfl
def sf_lowest : SF := (sSeq (sSet 2 (eN (n2 dGcd) (aCons (eVar 0) (aCons (eVar 1) aNil)))) (sSeq (sSet 2 (eIf (tB (e2 dGt (eVar 1) (eC (.int 0)))) (eVar 2) (e1 dNeg (eVar 2)))) (sRet (eTup (aCons (e2 dDiv (eVar 0) (eVar 2)) (aCons (e2 dDiv (eVar 1) (eVar 2)) aNil))))))
def F_lowest : List D → M D := runF 2 3 sf_lowest
theorem df_lowest (t : Txt P w mg base K) : Df P w mg base (gOf K) 1 (He.fAd K ("lowest", none)) 2 F_lowest := by
  obtain ⟨fd, F⟩ := t.f_lowest
  exact Df.of (g := gOf K) (k := 0) F sc_lowest (by decide) (bd_lowest F) fun cdv A outer s H E hr => (psx_cons (psx_set (i := 2) (WF.σ _) (ps_set sc_lowest.nd rfl (Or.inl rfl) (px_gcd rfl t.i_gcd (pax_cons (PB.of (px_var 0 (pv 0))) (pax_cons (PB.of (px_var 1 (pv 1))) pax_nil))))) (psx_cons (psx_set (i := 2) (WF.σ _) (ps_set sc_lowest.nd rfl (Or.inl rfl) (px_if (pt_gt rfl hr.u64 (PB.of (px_var 1 (pv 1))) (PB.of px_int)) (px_var 2 (pv 2)) (px_neg (PB.of (px_var 2 (pv 2))))))) (psx_one (psx_ret (WF.σ _) (px_tup (pax_cons (px_div (PB.of (px_var 0 (pv 0))) (PB.of (px_var 2 (pv 2)))) (pax_cons (px_div (PB.of (px_var 1 (pv 1))) (PB.of (px_var 2 (pv 2)))) pax_nil)))))))
/-! ### plus -/
theorem sc_plus : FnScope ["one", "other"] ["one", "other"] (defScope (top 19)) := ⟨rfl, rfl, rfl, by decide +kernel, rfl, by decide +kernel, by decide +kernel⟩
theorem bd_plus {fd : FuncData} (F : FunD K "plus" "plus" (defArgs (top 19)) (defBody (top 19)) (defScope (top 19)) [] [] (He.fAd K ("plus", none)) fd) : L2.Binds K fd ["one", "other"] [] :=
  F.bindsN fun _ _ _ _ _ _ us hl => match us, hl with | [_, _], _ => rfl
def sf_plus : SF := (sRet (eCall F_lowest (aCons (e2 dAdd (e2 dMul (e2 dIx (eVar 0) (eC (.int 0))) (e2 dIx (eVar 1) (eC (.int 1)))) (e2 dMul (e2 dIx (eVar 1) (eC (.int 0))) (e2 dIx (eVar 0) (eC (.int 1))))) (aCons (e2 dMul (e2 dIx (eVar 0) (eC (.int 1))) (e2 dIx (eVar 1) (eC (.int 1)))) aNil))))
def F_plus : List D → M D := runF 2 2 sf_plus
theorem df_plus (t : Txt P w mg base K) : Df P w mg base (gOf K) 2 (He.fAd K ("plus", none)) 2 F_plus := by
  obtain ⟨fd, F⟩ := t.f_plus
  exact Df.of (g := gOf K) (k := 1) F sc_plus (by decide) (bd_plus F) fun cdv A outer s H E hr => (psx_one (psx_ret (WF.σ _) (px_call ((df_lowest t).mono (by omega)) rfl hr rfl t.m_lowest tkF (pax_cons (px_add rfl (PB.of (px_mul rfl (PB.of (px_ix rfl (PB.of (px_var 0 (pv 0))) (PB.of px_int) (fun _ _ => rfl))) (PB.of (px_ix rfl (PB.of (px_var 1 (pv 1))) (PB.of px_int) (fun _ _ => rfl))))) (PB.of (px_mul rfl (PB.of (px_ix rfl (PB.of (px_var 1 (pv 1))) (PB.of px_int) (fun _ _ => rfl))) (PB.of (px_ix rfl (PB.of (px_var 0 (pv 0))) (PB.of px_int) (fun _ _ => rfl)))))) (pax_cons (px_mul rfl (PB.of (px_ix rfl (PB.of (px_var 0 (pv 0))) (PB.of px_int) (fun _ _ => rfl))) (PB.of (px_ix rfl (PB.of (px_var 1 (pv 1))) (PB.of px_int) (fun _ _ => rfl)))) pax_nil)))))
/-! ### points_cost -/
theorem sc_points_cost : FnScope ["points", "found", "n"] ["points"] (defScope (top 21)) := ⟨rfl, rfl, rfl, by decide +kernel, rfl, by decide +kernel, by decide +kernel⟩
theorem bd_points_cost {fd : FuncData} (F : FunD K "points_cost" "points_cost" (defArgs (top 21)) (defBody (top 21)) (defScope (top 21)) [] [] (He.fAd K ("points_cost", none)) fd) : L2.Binds K fd ["points"] [] :=
  F.bindsN fun _ _ _ _ _ _ us hl => match us, hl with | [_], _ => rfl
def sf_points_cost : SF := (sSeq (sSet 1 (eTup (aCons (eC (.int 0)) (aCons (eC (.int 1)) aNil)))) (sSeq (sFor (iSeq (eVar 0)) (bName 2) (sSet 1 (eCall F_plus (aCons (eVar 1) (aCons (eTup (aCons (e2 dSub (eVar 2) (eC (.int 1))) (aCons (eVar 2) aNil))) aNil))))) (sRet (eVar 1))))
def F_points_cost : List D → M D := runF 1 3 sf_points_cost
theorem df_points_cost (t : Txt P w mg base K) : Df P w mg base (gOf K) 3 (He.fAd K ("points_cost", none)) 1 F_points_cost := by
  obtain ⟨fd, F⟩ := t.f_points_cost
  exact Df.of (g := gOf K) (k := 2) F sc_points_cost (by decide) (bd_points_cost F) fun cdv A outer s H E hr => (psx_cons (psx_set (i := 1) (WF.σ _) (ps_set sc_points_cost.nd rfl (Or.inl rfl) (px_tup (pax_cons px_int (pax_cons px_int pax_nil))))) (psx_cons (psx_for (WF.σ _) PassesOwn.leaving rfl (pix_seq rfl (px_var 0 (pv 0))) (pgx_name 2 (pg_name sc_points_cost.nd rfl (Or.inl rfl))) (psx_one (psx_set (i := 1) (WF.σ _) (ps_set sc_points_cost.nd rfl (Or.inl rfl) (px_call ((df_plus t).mono (by omega)) rfl hr rfl t.m_plus tkF (pax_cons (px_var 1 (pv 1)) (pax_cons (px_tup (pax_cons (px_sub (PB.of (px_var 2 (pv 2))) (PB.of px_int)) (pax_cons (px_var 2 (pv 2)) pax_nil))) pax_nil))))))) (psx_one (psx_ret (WF.σ _) (px_var 1 (pv 1))))))
/-! ### halved -/
theorem sc_halved : FnScope ["number"] ["number"] (defScope (top 22)) := ⟨rfl, rfl, rfl, by decide +kernel, rfl, by decide +kernel, by decide +kernel⟩
theorem bd_halved {fd : FuncData} (F : FunD K "halved" "halved" (defArgs (top 22)) (defBody (top 22)) (defScope (top 22)) [] [] (He.fAd K ("halved", none)) fd) : L2.Binds K fd ["number"] [] :=
  F.bindsN fun _ _ _ _ _ _ us hl => match us, hl with | [_], _ => rfl
def sf_halved : SF := (sRet (eCall F_lowest (aCons (e2 dIx (eVar 0) (eC (.int 0))) (aCons (e2 dMul (eC (.int 2)) (e2 dIx (eVar 0) (eC (.int 1)))) aNil))))
def F_halved : List D → M D := runF 1 1 sf_halved
theorem df_halved (t : Txt P w mg base K) : Df P w mg base (gOf K) 2 (He.fAd K ("halved", none)) 1 F_halved := by
  obtain ⟨fd, F⟩ := t.f_halved
  exact Df.of (g := gOf K) (k := 1) F sc_halved (by decide) (bd_halved F) fun cdv A outer s H E hr => (psx_one (psx_ret (WF.σ _) (px_call ((df_lowest t).mono (by omega)) rfl hr rfl t.m_lowest tkF (pax_cons (px_ix rfl (PB.of (px_var 0 (pv 0))) (PB.of px_int) (fun _ _ => rfl)) (pax_cons (px_mul rfl (PB.of px_int) (PB.of (px_ix rfl (PB.of (px_var 0 (pv 0))) (PB.of px_int) (fun _ _ => rfl)))) pax_nil)))))
/-! ### parts_in -/
theorem sc_parts_in : FnScope ["piece", "corners"] ["piece"] (defScope (top 23)) := ⟨rfl, rfl, rfl, by decide +kernel, rfl, by decide +kernel, by decide +kernel⟩
theorem bd_parts_in {fd : FuncData} (F : FunD K "parts_in" "parts_in" (defArgs (top 23)) (defBody (top 23)) (defScope (top 23)) [] [] (He.fAd K ("parts_in", none)) fd) : L2.Binds K fd ["piece"] [] :=
  F.bindsN fun _ _ _ _ _ _ us hl => match us, hl with | [_], _ => rfl
def sf_parts_in : SF := (sSeq (sSet 1 (eCall F_halved (aCons (eCall F_points_cost (aCons (eCall F_corners_of (aCons (eVar 0) aNil)) aNil)) aNil))) (sRet (eLst (aCons (eTup (aCons (e2 dMul (eC (.int 2)) (e2 dIx (eVar 0) (eC (.int 0)))) (aCons (eC (.int 1)) aNil))) (aCons (eCall F_points_cost (aCons (e2 dIx (eVar 0) (eC (.int 1))) aNil)) (aCons (eTup (aCons (eN (n1 dLen) (aCons (e2 dIx (eVar 0) (eC (.int 2))) aNil)) (aCons (eC (.int 1)) aNil))) (aCons (eVar 1) (aCons (eTup (aCons (e2 dIx (eVar 0) (eC (.int 3))) (aCons (eC (.int 1)) aNil))) aNil))))))))
def F_parts_in : List D → M D := runF 1 2 sf_parts_in
theorem df_parts_in (t : Txt P w mg base K) : Df P w mg base (gOf K) 4 (He.fAd K ("parts_in", none)) 1 F_parts_in := by
  obtain ⟨fd, F⟩ := t.f_parts_in
  exact Df.of (g := gOf K) (k := 3) F sc_parts_in (by decide) (bd_parts_in F) fun cdv A outer s H E hr => (psx_cons (psx_set (i := 1) (WF.σ _) (ps_set sc_parts_in.nd rfl (Or.inl rfl) (px_call ((df_halved t).mono (by omega)) rfl hr rfl t.m_halved tkF (pax_cons (px_call ((df_points_cost t).mono (by omega)) rfl hr rfl t.m_points_cost tkF (pax_cons (px_call ((df_corners_of t).mono (by omega)) rfl hr rfl t.m_corners_of tkF (pax_cons (px_var 0 (pv 0)) pax_nil)) pax_nil)) pax_nil)))) (psx_one (psx_ret (WF.σ _) (PP.ofF (px_lst (pax_cons (px_tup (pax_cons (px_mul rfl (PB.of px_int) (PB.of (px_ix rfl (PB.of (px_var 0 (pv 0))) (PB.of px_int) (fun _ _ => rfl)))) (pax_cons px_int pax_nil))) (pax_cons (px_call ((df_points_cost t).mono (by omega)) rfl hr rfl t.m_points_cost tkF (pax_cons (px_ix rfl (PB.of (px_var 0 (pv 0))) (PB.of px_int) (fun _ _ => rfl)) pax_nil)) (pax_cons (px_tup (pax_cons (px_len rfl rfl t.b_len (pax_cons (PB.of (px_ix rfl (PB.of (px_var 0 (pv 0))) (PB.of px_int) (fun _ _ => rfl))) pax_nil)) (pax_cons px_int pax_nil))) (pax_cons (px_var 1 (pv 1)) (pax_cons (px_tup (pax_cons (px_ix rfl (PB.of (px_var 0 (pv 0))) (PB.of px_int) (fun _ _ => rfl)) (pax_cons px_int pax_nil))) pax_nil))))))))))
/-! ### cost_in -/
theorem sc_cost_in : FnScope ["piece", "found", "part"] ["piece"] (defScope (top 24)) := ⟨rfl, rfl, rfl, by decide +kernel, rfl, by decide +kernel, by decide +kernel⟩
theorem bd_cost_in {fd : FuncData} (F : FunD K "cost_in" "cost_in" (defArgs (top 24)) (defBody (top 24)) (defScope (top 24)) [] [] (He.fAd K ("cost_in", none)) fd) : L2.Binds K fd ["piece"] [] :=
  F.bindsN fun _ _ _ _ _ _ us hl => match us, hl with | [_], _ => rfl
def sf_cost_in : SF := (sSeq (sSet 1 (eTup (aCons (eC (.int 0)) (aCons (eC (.int 1)) aNil)))) (sSeq (sFor (iSeq (eCall F_parts_in (aCons (eVar 0) aNil))) (bName 2) (sSet 1 (eCall F_plus (aCons (eVar 1) (aCons (eVar 2) aNil))))) (sRet (eVar 1))))
def F_cost_in : List D → M D := runF 1 3 sf_cost_in
theorem df_cost_in (t : Txt P w mg base K) : Df P w mg base (gOf K) 5 (He.fAd K ("cost_in", none)) 1 F_cost_in := by
  obtain ⟨fd, F⟩ := t.f_cost_in
  exact Df.of (g := gOf K) (k := 4) F sc_cost_in (by decide) (bd_cost_in F) fun cdv A outer s H E hr => (psx_cons (psx_set (i := 1) (WF.σ _) (ps_set sc_cost_in.nd rfl (Or.inl rfl) (px_tup (pax_cons px_int (pax_cons px_int pax_nil))))) (psx_cons (psx_for (WF.σ _) PassesOwn.leaving rfl (pix_seq rfl (px_call ((df_parts_in t).mono (by omega)) rfl hr rfl t.m_parts_in tkF (pax_cons (px_var 0 (pv 0)) pax_nil))) (pgx_name 2 (pg_name sc_cost_in.nd rfl (Or.inl rfl))) (psx_one (psx_set (i := 1) (WF.σ _) (ps_set sc_cost_in.nd rfl (Or.inl rfl) (px_call ((df_plus t).mono (by omega)) rfl hr rfl t.m_plus tkF (pax_cons (px_var 1 (pv 1)) (pax_cons (px_var 2 (pv 2)) pax_nil))))))) (psx_one (psx_ret (WF.σ _) (px_var 1 (pv 1))))))
/-! ### rest_in -/
theorem sc_rest_in : FnScope ["piece", "cost"] ["piece"] (defScope (top 25)) := ⟨rfl, rfl, rfl, by decide +kernel, rfl, by decide +kernel, by decide +kernel⟩
theorem bd_rest_in {fd : FuncData} (F : FunD K "rest_in" "rest_in" (defArgs (top 25)) (defBody (top 25)) (defScope (top 25)) [] [] (He.fAd K ("rest_in", none)) fd) : L2.Binds K fd ["piece"] [] :=
  F.bindsN fun _ _ _ _ _ _ us hl => match us, hl with | [_], _ => rfl
def sf_rest_in : SF := (sSeq (sSet 1 (eCall F_cost_in (aCons (eVar 0) aNil))) (sRet (eCall F_plus (aCons (eTup (aCons (eC (.int 2)) (aCons (eC (.int 1)) aNil))) (aCons (eTup (aCons (e1 dNeg (e2 dIx (eVar 1) (eC (.int 0)))) (aCons (e2 dIx (eVar 1) (eC (.int 1))) aNil))) aNil)))))
def F_rest_in : List D → M D := runF 1 2 sf_rest_in
theorem df_rest_in (t : Txt P w mg base K) : Df P w mg base (gOf K) 6 (He.fAd K ("rest_in", none)) 1 F_rest_in := by
  obtain ⟨fd, F⟩ := t.f_rest_in
  exact Df.of (g := gOf K) (k := 5) F sc_rest_in (by decide) (bd_rest_in F) fun cdv A outer s H E hr => (psx_cons (psx_set (i := 1) (WF.σ _) (ps_set sc_rest_in.nd rfl (Or.inl rfl) (px_call ((df_cost_in t).mono (by omega)) rfl hr rfl t.m_cost_in tkF (pax_cons (px_var 0 (pv 0)) pax_nil)))) (psx_one (psx_ret (WF.σ _) (px_call ((df_plus t).mono (by omega)) rfl hr rfl t.m_plus tkF (pax_cons (px_tup (pax_cons px_int (pax_cons px_int pax_nil))) (pax_cons (px_tup (pax_cons (px_neg (PB.of (px_ix rfl (PB.of (px_var 1 (pv 1))) (PB.of px_int) (fun _ _ => rfl)))) (pax_cons (px_ix rfl (PB.of (px_var 1 (pv 1))) (PB.of px_int) (fun _ _ => rfl)) pax_nil))) pax_nil))))))
/-! ### cost_of -/
theorem sc_cost_of : FnScope ["piece"] ["piece"] (defScope (top 26)) := ⟨rfl, rfl, rfl, by decide +kernel, rfl, by decide +kernel, by decide +kernel⟩
theorem bd_cost_of {fd : FuncData} (F : FunD K "cost_of" "cost_of" (defArgs (top 26)) (defBody (top 26)) (defScope (top 26)) [] [] (He.fAd K ("cost_of", none)) fd) : L2.Binds K fd ["piece"] [] :=
  F.bindsN fun _ _ _ _ _ _ us hl => match us, hl with | [_], _ => rfl
def sf_cost_of : SF := (sSeq (sExp (eCall F_need_piece (aCons (eVar 0) aNil))) (sRet (eCall F_cost_in (aCons (eVar 0) aNil))))
def F_cost_of : List D → M D := runF 1 1 sf_cost_of
theorem df_cost_of (t : Txt P w mg base K) : Df P w mg base (gOf K) 6 (He.fAd K ("cost_of", none)) 1 F_cost_of := by
  obtain ⟨fd, F⟩ := t.f_cost_of
  exact Df.of (g := gOf K) (k := 5) F sc_cost_of (by decide) (bd_cost_of F) fun cdv A outer s H E hr => (psx_cons (psx_exp (WF.σ _) (px_call ((df_need_piece t).mono (by omega)) rfl hr rfl t.m_need_piece tkF (pax_cons (px_var 0 (pv 0)) pax_nil))) (psx_one (psx_ret (WF.σ _) (px_call ((df_cost_in t).mono (by omega)) rfl hr rfl t.m_cost_in tkF (pax_cons (px_var 0 (pv 0)) pax_nil)))))
/-! ### rest_of_piece -/
theorem sc_rest_of_piece : FnScope ["piece"] ["piece"] (defScope (top 27)) := ⟨rfl, rfl, rfl, by decide +kernel, rfl, by decide +kernel, by decide +kernel⟩
theorem bd_rest_of_piece {fd : FuncData} (F : FunD K "rest_of_piece" "rest_of_piece" (defArgs (top 27)) (defBody (top 27)) (defScope (top 27)) [] [] (He.fAd K ("rest_of_piece", none)) fd) : L2.Binds K fd ["piece"] [] :=
  F.bindsN fun _ _ _ _ _ _ us hl => match us, hl with | [_], _ => rfl
def sf_rest_of_piece : SF := (sSeq (sExp (eCall F_need_piece (aCons (eVar 0) aNil))) (sRet (eCall F_rest_in (aCons (eVar 0) aNil))))
def F_rest_of_piece : List D → M D := runF 1 1 sf_rest_of_piece
theorem df_rest_of_piece (t : Txt P w mg base K) : Df P w mg base (gOf K) 7 (He.fAd K ("rest_of_piece", none)) 1 F_rest_of_piece := by
  obtain ⟨fd, F⟩ := t.f_rest_of_piece
  exact Df.of (g := gOf K) (k := 6) F sc_rest_of_piece (by decide) (bd_rest_of_piece F) fun cdv A outer s H E hr => (psx_cons (psx_exp (WF.σ _) (px_call ((df_need_piece t).mono (by omega)) rfl hr rfl t.m_need_piece tkF (pax_cons (px_var 0 (pv 0)) pax_nil))) (psx_one (psx_ret (WF.σ _) (px_call ((df_rest_in t).mono (by omega)) rfl hr rfl t.m_rest_in tkF (pax_cons (px_var 0 (pv 0)) pax_nil)))))
/-! ### rest_word -/
theorem sc_rest_word : FnScope ["piece", "top"] ["piece"] (defScope (top 28)) := ⟨rfl, rfl, rfl, by decide +kernel, rfl, by decide +kernel, by decide +kernel⟩
theorem bd_rest_word {fd : FuncData} (F : FunD K "rest_word" "rest_word" (defArgs (top 28)) (defBody (top 28)) (defScope (top 28)) [] [] (He.fAd K ("rest_word", none)) fd) : L2.Binds K fd ["piece"] [] :=
  F.bindsN fun _ _ _ _ _ _ us hl => match us, hl with | [_], _ => rfl
def sf_rest_word : SF := (sSeq (sExp (eCall F_need_piece (aCons (eVar 0) aNil))) (sSeq (sSet 1 (e2 dIx (eCall F_rest_in (aCons (eVar 0) aNil)) (eC (.int 0)))) (sRet (eIf (tB (e2 dGt (eVar 1) (eC (.int 0)))) (eC (.str "round")) (eIf (tB (e2 dEq (eVar 1) (eC (.int 0)))) (eC (.str "flat")) (eC (.str "wide")))))))
def F_rest_word : List D → M D := runF 1 2 sf_rest_word
theorem df_rest_word (t : Txt P w mg base K) : Df P w mg base (gOf K) 7 (He.fAd K ("rest_word", none)) 1 F_rest_word := by
  obtain ⟨fd, F⟩ := t.f_rest_word
  exact Df.of (g := gOf K) (k := 6) F sc_rest_word (by decide) (bd_rest_word F) fun cdv A outer s H E hr => (psx_cons (psx_exp (WF.σ _) (px_call ((df_need_piece t).mono (by omega)) rfl hr rfl t.m_need_piece tkF (pax_cons (px_var 0 (pv 0)) pax_nil))) (psx_cons (psx_set (i := 1) (WF.σ _) (ps_set sc_rest_word.nd rfl (Or.inl rfl) (px_ix rfl (PB.of (px_call ((df_rest_in t).mono (by omega)) rfl hr rfl t.m_rest_in tkF (pax_cons (px_var 0 (pv 0)) pax_nil))) (PB.of px_int) (fun _ _ => rfl)))) (psx_one (psx_ret (WF.σ _) (px_if (pt_gt rfl hr.u64 (PB.of (px_var 1 (pv 1))) (PB.of px_int)) px_str (px_if (pt_eq rfl hr.u64 (PB.of (px_var 1 (pv 1))) (PB.of px_int)) px_str px_str))))))
/-! ### cost_parts -/
theorem sc_cost_parts : FnScope ["piece"] ["piece"] (defScope (top 29)) := ⟨rfl, rfl, rfl, by decide +kernel, rfl, by decide +kernel, by decide +kernel⟩
theorem bd_cost_parts {fd : FuncData} (F : FunD K "cost_parts" "cost_parts" (defArgs (top 29)) (defBody (top 29)) (defScope (top 29)) [] [] (He.fAd K ("cost_parts", none)) fd) : L2.Binds K fd ["piece"] [] :=
  F.bindsN fun _ _ _ _ _ _ us hl => match us, hl with | [_], _ => rfl
def sf_cost_parts : SF := (sSeq (sExp (eCall F_need_piece (aCons (eVar 0) aNil))) (sRet (eN (n1 dTuple) (aCons (eCall F_parts_in (aCons (eVar 0) aNil)) aNil))))
def F_cost_parts : List D → M D := runF 1 1 sf_cost_parts
theorem df_cost_parts (t : Txt P w mg base K) : Df P w mg base (gOf K) 5 (He.fAd K ("cost_parts", none)) 1 F_cost_parts := by
  obtain ⟨fd, F⟩ := t.f_cost_parts
  exact Df.of (g := gOf K) (k := 4) F sc_cost_parts (by decide) (bd_cost_parts F) fun cdv A outer s H E hr => (psx_cons (psx_exp (WF.σ _) (px_call ((df_need_piece t).mono (by omega)) rfl hr rfl t.m_need_piece tkF (pax_cons (px_var 0 (pv 0)) pax_nil))) (psx_one (psx_ret (WF.σ _) (px_tuplec rfl rfl t.b_tuple (pax_cons (PB.of (px_call ((df_parts_in t).mono (by omega)) rfl hr rfl t.m_parts_in tkF (pax_cons (px_var 0 (pv 0)) pax_nil))) pax_nil)))))
def fs : Nat → Option (List D → M D)
  | 14 => some F_cost_of
  | 15 => some F_rest_of_piece
  | 16 => some F_rest_word
  | 17 => some F_cost_parts
  | _ => none
theorem fs_ok (t : Txt P w mg base K) : ∀ n F, fs n = some F → ∃ m, Df P w mg base (gOf K) 7 ((gOf K).fv n) m F := by
  intro n F h
  unfold fs at h
  split at h
  · cases h; exact ⟨_, (df_cost_of t).mono (by decide)⟩
  · cases h; exact ⟨_, (df_rest_of_piece t).mono (by decide)⟩
  · cases h; exact ⟨_, (df_rest_word t).mono (by decide)⟩
  · cases h; exact ⟨_, (df_cost_parts t).mono (by decide)⟩
  · cases h
/-! ### _law_cup -/
theorem sc__law_cup : FnScope ["script", "cell"] ["script"] (defScope (top 31)) := ⟨rfl, rfl, rfl, by decide +kernel, rfl, by decide +kernel, by decide +kernel⟩
theorem bd__law_cup {fd : FuncData} (F : FunD K "_law_cup" "_law_cup" (defArgs (top 31)) (defBody (top 31)) (defScope (top 31)) [] [] (He.fAd K ("_law_cup", none)) fd) : L2.Binds K fd ["script"] [] :=
  F.bindsN fun _ _ _ _ _ _ us hl => match us, hl with | [_], _ => rfl
/-! ### _law_roll -/
theorem sc__law_roll : FnScope ["cup", "many", "found"] ["cup", "many"] (defScope (top 32)) := ⟨rfl, rfl, rfl, by decide +kernel, rfl, by decide +kernel, by decide +kernel⟩
theorem bd__law_roll {fd : FuncData} (F : FunD K "_law_roll" "_law_roll" (defArgs (top 32)) (defBody (top 32)) (defScope (top 32)) [] [] (He.fAd K ("_law_roll", none)) fd) : L2.Binds K fd ["cup", "many"] [] :=
  F.bindsN fun _ _ _ _ _ _ us hl => match us, hl with | [_, _], _ => rfl
def sf__law_roll : SF := (sSeq (sIf (tB (e2 dGt (eCup 0 0) (eC (.int 0)))) (sSeq (sSet 2 (e2 dMod (eN (n1 dInt) (aCons (eCup 0 0) aNil)) (eVar 1))) (sSeq (sCup 0 0 (e2 dDiv (eCup 0 0) (eVar 1))) (sRet (eVar 2)))) sNil) (sSeq (sCup 0 1 (e2 dMod (eN (n1 dInt) (aCons (e2 dAdd (e2 dMul (eCup 0 1) (eC (.int 107))) (eC (.int 1931))) aNil)) (eC (.int 99881)))) (sRet (e2 dMod (eN (n1 dInt) (aCons (e2 dDiv (eCup 0 1) (eC (.int 29))) aNil)) (eVar 1)))))
def F__law_roll : List D → M D := runF 2 3 sf__law_roll
theorem df__law_roll (t : Txt P w mg base K) : Df P w mg base (gOf K) 1 (He.fAd K ("_law_roll", none)) 2 F__law_roll := by
  obtain ⟨fd, F⟩ := t.f__law_roll
  exact Df.of (g := gOf K) (k := 0) F sc__law_roll (by decide) (bd__law_roll F) fun cdv A outer s H E hr => (psx_cons (psx_if (WF.σ _) (pt_gt rfl hr.u64 (PB.of (px_cup rfl (pv 0) pe_int (fun _ _ => rfl))) (PB.of px_int)) (psx_cons (psx_set (i := 2) (WF.σ _) (ps_set sc__law_roll.nd rfl (Or.inl rfl) (px_mod (PB.of (px_intc rfl t.b_int (pax_cons (PB.of (px_cup rfl (pv 0) pe_int (fun _ _ => rfl))) pax_nil))) (PB.of (px_var 1 (pv 1)))))) (psx_cons (psx_cup (WF.σ _) (pv 0) pe_int (px_div (PB.of (px_cup rfl (pv 0) pe_int (fun _ _ => rfl))) (PB.of (px_var 1 (pv 1))))) (psx_one (psx_ret (WF.σ _) (px_var 2 (pv 2)))))) psx_nil) (psx_cons (psx_cup (WF.σ _) (pv 0) pe_int (px_mod (PB.of (px_intc rfl t.b_int (pax_cons (PB.of (px_add rfl (PB.of (px_mul rfl (PB.of (px_cup rfl (pv 0) pe_int (fun _ _ => rfl))) (PB.of px_int))) (PB.of px_int))) pax_nil))) (PB.of px_int))) (psx_one (psx_ret (WF.σ _) (px_mod (PB.of (px_intc rfl t.b_int (pax_cons (PB.of (px_div (PB.of (px_cup rfl (pv 0) pe_int (fun _ _ => rfl))) (PB.of px_int))) pax_nil))) (PB.of (px_var 1 (pv 1))))))))
/-! ### _law_some -/
theorem sc__law_some : FnScope ["cup", "things"] ["cup", "things"] (defScope (top 33)) := ⟨rfl, rfl, rfl, by decide +kernel, rfl, by decide +kernel, by decide +kernel⟩
theorem bd__law_some {fd : FuncData} (F : FunD K "_law_some" "_law_some" (defArgs (top 33)) (defBody (top 33)) (defScope (top 33)) [] [] (He.fAd K ("_law_some", none)) fd) : L2.Binds K fd ["cup", "things"] [] :=
  F.bindsN fun _ _ _ _ _ _ us hl => match us, hl with | [_, _], _ => rfl
def sf__law_some : SF := (sRet (e2 dIx (eVar 1) (eCall F__law_roll (aCons (eVar 0) (aCons (eN (n1 dLen) (aCons (eVar 1) aNil)) aNil)))))
def F__law_some : List D → M D := runF 2 2 sf__law_some
theorem df__law_some (t : Txt P w mg base K) : Df P w mg base (gOf K) 2 (He.fAd K ("_law_some", none)) 2 F__law_some := by
  obtain ⟨fd, F⟩ := t.f__law_some
  exact Df.of (g := gOf K) (k := 1) F sc__law_some (by decide) (bd__law_some F) fun cdv A outer s H E hr => (psx_one (psx_ret (WF.σ _) (px_ix rfl (PB.of (px_var 1 (pv 1))) (PB.of (px_call ((df__law_roll t).mono (by omega)) rfl hr rfl t.m__law_roll tkF (pax_cons (px_var 0 (pv 0)) (pax_cons (px_len rfl rfl t.b_len (pax_cons (PB.of (px_var 1 (pv 1))) pax_nil)) pax_nil)))) (fun _ _ => rfl))))
/-! ### _law_sort -/
theorem sc__law_sort : FnScope ["value"] ["value"] (defScope (top 34)) := ⟨rfl, rfl, rfl, by decide +kernel, rfl, by decide +kernel, by decide +kernel⟩
theorem bd__law_sort {fd : FuncData} (F : FunD K "_law_sort" "_law_sort" (defArgs (top 34)) (defBody (top 34)) (defScope (top 34)) [] [] (He.fAd K ("_law_sort", none)) fd) : L2.Binds K fd ["value"] [] :=
  F.bindsN fun _ _ _ _ _ _ us hl => match us, hl with | [_], _ => rfl
def sf__law_sort : SF := (sSeq (sIf (tOrF (tB (e2 dIsN (eVar 0) (eC .non))) (tB (e1 (dIsi "bool") (eVar 0)))) (sRet (eIf (tB (e2 dIsN (eVar 0) (eC .non))) (eC (.int 0)) (eC (.int 1)))) sNil) (sSeq (sIf (tOrF (tB (e1 (dIsi "int") (eVar 0))) (tB (e1 (dIsi "str") (eVar 0)))) (sRet (eIf (tB (e1 (dIsi "int") (eVar 0))) (eC (.int 2)) (eC (.int 3)))) sNil) (sRet (eIf (tB (e1 (dIsi "tuple") (eVar 0))) (eC (.int 4)) (eIf (tB (e1 (dIsi "list") (eVar 0))) (eC (.int 5)) (eC (.int 6)))))))
def F__law_sort : List D → M D := runF 1 1 sf__law_sort
theorem df__law_sort (t : Txt P w mg base K) : Df P w mg base (gOf K) 1 (He.fAd K ("_law_sort", none)) 1 F__law_sort := by
  obtain ⟨fd, F⟩ := t.f__law_sort
  exact Df.of (g := gOf K) (k := 0) F sc__law_sort (by decide) (bd__law_sort F) fun cdv A outer s H E hr => (psx_cons (psx_if (WF.σ _) (ptx_pw (pwx_or (pt_isN (PB.of (px_var 0 (pv 0))) (PB.of px_non)) (pwx_or1 (pt_of (px_isi (T := "bool") (by simp) rfl rfl t.b_isinstance rfl t.b_bool boot_bool (PB.of (px_var 0 (pv 0)))))))) (psx_one (psx_ret (WF.σ _) (px_if (pt_isN (PB.of (px_var 0 (pv 0))) (PB.of px_non)) px_int px_int))) psx_nil) (psx_cons (psx_if (WF.σ _) (ptx_pw (pwx_or (pt_of (px_isi (T := "int") (by simp) rfl rfl t.b_isinstance rfl t.b_int boot_int (PB.of (px_var 0 (pv 0))))) (pwx_or1 (pt_of (px_isi (T := "str") (by simp) rfl rfl t.b_isinstance rfl t.b_str boot_str (PB.of (px_var 0 (pv 0)))))))) (psx_one (psx_ret (WF.σ _) (px_if (pt_of (px_isi (T := "int") (by simp) rfl rfl t.b_isinstance rfl t.b_int boot_int (PB.of (px_var 0 (pv 0))))) px_int px_int))) psx_nil) (psx_one (psx_ret (WF.σ _) (px_if (pt_of (px_isi (T := "tuple") (by simp) rfl rfl t.b_isinstance rfl t.b_tuple boot_tuple (PB.of (px_var 0 (pv 0))))) px_int (px_if (pt_of (px_isi (T := "list") (by simp) rfl rfl t.b_isinstance rfl t.b_list boot_list (PB.of (px_var 0 (pv 0))))) px_int px_int))))))
/-! ### _law_like -/
theorem sc__law_like : FnScope ["one", "other", "sort", "first", "second"] ["one", "other"] (defScope (top 35)) := ⟨rfl, rfl, rfl, by decide +kernel, rfl, by decide +kernel, by decide +kernel⟩
theorem bd__law_like {fd : FuncData} (F : FunD K "_law_like" "_law_like" (defArgs (top 35)) (defBody (top 35)) (defScope (top 35)) [] [] (He.fAd K ("_law_like", none)) fd) : L2.Binds K fd ["one", "other"] [] :=
  F.bindsN fun _ _ _ _ _ _ us hl => match us, hl with | [_, _], _ => rfl
def sf__law_like (self : List D → M D) : SF := (sSeq (sSet 2 (eCall F__law_sort (aCons (eVar 1) aNil))) (sSeq (sIf (tOrF (tB (e2 dNe (eCall F__law_sort (aCons (eVar 0) aNil)) (eVar 2))) (tB (e2 dEq (eVar 2) (eC (.int 6))))) (sRet (eC (.bl false))) sNil) (sSeq (sIf (tB (e2 dIn (eVar 2) (eTup (aCons (eC (.int 4)) (aCons (eC (.int 5)) aNil))))) (sRet (eAndV (e2 dEq (eN (n1 dLen) (aCons (eVar 0) aNil)) (eN (n1 dLen) (aCons (eVar 1) aNil))) (e2 dEq (eLc [3, 4] (iZipD (eVar 0) (eVar 1)) (bTup 2 (bCons (bName 3) (bCons (bName 4) bNil))) (tNotF (tB (eCall self (aCons (eVar 3) (aCons (eVar 4) aNil))))) (eC (.int 1))) (eLst aNil)))) sNil) (sRet (e2 dEq (eVar 0) (eVar 1))))))
def F__law_like : Nat → List D → M D
  | 0 => runF 2 5 fun _ _ => .stuck
  | n + 1 => runF 2 5 (sf__law_like (F__law_like n))
theorem df__law_like (t : Txt P w mg base K) : ∀ n, Df P w mg base (gOf K) (1 + 1 + n) (He.fAd K ("_law_like", none)) 2 (F__law_like n)
  | 0 => by
    obtain ⟨fd, F⟩ := t.f__law_like
    exact Df.of (g := gOf K) F sc__law_like (by decide) (bd__law_like F) fun cdv A outer s H E hr => psx_stuck
  | n + 1 => by
    obtain ⟨fd, F⟩ := t.f__law_like
    have ih := df__law_like t n
    refine Df.of (g := gOf K) (k := 1 + 1 + n) F sc__law_like (by decide) (bd__law_like F) fun cdv A outer s H E hr => ?_
    exact (psx_cons (psx_set (i := 2) (WF.σ _) (ps_set sc__law_like.nd rfl (Or.inl rfl) (px_call ((df__law_sort t).mono (by omega)) rfl hr rfl t.m__law_sort tkF (pax_cons (px_var 1 (pv 1)) pax_nil)))) (psx_cons (psx_if (WF.σ _) (ptx_pw (pwx_or (pt_ne rfl hr.u64 (PB.of (px_call ((df__law_sort t).mono (by omega)) rfl hr rfl t.m__law_sort tkF (pax_cons (px_var 0 (pv 0)) pax_nil))) (PB.of (px_var 2 (pv 2)))) (pwx_or1 (pt_eq rfl hr.u64 (PB.of (px_var 2 (pv 2))) (PB.of px_int))))) (psx_one (psx_ret (WF.σ _) px_bl)) psx_nil) (psx_cons (psx_if (WF.σ _) (pt_in rfl hr.u65 (PB.of (px_var 2 (pv 2))) (PB.of (px_tup (pax_cons px_int (pax_cons px_int pax_nil))))) (psx_one (psx_ret (WF.σ _) (px_and (px_eq rfl hr.u64 (PB.of (px_len rfl rfl t.b_len (pax_cons (PB.of (px_var 0 (pv 0))) pax_nil))) (PB.of (px_len rfl rfl t.b_len (pax_cons (PB.of (px_var 1 (pv 1))) pax_nil)))) (px_one (px_eq rfl hr.u64 (PB.ofF (px_lc (own := [("first", 3), ("second", 4)]) rfl sc__law_like.nd (pix_KX (pix_zip rfl rfl t.b_zip (px_var 0 (pv 0)) (px_var 1 (pv 1)))) (blkOk_by (by kernel_rfl)) (fun _ _ _ _ _ => (pgx_tup rfl rfl (pgx_cons (pgx_name 3 (pg_name sc__law_like.nd rfl (Or.inl rfl))) (pgx_cons (pgx_name 4 (pg_name sc__law_like.nd rfl (Or.inl rfl))) pgx_nil)))) (by decide) (fun _ _ _ _ _ => (ptx_one (ptx_not (pt_of (px_call (g := gOf K) ih rfl hr rfl t.m__law_like tk0 (pax_cons (px_var 3 (pv 3)) (pax_cons (px_var 4 (pv 4)) pax_nil))))))) (fun _ _ _ _ _ => px_int))) (PB.ofF (px_lst pax_nil))))))) psx_nil) (psx_one (psx_ret (WF.σ _) (px_eq rfl hr.u64 (PB.of (px_var 0 (pv 0))) (PB.of (px_var 1 (pv 1)))))))))
/-! ### _law_low -/
theorem sc__law_low : FnScope ["top", "bottom", "one", "other", "turn"] ["top", "bottom"] (defScope (top 36)) := ⟨rfl, rfl, rfl, by decide +kernel, rfl, by decide +kernel, by decide +kernel⟩
theorem bd__law_low {fd : FuncData} (F : FunD K "_law_low" "_law_low" (defArgs (top 36)) (defBody (top 36)) (defScope (top 36)) [] [] (He.fAd K ("_law_low", none)) fd) : L2.Binds K fd ["top", "bottom"] [] :=
  F.bindsN fun _ _ _ _ _ _ us hl => match us, hl with | [_, _], _ => rfl
def sf__law_low : SF := (sSeq (sPar 2 3 (aCons (eN (n1 dAbs) (aCons (eVar 0) aNil)) (aCons (eN (n1 dAbs) (aCons (eVar 1) aNil)) aNil))) (sSeq (sFor (iRng1 (eC (.int 500))) (bName 4) (sSeq (sIf (tB (e2 dEq (eVar 3) (eC (.int 0)))) (sRet (eIf (tB (e2 dGt (eVar 1) (eC (.int 0)))) (eTup (aCons (e2 dDiv (eVar 0) (eVar 2)) (aCons (e2 dDiv (eVar 1) (eVar 2)) aNil))) (eTup (aCons (e2 dDiv (e1 dNeg (eVar 0)) (eVar 2)) (aCons (e2 dDiv (e1 dNeg (eVar 1)) (eVar 2)) aNil))))) sNil) (sPar 2 3 (aCons (eVar 3) (aCons (e2 dMod (eN (n1 dInt) (aCons (eVar 2) aNil)) (eVar 3)) aNil))))) (sRet (eTup (aCons (eVar 0) (aCons (eVar 1) aNil))))))
def F__law_low : List D → M D := runF 2 5 sf__law_low
theorem df__law_low (t : Txt P w mg base K) : Df P w mg base (gOf K) 1 (He.fAd K ("_law_low", none)) 2 F__law_low := by
  obtain ⟨fd, F⟩ := t.f__law_low
  exact Df.of (g := gOf K) (k := 0) F sc__law_low (by decide) (bd__law_low F) fun cdv A outer s H E hr => (psx_cons (psx_par (WF.σ _) (ps_par (i := 2) (j := 3) rfl sc__law_low.nd rfl rfl (by decide) rfl rfl (pax_cons (px_abs rfl t.b_abs (pax_cons (PB.of (px_var 0 (pv 0))) pax_nil)) (pax_cons (px_abs rfl t.b_abs (pax_cons (PB.of (px_var 1 (pv 1))) pax_nil)) pax_nil)) rfl)) (psx_cons (psx_for (WF.σ _) PassesOwn.leaving rfl (pix_rng1 rfl t.b_range px_int) (pgx_name 4 (pg_name sc__law_low.nd rfl (Or.inl rfl))) (psx_cons (psx_if (WF.σ _) (pt_eq rfl hr.u64 (PB.of (px_var 3 (pv 3))) (PB.of px_int)) (psx_one (psx_ret (WF.σ _) (px_if (pt_gt rfl hr.u64 (PB.of (px_var 1 (pv 1))) (PB.of px_int)) (px_tup (pax_cons (px_div (PB.of (px_var 0 (pv 0))) (PB.of (px_var 2 (pv 2)))) (pax_cons (px_div (PB.of (px_var 1 (pv 1))) (PB.of (px_var 2 (pv 2)))) pax_nil))) (px_tup (pax_cons (px_div (PB.of (px_neg (PB.of (px_var 0 (pv 0))))) (PB.of (px_var 2 (pv 2)))) (pax_cons (px_div (PB.of (px_neg (PB.of (px_var 1 (pv 1))))) (PB.of (px_var 2 (pv 2)))) pax_nil)))))) psx_nil) (psx_one (psx_par (WF.σ _) (ps_par (i := 2) (j := 3) rfl sc__law_low.nd rfl rfl (by decide) rfl rfl (pax_cons (px_var 3 (pv 3)) (pax_cons (px_mod (PB.of (px_intc rfl t.b_int (pax_cons (PB.of (px_var 2 (pv 2))) pax_nil))) (PB.of (px_var 3 (pv 3)))) pax_nil)) rfl))))) (psx_one (psx_ret (WF.σ _) (px_tup (pax_cons (px_var 0 (pv 0)) (pax_cons (px_var 1 (pv 1)) pax_nil)))))))
/-! ### _law_parts -/
theorem sc__law_parts : FnScope ["cup", "most", "at"] ["cup", "most"] (defScope (top 37)) := ⟨rfl, rfl, rfl, by decide +kernel, rfl, by decide +kernel, by decide +kernel⟩
theorem bd__law_parts {fd : FuncData} (F : FunD K "_law_parts" "_law_parts" (defArgs (top 37)) (defBody (top 37)) (defScope (top 37)) [] [] (He.fAd K ("_law_parts", none)) fd) : L2.Binds K fd ["cup", "most"] [] :=
  F.bindsN fun _ _ _ _ _ _ us hl => match us, hl with | [_, _], _ => rfl
def sf__law_parts : SF := (sRet (eN (n1 dTuple) (aCons (eLc [2] (iRng1 (eCall F__law_roll (aCons (eVar 0) (aCons (e2 dAdd (eVar 1) (eC (.int 1))) aNil)))) (bName 2) tTrue (e2 dAdd (eC (.int 2)) (eCall F__law_some (aCons (eVar 0) (aCons (eLst (aCons (eC (.int 0)) (aCons (eC (.int 0)) (aCons (eC (.int 1)) (aCons (eC (.int 2)) (aCons (eC (.int 4)) (aCons (eCall F__law_roll (aCons (eVar 0) (aCons (eC (.int 99)) aNil))) aNil))))))) aNil))))) aNil)))
def F__law_parts : List D → M D := runF 2 3 sf__law_parts
theorem df__law_parts (t : Txt P w mg base K) : Df P w mg base (gOf K) 3 (He.fAd K ("_law_parts", none)) 2 F__law_parts := by
  obtain ⟨fd, F⟩ := t.f__law_parts
  exact Df.of (g := gOf K) (k := 2) F sc__law_parts (by decide) (bd__law_parts F) fun cdv A outer s H E hr => (psx_one (psx_ret (WF.σ _) (px_tuplec rfl rfl t.b_tuple (pax_cons (PB.ofF (px_lc (own := [("at", 2)]) rfl sc__law_parts.nd (pix_rng1 rfl t.b_range (px_call ((df__law_roll t).mono (by omega)) rfl hr rfl t.m__law_roll tkF (pax_cons (px_var 0 (pv 0)) (pax_cons (px_add rfl (PB.of (px_var 1 (pv 1))) (PB.of px_int)) pax_nil)))) (blkOk_by (by kernel_rfl)) (fun _ _ _ _ _ => (pgx_name 2 (pg_name sc__law_parts.nd rfl (Or.inl rfl)))) (by decide) (fun _ _ _ _ _ => ptx_nil) (fun _ _ _ _ _ => (px_add rfl (PB.of px_int) (PB.of (px_call ((df__law_some t).mono (by omega)) rfl hr rfl t.m__law_some tk0 (pax_cons (px_var 0 (pv 0)) (pax_cons (PP.ofF (px_lst (pax_cons px_int (pax_cons px_int (pax_cons px_int (pax_cons px_int (pax_cons px_int (pax_cons (px_call ((df__law_roll t).mono (by omega)) rfl hr rfl t.m__law_roll tk0 (pax_cons (px_var 0 (pv 0)) (pax_cons px_int pax_nil))) pax_nil)))))))) pax_nil)))))))) pax_nil))))
/-! ### _law_piece -/
theorem sc__law_piece : FnScope ["cup", "handles", "crossings", "rims", "rim"] ["cup"] (defScope (top 38)) := ⟨rfl, rfl, rfl, by decide +kernel, rfl, by decide +kernel, by decide +kernel⟩
theorem bd__law_piece {fd : FuncData} (F : FunD K "_law_piece" "_law_piece" (defArgs (top 38)) (defBody (top 38)) (defScope (top 38)) [] [] (He.fAd K ("_law_piece", none)) fd) : L2.Binds K fd ["cup"] [] :=
  F.bindsN fun _ _ _ _ _ _ us hl => match us, hl with | [_], _ => rfl
def sf__law_piece : SF := (sSeq (sPar 1 2 (aCons (eCall F__law_some (aCons (eVar 0) (aCons (eLst (aCons (eC (.int 0)) (aCons (eC (.int 0)) (aCons (eC (.int 0)) (aCons (eC (.int 1)) (aCons (eC (.int 2)) aNil)))))) aNil))) (aCons (eCall F__law_some (aCons (eVar 0) (aCons (eLst (aCons (eC (.int 0)) (aCons (eC (.int 0)) (aCons (eC (.int 1)) (aCons (eC (.int 3)) aNil))))) aNil))) aNil))) (sSeq (sSet 3 (eN (n1 dTuple) (aCons (eN (n1 dSort) (aCons (eLc [4] (iRng1 (eCall F__law_some (aCons (eVar 0) (aCons (eLst (aCons (eC (.int 0)) (aCons (eC (.int 0)) (aCons (eC (.int 1)) (aCons (eC (.int 1)) (aCons (eC (.int 2)) (aCons (eC (.int 3)) aNil))))))) aNil)))) (bName 4) tTrue (eCall F__law_parts (aCons (eVar 0) (aCons (eC (.int 4)) aNil)))) aNil)) aNil))) (sRet (eTup (aCons (eVar 1) (aCons (eN (n1 dTuple) (aCons (eN (n1 dSort) (aCons (eCall F__law_parts (aCons (eVar 0) (aCons (eC (.int 4)) aNil))) aNil)) aNil)) (aCons (eVar 3) (aCons (eIf (tB (e2 dEq (eVar 1) (eC (.int 0)))) (eVar 2) (eC (.int 0))) aNil))))))))
def F__law_piece : List D → M D := runF 1 5 sf__law_piece
theorem df__law_piece (t : Txt P w mg base K) : Df P w mg base (gOf K) 4 (He.fAd K ("_law_piece", none)) 1 F__law_piece := by
  obtain ⟨fd, F⟩ := t.f__law_piece
  exact Df.of (g := gOf K) (k := 3) F sc__law_piece (by decide) (bd__law_piece F) fun cdv A outer s H E hr => (psx_cons (psx_par (WF.σ _) (ps_par (i := 1) (j := 2) rfl sc__law_piece.nd rfl rfl (by decide) rfl rfl (pax_cons (px_call ((df__law_some t).mono (by omega)) rfl hr rfl t.m__law_some tkF (pax_cons (px_var 0 (pv 0)) (pax_cons (PP.ofF (px_lst (pax_cons px_int (pax_cons px_int (pax_cons px_int (pax_cons px_int (pax_cons px_int pax_nil))))))) pax_nil))) (pax_cons (px_call ((df__law_some t).mono (by omega)) rfl hr rfl t.m__law_some tkF (pax_cons (px_var 0 (pv 0)) (pax_cons (PP.ofF (px_lst (pax_cons px_int (pax_cons px_int (pax_cons px_int (pax_cons px_int pax_nil)))))) pax_nil))) pax_nil)) rfl)) (psx_cons (psx_set (i := 3) (WF.σ _) (ps_set sc__law_piece.nd rfl (Or.inl rfl) (px_tuplec rfl rfl t.b_tuple (pax_cons (PB.ofF (px_sorted rfl hr.u64 rfl t.b_sorted (pax_cons (PB.ofF (px_lc (own := [("rim", 4)]) rfl sc__law_piece.nd (pix_rng1 rfl t.b_range (px_call ((df__law_some t).mono (by omega)) rfl hr rfl t.m__law_some tkF (pax_cons (px_var 0 (pv 0)) (pax_cons (PP.ofF (px_lst (pax_cons px_int (pax_cons px_int (pax_cons px_int (pax_cons px_int (pax_cons px_int (pax_cons px_int pax_nil)))))))) pax_nil)))) (blkOk_by (by kernel_rfl)) (fun _ _ _ _ _ => (pgx_name 4 (pg_name sc__law_piece.nd rfl (Or.inl rfl)))) (by decide) (fun _ _ _ _ _ => ptx_nil) (fun _ _ _ _ _ => (px_call ((df__law_parts t).mono (by omega)) rfl hr rfl t.m__law_parts tk0 (pax_cons (px_var 0 (pv 0)) (pax_cons px_int pax_nil)))))) pax_nil))) pax_nil)))) (psx_one (psx_ret (WF.σ _) (px_tup (pax_cons (px_var 1 (pv 1)) (pax_cons (px_tuplec rfl rfl t.b_tuple (pax_cons (PB.ofF (px_sorted rfl hr.u64 rfl t.b_sorted (pax_cons (PB.of (px_call ((df__law_parts t).mono (by omega)) rfl hr rfl t.m__law_parts tkF (pax_cons (px_var 0 (pv 0)) (pax_cons px_int pax_nil)))) pax_nil))) pax_nil)) (pax_cons (px_var 3 (pv 3)) (pax_cons (px_if (pt_eq rfl hr.u64 (PB.of (px_var 1 (pv 1))) (PB.of px_int)) (px_var 2 (pv 2)) px_int) pax_nil)))))))))
/-! ### _law_known -/
theorem sc__law_known : FnScope ["flat", "bad", "high", "wide"] [] (defScope (top 39)) := ⟨rfl, rfl, rfl, by decide +kernel, rfl, by decide +kernel, by decide +kernel⟩
theorem bd__law_known {fd : FuncData} (F : FunD K "_law_known" "_law_known" (defArgs (top 39)) (defBody (top 39)) (defScope (top 39)) [] [] (He.fAd K ("_law_known", none)) fd) : L2.Binds K fd [] [] :=
  F.bindsN fun _ _ _ _ _ _ us hl => match us, hl with | [], _ => rfl
def sf__law_known : SF := (sSeq (sSet 0 (eLst (aCons (eTup (aCons (eC (.int 0)) (aCons (eTup aNil) (aCons (eTup (aCons (eTup (aCons (eC (.int 2)) (aCons (eC (.int 3)) (aCons (eC (.int 6)) aNil)))) aNil)) (aCons (eC (.int 0)) aNil))))) (aCons (eTup (aCons (eC (.int 1)) (aCons (eTup aNil) (aCons (eTup aNil) (aCons (eC (.int 0)) aNil))))) (aCons (eTup (aCons (eC (.int 0)) (aCons (eTup aNil) (aCons (eTup aNil) (aCons (eC (.int 2)) aNil))))) aNil))))) (sSeq (sSet 0 (e2 dAdd (eVar 0) (eLst (aCons (eTup (aCons (eC (.int 0)) (aCons (eTup (aCons (eC (.int 2)) (aCons (eC (.int 2)) aNil))) (aCons (eTup (aCons (eTup aNil) aNil)) (aCons (eC (.int 0)) aNil))))) (aCons (eTup (aCons (eC (.int 0)) (aCons (eTup (aCons (eC (.int 3)) aNil)) (aCons (eTup (aCons (eTup (aCons (eC (.int 3)) aNil)) aNil)) (aCons (eC (.int 0)) aNil))))) (aCons (eTup (aCons (eC (.int 0)) (aCons (eTup aNil) (aCons (eTup (aCons (eTup aNil) aNil)) (aCons (eC (.int 1)) aNil))))) aNil)))))) (sSeq (sSet 1 (eLst (aCons (eTup (aCons (eC (.int 0)) (aCons (eTup (aCons (eC (.int 3)) aNil)) (aCons (eTup aNil) (aCons (eC (.int 0)) aNil))))) (aCons (eTup (aCons (eC (.int 0)) (aCons (eTup (aCons (eC (.int 2)) (aCons (eC (.int 4)) aNil))) (aCons (eTup aNil) (aCons (eC (.int 0)) aNil))))) (aCons (eTup (aCons (eC (.int 0)) (aCons (eTup aNil) (aCons (eTup (aCons (eTup (aCons (eC (.int 5)) aNil)) aNil)) (aCons (eC (.int 0)) aNil))))) (aCons (eTup (aCons (eC (.int 0)) (aCons (eTup aNil) (aCons (eTup (aCons (eTup (aCons (eC (.int 2)) (aCons (eC (.int 5)) aNil))) aNil)) (aCons (eC (.int 0)) aNil))))) aNil)))))) (sSeq (sSet 2 (eLst (aCons (eTup (aCons (eC (.int 0)) (aCons (eTup aNil) (aCons (eTup aNil) (aCons (eC (.int 0)) aNil))))) (aCons (eTup (aCons (eC (.int 0)) (aCons (eTup (aCons (eC (.int 2)) (aCons (eC (.int 3)) (aCons (eC (.int 5)) aNil)))) (aCons (eTup aNil) (aCons (eC (.int 0)) aNil))))) (aCons (eTup (aCons (eC (.int 0)) (aCons (eTup (aCons (eC (.int 3)) aNil)) (aCons (eTup aNil) (aCons (eC (.int 1)) aNil))))) aNil))))) (sSeq (sSet 2 (e2 dAdd (eVar 2) (eLst (aCons (eTup (aCons (eC (.int 0)) (aCons (eTup (aCons (eC (.int 2)) aNil)) (aCons (eTup (aCons (eTup (aCons (eC (.int 7)) aNil)) aNil)) (aCons (eC (.int 0)) aNil))))) (aCons (eTup (aCons (eC (.int 0)) (aCons (eTup (aCons (eC (.int 4)) (aCons (eC (.int 4)) aNil))) (aCons (eTup aNil) (aCons (eC (.int 0)) aNil))))) (aCons (eTup (aCons (eC (.int 0)) (aCons (eTup aNil) (aCons (eTup (aCons (eTup aNil) aNil)) (aCons (eC (.int 0)) aNil))))) aNil)))))) (sSeq (sSet 3 (eLst (aCons (eTup (aCons (eC (.int 2)) (aCons (eTup aNil) (aCons (eTup aNil) (aCons (eC (.int 0)) aNil))))) (aCons (eTup (aCons (eC (.int 0)) (aCons (eTup (aCons (eC (.int 2)) (aCons (eC (.int 3)) (aCons (eC (.int 7)) aNil)))) (aCons (eTup aNil) (aCons (eC (.int 0)) aNil))))) (aCons (eTup (aCons (eC (.int 0)) (aCons (eTup aNil) (aCons (eTup (aCons (eTup (aCons (eC (.int 2)) (aCons (eC (.int 3)) (aCons (eC (.int 7)) aNil)))) aNil)) (aCons (eC (.int 0)) aNil))))) aNil))))) (sSeq (sSet 3 (e2 dAdd (eVar 3) (eLst (aCons (eTup (aCons (eC (.int 1)) (aCons (eTup (aCons (eC (.int 5)) aNil)) (aCons (eTup (aCons (eTup (aCons (eC (.int 2)) (aCons (eC (.int 3)) aNil))) (aCons (eTup (aCons (eC (.int 4)) (aCons (eC (.int 4)) (aCons (eC (.int 9)) aNil)))) aNil))) (aCons (eC (.int 0)) aNil))))) (aCons (eTup (aCons (eC (.int 0)) (aCons (eTup aNil) (aCons (eTup (aCons (eTup (aCons (eC (.int 2)) (aCons (eC (.int 3)) (aCons (eC (.int 4)) (aCons (eC (.int 5)) aNil))))) (aCons (eTup (aCons (eC (.int 2)) (aCons (eC (.int 5)) (aCons (eC (.int 4)) (aCons (eC (.int 3)) aNil))))) aNil))) (aCons (eC (.int 1)) aNil))))) aNil))))) (sRet (e2 dAdd (e2 dAdd (e2 dAdd (eVar 0) (eVar 1)) (eVar 2)) (eVar 3))))))))))
def F__law_known : List D → M D := runF 0 4 sf__law_known
theorem df__law_known (t : Txt P w mg base K) : Df P w mg base (gOf K) 1 (He.fAd K ("_law_known", none)) 0 F__law_known := by
  obtain ⟨fd, F⟩ := t.f__law_known
  exact Df.of (g := gOf K) (k := 0) F sc__law_known (by decide) (bd__law_known F) fun cdv A outer s H E hr => (psx_cons (psx_set (i := 0) (WF.σ _) (ps_set sc__law_known.nd rfl (Or.inl rfl) (PP.ofF (px_lst (pax_cons (px_tup (pax_cons px_int (pax_cons (px_tup pax_nil) (pax_cons (px_tup (pax_cons (px_tup (pax_cons px_int (pax_cons px_int (pax_cons px_int pax_nil)))) pax_nil)) (pax_cons px_int pax_nil))))) (pax_cons (px_tup (pax_cons px_int (pax_cons (px_tup pax_nil) (pax_cons (px_tup pax_nil) (pax_cons px_int pax_nil))))) (pax_cons (px_tup (pax_cons px_int (pax_cons (px_tup pax_nil) (pax_cons (px_tup pax_nil) (pax_cons px_int pax_nil))))) pax_nil))))))) (psx_cons (psx_set (i := 0) (WF.σ _) (ps_set sc__law_known.nd rfl (Or.inl rfl) (px_add rfl (PB.of (px_var 0 (pv 0))) (PB.ofF (px_lst (pax_cons (px_tup (pax_cons px_int (pax_cons (px_tup (pax_cons px_int (pax_cons px_int pax_nil))) (pax_cons (px_tup (pax_cons (px_tup pax_nil) pax_nil)) (pax_cons px_int pax_nil))))) (pax_cons (px_tup (pax_cons px_int (pax_cons (px_tup (pax_cons px_int pax_nil)) (pax_cons (px_tup (pax_cons (px_tup (pax_cons px_int pax_nil)) pax_nil)) (pax_cons px_int pax_nil))))) (pax_cons (px_tup (pax_cons px_int (pax_cons (px_tup pax_nil) (pax_cons (px_tup (pax_cons (px_tup pax_nil) pax_nil)) (pax_cons px_int pax_nil))))) pax_nil)))))))) (psx_cons (psx_set (i := 1) (WF.σ _) (ps_set sc__law_known.nd rfl (Or.inl rfl) (PP.ofF (px_lst (pax_cons (px_tup (pax_cons px_int (pax_cons (px_tup (pax_cons px_int pax_nil)) (pax_cons (px_tup pax_nil) (pax_cons px_int pax_nil))))) (pax_cons (px_tup (pax_cons px_int (pax_cons (px_tup (pax_cons px_int (pax_cons px_int pax_nil))) (pax_cons (px_tup pax_nil) (pax_cons px_int pax_nil))))) (pax_cons (px_tup (pax_cons px_int (pax_cons (px_tup pax_nil) (pax_cons (px_tup (pax_cons (px_tup (pax_cons px_int pax_nil)) pax_nil)) (pax_cons px_int pax_nil))))) (pax_cons (px_tup (pax_cons px_int (pax_cons (px_tup pax_nil) (pax_cons (px_tup (pax_cons (px_tup (pax_cons px_int (pax_cons px_int pax_nil))) pax_nil)) (pax_cons px_int pax_nil))))) pax_nil)))))))) (psx_cons (psx_set (i := 2) (WF.σ _) (ps_set sc__law_known.nd rfl (Or.inl rfl) (PP.ofF (px_lst (pax_cons (px_tup (pax_cons px_int (pax_cons (px_tup pax_nil) (pax_cons (px_tup pax_nil) (pax_cons px_int pax_nil))))) (pax_cons (px_tup (pax_cons px_int (pax_cons (px_tup (pax_cons px_int (pax_cons px_int (pax_cons px_int pax_nil)))) (pax_cons (px_tup pax_nil) (pax_cons px_int pax_nil))))) (pax_cons (px_tup (pax_cons px_int (pax_cons (px_tup (pax_cons px_int pax_nil)) (pax_cons (px_tup pax_nil) (pax_cons px_int pax_nil))))) pax_nil))))))) (psx_cons (psx_set (i := 2) (WF.σ _) (ps_set sc__law_known.nd rfl (Or.inl rfl) (px_add rfl (PB.of (px_var 2 (pv 2))) (PB.ofF (px_lst (pax_cons (px_tup (pax_cons px_int (pax_cons (px_tup (pax_cons px_int pax_nil)) (pax_cons (px_tup (pax_cons (px_tup (pax_cons px_int pax_nil)) pax_nil)) (pax_cons px_int pax_nil))))) (pax_cons (px_tup (pax_cons px_int (pax_cons (px_tup (pax_cons px_int (pax_cons px_int pax_nil))) (pax_cons (px_tup pax_nil) (pax_cons px_int pax_nil))))) (pax_cons (px_tup (pax_cons px_int (pax_cons (px_tup pax_nil) (pax_cons (px_tup (pax_cons (px_tup pax_nil) pax_nil)) (pax_cons px_int pax_nil))))) pax_nil)))))))) (psx_cons (psx_set (i := 3) (WF.σ _) (ps_set sc__law_known.nd rfl (Or.inl rfl) (PP.ofF (px_lst (pax_cons (px_tup (pax_cons px_int (pax_cons (px_tup pax_nil) (pax_cons (px_tup pax_nil) (pax_cons px_int pax_nil))))) (pax_cons (px_tup (pax_cons px_int (pax_cons (px_tup (pax_cons px_int (pax_cons px_int (pax_cons px_int pax_nil)))) (pax_cons (px_tup pax_nil) (pax_cons px_int pax_nil))))) (pax_cons (px_tup (pax_cons px_int (pax_cons (px_tup pax_nil) (pax_cons (px_tup (pax_cons (px_tup (pax_cons px_int (pax_cons px_int (pax_cons px_int pax_nil)))) pax_nil)) (pax_cons px_int pax_nil))))) pax_nil))))))) (psx_cons (psx_set (i := 3) (WF.σ _) (ps_set sc__law_known.nd rfl (Or.inl rfl) (px_add rfl (PB.of (px_var 3 (pv 3))) (PB.ofF (px_lst (pax_cons (px_tup (pax_cons px_int (pax_cons (px_tup (pax_cons px_int pax_nil)) (pax_cons (px_tup (pax_cons (px_tup (pax_cons px_int (pax_cons px_int pax_nil))) (pax_cons (px_tup (pax_cons px_int (pax_cons px_int (pax_cons px_int pax_nil)))) pax_nil))) (pax_cons px_int pax_nil))))) (pax_cons (px_tup (pax_cons px_int (pax_cons (px_tup pax_nil) (pax_cons (px_tup (pax_cons (px_tup (pax_cons px_int (pax_cons px_int (pax_cons px_int (pax_cons px_int pax_nil))))) (pax_cons (px_tup (pax_cons px_int (pax_cons px_int (pax_cons px_int (pax_cons px_int pax_nil))))) pax_nil))) (pax_cons px_int pax_nil))))) pax_nil))))))) (psx_one (psx_ret (WF.σ _) (px_add rfl (PB.of (px_add rfl (PB.of (px_add rfl (PB.of (px_var 0 (pv 0))) (PB.of (px_var 1 (pv 1))))) (PB.of (px_var 2 (pv 2))))) (PB.of (px_var 3 (pv 3)))))))))))))
/-! ### _law_no_pieces -/
theorem sc__law_no_pieces : FnScope ["found"] [] (defScope (top 40)) := ⟨rfl, rfl, rfl, by decide +kernel, rfl, by decide +kernel, by decide +kernel⟩
theorem bd__law_no_pieces {fd : FuncData} (F : FunD K "_law_no_pieces" "_law_no_pieces" (defArgs (top 40)) (defBody (top 40)) (defScope (top 40)) [] [] (He.fAd K ("_law_no_pieces", none)) fd) : L2.Binds K fd [] [] :=
  F.bindsN fun _ _ _ _ _ _ us hl => match us, hl with | [], _ => rfl
def sf__law_no_pieces : SF := (sSeq (sSet 0 (eLst (aCons (eC .non) (aCons (eTup aNil) (aCons (eTup (aCons (eC (.int 0)) (aCons (eTup aNil) (aCons (eTup aNil) aNil)))) (aCons (eLst (aCons (eC (.int 0)) (aCons (eTup aNil) (aCons (eTup aNil) (aCons (eC (.int 0)) aNil))))) (aCons (eTup (aCons (eC (.int 5)) (aCons (eTup aNil) (aCons (eTup aNil) (aCons (eC (.int 0)) aNil))))) aNil))))))) (sSeq (sSet 0 (e2 dAdd (eVar 0) (eLst (aCons (eTup (aCons (e1 dNeg (eC (.int 1))) (aCons (eTup aNil) (aCons (eTup aNil) (aCons (eC (.int 0)) aNil))))) (aCons (eTup (aCons (eC (.int 0)) (aCons (eTup aNil) (aCons (eTup aNil) (aCons (eC (.int 5)) aNil))))) (aCons (eTup (aCons (eC (.int 1)) (aCons (eTup aNil) (aCons (eTup aNil) (aCons (eC (.int 1)) aNil))))) (aCons (eTup (aCons (eC (.bl true)) (aCons (eTup aNil) (aCons (eTup aNil) (aCons (eC (.int 0)) aNil))))) (aCons (eC (.int 0)) aNil)))))))) (sSeq (sSet 0 (e2 dAdd (eVar 0) (eLst (aCons (eTup (aCons (eC (.int 0)) (aCons (eTup (aCons (eC (.int 1)) aNil)) (aCons (eTup aNil) (aCons (eC (.int 0)) aNil))))) (aCons (eTup (aCons (eC (.int 0)) (aCons (eTup (aCons (eC (.int 101)) aNil)) (aCons (eTup aNil) (aCons (eC (.int 0)) aNil))))) (aCons (eTup (aCons (eC (.int 0)) (aCons (eTup (aCons (eC (.int 4)) (aCons (eC (.int 2)) aNil))) (aCons (eTup aNil) (aCons (eC (.int 0)) aNil))))) aNil)))))) (sSeq (sSet 0 (e2 dAdd (eVar 0) (eLst (aCons (eTup (aCons (eC (.int 0)) (aCons (e2 dMul (eTup (aCons (eC (.int 2)) aNil)) (eC (.int 9))) (aCons (eTup aNil) (aCons (eC (.int 0)) aNil))))) (aCons (eTup (aCons (eC (.int 0)) (aCons (eLst (aCons (eC (.int 2)) aNil)) (aCons (eTup aNil) (aCons (eC (.int 0)) aNil))))) (aCons (eTup (aCons (eC (.int 0)) (aCons (eTup (aCons (eC (.bl true)) aNil)) (aCons (eTup aNil) (aCons (eC (.int 0)) aNil))))) aNil)))))) (sSeq (sSet 0 (e2 dAdd (eVar 0) (eLst (aCons (eTup (aCons (eC (.int 0)) (aCons (eTup aNil) (aCons (eTup (aCons (eTup (aCons (eC (.int 1)) aNil)) aNil)) (aCons (eC (.int 0)) aNil))))) (aCons (eTup (aCons (eC (.int 0)) (aCons (eTup aNil) (aCons (eTup (aCons (eTup (aCons (eC (.int 3)) aNil)) (aCons (eTup (aCons (eC (.int 2)) aNil)) aNil))) (aCons (eC (.int 0)) aNil))))) (aCons (eTup (aCons (eC (.int 0)) (aCons (eTup aNil) (aCons (e2 dMul (eTup (aCons (eTup aNil) aNil)) (eC (.int 5))) (aCons (eC (.int 0)) aNil))))) (aCons (eTup (aCons (eC (.int 0)) (aCons (eTup aNil) (aCons (eLst (aCons (eTup aNil) aNil)) (aCons (eC (.int 0)) aNil))))) (aCons (eTup (aCons (eC (.int 0)) (aCons (eTup aNil) (aCons (eTup (aCons (eLst aNil) aNil)) (aCons (eC (.int 0)) aNil))))) aNil)))))))) (sRet (e2 dAdd (eVar 0) (eLst (aCons (eTup (aCons (eC (.int 0)) (aCons (eTup aNil) (aCons (eTup (aCons (e2 dMul (eTup (aCons (eC (.int 2)) aNil)) (eC (.int 9))) aNil)) (aCons (eC (.int 0)) aNil))))) (aCons (eTup (aCons (eC (.int 0)) (aCons (eTup aNil) (aCons (eTup (aCons (eC (.int 2)) aNil)) (aCons (eC (.int 0)) aNil))))) (aCons (eTup (aCons (eC (.int 0)) (aCons (eTup (aCons (eC .non) aNil)) (aCons (eTup aNil) (aCons (eC (.int 0)) aNil))))) (aCons (eTup (aCons (eC (.int 0)) (aCons (eTup aNil) (aCons (eTup (aCons (eC .non) aNil)) (aCons (eC (.int 0)) aNil))))) (aCons (eTup (aCons (eC (.int 0)) (aCons (eTup aNil) (aCons (eTup aNil) (aCons (eC (.int 0)) (aCons (eC (.int 0)) aNil)))))) aNil)))))))))))))
def F__law_no_pieces : List D → M D := runF 0 1 sf__law_no_pieces
theorem df__law_no_pieces (t : Txt P w mg base K) : Df P w mg base (gOf K) 1 (He.fAd K ("_law_no_pieces", none)) 0 F__law_no_pieces := by
  obtain ⟨fd, F⟩ := t.f__law_no_pieces
  exact Df.of (g := gOf K) (k := 0) F sc__law_no_pieces (by decide) (bd__law_no_pieces F) fun cdv A outer s H E hr => (psx_cons (psx_set (i := 0) (WF.σ _) (ps_set sc__law_no_pieces.nd rfl (Or.inl rfl) (PP.ofF (px_lst (pax_cons px_non (pax_cons (px_tup pax_nil) (pax_cons (px_tup (pax_cons px_int (pax_cons (px_tup pax_nil) (pax_cons (px_tup pax_nil) pax_nil)))) (pax_cons (PP.ofF (px_lst (pax_cons px_int (pax_cons (px_tup pax_nil) (pax_cons (px_tup pax_nil) (pax_cons px_int pax_nil)))))) (pax_cons (px_tup (pax_cons px_int (pax_cons (px_tup pax_nil) (pax_cons (px_tup pax_nil) (pax_cons px_int pax_nil))))) pax_nil))))))))) (psx_cons (psx_set (i := 0) (WF.σ _) (ps_set sc__law_no_pieces.nd rfl (Or.inl rfl) (px_add rfl (PB.of (px_var 0 (pv 0))) (PB.ofF (px_lst (pax_cons (px_tup (pax_cons (px_neg (PB.of px_int)) (pax_cons (px_tup pax_nil) (pax_cons (px_tup pax_nil) (pax_cons px_int pax_nil))))) (pax_cons (px_tup (pax_cons px_int (pax_cons (px_tup pax_nil) (pax_cons (px_tup pax_nil) (pax_cons px_int pax_nil))))) (pax_cons (px_tup (pax_cons px_int (pax_cons (px_tup pax_nil) (pax_cons (px_tup pax_nil) (pax_cons px_int pax_nil))))) (pax_cons (px_tup (pax_cons px_bl (pax_cons (px_tup pax_nil) (pax_cons (px_tup pax_nil) (pax_cons px_int pax_nil))))) (pax_cons px_int pax_nil)))))))))) (psx_cons (psx_set (i := 0) (WF.σ _) (ps_set sc__law_no_pieces.nd rfl (Or.inl rfl) (px_add rfl (PB.of (px_var 0 (pv 0))) (PB.ofF (px_lst (pax_cons (px_tup (pax_cons px_int (pax_cons (px_tup (pax_cons px_int pax_nil)) (pax_cons (px_tup pax_nil) (pax_cons px_int pax_nil))))) (pax_cons (px_tup (pax_cons px_int (pax_cons (px_tup (pax_cons px_int pax_nil)) (pax_cons (px_tup pax_nil) (pax_cons px_int pax_nil))))) (pax_cons (px_tup (pax_cons px_int (pax_cons (px_tup (pax_cons px_int (pax_cons px_int pax_nil))) (pax_cons (px_tup pax_nil) (pax_cons px_int pax_nil))))) pax_nil)))))))) (psx_cons (psx_set (i := 0) (WF.σ _) (ps_set sc__law_no_pieces.nd rfl (Or.inl rfl) (px_add rfl (PB.of (px_var 0 (pv 0))) (PB.ofF (px_lst (pax_cons (px_tup (pax_cons px_int (pax_cons (px_mul rfl (PB.of (px_tup (pax_cons px_int pax_nil))) (PB.of px_int)) (pax_cons (px_tup pax_nil) (pax_cons px_int pax_nil))))) (pax_cons (px_tup (pax_cons px_int (pax_cons (PP.ofF (px_lst (pax_cons px_int pax_nil))) (pax_cons (px_tup pax_nil) (pax_cons px_int pax_nil))))) (pax_cons (px_tup (pax_cons px_int (pax_cons (px_tup (pax_cons px_bl pax_nil)) (pax_cons (px_tup pax_nil) (pax_cons px_int pax_nil))))) pax_nil)))))))) (psx_cons (psx_set (i := 0) (WF.σ _) (ps_set sc__law_no_pieces.nd rfl (Or.inl rfl) (px_add rfl (PB.of (px_var 0 (pv 0))) (PB.ofF (px_lst (pax_cons (px_tup (pax_cons px_int (pax_cons (px_tup pax_nil) (pax_cons (px_tup (pax_cons (px_tup (pax_cons px_int pax_nil)) pax_nil)) (pax_cons px_int pax_nil))))) (pax_cons (px_tup (pax_cons px_int (pax_cons (px_tup pax_nil) (pax_cons (px_tup (pax_cons (px_tup (pax_cons px_int pax_nil)) (pax_cons (px_tup (pax_cons px_int pax_nil)) pax_nil))) (pax_cons px_int pax_nil))))) (pax_cons (px_tup (pax_cons px_int (pax_cons (px_tup pax_nil) (pax_cons (px_mul rfl (PB.of (px_tup (pax_cons (px_tup pax_nil) pax_nil))) (PB.of px_int)) (pax_cons px_int pax_nil))))) (pax_cons (px_tup (pax_cons px_int (pax_cons (px_tup pax_nil) (pax_cons (PP.ofF (px_lst (pax_cons (px_tup pax_nil) pax_nil))) (pax_cons px_int pax_nil))))) (pax_cons (px_tup (pax_cons px_int (pax_cons (px_tup pax_nil) (pax_cons (px_tup (pax_cons (PP.ofF (px_lst pax_nil)) pax_nil)) (pax_cons px_int pax_nil))))) pax_nil)))))))))) (psx_one (psx_ret (WF.σ _) (px_add rfl (PB.of (px_var 0 (pv 0))) (PB.ofF (px_lst (pax_cons (px_tup (pax_cons px_int (pax_cons (px_tup pax_nil) (pax_cons (px_tup (pax_cons (px_mul rfl (PB.of (px_tup (pax_cons px_int pax_nil))) (PB.of px_int)) pax_nil)) (pax_cons px_int pax_nil))))) (pax_cons (px_tup (pax_cons px_int (pax_cons (px_tup pax_nil) (pax_cons (px_tup (pax_cons px_int pax_nil)) (pax_cons px_int pax_nil))))) (pax_cons (px_tup (pax_cons px_int (pax_cons (px_tup (pax_cons px_non pax_nil)) (pax_cons (px_tup pax_nil) (pax_cons px_int pax_nil))))) (pax_cons (px_tup (pax_cons px_int (pax_cons (px_tup pax_nil) (pax_cons (px_tup (pax_cons px_non pax_nil)) (pax_cons px_int pax_nil))))) (pax_cons (px_tup (pax_cons px_int (pax_cons (px_tup pax_nil) (pax_cons (px_tup pax_nil) (pax_cons px_int (pax_cons px_int pax_nil)))))) pax_nil)))))))))))))))
/-! ### _law_fails -/
theorem sc__law_fails : FnScope ["call", "e", "some", "words", "word", "good"] ["call"] (defScope (top 41)) := ⟨rfl, rfl, rfl, by decide +kernel, rfl, by decide +kernel, by decide +kernel⟩
theorem bd__law_fails {fd : FuncData} (F : FunD K "_law_fails" "_law_fails" (defArgs (top 41)) (defBody (top 41)) (defScope (top 41)) [] [] (He.fAd K ("_law_fails", none)) fd) : L2.Binds K fd ["call"] [] :=
  F.bindsN fun _ _ _ _ _ _ us hl => match us, hl with | [_], _ => rfl
def isb : Nat → Nat → Bool
  | 0, 0 => true
  | 1, 0 => true
  | 1, 1 => true
  | _, _ => false
def cat__law_fails (k : Nat) : Option Bool := match k with
  | 0 => some true
  | 1 => some true
  | _ => none
theorem cat_ok__law_fails (t : Txt P w mg base K) : ∀ k b, cat__law_fails k = some b → PySem.W.exmOne (gOf K).K ((gOf K).cl k) (.ref (He.ga K "PatternError")) = some b := by
  intro k b hb
  unfold cat__law_fails at hb
  split at hb
  · cases hb; exact t.e_PatternError_PatternError
  · cases hb; exact t.e_InvalidPiece_PatternError
  · cases hb
def hs__law_fails (k : Nat) : SF := (sSeq (sSetF 2 (eLst aNil)) (sSeq (sApp 2 (eTup (aCons (eC (.str "piece")) (aCons (eIsE 1 (isb k 1)) aNil)))) (sSeq (sSetF 3 (eLcH [4, 5] (eVarO 2) (bTup 2 (bCons (bName 4) (bCons (bName 5) bNil))) (tB (eVar 5)) (eVar 4))) (sFrz 3 (sRet (eIf (tB (e2 dNe (eVar 3) (eLst aNil))) (e1 (dJoin " ") (eVar 3)) (eC (.str "other"))))))))
def hnd__law_fails (k : Nat) : Str := match hs__law_fails k ((List.replicate 6 Sl.un).set 1 (Sl.p (.fn 0))) (0, 0) with
  | .ok (.rt (.str x)) _ => x
  | _ => ""
theorem hand__law_fails (t : Txt P w mg base K) : HandS P w K (gOf K) mg base ["call", "e", "some", "words", "word", "good"] "_law_fails" (defScope (top 41)) (He.ga K "_law_fails") cat__law_fails hnd__law_fails 1 (hsuite (defBody (top 41))) := by
  intro k hk
  unfold cat__law_fails at hk
  split at hk
  · exact ⟨hs__law_fails 0, fun s => by first | rfl | kernel_rfl | with_unfolding_all rfl, fun cdv A outer s H E a oe pn hr hz hf hot => (psx_cons (psx_setF (i := 2) W0.σ (ps_set sc__law_fails.nd rfl (Or.inl rfl) (px_lst pax_nil))) (psx_cons (psx_app W0.σ (pv 2) (px_tup (pax_cons px_str (pax_cons (px_isE (n := "e") (y := "InvalidPiece") (X := (cxOf (L2N.CX P w) P w K mg base ["call", "e", "some", "words", "word", "good"] "_law_fails" (defScope (top 41)) (He.ga K "_law_fails") cdv A outer s H E)) (a := a) (oe := oe) (pn := pn) (j := 1) (b := isb 0 1) (D := He.ga K "PatternError") (CA := He.ga K "InvalidPiece") rfl (t.xc_PatternError) hz hf t.kit_PatternError_InvalidPiece rfl t.b_isinstance (pv 1) rfl t.m_InvalidPiece) pax_nil)))) (psx_cons (psx_setF (i := 3) W0.σ (ps_lcHx (own := [("word", 4), ("good", 5)]) rfl hot sc__law_fails.nd rfl rfl (px_varO 2 (pv 2)) (blkOk_by (by kernel_rfl)) (fun Y hotY ⟨_, _, _, _, _, eY⟩ => by subst eY; exact (pgx_tupH rfl hotY (pgx_cons (pgx_name 4 (pg_name sc__law_fails.nd rfl (Or.inl rfl))) (pgx_cons (pgx_name 5 (pg_name sc__law_fails.nd rfl (Or.inl rfl))) pgx_nil)))) (by decide) (fun _ _ _ _ _ => (ptx_one (pt_of (px_var 5 (pv 5))))) (fun _ _ _ _ _ => (px_var 4 (pv 4))))) (psx_frz 3 (psx_one (psx_ret W0.σ (px_if (pt_ne rfl hr.u64 (PB.of (px_var 3 (pv 3))) (PB.ofF (px_lst pax_nil))) (px_join rfl (PB.of (px_var 3 (pv 3)))) px_str)))))))⟩
  · exact ⟨hs__law_fails 1, fun s => by first | rfl | kernel_rfl | with_unfolding_all rfl, fun cdv A outer s H E a oe pn hr hz hf hot => (psx_cons (psx_setF (i := 2) W0.σ (ps_set sc__law_fails.nd rfl (Or.inl rfl) (px_lst pax_nil))) (psx_cons (psx_app W0.σ (pv 2) (px_tup (pax_cons px_str (pax_cons (px_isE (n := "e") (y := "InvalidPiece") (X := (cxOf (L2N.CX P w) P w K mg base ["call", "e", "some", "words", "word", "good"] "_law_fails" (defScope (top 41)) (He.ga K "_law_fails") cdv A outer s H E)) (a := a) (oe := oe) (pn := pn) (j := 1) (b := isb 1 1) (D := He.ga K "InvalidPiece") (CA := He.ga K "InvalidPiece") rfl (t.xc_InvalidPiece) hz hf t.kit_InvalidPiece_InvalidPiece rfl t.b_isinstance (pv 1) rfl t.m_InvalidPiece) pax_nil)))) (psx_cons (psx_setF (i := 3) W0.σ (ps_lcHx (own := [("word", 4), ("good", 5)]) rfl hot sc__law_fails.nd rfl rfl (px_varO 2 (pv 2)) (blkOk_by (by kernel_rfl)) (fun Y hotY ⟨_, _, _, _, _, eY⟩ => by subst eY; exact (pgx_tupH rfl hotY (pgx_cons (pgx_name 4 (pg_name sc__law_fails.nd rfl (Or.inl rfl))) (pgx_cons (pgx_name 5 (pg_name sc__law_fails.nd rfl (Or.inl rfl))) pgx_nil)))) (by decide) (fun _ _ _ _ _ => (ptx_one (pt_of (px_var 5 (pv 5))))) (fun _ _ _ _ _ => (px_var 4 (pv 4))))) (psx_frz 3 (psx_one (psx_ret W0.σ (px_if (pt_ne rfl hr.u64 (PB.of (px_var 3 (pv 3))) (PB.ofF (px_lst pax_nil))) (px_join rfl (PB.of (px_var 3 (pv 3)))) px_str)))))))⟩
  · cases hk
/-! ### _law_sum -/
theorem sc__law_sum : FnScope ["turns", "often", "bottom", "n"] ["turns", "often"] (defScope (top 42)) := ⟨rfl, rfl, rfl, by decide +kernel, rfl, by decide +kernel, by decide +kernel⟩
theorem bd__law_sum {fd : FuncData} (F : FunD K "_law_sum" "_law_sum" (defArgs (top 42)) (defBody (top 42)) (defScope (top 42)) [] [] (He.fAd K ("_law_sum", none)) fd) : L2.Binds K fd ["turns", "often"] [] :=
  F.bindsN fun _ _ _ _ _ _ us hl => match us, hl with | [_, _], _ => rfl
def sf__law_sum : SF := (sSeq (sSet 2 (eVar 1)) (sSeq (sFor (iSeq (eVar 0)) (bName 3) (sSet 2 (e2 dMul (eVar 2) (eVar 3)))) (sRet (eCall F__law_low (aCons (eN (n1 dSum) (aCons (eLc [3] (iSeq (eVar 0)) (bName 3) tTrue (e2 dSub (e2 dDiv (eVar 2) (eVar 1)) (e2 dDiv (e2 dDiv (eVar 2) (eVar 1)) (eVar 3)))) aNil)) (aCons (eVar 2) aNil))))))
def F__law_sum : List D → M D := runF 2 4 sf__law_sum
theorem df__law_sum (t : Txt P w mg base K) : Df P w mg base (gOf K) 2 (He.fAd K ("_law_sum", none)) 2 F__law_sum := by
  obtain ⟨fd, F⟩ := t.f__law_sum
  exact Df.of (g := gOf K) (k := 1) F sc__law_sum (by decide) (bd__law_sum F) fun cdv A outer s H E hr => (psx_cons (psx_set (i := 2) (WF.σ _) (ps_set sc__law_sum.nd rfl (Or.inr rfl) (px_var 1 (pv 1)))) (psx_cons (psx_for (WF.σ _) PassesOwn.leaving rfl (pix_seq rfl (px_var 0 (pv 0))) (pgx_name 3 (pg_name sc__law_sum.nd rfl (Or.inl rfl))) (psx_one (psx_set (i := 2) (WF.σ _) (ps_set sc__law_sum.nd rfl (Or.inr rfl) (px_mul rfl (PB.of (px_var 2 (pv 2))) (PB.of (px_var 3 (pv 3)))))))) (psx_one (psx_ret (WF.σ _) (px_call ((df__law_low t).mono (by omega)) rfl hr rfl t.m__law_low tkF (pax_cons (px_sum rfl rfl rfl t.b_sum (pax_cons (PB.ofF (px_lc (own := [("n", 3)]) rfl sc__law_sum.nd (pix_seqB rfl (PB.of (px_var 0 (pv 0)))) (blkOk_by (by kernel_rfl)) (fun _ _ _ _ _ => (pgx_name 3 (pg_name sc__law_sum.nd rfl (Or.inl rfl)))) (by decide) (fun _ _ _ _ _ => ptx_nil) (fun _ _ _ _ _ => (px_sub (PB.of (px_div (PB.of (px_var 2 (pv 2))) (PB.of (px_var 1 (pv 1))))) (PB.of (px_div (PB.of (px_div (PB.of (px_var 2 (pv 2))) (PB.of (px_var 1 (pv 1))))) (PB.of (px_var 3 (pv 3))))))))) pax_nil)) (pax_cons (px_var 2 (pv 2)) pax_nil)))))))
/-! ### _law_right -/
theorem sc__law_right : FnScope ["piece", "handles", "points", "rims", "crossings", "corners", "rim", "parts", "bottom", "part", "top", "cost", "rest", "word", "told"] ["piece"] (defScope (top 43)) := ⟨rfl, rfl, rfl, by decide +kernel, rfl, by decide +kernel, by decide +kernel⟩
theorem bd__law_right {fd : FuncData} (F : FunD K "_law_right" "_law_right" (defArgs (top 43)) (defBody (top 43)) (defScope (top 43)) [] [] (He.fAd K ("_law_right", none)) fd) : L2.Binds K fd ["piece"] [] :=
  F.bindsN fun _ _ _ _ _ _ us hl => match us, hl with | [_], _ => rfl
def sf__law_right : SF := (sSeq (sTgt (bTup 4 (bCons (bName 1) (bCons (bName 2) (bCons (bName 3) (bCons (bName 4) bNil))))) (eVar 0)) (sSeq (sSet 5 (eLst aNil)) (sSeq (sFor (iSeq (eVar 3)) (bName 6) (sSet 5 (e2 dAdd (eVar 5) (eN (n1 dList) (aCons (eVar 6) aNil))))) (sSeq (sSet 7 (eLst (aCons (eTup (aCons (e2 dMul (eC (.int 2)) (eVar 1)) (aCons (eC (.int 1)) aNil))) (aCons (eCall F__law_sum (aCons (eVar 2) (aCons (eC (.int 1)) aNil))) (aCons (eTup (aCons (eN (n1 dLen) (aCons (eVar 3) aNil)) (aCons (eC (.int 1)) aNil))) (aCons (eCall F__law_sum (aCons (eVar 5) (aCons (eC (.int 2)) aNil))) (aCons (eTup (aCons (eVar 4) (aCons (eC (.int 1)) aNil))) aNil))))))) (sSeq (sSet 8 (eC (.int 1))) (sSeq (sFor (iSeq (eVar 7)) (bName 9) (sSet 8 (e2 dMul (eVar 8) (e2 dIx (eVar 9) (eC (.int 1)))))) (sSeq (sSet 10 (eN (n1 dSum) (aCons (eLc [9] (iSeq (eVar 7)) (bName 9) tTrue (e2 dMul (e2 dIx (eVar 9) (eC (.int 0))) (e2 dDiv (eVar 8) (e2 dIx (eVar 9) (eC (.int 1)))))) aNil))) (sSeq (sPar 11 12 (aCons (eCall F__law_low (aCons (eVar 10) (aCons (eVar 8) aNil))) (aCons (eCall F__law_low (aCons (e2 dSub (e2 dMul (eC (.int 2)) (eVar 8)) (eVar 10)) (aCons (eVar 8) aNil))) aNil))) (sSeq (sSet 13 (eIf (tB (e2 dEq (eVar 12) (eTup (aCons (eC (.int 0)) (aCons (eC (.int 1)) aNil))))) (eC (.str "flat")) (eIf (tB (e2 dGt (e2 dIx (eVar 12) (eC (.int 0))) (eC (.int 0)))) (eC (.str "round")) (eC (.str "wide"))))) (sSeq (sSet 14 (eLst (aCons (eCall F_cost_of (aCons (eVar 0) aNil)) (aCons (eCall F_rest_of_piece (aCons (eVar 0) aNil)) (aCons (eCall F_rest_word (aCons (eVar 0) aNil)) (aCons (eCall F_cost_parts (aCons (eVar 0) aNil)) aNil)))))) (sRet (eCall (F__law_like 8) (aCons (eVar 14) (aCons (eLst (aCons (eVar 11) (aCons (eVar 12) (aCons (eVar 13) (aCons (eN (n1 dTuple) (aCons (eVar 7) aNil)) aNil))))) aNil))))))))))))))
def F__law_right : List D → M D := runF 1 15 sf__law_right
theorem df__law_right (t : Txt P w mg base K) : Df P w mg base (gOf K) 11 (He.fAd K ("_law_right", none)) 1 F__law_right := by
  obtain ⟨fd, F⟩ := t.f__law_right
  exact Df.of (g := gOf K) (k := 10) F sc__law_right (by decide) (bd__law_right F) fun cdv A outer s H E hr => (psx_cons (psx_tgt (WF.σ _) (ps_asg (px_var 0 (pv 0)) (pgx_tup rfl rfl (pgx_cons (pgx_name 1 (pg_name sc__law_right.nd rfl (Or.inl rfl))) (pgx_cons (pgx_name 2 (pg_name sc__law_right.nd rfl (Or.inl rfl))) (pgx_cons (pgx_name 3 (pg_name sc__law_right.nd rfl (Or.inl rfl))) (pgx_cons (pgx_name 4 (pg_name sc__law_right.nd rfl (Or.inl rfl))) pgx_nil))))))) (psx_cons (psx_set (i := 5) (WF.σ _) (ps_set sc__law_right.nd rfl (Or.inl rfl) (PP.ofF (px_lst pax_nil)))) (psx_cons (psx_for (WF.σ _) PassesOwn.leaving rfl (pix_seq rfl (px_var 3 (pv 3))) (pgx_name 6 (pg_name sc__law_right.nd rfl (Or.inl rfl))) (psx_one (psx_set (i := 5) (WF.σ _) (ps_set sc__law_right.nd rfl (Or.inl rfl) (px_add rfl (PB.of (px_var 5 (pv 5))) (PB.ofF (px_listc rfl rfl t.b_list (pax_cons (PB.of (px_var 6 (pv 6))) pax_nil)))))))) (psx_cons (psx_set (i := 7) (WF.σ _) (ps_set sc__law_right.nd rfl (Or.inl rfl) (PP.ofF (px_lst (pax_cons (px_tup (pax_cons (px_mul rfl (PB.of px_int) (PB.of (px_var 1 (pv 1)))) (pax_cons px_int pax_nil))) (pax_cons (px_call ((df__law_sum t).mono (by omega)) rfl hr rfl t.m__law_sum tkF (pax_cons (px_var 2 (pv 2)) (pax_cons px_int pax_nil))) (pax_cons (px_tup (pax_cons (px_len rfl rfl t.b_len (pax_cons (PB.of (px_var 3 (pv 3))) pax_nil)) (pax_cons px_int pax_nil))) (pax_cons (px_call ((df__law_sum t).mono (by omega)) rfl hr rfl t.m__law_sum tkF (pax_cons (px_var 5 (pv 5)) (pax_cons px_int pax_nil))) (pax_cons (px_tup (pax_cons (px_var 4 (pv 4)) (pax_cons px_int pax_nil))) pax_nil))))))))) (psx_cons (psx_set (i := 8) (WF.σ _) (ps_set sc__law_right.nd rfl (Or.inr rfl) px_int)) (psx_cons (psx_for (WF.σ _) PassesOwn.leaving rfl (pix_seq rfl (px_var 7 (pv 7))) (pgx_name 9 (pg_name sc__law_right.nd rfl (Or.inl rfl))) (psx_one (psx_set (i := 8) (WF.σ _) (ps_set sc__law_right.nd rfl (Or.inr rfl) (px_mul rfl (PB.of (px_var 8 (pv 8))) (PB.of (px_ix rfl (PB.of (px_var 9 (pv 9))) (PB.of px_int) (fun _ _ => rfl)))))))) (psx_cons (psx_set (i := 10) (WF.σ _) (ps_set sc__law_right.nd rfl (Or.inl rfl) (px_sum rfl rfl rfl t.b_sum (pax_cons (PB.ofF (px_lc (own := [("part", 9)]) rfl sc__law_right.nd (pix_seqB rfl (PB.of (px_var 7 (pv 7)))) (blkOk_by (by kernel_rfl)) (fun _ _ _ _ _ => (pgx_name 9 (pg_name sc__law_right.nd rfl (Or.inl rfl)))) (by decide) (fun _ _ _ _ _ => ptx_nil) (fun _ _ _ _ _ => (px_mul rfl (PB.of (px_ix rfl (PB.of (px_var 9 (pv 9))) (PB.of px_int) (fun _ _ => rfl))) (PB.of (px_div (PB.of (px_var 8 (pv 8))) (PB.of (px_ix rfl (PB.of (px_var 9 (pv 9))) (PB.of px_int) (fun _ _ => rfl))))))))) pax_nil)))) (psx_cons (psx_par (WF.σ _) (ps_par (i := 11) (j := 12) rfl sc__law_right.nd rfl rfl (by decide) rfl rfl (pax_cons (px_call ((df__law_low t).mono (by omega)) rfl hr rfl t.m__law_low tkF (pax_cons (px_var 10 (pv 10)) (pax_cons (px_var 8 (pv 8)) pax_nil))) (pax_cons (px_call ((df__law_low t).mono (by omega)) rfl hr rfl t.m__law_low tkF (pax_cons (px_sub (PB.of (px_mul rfl (PB.of px_int) (PB.of (px_var 8 (pv 8))))) (PB.of (px_var 10 (pv 10)))) (pax_cons (px_var 8 (pv 8)) pax_nil))) pax_nil)) rfl)) (psx_cons (psx_set (i := 13) (WF.σ _) (ps_set sc__law_right.nd rfl (Or.inl rfl) (px_if (pt_eq rfl hr.u64 (PB.of (px_var 12 (pv 12))) (PB.of (px_tup (pax_cons px_int (pax_cons px_int pax_nil))))) px_str (px_if (pt_gt rfl hr.u64 (PB.of (px_ix rfl (PB.of (px_var 12 (pv 12))) (PB.of px_int) (fun _ _ => rfl))) (PB.of px_int)) px_str px_str)))) (psx_cons (psx_set (i := 14) (WF.σ _) (ps_set sc__law_right.nd rfl (Or.inl rfl) (PP.ofF (px_lst (pax_cons (px_call ((df_cost_of t).mono (by omega)) rfl hr rfl t.m_cost_of tkF (pax_cons (px_var 0 (pv 0)) pax_nil)) (pax_cons (px_call ((df_rest_of_piece t).mono (by omega)) rfl hr rfl t.m_rest_of_piece tkF (pax_cons (px_var 0 (pv 0)) pax_nil)) (pax_cons (px_call ((df_rest_word t).mono (by omega)) rfl hr rfl t.m_rest_word tkF (pax_cons (px_var 0 (pv 0)) pax_nil)) (pax_cons (px_call ((df_cost_parts t).mono (by omega)) rfl hr rfl t.m_cost_parts tkF (pax_cons (px_var 0 (pv 0)) pax_nil)) pax_nil)))))))) (psx_one (psx_ret (WF.σ _) (px_call ((df__law_like t 8).mono (by omega)) rfl hr rfl t.m__law_like tkF (pax_cons (px_var 14 (pv 14)) (pax_cons (PP.ofF (px_lst (pax_cons (px_var 11 (pv 11)) (pax_cons (px_var 12 (pv 12)) (pax_cons (px_var 13 (pv 13)) (pax_cons (px_tuplec rfl rfl t.b_tuple (pax_cons (PB.of (px_var 7 (pv 7))) pax_nil)) pax_nil)))))) pax_nil)))))))))))))))
/-! ### law -/
theorem sc_law : FnScope ["script", "cup", "turn", "short", "three", "ball", "two", "told", "due", "own", "words", "bad", "odd", "call"] ["script"] (defScope (top 44)) := ⟨rfl, rfl, rfl, by decide +kernel, rfl, by decide +kernel, by decide +kernel⟩
theorem bd_law {fd : FuncData} (F : FunD K "law" "law" (defArgs (top 44)) (defBody (top 44)) (defScope (top 44)) [] [] (He.fAd K ("law", none)) fd) : L2.Binds K fd ["script"] [] :=
  F.bindsN fun _ _ _ _ _ _ us hl => match us, hl with | [_], _ => rfl
def st_law_0 : SF := (sRet (e2 dEq (eVar 10) (e2 dMulL (eLst (aCons (eC (.str "piece")) aNil)) (e2 dMul (eC (.int 4)) (eN (n1 dLen) (aCons (eVar 11) aNil))))))
def st_law_1 : SF := (sSeq (sFor (iSeq (eVar 11)) (bName 12) (sSet 10 (e2 dAdd (eVar 10) (eLc [13] (iSeq (eTup (aCons (eC (.fn 14)) (aCons (eC (.fn 15)) (aCons (eC (.fn 16)) (aCons (eC (.fn 17)) aNil)))))) (bName 13) tTrue (eFails cat__law_fails hnd__law_fails (.str "") (eCallV 13 fs (aCons (eVar 12) aNil))))))) st_law_0)
def st_law_2 : SF := (sSeq (sPar 10 11 (aCons (eLst aNil) (aCons (eCall F__law_no_pieces aNil) aNil))) st_law_1)
def st_law_3 : SF := (sSeq (sFor (iSeq (e2 dAdd (eCall F__law_known aNil) (eLst (aCons (eTup (aCons (eC (.int 0)) (aCons (eTup aNil) (aCons (eTup (aCons (eTup aNil) (aCons (eTup (aCons (eC (.int 2)) aNil)) (aCons (eTup (aCons (eC (.int 2)) (aCons (eC (.int 3)) aNil))) aNil)))) (aCons (eC (.int 2)) aNil))))) (aCons (eTup (aCons (eC (.int 1)) (aCons (eTup (aCons (eC (.int 100)) aNil)) (aCons (eTup aNil) (aCons (eC (.int 0)) aNil))))) aNil))))) (bName 9) (sIf (tNotF (tB (eCall F__law_right (aCons (eVar 9) aNil)))) (sRet (eC (.bl false))) sNil)) st_law_2)
def st_law_4 : SF := (sFrz 7 (sSeq (sIf (tNotF (tB (eCall (F__law_like 8) (aCons (eVar 7) (aCons (eLst (aCons (eTup (aCons (eC (.int 6)) (aCons (eC (.int 7)) aNil))) (aCons (eTup (aCons (eC (.int 10)) (aCons (eC (.int 7)) aNil))) (aCons (eTup (aCons (e1 dNeg (eC (.int 1))) (aCons (eC (.int 42)) aNil))) (aCons (eTup (aCons (e1 dNeg (eC (.int 1))) (aCons (eC (.int 84)) aNil))) (aCons (eTup (aCons (eC (.int 796)) (aCons (eC (.int 25)) aNil))) (aCons (eTup (aCons (e1 dNeg (eC (.int 4))) (aCons (eC (.int 3)) aNil))) aNil))))))) aNil))))) (sRet (eC (.bl false))) sNil) st_law_3))
def st_law_5 : SF := (sSeq (sSetF 7 (e2 dAddL (eVarO 7) (eLst (aCons (eCall F_cost_of (aCons (eTup (aCons (eC (.int 4)) (aCons (e2 dMul (eTup (aCons (eC (.int 2)) aNil)) (eC (.int 8))) (aCons (e2 dMul (eTup (aCons (e2 dMul (eTup (aCons (eC (.int 100)) aNil)) (eC (.int 8))) aNil)) (eC (.int 4))) (aCons (eC (.int 0)) aNil))))) aNil)) (aCons (eCall F_rest_of_piece (aCons (eTup (aCons (eC (.int 0)) (aCons (eTup aNil) (aCons (eTup (aCons (eTup aNil) (aCons (eTup (aCons (eC (.int 3)) aNil)) aNil))) (aCons (eC (.int 1)) aNil))))) aNil)) aNil))))) st_law_4)
def st_law_6 : SF := (sSeq (sSetF 7 (e2 dAddL (eVarO 7) (eLst (aCons (eCall F_rest_of_piece (aCons (eTup (aCons (eC (.int 0)) (aCons (eTup (aCons (eC (.int 2)) (aCons (eC (.int 3)) (aCons (eC (.int 7)) aNil)))) (aCons (eTup aNil) (aCons (eC (.int 0)) aNil))))) aNil)) (aCons (eCall F_rest_of_piece (aCons (eTup (aCons (eC (.int 0)) (aCons (eTup aNil) (aCons (eTup (aCons (eTup (aCons (eC (.int 2)) (aCons (eC (.int 3)) (aCons (eC (.int 7)) aNil)))) aNil)) (aCons (eC (.int 0)) aNil))))) aNil)) aNil))))) st_law_5)
def st_law_7 : SF := (sSeq (sSetF 7 (eLst (aCons (eCall F_cost_of (aCons (eTup (aCons (eC (.int 0)) (aCons (eTup (aCons (eC (.int 7)) aNil)) (aCons (eTup aNil) (aCons (eC (.int 0)) aNil))))) aNil)) (aCons (eCall F_cost_of (aCons (eTup (aCons (eC (.int 0)) (aCons (eTup aNil) (aCons (eTup (aCons (eTup (aCons (eC (.int 7)) aNil)) aNil)) (aCons (eC (.int 0)) aNil))))) aNil)) aNil)))) st_law_6)
def st_law_8 : SF := (sFrz 7 (sSeq (sIf (tNotF (tB (eCall (F__law_like 8) (aCons (eVar 7) (aCons (e2 dAdd (eVar 8) (eLst (aCons (eTup (aCons (eTup (aCons (eC (.int 6)) (aCons (eC (.int 1)) aNil))) (aCons (eTup (aCons (eC (.int 0)) (aCons (eC (.int 1)) aNil))) (aCons (eTup (aCons (eC (.int 0)) (aCons (eC (.int 1)) aNil))) (aCons (eTup (aCons (eC (.int 0)) (aCons (eC (.int 1)) aNil))) (aCons (eTup (aCons (eC (.int 0)) (aCons (eC (.int 1)) aNil))) aNil)))))) (aCons (eTup (aCons (eC (.int 2)) (aCons (eC (.int 1)) aNil))) aNil)))) aNil))))) (sRet (eC (.bl false))) sNil) st_law_7))
def st_law_9 : SF := (sSeq (sSet 8 (eLst (aCons (eTup (aCons (eC (.int 5)) (aCons (eC (.int 4)) aNil))) (aCons (eTup (aCons (eC (.int 3)) (aCons (eC (.int 4)) aNil))) (aCons (eTup (aCons (eC (.int 2)) (aCons (eC (.int 1)) aNil))) (aCons (eC (.str "flat")) (aCons (eC (.str "round")) (aCons (eTup (aCons (eC (.int 1)) (aCons (eC (.int 30)) aNil))) (aCons (eTup (aCons (eTup (aCons (eC (.int 0)) (aCons (eC (.int 1)) aNil))) (aCons (eTup (aCons (eC (.int 2)) (aCons (eC (.int 3)) aNil))) (aCons (eTup (aCons (eC (.int 1)) (aCons (eC (.int 1)) aNil))) (aCons (eTup (aCons (eC (.int 5)) (aCons (eC (.int 8)) aNil))) (aCons (eTup (aCons (eC (.int 2)) (aCons (eC (.int 1)) aNil))) aNil)))))) (aCons (eC (.str "wide")) (aCons (eTup (aCons (eC (.int 2)) (aCons (eC (.int 1)) aNil))) aNil))))))))))) st_law_8)
def st_law_10 : SF := (sSeq (sApp 7 (eCall F_cost_of (aCons (eVar 6) aNil))) st_law_9)
def st_law_11 : SF := (sSeq (sSetF 7 (e2 dAddL (eVarO 7) (eLst (aCons (eCall F_rest_of_piece (aCons (eTup (aCons (eC (.int 0)) (aCons (eTup aNil) (aCons (eTup aNil) (aCons (eC (.int 0)) aNil))))) aNil)) (aCons (eCall F_cost_parts (aCons (eTup (aCons (eC (.int 3)) (aCons (eTup aNil) (aCons (eTup aNil) (aCons (eC (.int 0)) aNil))))) aNil)) aNil))))) st_law_10)
def st_law_12 : SF := (sSeq (sSetF 7 (e2 dAddL (eVarO 7) (eLst (aCons (eCall F_cost_parts (aCons (eTup (aCons (eC (.int 0)) (aCons (eTup (aCons (eC (.int 3)) aNil)) (aCons (eTup (aCons (eTup (aCons (eC (.int 2)) (aCons (eC (.int 4)) aNil))) aNil)) (aCons (eC (.int 2)) aNil))))) aNil)) (aCons (eCall F_rest_word (aCons (eTup (aCons (eC (.int 2)) (aCons (eTup aNil) (aCons (eTup aNil) (aCons (eC (.int 0)) aNil))))) aNil)) aNil))))) st_law_11)
def st_law_13 : SF := (sSeq (sSetF 7 (eLst (aCons (eCall F_cost_of (aCons (eVar 3) aNil)) (aCons (eCall F_rest_of_piece (aCons (eVar 3) aNil)) (aCons (eCall F_cost_of (aCons (eVar 4) aNil)) (aCons (eCall F_rest_word (aCons (eVar 4) aNil)) (aCons (eCall F_rest_word (aCons (eVar 5) aNil)) (aCons (eCall F_rest_of_piece (aCons (eVar 5) aNil)) aNil)))))))) st_law_12)
def st_law_14 : SF := (sSeq (sTgt (bTup 4 (bCons (bName 3) (bCons (bName 4) (bCons (bName 5) (bCons (bName 6) bNil))))) (eTup (aCons (eTup (aCons (eC (.int 0)) (aCons (eTup (aCons (eC (.int 2)) (aCons (eC (.int 4)) aNil))) (aCons (eTup aNil) (aCons (eC (.int 0)) aNil))))) (aCons (eTup (aCons (eC (.int 0)) (aCons (eTup aNil) (aCons (eTup (aCons (eTup (aCons (eC (.int 2)) (aCons (eC (.int 3)) (aCons (eC (.int 6)) aNil)))) aNil)) (aCons (eC (.int 0)) aNil))))) (aCons (eTup (aCons (eC (.int 0)) (aCons (eTup (aCons (eC (.int 2)) (aCons (eC (.int 3)) (aCons (eC (.int 5)) aNil)))) (aCons (eTup aNil) (aCons (eC (.int 0)) aNil))))) (aCons (eTup (aCons (eC (.int 0)) (aCons (eTup (aCons (eC (.int 2)) (aCons (eC (.int 2)) aNil))) (aCons (eTup (aCons (eTup aNil) aNil)) (aCons (eC (.int 0)) aNil))))) aNil)))))) st_law_13)
def sf_law : SF := (sSeq (sFor (iRng1 (eC (.int 12))) (bName 2) (sIf (tNotF (tB (eCall F__law_right (aCons (eCall F__law_piece (aCons (eVar 1) aNil)) aNil)))) (sRet (eC (.bl false))) sNil)) st_law_14)
theorem rest_law (t : Txt P w mg base K) {fd_law_fails : FuncData} (F_law_fails : FunD K "_law_fails" "_law_fails" (defArgs (top 41)) (defBody (top 41)) (defScope (top 41)) [] [] (He.fAd K ("_law_fails", none)) fd_law_fails) {cdv : Value} (hcode : cdv = .ref (He.cT K ("law", none)).1) (A : Around) (outer : List PySem.Env) (s : Shared) (H : Hp) (E : XK) (hr : Room 13 (A.deeper (envOfC "law" (defScope (top 44)) s.heap.objs.size (He.fAd K ("law", none)) cdv))) : PSsx (cxOf (L2N.CX P w) P w (gOf K).K mg base ["script", "cup", "turn", "short", "three", "ball", "two", "told", "due", "own", "words", "bad", "odd", "call"] "law" (defScope (top 44)) (He.fAd K ("law", none)) cdv A outer s H E) (gOf K) (WF E) (defBody (top 44)).tail sf_law :=
  (psx_cons (psx_for (WF.σ _) PassesOwn.leaving rfl (pix_rng1 rfl t.b_range px_int) (pgx_name 2 (pg_name sc_law.nd rfl (Or.inl rfl))) (psx_one (psx_if (WF.σ _) (ptx_not (pt_of (px_call ((df__law_right t).mono (by omega)) rfl hr rfl t.m__law_right tkF (pax_cons (px_call ((df__law_piece t).mono (by omega)) rfl hr rfl t.m__law_piece tkF (pax_cons (px_var 1 (pv 1)) pax_nil)) pax_nil)))) (psx_one (psx_ret (WF.σ _) px_bl)) psx_nil))) (psx_cons (psx_tgt (WF.σ _) (ps_asg (px_tup (pax_cons (px_tup (pax_cons px_int (pax_cons (px_tup (pax_cons px_int (pax_cons px_int pax_nil))) (pax_cons (px_tup pax_nil) (pax_cons px_int pax_nil))))) (pax_cons (px_tup (pax_cons px_int (pax_cons (px_tup pax_nil) (pax_cons (px_tup (pax_cons (px_tup (pax_cons px_int (pax_cons px_int (pax_cons px_int pax_nil)))) pax_nil)) (pax_cons px_int pax_nil))))) (pax_cons (px_tup (pax_cons px_int (pax_cons (px_tup (pax_cons px_int (pax_cons px_int (pax_cons px_int pax_nil)))) (pax_cons (px_tup pax_nil) (pax_cons px_int pax_nil))))) (pax_cons (px_tup (pax_cons px_int (pax_cons (px_tup (pax_cons px_int (pax_cons px_int pax_nil))) (pax_cons (px_tup (pax_cons (px_tup pax_nil) pax_nil)) (pax_cons px_int pax_nil))))) pax_nil))))) (pgx_tup rfl rfl (pgx_cons (pgx_name 3 (pg_name sc_law.nd rfl (Or.inl rfl))) (pgx_cons (pgx_name 4 (pg_name sc_law.nd rfl (Or.inl rfl))) (pgx_cons (pgx_name 5 (pg_name sc_law.nd rfl (Or.inl rfl))) (pgx_cons (pgx_name 6 (pg_name sc_law.nd rfl (Or.inl rfl))) pgx_nil))))))) (psx_cons (psx_setF (i := 7) (WF.σ _) (ps_set sc_law.nd rfl (Or.inl rfl) (px_lst (pax_cons (px_call ((df_cost_of t).mono (by omega)) rfl hr rfl t.m_cost_of tkF (pax_cons (px_var 3 (pv 3)) pax_nil)) (pax_cons (px_call ((df_rest_of_piece t).mono (by omega)) rfl hr rfl t.m_rest_of_piece tkF (pax_cons (px_var 3 (pv 3)) pax_nil)) (pax_cons (px_call ((df_cost_of t).mono (by omega)) rfl hr rfl t.m_cost_of tkF (pax_cons (px_var 4 (pv 4)) pax_nil)) (pax_cons (px_call ((df_rest_word t).mono (by omega)) rfl hr rfl t.m_rest_word tkF (pax_cons (px_var 4 (pv 4)) pax_nil)) (pax_cons (px_call ((df_rest_word t).mono (by omega)) rfl hr rfl t.m_rest_word tkF (pax_cons (px_var 5 (pv 5)) pax_nil)) (pax_cons (px_call ((df_rest_of_piece t).mono (by omega)) rfl hr rfl t.m_rest_of_piece tkF (pax_cons (px_var 5 (pv 5)) pax_nil)) pax_nil))))))))) (psx_cons (psx_setF (i := 7) (WF.σ _) (ps_set sc_law.nd rfl (Or.inl rfl) (px_addL (px_varO 7 (pv 7)) (PB.ofF (px_lst (pax_cons (px_call ((df_cost_parts t).mono (by omega)) rfl hr rfl t.m_cost_parts tkF (pax_cons (px_tup (pax_cons px_int (pax_cons (px_tup (pax_cons px_int pax_nil)) (pax_cons (px_tup (pax_cons (px_tup (pax_cons px_int (pax_cons px_int pax_nil))) pax_nil)) (pax_cons px_int pax_nil))))) pax_nil)) (pax_cons (px_call ((df_rest_word t).mono (by omega)) rfl hr rfl t.m_rest_word tkF (pax_cons (px_tup (pax_cons px_int (pax_cons (px_tup pax_nil) (pax_cons (px_tup pax_nil) (pax_cons px_int pax_nil))))) pax_nil)) pax_nil))))))) (psx_cons (psx_setF (i := 7) (WF.σ _) (ps_set sc_law.nd rfl (Or.inl rfl) (px_addL (px_varO 7 (pv 7)) (PB.ofF (px_lst (pax_cons (px_call ((df_rest_of_piece t).mono (by omega)) rfl hr rfl t.m_rest_of_piece tkF (pax_cons (px_tup (pax_cons px_int (pax_cons (px_tup pax_nil) (pax_cons (px_tup pax_nil) (pax_cons px_int pax_nil))))) pax_nil)) (pax_cons (px_call ((df_cost_parts t).mono (by omega)) rfl hr rfl t.m_cost_parts tkF (pax_cons (px_tup (pax_cons px_int (pax_cons (px_tup pax_nil) (pax_cons (px_tup pax_nil) (pax_cons px_int pax_nil))))) pax_nil)) pax_nil))))))) (psx_cons (psx_app (WF.σ _) (pv 7) (px_call ((df_cost_of t).mono (by omega)) rfl hr rfl t.m_cost_of tkF (pax_cons (px_var 6 (pv 6)) pax_nil))) (psx_cons (psx_set (i := 8) (WF.σ _) (ps_set sc_law.nd rfl (Or.inl rfl) (PP.ofF (px_lst (pax_cons (px_tup (pax_cons px_int (pax_cons px_int pax_nil))) (pax_cons (px_tup (pax_cons px_int (pax_cons px_int pax_nil))) (pax_cons (px_tup (pax_cons px_int (pax_cons px_int pax_nil))) (pax_cons px_str (pax_cons px_str (pax_cons (px_tup (pax_cons px_int (pax_cons px_int pax_nil))) (pax_cons (px_tup (pax_cons (px_tup (pax_cons px_int (pax_cons px_int pax_nil))) (pax_cons (px_tup (pax_cons px_int (pax_cons px_int pax_nil))) (pax_cons (px_tup (pax_cons px_int (pax_cons px_int pax_nil))) (pax_cons (px_tup (pax_cons px_int (pax_cons px_int pax_nil))) (pax_cons (px_tup (pax_cons px_int (pax_cons px_int pax_nil))) pax_nil)))))) (pax_cons px_str (pax_cons (px_tup (pax_cons px_int (pax_cons px_int pax_nil))) pax_nil))))))))))))) (psx_frz 7 (psx_cons (psx_if (WF.σ _) (ptx_not (pt_of (px_call ((df__law_like t 8).mono (by omega)) rfl hr rfl t.m__law_like tkF (pax_cons (px_var 7 (pv 7)) (pax_cons (px_add rfl (PB.of (px_var 8 (pv 8))) (PB.ofF (px_lst (pax_cons (px_tup (pax_cons (px_tup (pax_cons px_int (pax_cons px_int pax_nil))) (pax_cons (px_tup (pax_cons px_int (pax_cons px_int pax_nil))) (pax_cons (px_tup (pax_cons px_int (pax_cons px_int pax_nil))) (pax_cons (px_tup (pax_cons px_int (pax_cons px_int pax_nil))) (pax_cons (px_tup (pax_cons px_int (pax_cons px_int pax_nil))) pax_nil)))))) (pax_cons (px_tup (pax_cons px_int (pax_cons px_int pax_nil))) pax_nil))))) pax_nil))))) (psx_one (psx_ret (WF.σ _) px_bl)) psx_nil) (psx_cons (psx_setF (i := 7) (WF.σ _) (ps_set sc_law.nd rfl (Or.inl rfl) (px_lst (pax_cons (px_call ((df_cost_of t).mono (by omega)) rfl hr rfl t.m_cost_of tkF (pax_cons (px_tup (pax_cons px_int (pax_cons (px_tup (pax_cons px_int pax_nil)) (pax_cons (px_tup pax_nil) (pax_cons px_int pax_nil))))) pax_nil)) (pax_cons (px_call ((df_cost_of t).mono (by omega)) rfl hr rfl t.m_cost_of tkF (pax_cons (px_tup (pax_cons px_int (pax_cons (px_tup pax_nil) (pax_cons (px_tup (pax_cons (px_tup (pax_cons px_int pax_nil)) pax_nil)) (pax_cons px_int pax_nil))))) pax_nil)) pax_nil))))) (psx_cons (psx_setF (i := 7) (WF.σ _) (ps_set sc_law.nd rfl (Or.inl rfl) (px_addL (px_varO 7 (pv 7)) (PB.ofF (px_lst (pax_cons (px_call ((df_rest_of_piece t).mono (by omega)) rfl hr rfl t.m_rest_of_piece tkF (pax_cons (px_tup (pax_cons px_int (pax_cons (px_tup (pax_cons px_int (pax_cons px_int (pax_cons px_int pax_nil)))) (pax_cons (px_tup pax_nil) (pax_cons px_int pax_nil))))) pax_nil)) (pax_cons (px_call ((df_rest_of_piece t).mono (by omega)) rfl hr rfl t.m_rest_of_piece tkF (pax_cons (px_tup (pax_cons px_int (pax_cons (px_tup pax_nil) (pax_cons (px_tup (pax_cons (px_tup (pax_cons px_int (pax_cons px_int (pax_cons px_int pax_nil)))) pax_nil)) (pax_cons px_int pax_nil))))) pax_nil)) pax_nil))))))) (psx_cons (psx_setF (i := 7) (WF.σ _) (ps_set sc_law.nd rfl (Or.inl rfl) (px_addL (px_varO 7 (pv 7)) (PB.ofF (px_lst (pax_cons (px_call ((df_cost_of t).mono (by omega)) rfl hr rfl t.m_cost_of tkF (pax_cons (px_tup (pax_cons px_int (pax_cons (px_mul rfl (PB.of (px_tup (pax_cons px_int pax_nil))) (PB.of px_int)) (pax_cons (px_mul rfl (PB.of (px_tup (pax_cons (px_mul rfl (PB.of (px_tup (pax_cons px_int pax_nil))) (PB.of px_int)) pax_nil))) (PB.of px_int)) (pax_cons px_int pax_nil))))) pax_nil)) (pax_cons (px_call ((df_rest_of_piece t).mono (by omega)) rfl hr rfl t.m_rest_of_piece tkF (pax_cons (px_tup (pax_cons px_int (pax_cons (px_tup pax_nil) (pax_cons (px_tup (pax_cons (px_tup pax_nil) (pax_cons (px_tup (pax_cons px_int pax_nil)) pax_nil))) (pax_cons px_int pax_nil))))) pax_nil)) pax_nil))))))) (psx_frz 7 (psx_cons (psx_if (WF.σ _) (ptx_not (pt_of (px_call ((df__law_like t 8).mono (by omega)) rfl hr rfl t.m__law_like tkF (pax_cons (px_var 7 (pv 7)) (pax_cons (PP.ofF (px_lst (pax_cons (px_tup (pax_cons px_int (pax_cons px_int pax_nil))) (pax_cons (px_tup (pax_cons px_int (pax_cons px_int pax_nil))) (pax_cons (px_tup (pax_cons (px_neg (PB.of px_int)) (pax_cons px_int pax_nil))) (pax_cons (px_tup (pax_cons (px_neg (PB.of px_int)) (pax_cons px_int pax_nil))) (pax_cons (px_tup (pax_cons px_int (pax_cons px_int pax_nil))) (pax_cons (px_tup (pax_cons (px_neg (PB.of px_int)) (pax_cons px_int pax_nil))) pax_nil)))))))) pax_nil))))) (psx_one (psx_ret (WF.σ _) px_bl)) psx_nil) (psx_cons (psx_for (WF.σ _) PassesOwn.leaving rfl (pix_seq rfl (px_add rfl (PB.of (px_call0 ((df__law_known t).mono (by omega)) rfl hr rfl t.m__law_known tkF)) (PB.ofF (px_lst (pax_cons (px_tup (pax_cons px_int (pax_cons (px_tup pax_nil) (pax_cons (px_tup (pax_cons (px_tup pax_nil) (pax_cons (px_tup (pax_cons px_int pax_nil)) (pax_cons (px_tup (pax_cons px_int (pax_cons px_int pax_nil))) pax_nil)))) (pax_cons px_int pax_nil))))) (pax_cons (px_tup (pax_cons px_int (pax_cons (px_tup (pax_cons px_int pax_nil)) (pax_cons (px_tup pax_nil) (pax_cons px_int pax_nil))))) pax_nil)))))) (pgx_name 9 (pg_name sc_law.nd rfl (Or.inl rfl))) (psx_one (psx_if (WF.σ _) (ptx_not (pt_of (px_call ((df__law_right t).mono (by omega)) rfl hr rfl t.m__law_right tkF (pax_cons (px_var 9 (pv 9)) pax_nil)))) (psx_one (psx_ret (WF.σ _) px_bl)) psx_nil))) (psx_cons (psx_par (WF.σ _) (ps_par (i := 10) (j := 11) rfl sc_law.nd rfl rfl (by decide) rfl rfl (pax_cons (PP.ofF (px_lst pax_nil)) (pax_cons (px_call0 ((df__law_no_pieces t).mono (by omega)) rfl hr rfl t.m__law_no_pieces tkF) pax_nil)) rfl)) (psx_cons (psx_for (WF.σ _) PassesOwn.leaving rfl (pix_seq rfl (px_var 11 (pv 11))) (pgx_name 12 (pg_name sc_law.nd rfl (Or.inr rfl))) (psx_one (psx_set (i := 10) (WF.σ _) (ps_set sc_law.nd rfl (Or.inl rfl) (px_add rfl (PB.of (px_var 10 (pv 10))) (PB.ofF (px_lc (own := [("call", 13)]) rfl sc_law.nd (pix_seqB rfl (PB.of (px_tup (pax_cons (px_fn (n := 14) rfl t.m_cost_of) (pax_cons (px_fn (n := 15) rfl t.m_rest_of_piece) (pax_cons (px_fn (n := 16) rfl t.m_rest_word) (pax_cons (px_fn (n := 17) rfl t.m_cost_parts) pax_nil))))))) (blkOk_by (by kernel_rfl)) (fun _ _ _ _ _ => (pgx_name 13 (pg_name sc_law.nd rfl (Or.inr rfl)))) (by decide) (fun _ _ _ _ _ => ptx_nil) (fun _ _ _ _ _ => (px_fails (cat := cat__law_fails) (hnd := hnd__law_fails) (r0 := (.str "")) (j := 1) (CS := He.ga K "PatternError") rfl rfl t.m__law_fails F_law_fails (bd__law_fails F_law_fails) sc__law_fails rfl (Or.inl rfl) rfl sc__law_fails.nd rfl rfl t.m_PatternError (fun _ => pe_str) (fun _ _ _ => rfl) (cat_ok__law_fails t) (hand__law_fails t) t.tb_law hcode (tab_mem 0) (tab_uq 0) hr tk0 (LamX.lamS_by (by kernel_rfl)) rfl (fun _ _ _ _ _ => rfl) (fun A outer s H E f c' hrl => (px_callV (i := 13) (Fs := fs) (fun n F h => (fs_ok t) n F h) rfl (hrl.mono (by omega)) rfl (Or.inr (Or.inr rfl)) lamN_takes (pax_cons (px_var 12 (pv 12)) pax_nil)))))))))))) (psx_one (psx_ret (WF.σ _) (px_eq rfl hr.u64 (PB.of (px_var 10 (pv 10))) (PB.ofF (px_mulL (px_lst (pax_cons px_str pax_nil)) (px_mul rfl (PB.of px_int) (PB.of (px_len rfl rfl t.b_len (pax_cons (PB.of (px_var 11 (pv 11))) pax_nil))))))))))))))))))))))))))
end L58

namespace L58
open PySem PySem.Spec PyProof.Rows L2 PL
variable {P : Program} {w : World} {mg : Str → Option Value} {base : Heap} {K : PySem.W.Frag}
theorem iteT' {c : Bool} {A B : Prop} (hc : c = true) (h : A) : if c = true then A else B := by rw [if_pos hc]; exact h
theorem iteF' {c : Bool} {A B : Prop} (hc : c = false) (h : B) : if c = true then A else B := by rw [hc, if_neg Bool.false_ne_true]; exact h
/-! ### the cup -/
abbrev rListK (K : PySem.W.Frag) : List V → Hp → VK → Prop := fun xs H Q => ∃ p ys, xs = [.ref p] ∧ (SqL K H p ys ∨ SqT K H p ys) ∧ ∀ l, H l = none → Q (.ref l) (upd H l (.lst ys))
abbrev rAbs0 : List V → Hp → VK → Prop := fun xs H Q => ∃ i, xs = [.int i] ∧ Q (.int (if i < 0 then -i else i)) H
abbrev rInt0 : List V → Hp → VK → Prop := fun xs H Q => (∃ i, xs = [.int i] ∧ Q (.int i) H) ∨ ∃ k, xs = [.bl k] ∧ Q (.int (if k then 1 else 0)) H
def teCell (K : PySem.W.Frag) : TE := tCB rAbs0 (tCons (tOp (rIxL K) (tOp rCatR (tCB (rListK K) (tCons (tVar 0) tNil)) (tLst (tCons (tC (.int 0)) tNil))) (tC (.int 0))) tNil)
def teHi : TE := tIf (tTest (tOp (rI0 fun i j => .bl (decide (j ≤ i))) (tVar 1) (tOp (rI CPow fun i j => .int (i ^ j.toNat)) (tC (.int 10)) (tC (.int 18))))) (tOp (rI CDivW fun i j => .int (i / j)) (tVar 1) (tC (.int 227))) (tC (.int 0))
def teLo : TE := tOp (rI0 fun i j => .int (i + j)) (tOp (rI (fun _ j => 0 < j) fun i j => .int (i % j)) (tCB rInt0 (tCons (tOp (rI0 fun i j => .int (i + j)) (tOp (rI CMul fun i j => .int (i * j)) (tVar 1) (tC (.int 479))) (tC (.int 7253))) tNil)) (tC (.int 99881))) (tC (.int 337))
def tsCup (K : PySem.W.Frag) : TS := tSeq (tAsg (teCell K) (gName 1)) (tRet (tLst (tCons teHi (tCons teLo tNil))))
def cellOf (ns : List Int) : Int := let i := (ns ++ [0]).headD 0; if i < 0 then -i else i
def cup0 (ns : List Int) : Int × Int := (if 10 ^ 18 ≤ cellOf ns then cellOf ns / 227 else 0, (cellOf ns * 479 + 7253) % 99881 + 337)
def spCup (K : PySem.W.Frag) : Sp := fun vs H Q _ => ∃ (a : Addr) (ns : List Int), vs = [.ref a] ∧ SqL K H a (ns.map V.int) ∧ ns.length ≤ 63 ∧
  ∀ (l : Addr) (H' : Hp), (∀ b o, H b = some o → H' b = some o) → H l = none → H' l = some (.lst [.int (cup0 ns).1, .int (cup0 ns).2]) → Q (.ref l) H'
theorem ps_cup (t : Txt P w mg base K) {cdv : Value} {A : Around} {outer : List PySem.Env} {s : Shared} {H : Hp} {E : XK} : PSs (cxOf (L2N.CX P w) P w K mg base ["script", "cell"] "_law_cup" (defScope (top 31)) (He.fAd K ("_law_cup", none)) cdv A outer s H E) (defBody (top 31)) (tsCup K) :=
  pss_cons (ps_set sc__law_cup.nd rfl (Or.inl rfl) (pe_callB call_abs rfl t.b_abs boot_abs (pa_cons (pe_ix ix_list (pe_op op_catR (pe_callTy call_list_of rfl t.b_list boot_list (pa_cons (pv 0) pa_nil)) (pe_lst (pa_cons pe_int pa_nil))) pe_int (fun _ _ => rfl)) pa_nil)))
    (pss_one (ps_ret (pe_lst (pa_cons (pe_ifExp (pt_cmpR op_ge (pv 1) (pe_op op_pow pe_int pe_int) (nomark _)) (pe_op op_fdivW (pv 1) pe_int) pe_int)
      (pa_cons (pe_op op_add (pe_op op_mod (pe_callTy call_int1 rfl t.b_int boot_int (pa_cons (pe_op op_add (pe_op op_mul (pv 1) pe_int) pe_int) pa_nil)) pe_int) pe_int) pa_nil)))))
theorem pure_cup {vs : List V} {H : Hp} {Q : VK} {E : XK} (h : spCup K vs H Q E) : tsCup K { nx := fun _ H' => Q .non H', rt := Q } (L2.start ["script", "cell"] vs) H := by
  obtain ⟨a, ns, rfl, hs, hl, q⟩ := h
  have hsz : (ns.map V.int).length ≤ sizeLine := by rw [List.length_map, sizeLine_eq]; omega
  refine ⟨_, rfl, a, _, rfl, .inl hs, fun l1 n1 => ⟨by show 1 ≤ sizeLine; rw [sizeLine_eq]; omega, fun l2 n2 => ?_⟩⟩
  have n12 : l1 ≠ l2 := fun z => by rw [z, upd_same] at n2; cases n2
  refine ⟨l1, l2, ns.map V.int, [.int 0], rfl, rfl, .inl (by rw [upd_ne n12, upd_same]), .inl upd_same, by rw [List.length_map, sizeLine_eq]; show ns.length + 1 ≤ _; omega, fun l3 n3 => ?_⟩
  have e0 : L2.atI (ns.map V.int ++ [V.int 0]) 0 = some (.int ((ns ++ [0]).headD 0)) := by
    cases ns with
    | nil => rfl
    | cons n r =>
      have e : ixN ((V.int n :: (List.map V.int r ++ [V.int 0])).length) 0 = some 0 := by
        unfold ixN
        simp
        omega
      show ((ixN ((V.int n :: (List.map V.int r ++ [V.int 0])).length) 0).bind fun j => (V.int n :: (List.map V.int r ++ [V.int 0]))[j]?) = _
      rw [e]
      rfl
  refine ⟨l3, ns.map V.int ++ [V.int 0], 0, _, rfl, rfl, .inl (.inl upd_same), e0, _, rfl, ?_⟩
  have x1 : ∀ b o, H b = some o → (upd (upd (upd H l1 (.lst (ns.map V.int))) l2 (.lst [.int 0])) l3 (.lst (ns.map V.int ++ [.int 0]))) b = some o := fun b o e => by
    have b1 : b ≠ l1 := ne_of_none e n1
    have b2 : b ≠ l2 := fun z => by rw [z] at e; rw [upd_ne (Ne.symm n12)] at n2; rw [n2] at e; cases e
    have b3 : b ≠ l3 := fun z => by
      subst z
      rw [upd_ne b2, upd_ne b1] at n3
      rw [n3] at e; cases e
    rw [upd_ne b3, upd_ne b2, upd_ne b1]; exact e
  have fin : ∀ hi : Int, hi = (cup0 ns).1 → ∀ lo : Int, lo = (cup0 ns).2 → ∀ l, (upd (upd (upd H l1 (.lst (ns.map V.int))) l2 (.lst [.int 0])) l3 (.lst (ns.map V.int ++ [.int 0]))) l = none → Q (.ref l) (upd (upd (upd (upd H l1 (.lst (ns.map V.int))) l2 (.lst [.int 0])) l3 (.lst (ns.map V.int ++ [.int 0]))) l (.lst [.int hi, .int lo])) := fun hi e1 lo e2 l nl => by
    refine q l _ (fun b o e => ?_) ?_ (by rw [upd_same, e1, e2])
    · have z := x1 b o e
      rw [upd_ne (ne_of_none z nl)]; exact z
    · cases z : H l with
      | none => rfl
      | some o => rw [x1 l o z] at nl; cases nl
  have lo : ∀ {G : Hp} {Q1 : VK}, Q1 (.int (cup0 ns).2) G → teLo ((L2.start ["script", "cell"] [.ref a]).set 1 (some (.int (cellOf ns)))) G Q1 := fun h =>
    ⟨_, rfl, _, _, rfl, rfl, .inr ⟨by omega, by omega⟩, _, _, rfl, rfl, .inl ⟨_, rfl, _, _, rfl, rfl, show (0 : Int) < 99881 by decide, _, _, rfl, rfl, h⟩⟩
  refine ⟨_, rfl, _, _, rfl, rfl, ⟨by omega, by omega, by decide⟩, _, _, rfl, rfl, _, rfl, ?_⟩
  by_cases hb : (10 : Int) ^ (18 : Int).toNat ≤ cellOf ns
  · refine iteT' (decide_eq_true hb) ⟨_, rfl, _, _, rfl, rfl, ⟨by omega, by decide⟩, lo ⟨by show 2 ≤ sizeLine; rw [sizeLine_eq]; omega, fin _ ?_ _ rfl⟩⟩
    have hb' : (10 : Int) ^ 18 ≤ cellOf ns := hb
    simp only [cup0, if_pos hb']
    rfl
  · refine iteF' (decide_eq_false hb) (lo ⟨by show 2 ≤ sizeLine; rw [sizeLine_eq]; omega, fin _ ?_ _ rfl⟩)
    have hb' : ¬ (10 : Int) ^ 18 ≤ cellOf ns := hb
    simp only [cup0, if_neg hb']
theorem ok_cup (t : Txt P w mg base K) : ∃ fd, FnOk P w K mg base (L2N.CX P w) 1 (He.fAd K ("_law_cup", none)) fd ["script"] (spCup K) ∧ PySem.W.keepIn K (.ref (He.fAd K ("_law_cup", none))) = true ∧ L2.Binds K fd ["script"] [] := by
  obtain ⟨fd, F⟩ := t.f__law_cup
  refine ⟨fd, F.ok sc__law_cup (fun vs H Q E h => ?_) (fun cdv A outer s H vs Q E hr h => ⟨_, ps_cup t, pure_cup h⟩), F.kp, bd__law_cup F⟩
  obtain ⟨a, ns, rfl, _⟩ := h
  rfl
/-! ### the law -/
def spLaw (K : PySem.W.Frag) : Sp := fun vs H Q _ => ∃ (a : Addr) (ns : List Int), vs = [.ref a] ∧ SqL K H a (ns.map V.int) ∧ ns.length ≤ 63 ∧ (∀ z ∈ ns, Builtin.Int.intBits z ≤ 1048576) ∧ LamX.Tabs (gOf K).T H ∧ ∀ H', Q (.bl true) H'
def LawTrue : Prop := ∀ ns : List Int, ns.length ≤ 63 → (∀ z ∈ ns, Builtin.Int.intBits z ≤ 1048576) → ∃ s', sf_law ((List.replicate 14 Sl.un).set 1 (.p .cup)) (cup0 ns) = .ok (.rt (.bl true)) s'
theorem ok_law (LT : LawTrue) (t : Txt P w mg base K) {fd : FuncData} (F : FunD K "law" "law" (defArgs (top 44)) (defBody (top 44)) (defScope (top 44)) [] [] (He.fAd K ("law", none)) fd) :
    FnOk P w K mg base (L2N.CX P w) 14 (He.fAd K ("law", none)) fd ["script"] (spLaw K) := by
  have hcode := codeD F
  obtain ⟨fdc, Gc, kc, bc⟩ := ok_cup t
  obtain ⟨fdl, Fl⟩ := t.f__law_fails
  obtain ⟨oc, od, dV, kV, doc, pm, an, cdv, ct, osl, rfl, lk, hcd, _, _⟩ := F.ex
  refine fn_of lk hcd sc_law (fun vs H Q E h => ?_) (fun A outer s H vs Q E hr h => ⟨_, pss_cons (ps_set (i := 1) sc_law.nd rfl (Or.inl rfl) (pe_callS (E := fun _ _ _ _ => False) Gc (hr.mono (by omega)) rfl t.m__law_cup kc bc (fun σ => fun _ _ _ _ _ _ ⟨_, _, _, _, _, _, _, _, _, _, _, _, z⟩ => z.elim) (pa_cons (pv 0) pa_nil)))
    (rest_law t Fl hcode A outer s H E hr), ?_⟩)
  · obtain ⟨a, ns, rfl, _⟩ := h
    rfl
  · obtain ⟨a, ns, rfl, hs, hl, hb, hT, q⟩ := h
    refine ⟨_, rfl, a, ns, rfl, hs, hl, fun l H' k nl hH => ?_⟩
    obtain ⟨s', e⟩ := LT ns hl hb
    have w1 : Wd (gOf K) l H' (cup0 ns) := ⟨hH, hT.ext k⟩
    have er := (er_un (g := gOf K) (c := l) (H := H') (L2.start ["script", "cup", "turn", "short", "three", "ball", "two", "told", "due", "own", "words", "bad", "odd", "call"] [V.ref a])).setP 1 (d := .cup) (v := .ref l) rfl
    refine ⟨l, H', _, cup0 ns, er, w1, ?_⟩
    have e' : sf_law ((List.replicate (L2.start ["script", "cup", "turn", "short", "three", "ball", "two", "told", "due", "own", "words", "bad", "odd", "call"] [V.ref a]).length Sl.un).set 1 (.p .cup)) (cup0 ns) = .ok (.rt (.bl true)) s' := e
    rw [e']
    intro v H2 _ _ r
    cases r
    exact q H2
end L58
namespace L58
open PySem PL
def Bd (k : Nat) (p : Int × Int) : Prop := p.1.natAbs < 2 ^ k ∧ p.2.natAbs < 2 ^ k ∧ 0 < p.2
theorem slN (n : Nat) (h : n ≤ 1000 := by decide) : n ≤ sizeLine := by rw [sizeLine_eq]; omega
theorem log_lt {x k : Nat} (h : x < 2 ^ k) (hk : k ≤ 9000) : x.log2 < 9000 := by
  by_cases h0 : x = 0
  · subst h0; simp
  · have := (Nat.log2_lt h0).mpr h
    omega
theorem lowest_ok {a b : Int} {k : Nat} (hb : 0 < b) (hk : b.natAbs < 2 ^ k) (h9 : k ≤ 9000) (s : S) : F_lowest [.int a, .int b] s = .ok (pr (nrm a b)) s := by
  have g0 : 0 < (Nat.gcd a.natAbs b.natAbs : Nat) := gcd_pos hb
  have gl : Nat.gcd a.natAbs b.natAbs < 2 ^ k := Nat.lt_of_le_of_lt (Nat.le_of_dvd (by omega) (Nat.gcd_dvd_right _ _)) hk
  have gi : (0 : Int) < (Nat.gcd a.natAbs b.natAbs : Nat) := by omega
  have gl2 : ((Nat.gcd a.natAbs b.natAbs : Nat) : Int).natAbs.log2 < 9000 := by rw [Int.natAbs_natCast]; exact log_lt gl h9
  unfold F_lowest
  simp [ev_run2, sf_lowest, List.replicate, hb, ev_div gi gl2, slN]
  rfl
theorem plus_ok {p q : Int × Int} {k l : Nat} (hp : Bd k p) (hq : Bd l q) (h : k + l ≤ 8000) (s : S) : F_plus [pr p, pr q] s = .ok (pr (nrm (p.1 * q.2 + q.1 * p.2) (p.2 * q.2))) s := by
  obtain ⟨a, b⟩ := p
  obtain ⟨c, d⟩ := q
  obtain ⟨h1, h2, h3⟩ := hp
  obtain ⟨h4, h5, h6⟩ := hq
  have m1 := mulOk_of h1 h5 (by omega)
  have m2 := mulOk_of h4 h2 (by omega)
  have m3 := mulOk_of h2 h5 (by omega)
  have b0 : 0 < b * d := Int.mul_pos h3 h6
  have bl : (b * d).natAbs < 2 ^ (k + l) := by rw [Int.natAbs_mul, Nat.pow_add]; exact Nat.mul_lt_mul'' h2 h5
  unfold F_plus pr
  simp [ev_run2, sf_plus, ev_mul m1, ev_mul m2, ev_mul m3]
  rw [lowest_ok b0 bl (by omega)]
  rfl
theorem mb_plus {p q : Int × Int} {k l : Nat} (hp : Bd k p) (hq : Bd l q) : Bd (k + l + 1) (nrm (p.1 * q.2 + q.1 * p.2) (p.2 * q.2)) ∧ Red (nrm (p.1 * q.2 + q.1 * p.2) (p.2 * q.2)) ∧ val (nrm (p.1 * q.2 + q.1 * p.2) (p.2 * q.2)) = val p + val q := by
  obtain ⟨a, b⟩ := p
  obtain ⟨c, d⟩ := q
  obtain ⟨h1, h2, h3⟩ := hp
  obtain ⟨h4, h5, h6⟩ := hq
  have b0 : 0 < b * d := Int.mul_pos h3 h6
  obtain ⟨r, v, n1, n2⟩ := nrm_spec (a := a * d + c * b) b0
  have t1 : (a * d).natAbs < 2 ^ (k + l) := by rw [Int.natAbs_mul, Nat.pow_add]; exact Nat.mul_lt_mul'' h1 h5
  have t2 : (c * b).natAbs < 2 ^ (k + l) := by rw [Int.natAbs_mul, Nat.pow_add, Nat.mul_comm (2 ^ k)]; exact Nat.mul_lt_mul'' h4 h2
  have t3 : (b * d).natAbs < 2 ^ (k + l) := by rw [Int.natAbs_mul, Nat.pow_add]; exact Nat.mul_lt_mul'' h2 h5
  have t4 : 2 ^ (k + l + 1) = 2 ^ (k + l) + 2 ^ (k + l) := by rw [Nat.pow_succ]; omega
  refine ⟨⟨?_, ?_, r.1⟩, r, ?_⟩
  · rw [t4]
    simp only at *
    omega
  · rw [t4]
    simp only at *
    omega
  · rw [v]
    have e1 := cast_ne h3
    have e2 := cast_ne h6
    unfold val
    simp only [Rat.intCast_mul, Rat.intCast_add] at *
    grind
/-- the sum of (n - 1) / n -/
def sumF : List Int → Rat
  | [] => 0
  | n :: l => ((n : Rat) - 1) / n + sumF l
def In (l : List Int) : Prop := ∀ n ∈ l, 2 ≤ n ∧ n ≤ 100
theorem In.tail {n : Int} {l : List Int} (h : In (n :: l)) : In l := fun x hx => h x (List.mem_cons_of_mem _ hx)
theorem points_loop : ∀ (l : List Int) (p : Int × Int) (k : Nat) (x z : Sl) (s : S), In l → Bd k p → Red p → k + 8 * l.length ≤ 4000 →
    ∃ q z', forM (bName 2) (sSet 1 (eCall F_plus (aCons (eVar 1) (aCons (eTup (aCons (e2 dSub (eVar 2) (eC (.int 1))) (aCons (eVar 2) aNil))) aNil)))) (l.map .int) [x, .p (pr p), z] s = .ok (.nx [x, .p (pr q), z']) s ∧ Bd (k + 8 * l.length) q ∧ Red q ∧ val q = val p + sumF l
  | [], p, k, x, z, s, _, hb, hr, _ => ⟨p, z, rfl, hb, hr, by rw [sumF]; grind⟩
  | n :: l, p, k, x, z, s, hl, hb, hr, hk => by
    obtain ⟨n1, n2⟩ := hl n (.head _)
    have hn : Bd 7 (n - 1, n) := ⟨by simp only; omega, by simp only; omega, by simp only; omega⟩
    have hk' : k + 8 * l.length + 8 ≤ 4000 := by simp only [List.length_cons] at hk; omega
    obtain ⟨b1, r1, v1⟩ := mb_plus hb hn
    obtain ⟨q, z', e, b2, r2, v2⟩ := points_loop l _ (k + 7 + 1) x (.p (.int n)) s hl.tail b1 r1 (by omega)
    refine ⟨q, z', ?_, ?_, r2, ?_⟩
    · have e1 := plus_ok hb hn (by omega) s
      simp only [pr] at e1
      simp [slN, pr, e1]
      exact e
    · have : k + 8 * (n :: l).length = k + 7 + 1 + 8 * l.length := by simp only [List.length_cons]; omega
      rw [this]; exact b2
    · rw [v2, v1, sumF]
      have : val (n - 1, n) = ((n : Rat) - 1) / n := by unfold val; simp only [Rat.intCast_sub]; rfl
      rw [this]
      grind
theorem red01 : Red (0, 1) := by constructor <;> decide
theorem points_ok {l : List Int} {d : D} (hd : d = .tup (l.map .int) ∨ d = .lst (l.map .int)) (hl : In l) (hk : l.length ≤ 100) : ∃ q, (∀ s, F_points_cost [d] s = .ok (pr q) s) ∧ Bd (1 + 8 * l.length) q ∧ Red q ∧ val q = sumF l := by
  have key : ∀ s, ∃ q, F_points_cost [d] s = .ok (pr q) s ∧ Bd (1 + 8 * l.length) q ∧ Red q ∧ val q = sumF l := fun s => by
    obtain ⟨q, z', e, b, r, v⟩ := points_loop l (0, 1) 1 (.p d) .un s hl ⟨by decide, by decide, by decide⟩ red01 (by omega)
    refine ⟨q, ?_, b, r, ?_⟩
    · simp only [pr] at e
      unfold F_points_cost
      rcases hd with rfl | rfl <;> simp [ev_run1, sf_points_cost, List.replicate, slN, e, pr]
    · rw [v]
      have : val (0, 1) = 0 := by
        show ((0 : Int) : Rat) / ((1 : Int) : Rat) = 0
        grind
      rw [this]; grind
  obtain ⟨q, e, b, r, v⟩ := key (0, 0)
  refine ⟨q, fun s => ?_, b, r, v⟩
  obtain ⟨q', e', b', r', v'⟩ := key s
  rw [e', red_unique r' r (by rw [v, v'])]
theorem halved_ok {p : Int × Int} {k : Nat} (hp : Bd k p) (hk : k ≤ 4000) : ∃ q, (∀ s, F_halved [pr p] s = .ok (pr q) s) ∧ Bd (k + 2) q ∧ Red q ∧ val q = val p / 2 := by
  obtain ⟨a, b⟩ := p
  obtain ⟨h1, h2, h3⟩ := hp
  simp only at h1 h2 h3
  have t : 2 ^ (k + 2) = 2 ^ k * 4 := by rw [Nat.pow_add]
  have b0 : 0 < 2 * b := by omega
  have bl : (2 * b).natAbs < 2 ^ (k + 2) := by rw [t]; omega
  have m := mulOk_of (i := 2) (a := 2) (by decide) h2 (by omega)
  obtain ⟨r, v, n1, n2⟩ := nrm_spec (a := a) b0
  refine ⟨nrm a (2 * b), fun s => ?_, ⟨by rw [t]; omega, by omega, r.1⟩, r, ?_⟩
  · unfold F_halved pr
    simp [ev_run1, sf_halved, ev_mul m]
    rw [lowest_ok b0 bl (by omega)]
    rfl
  · rw [v]
    have e1 := cast_ne h3
    unfold val
    simp only [Rat.intCast_mul]
    grind
/-! ### a piece -/
def iT (l : List Int) : D := .tup (l.map .int)
structure Pc where
  h : Int
  pts : List Int
  rims : List (List Int)
  c : Int
def Pc.d (p : Pc) : D := .tup [.int p.h, iT p.pts, .tup (p.rims.map iT), .int p.c]
structure Pc.Ok (p : Pc) : Prop where
  h0 : 0 ≤ p.h ∧ p.h ≤ 4
  c0 : 0 ≤ p.c ∧ p.c ≤ 4
  hc : p.h = 0 ∨ p.c = 0
  pin : In p.pts
  pl : p.pts.length ≤ 4
  rin : ∀ r ∈ p.rims, In r ∧ r.length ≤ 4
  rl : p.rims.length ≤ 4
  pso : p.pts.Pairwise (· ≤ ·)
  rso : (p.rims.map iT).Pairwise (fun a b => leD a b = true)
theorem corners_loop : ∀ (rs : List (List Int)) (acc : List Int) (x z : Sl) (s : S), (∀ r ∈ rs, r.length ≤ 100) → acc.length + 100 * rs.length ≤ 100000 →
    ∃ z', forM (bName 2) (sExt 1 (eVar 2)) (rs.map iT) [x, .ol (acc.map .int), z] s = .ok (.nx [x, .ol ((acc ++ rs.flatten).map .int), z']) s
  | [], acc, x, z, s, _, _ => ⟨z, by simp⟩
  | r :: rs, acc, x, z, s, h, hl => by
    have hr := h r (.head _)
    simp only [List.length_cons] at hl
    obtain ⟨z', e⟩ := corners_loop rs (acc ++ r) x (.p (iT r)) s (fun y hy => h y (List.mem_cons_of_mem _ hy)) (by rw [List.length_append]; omega)
    refine ⟨z', ?_⟩
    have e0 : sExt 1 (eVar 2) [x, .ol (acc.map .int), .p (iT r)] s = .ok (.nx [x, .ol ((acc ++ r).map .int), .p (iT r)]) s := by
      rw [ev_ext (l := acc.map .int) rfl]
      have : (acc.map D.int).length + (r.map D.int).length ≤ sizeLine := by rw [List.length_map, List.length_map, sizeLine_eq]; omega
      simp [iT, this]
      rw [sizeLine_eq]
      omega
    simp [e0]
    simpa using e
theorem corners_ok {p : Pc} (h : p.Ok) (s : S) : F_corners_of [p.d] s = .ok (.lst (p.rims.flatten.map .int)) s := by
  obtain ⟨z', e⟩ := corners_loop p.rims [] (.p p.d) .un s (fun r hr => by have := (h.rin r hr).2; omega) (by have := h.rl; simp; omega)
  unfold F_corners_of
  simp only [List.nil_append, List.map_nil] at e
  simp [ev_run1, sf_corners_of, List.replicate, slN, Pc.d] at e ⊢
  rw [e]
  simp
  rw [ev_retO rfl]
  rfl
theorem In.flat {rs : List (List Int)} (h : ∀ r ∈ rs, In r) : In rs.flatten := fun n hn => by
  obtain ⟨r, hr, hm⟩ := List.mem_flatten.mp hn
  exact h r hr n hm
theorem flat_len : ∀ (rs : List (List Int)), (∀ r ∈ rs, r.length ≤ 4) → rs.flatten.length ≤ 4 * rs.length
  | [], _ => by simp
  | r :: rs, h => by
    have := flat_len rs fun y hy => h y (List.mem_cons_of_mem _ hy)
    have := h r (.head _)
    simp only [List.flatten_cons, List.length_append, List.length_cons]
    omega
/-- the five parts of a piece's cost -/
structure Parts (p : Pc) (q : List (Int × Int)) : Prop where
  ex : ∃ a b : Int × Int, q = [(2 * p.h, 1), a, ((p.rims.length : Int), 1), b, (p.c, 1)] ∧ Bd 40 a ∧ Red a ∧ val a = sumF p.pts ∧ Bd 140 b ∧ Red b ∧ val b = sumF p.rims.flatten / 2
theorem bd_up {k l : Nat} {p : Int × Int} (h : Bd k p) (hkl : k ≤ l) : Bd l p :=
  ⟨Nat.lt_of_lt_of_le h.1 (Nat.pow_le_pow_right (by decide) hkl), Nat.lt_of_lt_of_le h.2.1 (Nat.pow_le_pow_right (by decide) hkl), h.2.2⟩
theorem parts_ok {p : Pc} (h : p.Ok) : ∃ q, Parts p q ∧ ∀ s, F_parts_in [p.d] s = .ok (.lst (q.map pr)) s := by
  obtain ⟨a, ea, ba, ra, va⟩ := points_ok (d := iT p.pts) (.inl rfl) h.pin (by have := h.pl; omega)
  have fl := flat_len p.rims fun r hr => (h.rin r hr).2
  have hrl := h.rl
  obtain ⟨b0, eb0, bb0, rb0, vb0⟩ := points_ok (d := .lst (p.rims.flatten.map .int)) (.inr rfl) (In.flat fun r hr => (h.rin r hr).1) (by omega)
  obtain ⟨b, eb, bb, rb, vb⟩ := halved_ok bb0 (by omega)
  have hpl := h.pl
  refine ⟨_, ⟨a, b, rfl, bd_up ba (by omega), ra, va, bd_up bb (by omega), rb, by rw [vb, vb0]⟩, fun s => ?_⟩
  have m1 : mulOk 2 p.h = true := mulOk_of (a := 2) (b := 3) (by decide) (by have := h.h0; omega) (by decide)
  have ec := corners_ok h s
  have ea' := ea s
  have eb0' := eb0 s
  have eb' := eb s
  unfold F_parts_in
  simp [-List.map_flatten, ev_run1, sf_parts_in, List.replicate, slN, ec, eb0', eb']
  simp [-List.map_flatten, Pc.d, ev_mul m1, ea', slN, pr]
/-- a sum of parts -/
def sumV : List (Int × Int) → Rat
  | [] => 0
  | p :: l => val p + sumV l
theorem plus_loop : ∀ (l : List (Int × Int)) (p : Int × Int) (k j : Nat) (x z : Sl) (s : S), (∀ q ∈ l, Bd j q) → Bd k p → Red p → k + (j + 1) * l.length ≤ 8000 →
    ∃ q z', forM (bName 2) (sSet 1 (eCall F_plus (aCons (eVar 1) (aCons (eVar 2) aNil)))) (l.map pr) [x, .p (pr p), z] s = .ok (.nx [x, .p (pr q), z']) s ∧ Bd (k + (j + 1) * l.length) q ∧ Red q ∧ val q = val p + sumV l
  | [], p, k, j, x, z, s, _, hb, hr, _ => ⟨p, z, rfl, hb, hr, by rw [sumV]; grind⟩
  | n :: l, p, k, j, x, z, s, hl, hb, hr, hk => by
    have hn := hl n (.head _)
    have e8 : (j + 1) * (n :: l).length = (j + 1) * l.length + j + 1 := by rw [List.length_cons, Nat.mul_succ]; omega
    obtain ⟨b1, r1, v1⟩ := mb_plus hb hn
    obtain ⟨q, z', e, b2, r2, v2⟩ := plus_loop l _ (k + j + 1) j x (.p (pr n)) s (fun y hy => hl y (List.mem_cons_of_mem _ hy)) b1 r1 (by omega)
    refine ⟨q, z', ?_, ?_, r2, ?_⟩
    · have e1 := plus_ok hb hn (by omega) s
      simp [e1]
      exact e
    · have : k + (j + 1) * (n :: l).length = k + j + 1 + (j + 1) * l.length := by omega
      rw [this]; exact b2
    · rw [v2, v1, sumV]
      grind
theorem val01 : val (0, 1) = 0 := by
  show ((0 : Int) : Rat) / ((1 : Int) : Rat) = 0
  grind
theorem Parts.bd {p : Pc} (h : p.Ok) {q : List (Int × Int)} (hq : Parts p q) : (∀ x ∈ q, Bd 140 x) ∧ q.length = 5 := by
  obtain ⟨a, b, rfl, ba, _, _, bb, _, _⟩ := hq.ex
  have := h.h0
  have := h.c0
  have := h.rl
  refine ⟨fun x hx => ?_, rfl⟩
  simp only [List.mem_cons, List.mem_nil_iff, or_false] at hx
  rcases hx with rfl | rfl | rfl | rfl | rfl
  · exact bd_up (k := 5) ⟨by simp only; omega, show (1 : Int).natAbs < 2 ^ 5 by decide, show (0 : Int) < 1 by decide⟩ (by decide)
  · exact bd_up ba (by decide)
  · exact bd_up (k := 5) ⟨by simp only; omega, show (1 : Int).natAbs < 2 ^ 5 by decide, show (0 : Int) < 1 by decide⟩ (by decide)
  · exact bb
  · exact bd_up (k := 5) ⟨by simp only; omega, show (1 : Int).natAbs < 2 ^ 5 by decide, show (0 : Int) < 1 by decide⟩ (by decide)
theorem cost_ok {p : Pc} (h : p.Ok) {q : List (Int × Int)} (hq : Parts p q) (eq : ∀ s, F_parts_in [p.d] s = .ok (.lst (q.map pr)) s) : ∃ r, (∀ s, F_cost_in [p.d] s = .ok (pr r) s) ∧ Bd 800 r ∧ Red r ∧ val r = sumV q := by
  obtain ⟨hb, hl⟩ := hq.bd h
  have key : ∀ s, ∃ r, F_cost_in [p.d] s = .ok (pr r) s ∧ Bd 800 r ∧ Red r ∧ val r = sumV q := fun s => by
    obtain ⟨r, z', e, b, rr, v⟩ := plus_loop q (0, 1) 1 140 (.p p.d) .un s hb ⟨by decide, by decide, by decide⟩ red01 (by rw [hl]; decide)
    refine ⟨r, ?_, bd_up b (by rw [hl]; decide), rr, by rw [v, val01]; grind⟩
    have e' := eq s
    simp only [pr] at e
    unfold F_cost_in
    simp [ev_run1, sf_cost_in, List.replicate, slN, e', pr, e]
  obtain ⟨r, e, b, rr, v⟩ := key (0, 0)
  refine ⟨r, fun s => ?_, b, rr, v⟩
  obtain ⟨r', e', b', rr', v'⟩ := key s
  rw [e', red_unique rr' rr (by rw [v, v'])]
theorem rest_ok {p : Pc} {r : Int × Int} (er : ∀ s, F_cost_in [p.d] s = .ok (pr r) s) (hb : Bd 800 r) : ∃ t, (∀ s, F_rest_in [p.d] s = .ok (pr t) s) ∧ Bd 1000 t ∧ Red t ∧ val t = 2 - val r := by
  have h2 : Bd 2 (2, 1) := ⟨by decide, by decide, by decide⟩
  have hn : Bd 800 (-r.1, r.2) := ⟨by simp only; rw [Int.natAbs_neg]; exact hb.1, hb.2.1, hb.2.2⟩
  obtain ⟨b1, r1, v1⟩ := mb_plus h2 hn
  refine ⟨_, fun s => ?_, bd_up b1 (by decide), r1, ?_⟩
  · have e := plus_ok h2 hn (by decide) s
    have e0 := er s
    simp only [pr] at e e0
    unfold F_rest_in
    simp [ev_run1, sf_rest_in, List.replicate, slN, e0]
    rw [e]
    simp [pr]
  · rw [v1]
    have := cast_ne hb.2.2
    unfold val
    simp only [Rat.intCast_neg]
    have e1 : ((2 : Int) : Rat) / ((1 : Int) : Rat) = 2 := by grind
    rw [e1]
    grind
/-! ### a good piece is a piece -/
theorem whole_ok (n lo hi : Int) (s : S) : F_is_whole [.int n, .int lo, .int hi] s = .ok (.bl (decide (lo ≤ n) && decide (n ≤ hi))) s := by
  unfold F_is_whole
  simp [ev_run3, sf_is_whole, dIsi]
  by_cases h : lo ≤ n <;> simp [h]
theorem tupof_ok (l : List D) (lo hi : Int) (s : S) : F_is_tuple_of [.tup l, .int lo, .int hi] s = .ok (.bl (decide (lo ≤ l.length) && decide ((l.length : Int) ≤ hi))) s := by
  unfold F_is_tuple_of
  simp [ev_run3, sf_is_tuple_of, dIsi]
  by_cases h : lo ≤ (l.length : Int) <;> simp [h]
theorem turns_ok {l : List Int} (hl : In l) (h8 : l.length ≤ 8) (s : S) : F_are_turns [iT l] s = .ok (.bl true) s := by
  have hz : (l.map D.int).length ≤ sizeLine := by rw [List.length_map, sizeLine_eq]; omega
  have h8' : ((l.length : Nat) : Int) ≤ 8 := by omega
  have e : ∀ s, lcM (bName 1) tTrue (eCall F_is_whole (aCons (eVar 1) (aCons (eC (.int 2)) (aCons (eC (.int 100)) aNil)))) [.p (iT l), .un] (l.map D.int) s = .ok ((l.map D.int).map fun _ => .bl true) s := fun s => by
    refine lc_pure fun d hd => ⟨_, rfl, fun s => ⟨rfl, ?_⟩⟩
    obtain ⟨n, hn, rfl⟩ := List.mem_map.mp hd
    obtain ⟨h1, h2⟩ := hl n hn
    simp [whole_ok, h1, h2]
  unfold F_are_turns
  simp [ev_run1, sf_are_turns, List.replicate, iT, tupof_ok, h8']
  unfold iT at e
  have hz' : l.length ≤ sizeLine := by simpa using hz
  simp [e, hz', Function.comp_def, map_const', all_true]
theorem falling_ok {l : List D} (hz : l.length ≤ 1000) (hp : l.Pairwise fun a b => dLt b a = some (.bl false)) (s : S) : F_is_falling [.tup l] s = .ok (.bl false) s := by
  have hz' : (zipD l l.tail).length ≤ sizeLine := by rw [zipD_len, sizeLine_eq]; omega
  have e : ∀ s, lcM (bTup 2 (bCons (bName 1) (bCons (bName 2) bNil))) tTrue (e2 dLt (eVar 2) (eVar 1)) [.p (.tup l), .un, .un] (zipD l l.tail) s = .ok ((zipD l l.tail).map fun _ => .bl false) s := fun s => by
    refine lc_pure fun d hd => ?_
    obtain ⟨a, b, rfl, h⟩ := mem_zip_tail hp d hd
    exact ⟨_, rfl, fun s => ⟨rfl, by simp [h]⟩⟩
  unfold F_is_falling
  simp [ev_run1, sf_is_falling, List.replicate, dSl, tail_cut, hz', e, map_const', any_false]
theorem fits_ok {p : Pc} (h : p.Ok) (s : S) : F_fits [p.d] s = .ok (.bl true) s := by
  obtain ⟨h1, h2⟩ := h.h0
  obtain ⟨h3, h4⟩ := h.c0
  have hrl : ((p.rims.length : Nat) : Int) ≤ 4 := by have := h.rl; omega
  have hz : p.rims.length ≤ sizeLine := by have := h.rl; rw [sizeLine_eq]; omega
  have e : ∀ (u : Sl) s, lcM (bName 1) tTrue (eCall F_are_turns (aCons (eVar 1) aNil)) [u, .un] (p.rims.map iT) s = .ok ((p.rims.map iT).map fun _ => .bl true) s := fun u s => by
    refine lc_pure fun d hd => ⟨_, rfl, fun s => ⟨rfl, ?_⟩⟩
    obtain ⟨r, hr, rfl⟩ := List.mem_map.mp hd
    simp [turns_ok (h.rin r hr).1 (by have := (h.rin r hr).2; omega)]
  have f1 : ∀ s, F_is_falling [iT p.pts] s = .ok (.bl false) s := fun s => by
    refine falling_ok (by rw [List.length_map]; have := h.pl; omega) ?_ s
    refine List.pairwise_map.mpr (h.pso.imp fun {a b} hab => ?_)
    simp only [ev_lt]
    rw [decide_eq_false (by omega)]
  have f2 : ∀ s, F_is_falling [.tup (p.rims.map iT)] s = .ok (.bl false) s := fun s => by
    refine falling_ok (by rw [List.length_map]; have := h.rl; omega) ?_ s
    have := h.rso
    rw [List.pairwise_map] at this ⊢
    exact this.imp fun {a b} hab => lt_ints hab
  unfold F_fits
  simp [ev_run1, sf_fits, List.replicate, Pc.d, tupof_ok, whole_ok, h1, h2, h3, h4, turns_ok h.pin (by have := h.pl; omega), hrl, hz, e, Function.comp_def, map_const', all_true, f1, f2]
  rcases h.hc with z | z <;> simp [z]
  by_cases z2 : p.h = 0 <;> simp [z2]
theorem need_ok {p : Pc} (h : p.Ok) (s : S) : F_need_piece [p.d] s = .ok .non s := by
  unfold F_need_piece
  simp [ev_run1, sf_need_piece, List.replicate, fits_ok h]
theorem cost_of_ok {p : Pc} (h : p.Ok) {r : Int × Int} (e : ∀ s, F_cost_in [p.d] s = .ok (pr r) s) (s : S) : F_cost_of [p.d] s = .ok (pr r) s := by
  unfold F_cost_of
  simp [ev_run1, sf_cost_of, List.replicate, need_ok h, e]
theorem rest_of_ok {p : Pc} (h : p.Ok) {r : Int × Int} (e : ∀ s, F_rest_in [p.d] s = .ok (pr r) s) (s : S) : F_rest_of_piece [p.d] s = .ok (pr r) s := by
  unfold F_rest_of_piece
  simp [ev_run1, sf_rest_of_piece, List.replicate, need_ok h, e]
def wordOf (r : Int × Int) : Str := if 0 < r.1 then "round" else if r.1 = 0 then "flat" else "wide"
theorem word_ok {p : Pc} (h : p.Ok) {r : Int × Int} (e : ∀ s, F_rest_in [p.d] s = .ok (pr r) s) (s : S) : F_rest_word [p.d] s = .ok (.str (wordOf r)) s := by
  unfold F_rest_word
  simp [ev_run1, sf_rest_word, List.replicate, need_ok h, e, pr]
  unfold wordOf
  by_cases h1 : 0 < r.1
  · simp [h1]
  · by_cases h2 : r.1 = 0 <;> simp [h1, h2]
theorem partsof_ok {p : Pc} (h : p.Ok) {q : List (Int × Int)} (e : ∀ s, F_parts_in [p.d] s = .ok (.lst (q.map pr)) s) (s : S) : F_cost_parts [p.d] s = .ok (.tup (q.map pr)) s := by
  unfold F_cost_parts
  simp [ev_run1, sf_cost_parts, List.replicate, need_ok h, e]
/-! ### Euclid -/
abbrev lowBody : SF := sSeq (sIf (tB (e2 dEq (eVar 3) (eC (.int 0)))) (sRet (eIf (tB (e2 dGt (eVar 1) (eC (.int 0)))) (eTup (aCons (e2 dDiv (eVar 0) (eVar 2)) (aCons (e2 dDiv (eVar 1) (eVar 2)) aNil))) (eTup (aCons (e2 dDiv (e1 dNeg (eVar 0)) (eVar 2)) (aCons (e2 dDiv (e1 dNeg (eVar 1)) (eVar 2)) aNil))))) sNil) (sPar 2 3 (aCons (eVar 3) (aCons (e2 dMod (eN (n1 dInt) (aCons (eVar 2) aNil)) (eVar 3)) aNil)))
theorem low_end {a b : Int} {x : Nat} (hb : 0 < b) (hx : 0 < x) (h9 : x.log2 < 9000) (z : Sl) (d : D) (l : List D) (s : S) :
    forM (bName 4) lowBody (d :: l) [.p (.int a), .p (.int b), .p (.int x), .p (.int 0), z] s = .ok (.rt (pr (a / x, b / x))) s := by
  have hx' : (0 : Int) < x := by omega
  have h9' : ((x : Nat) : Int).natAbs.log2 < 9000 := by rw [Int.natAbs_natCast]; exact h9
  simp [lowBody, hb, ev_div hx' h9', slN, pr]
theorem low_step {a b : Int} {x y : Nat} (hy : 0 < y) (z : Sl) (d : D) (l : List D) (s : S) :
    forM (bName 4) lowBody (d :: l) [.p (.int a), .p (.int b), .p (.int x), .p (.int y), z] s = forM (bName 4) lowBody l [.p (.int a), .p (.int b), .p (.int y), .p (.int (x % y : Nat)), .p d] s := by
  have hy' : (0 : Int) < y := by omega
  have hy2 : ¬ (y : Int) = 0 := by omega
  have hy3 : ¬ y = 0 := by omega
  simp [lowBody, hy', hy2, hy3, ev_mod hy']
theorem low_loop {a b : Int} (hb : 0 < b) : ∀ (k : Nat) (x y : Nat) (ds : List D) (z : Sl) (s : S), y < 2 ^ k → x < 2 ^ 8000 → y < 2 ^ 8000 → (0 < x ∨ 0 < y) → 2 * k + 1 ≤ ds.length →
    forM (bName 4) lowBody ds [.p (.int a), .p (.int b), .p (.int x), .p (.int y), z] s = .ok (.rt (pr (a / (Nat.gcd x y : Nat), b / (Nat.gcd x y : Nat)))) s
  | 0, x, y, d :: ds, z, s, hy, hx, hy8, hp, hl => by
    have : y = 0 := by omega
    subst this
    rw [Nat.gcd_zero_right]
    exact low_end hb (by omega) (log_lt hx (by decide)) z d ds s
  | k + 1, x, y, d :: d2 :: ds, z, s, hy, hx, hy8, hp, hl => by
    by_cases h0 : y = 0
    · subst h0
      rw [Nat.gcd_zero_right]
      exact low_end hb (by omega) (log_lt hx (by decide)) z d _ s
    · have y0 : 0 < y := by omega
      rw [low_step y0]
      have r1 : x % y < y := Nat.mod_lt _ y0
      by_cases h1 : x % y = 0
      · rw [h1]
        have e : Nat.gcd x y = y := by rw [Nat.gcd_comm, Nat.gcd_rec, h1, Nat.gcd_zero_left]
        rw [e]
        exact low_end hb y0 (log_lt hy8 (by decide)) _ d2 ds s
      · have y1 : 0 < x % y := by omega
        rw [low_step y1]
        have r2 : y % (x % y) < x % y := Nat.mod_lt _ y1
        have r3 : y % (x % y) + (x % y) ≤ y := by
          have e := Nat.div_add_mod y (x % y)
          have q : 1 ≤ y / (x % y) := (Nat.one_le_div_iff y1).mpr (by omega)
          have : x % y * 1 ≤ x % y * (y / (x % y)) := Nat.mul_le_mul_left _ q
          omega
        have hk : y % (x % y) < 2 ^ k := by rw [Nat.pow_succ] at hy; omega
        simp only [List.length_cons] at hl
        rw [low_loop hb k (x % y) (y % (x % y)) ds _ s hk (by omega) (by omega) (by omega) (by omega)]
        have e : Nat.gcd (x % y) (y % (x % y)) = Nat.gcd x y := by
          rw [Nat.gcd_comm (x % y), ← Nat.gcd_rec, ← Nat.gcd_rec, Nat.gcd_comm]
        rw [e]
  | 0, _, _, [], _, _, _, _, _, _, hl => by simp at hl
  | k + 1, _, _, [], _, _, _, _, _, _, hl => by simp at hl
  | k + 1, _, _, [_], _, _, _, _, _, _, hl => by simp at hl
theorem rng_len (n : Nat) : (rngD 0 n).length = n := by simp [rngD]
theorem abs_nat (a : Int) : (if a < 0 then -a else a) = ((a.natAbs : Nat) : Int) := by split <;> omega
theorem low_ok {a b : Int} (hb : 0 < b) (hbk : b.natAbs < 2 ^ 240) (hak : a.natAbs < 2 ^ 4000) (s : S) : F__law_low [.int a, .int b] s = .ok (pr (nrm a b)) s := by
  have e := low_loop (a := a) hb 240 a.natAbs b.natAbs (rngD 0 500) .un s hbk (Nat.lt_of_lt_of_le hak (Nat.pow_le_pow_right (by decide) (by decide))) (Nat.lt_of_lt_of_le hbk (Nat.pow_le_pow_right (by decide) (by decide))) (by omega) (by rw [rng_len]; decide)
  unfold F__law_low
  simp [ev_run2, sf__law_low, List.replicate, abs_nat]
  rw [e]
  rfl
/-! ### the law's own sums -/
def prodI : List Int → Int
  | [] => 1
  | n :: l => n * prodI l
theorem prodI_pos : ∀ {l : List Int}, In l → 0 < prodI l
  | [], _ => by decide
  | n :: l, h => Int.mul_pos (by have := h n (.head _); omega) (prodI_pos h.tail)
theorem prodI_lt : ∀ {l : List Int}, In l → (prodI l).natAbs < 2 ^ (1 + 7 * l.length)
  | [], _ => by decide
  | n :: l, h => by
    have h1 := h n (.head _)
    have h2 := prodI_lt h.tail
    have e : 2 ^ (1 + 7 * (n :: l).length) = 2 ^ 7 * 2 ^ (1 + 7 * l.length) := by rw [← Nat.pow_add, List.length_cons]; congr 1; omega
    rw [e, prodI, Int.natAbs_mul]
    exact Nat.mul_lt_mul'' (by omega) h2
theorem prodI_dvd : ∀ {l : List Int}, ∀ n ∈ l, n ∣ prodI l
  | [], n, h => by simp at h
  | a :: l, n, h => by
    rcases List.mem_cons.mp h with rfl | h
    · exact Int.dvd_mul_right _ _
    · exact Int.dvd_trans (prodI_dvd n h) (Int.dvd_mul_left _ _)
theorem prod_loop : ∀ (l : List Int) (b : Int) (k : Nat) (x o z : Sl) (s : S), In l → b.natAbs < 2 ^ k → k + 7 * l.length ≤ 4000 →
    ∃ z', forM (bName 3) (sSet 2 (e2 dMul (eVar 2) (eVar 3))) (l.map .int) [x, o, .p (.int b), z] s = .ok (.nx [x, o, .p (.int (b * prodI l)), z']) s
  | [], b, k, x, o, z, s, _, _, _ => ⟨z, by simp [prodI]⟩
  | n :: l, b, k, x, o, z, s, hl, hb, hk => by
    have h1 := hl n (.head _)
    simp only [List.length_cons] at hk
    have hn : n.natAbs < 2 ^ 7 := by omega
    have m := mulOk_of hb hn (by omega)
    obtain ⟨z', e⟩ := prod_loop l (b * n) (k + 7) x o (.p (.int n)) s hl.tail (by rw [Int.natAbs_mul, Nat.pow_add]; exact Nat.mul_lt_mul'' hb hn) (by omega)
    refine ⟨z', ?_⟩
    simp [ev_mul m]
    rw [e, prodI, Int.mul_assoc]
def sumI (P : Int) (l : List Int) : Int := (l.map fun n => P - P / n).sum
theorem sumI_rat {P : Int} : ∀ {l : List Int}, (∀ n ∈ l, n ∣ P ∧ 0 < n) → (sumI P l : Rat) = P * sumF l
  | [], _ => by simp [sumI, sumF]
  | n :: l, h => by
    have ih := sumI_rat (P := P) (l := l) fun y hy => h y (List.mem_cons_of_mem _ hy)
    obtain ⟨⟨c, hc⟩, n0⟩ := h n (.head _)
    have e : P / n = c := by rw [hc]; exact Int.mul_ediv_cancel_left _ (by omega)
    have e2 : sumI P (n :: l) = (P - c) + sumI P l := by unfold sumI; simp [e]
    have hn := cast_ne n0
    rw [e2, sumF, Rat.intCast_add, Rat.intCast_sub, ih]
    have e3 : (P : Rat) = n * c := by rw [hc, Rat.intCast_mul]
    grind
theorem sumI_le {P : Int} (hP : 0 ≤ P) : ∀ {l : List Int}, (∀ n ∈ l, 0 < n) → 0 ≤ sumI P l ∧ sumI P l ≤ l.length * P
  | [], _ => by simp [sumI]
  | n :: l, h => by
    obtain ⟨i1, i2⟩ := sumI_le hP (l := l) fun y hy => h y (List.mem_cons_of_mem _ hy)
    have n0 := h n (.head _)
    have e2 : sumI P (n :: l) = (P - P / n) + sumI P l := by unfold sumI; simp
    have d0 : 0 ≤ P / n := Int.ediv_nonneg hP (by omega)
    have d1 : P / n ≤ P := Int.ediv_le_self _ hP
    rw [e2, List.length_cons]
    have e3 : ((l.length + 1 : Nat) : Int) * P = l.length * P + P := by rw [Int.natCast_add]; simp [Int.add_mul]
    rw [e3]
    omega
theorem law_sum_ok {l : List Int} {d : D} (hd : d = .tup (l.map .int) ∨ d = .lst (l.map .int)) (hl : In l) (hk : l.length ≤ 20) {o : Int} (ho : o = 1 ∨ o = 2) : ∃ q, (∀ s, F__law_sum [d, .int o] s = .ok (pr q) s) ∧ Red q ∧ val q = sumF l / o := by
  have P0 := prodI_pos hl
  have Pl := prodI_lt hl
  have o0 : 0 < o := by omega
  have b0 : 0 < o * prodI l := Int.mul_pos o0 P0
  have hd' : ∀ n ∈ l, n ∣ prodI l ∧ 0 < n := fun n hn => ⟨prodI_dvd n hn, by have := hl n hn; omega⟩
  obtain ⟨r, v, _, _⟩ := nrm_spec (a := sumI (prodI l) l) b0
  refine ⟨nrm (sumI (prodI l) l) (o * prodI l), fun s => ?_, r, ?_⟩
  · have p240 : (prodI l).natAbs < 2 ^ 200 := Nat.lt_of_lt_of_le Pl (Nat.pow_le_pow_right (by decide) (by omega))
    have bl : (o * prodI l).natAbs < 2 ^ 240 := by
      rw [Int.natAbs_mul]
      have : o.natAbs ≤ 2 := by omega
      have e : 2 ^ 240 = 2 ^ 40 * 2 ^ 200 := by rw [← Nat.pow_add]
      rw [e]
      exact Nat.mul_lt_mul'' (by omega) p240
    obtain ⟨s0, s1⟩ := sumI_le (P := prodI l) (by omega) (l := l) fun n hn => (hd' n hn).2
    have al : (sumI (prodI l) l).natAbs < 2 ^ 4000 := by
      have : sumI (prodI l) l ≤ 20 * prodI l := Int.le_trans s1 (Int.mul_le_mul_of_nonneg_right (by omega) (by omega))
      have h3 : (sumI (prodI l) l).natAbs < 2 ^ 240 := by omega
      exact Nat.lt_of_lt_of_le h3 (Nat.pow_le_pow_right (by decide) (by decide))
    obtain ⟨z', e⟩ := prod_loop l o 2 (.p d) (.p (.int o)) .un s hl (by omega) (by omega)
    have ol : o.natAbs.log2 < 9000 := log_lt (k := 2) (by omega) (by decide)
    have dv : o * prodI l / o = prodI l := Int.mul_ediv_cancel_left _ (by omega)
    have hz : (l.map D.int).length ≤ sizeLine := by rw [List.length_map, sizeLine_eq]; omega
    have ec : ∀ (x : Sl) s, lcM (bName 3) tTrue (e2 dSub (e2 dDiv (eVar 2) (eVar 1)) (e2 dDiv (e2 dDiv (eVar 2) (eVar 1)) (eVar 3))) [x, .p (.int o), .p (.int (o * prodI l)), .un] (l.map D.int) s = .ok (l.map fun n => .int (prodI l - prodI l / n)) s := fun x s => by
      have := lc_pure (bt := bName 3) (tt := tTrue) (fe := e2 dSub (e2 dDiv (eVar 2) (eVar 1)) (e2 dDiv (e2 dDiv (eVar 2) (eVar 1)) (eVar 3))) (env := [x, .p (.int o), .p (.int (o * prodI l)), .un]) (f := fun d => match d with | .int n => .int (prodI l - prodI l / n) | d => d) (l := l.map D.int) (s := s) fun d hd => by
        obtain ⟨n, hn, rfl⟩ := List.mem_map.mp hd
        have h1 := hl n hn
        have nl : n.natAbs.log2 < 9000 := log_lt (k := 7) (by omega) (by decide)
        exact ⟨_, rfl, fun s => ⟨rfl, by simp [ev_div o0 ol, dv, ev_div (show (0 : Int) < n by omega) nl]⟩⟩
      rw [this, List.map_map]
      rfl
    have es : dSum (.lst (l.map fun n => D.int (prodI l - prodI l / n))) = some (.int (sumI (prodI l) l)) := by
      have := asInts_map (l.map fun n => prodI l - prodI l / n)
      rw [List.map_map] at this
      show (asInts _).map _ = _
      rw [show (l.map fun n => D.int (prodI l - prodI l / n)) = l.map (D.int ∘ fun n => prodI l - prodI l / n) from rfl, this]
      rfl
    have lw := low_ok b0 bl al s
    unfold F__law_sum
    have hz' : l.length ≤ sizeLine := by simpa using hz
    rcases hd with rfl | rfl <;> simp [ev_run2, sf__law_sum, List.replicate, e, hz', ec, es, lw]
  · rw [v, sumI_rat hd']
    have h1 := cast_ne o0
    have h2 := cast_ne P0
    rw [Rat.intCast_mul]
    grind
/-! ### like -/
def sortN : D → Option Int
  | .non => some 0
  | .bl _ => some 1
  | .int _ => some 2
  | .str _ => some 3
  | .tup _ => some 4
  | .lst _ => some 5
  | _ => none
theorem sort_ok {d : D} {k : Int} (h : sortN d = some k) (s : S) : F__law_sort [d] s = .ok (.int k) s := by
  cases d <;> cases h <;> rfl
theorem in45 : dIn (.int 4) (.tup [.int 4, .int 5]) = some (.bl true) ∧ dIn (.int 5) (.tup [.int 4, .int 5]) = some (.bl true) ∧ dIn (.int 0) (.tup [.int 4, .int 5]) = some (.bl false) ∧ dIn (.int 1) (.tup [.int 4, .int 5]) = some (.bl false) ∧
    dIn (.int 2) (.tup [.int 4, .int 5]) = some (.bl false) ∧ dIn (.int 3) (.tup [.int 4, .int 5]) = some (.bl false) := ⟨rfl, rfl, rfl, rfl, rfl, rfl⟩
theorem eq_nil : dEq (.lst []) (.lst []) = some (.bl true) := rfl
theorem eq_non : dEq .non .non = some (.bl true) := rfl
theorem eq_bl (b : Bool) : dEq (.bl b) (.bl b) = some (.bl true) := by cases b <;> rfl
theorem like_refl : ∀ (n : Nat) (d : D), okL n d → ∀ s, F__law_like n [d, d] s = .ok (.bl true) s
  | 0, d, h, s => h.elim
  | n + 1, d, h, s => by
    obtain ⟨i4, i5, i0, i1, i2, i3⟩ := in45
    have seq : ∀ (l : List D) (k : Int) (d : D), (d = .tup l ∨ d = .lst l) → sortN d = some k → (k = 4 ∨ k = 5) → l.length ≤ 1000000 → (∀ x ∈ l, okL n x) → F__law_like (n + 1) [d, d] s = .ok (.bl true) s := fun l k d hd hs hk hl hx => by
      have hz : (zipD l l).length ≤ sizeLine := by rw [zipD_len, sizeLine_eq]; omega
      have ec : ∀ (a b c : Sl) s, lcM (bTup 2 (bCons (bName 3) (bCons (bName 4) bNil))) (tNotF (tB (eCall (F__law_like n) (aCons (eVar 3) (aCons (eVar 4) aNil))))) (eC (.int 1)) [a, b, c, .un, .un] (zipD l l) s = .ok [] s := fun a b c s => by
        refine lc_none fun d hd => ?_
        obtain ⟨x, hm, rfl⟩ := mem_zip_self d hd
        exact ⟨_, rfl, fun s => by simp [like_refl n x (hx x hm) s]⟩
      have hs' := fun s => sort_ok hs s
      show runF 2 5 (sf__law_like (F__law_like n)) [d, d] s = _
      rcases hd with rfl | rfl <;> rcases hk with rfl | rfl <;> simp [ev_run2, sf__law_like, List.replicate, hs', i4, i5, hz, ec, eq_nil, slN]
    have atom : ∀ (k : Int) (d : D), sortN d = some k → (k = 0 ∨ k = 1 ∨ k = 2 ∨ k = 3) → dEq d d = some (.bl true) → F__law_like (n + 1) [d, d] s = .ok (.bl true) s := fun k d hs hk he => by
      have hs' := fun s => sort_ok hs s
      show runF 2 5 (sf__law_like (F__law_like n)) [d, d] s = _
      rcases hk with rfl | rfl | rfl | rfl <;> simp [ev_run2, sf__law_like, List.replicate, hs', i0, i1, i2, i3, he, slN]
    cases d with
    | tup l => exact seq l 4 _ (.inl rfl) rfl (.inl rfl) h.1 h.2
    | lst l => exact seq l 5 _ (.inr rfl) rfl (.inr rfl) h.1 h.2
    | non => exact atom 0 _ rfl (by simp) eq_non
    | bl b => exact atom 1 _ rfl (by simp) (eq_bl b)
    | int i => exact atom 2 _ rfl (by simp) (by simp)
    | str x => exact atom 3 _ rfl (by simp) h
    | _ => exact h.elim
/-! ### the law's own costs are the program's -/
theorem rims_loop : ∀ (rs : List (List Int)) (acc : List Int) (a b c d e z x7 x8 x9 x10 x11 x12 x13 x14 : Sl) (s : S), (∀ r ∈ rs, r.length ≤ 100) → acc.length + 100 * rs.length ≤ 100000 →
    ∃ z', forM (bName 6) (sSet 5 (e2 dAdd (eVar 5) (eN (n1 dList) (aCons (eVar 6) aNil)))) (rs.map iT) [a, b, c, d, e, .p (.lst (acc.map .int)), z, x7, x8, x9, x10, x11, x12, x13, x14] s = .ok (.nx [a, b, c, d, e, .p (.lst ((acc ++ rs.flatten).map .int)), z', x7, x8, x9, x10, x11, x12, x13, x14]) s
  | [], acc, a, b, c, d, e, z, x7, x8, x9, x10, x11, x12, x13, x14, s, _, _ => ⟨z, by simp⟩
  | r :: rs, acc, a, b, c, d, e, z, x7, x8, x9, x10, x11, x12, x13, x14, s, h, hl => by
    have hr := h r (.head _)
    simp only [List.length_cons] at hl
    obtain ⟨z', e'⟩ := rims_loop rs (acc ++ r) a b c d e (.p (iT r)) x7 x8 x9 x10 x11 x12 x13 x14 s (fun y hy => h y (List.mem_cons_of_mem _ hy)) (by rw [List.length_append]; omega)
    refine ⟨z', ?_⟩
    have ea : dAdd (.lst (acc.map .int)) (.lst (r.map .int)) = some (.lst ((acc ++ r).map .int)) := by
      show (if (acc.map D.int).length + (r.map D.int).length ≤ sizeLine then some (D.lst (acc.map D.int ++ r.map D.int)) else none) = _
      rw [if_pos (by rw [List.length_map, List.length_map, sizeLine_eq]; omega), List.map_append]
    have eL : dList (iT r) = some (.lst (r.map .int)) := rfl
    simp [-List.map_append, -List.map_flatten, eL, ea]
    simpa [-List.map_append, -List.map_flatten] using e'
theorem val_int (n : Int) : val (n, 1) = n := by
  show (n : Rat) / ((1 : Int) : Rat) = n
  grind
theorem turn_ok {a0 x1 x2 x3 x4 x5 x6 x7 x9 x10 x11 x12 x13 x14 : Sl} {n m B k z : Int} {l : List D} {s : S} (hd : dDiv (.int B) (.int m) = some (.int k)) (hm : dMul (.int n) (.int k) = some (.int z)) {ys : List D} (hl : lcM (bName 9) tTrue (e2 dMul (e2 dIx (eVar 9) (eC (.int 0))) (e2 dDiv (eVar 8) (e2 dIx (eVar 9) (eC (.int 1))))) [a0, x1, x2, x3, x4, x5, x6, x7, .p (.int B), x9, x10, x11, x12, x13, x14] l s = .ok ys s) :
    lcM (bName 9) tTrue (e2 dMul (e2 dIx (eVar 9) (eC (.int 0))) (e2 dDiv (eVar 8) (e2 dIx (eVar 9) (eC (.int 1))))) [a0, x1, x2, x3, x4, x5, x6, x7, .p (.int B), x9, x10, x11, x12, x13, x14] (.tup [.int n, .int m] :: l) s = .ok (.int z :: ys) s := by
  rw [lc_tN]
  simp [hd, hm]
  rw [hl]
  rfl
theorem right_ok {p : Pc} (h : p.Ok) (s : S) : F__law_right [p.d] s = .ok (.bl true) s := by
  obtain ⟨q, hq, eq⟩ := parts_ok h
  obtain ⟨hbq, hlq⟩ := hq.bd h
  obtain ⟨r, er, br, rr, vr⟩ := cost_ok h hq eq
  obtain ⟨t, et, bt, rt, vt⟩ := rest_ok er br
  obtain ⟨a, b, rfl, ba, ra, va, bb, rb, vb⟩ := hq.ex
  obtain ⟨h1, h2⟩ := h.h0
  obtain ⟨h3, h4⟩ := h.c0
  have fl := flat_len p.rims fun r hr => (h.rin r hr).2
  have hrl := h.rl
  have hpl := h.pl
  obtain ⟨s1, es1, rs1, vs1⟩ := law_sum_ok (d := iT p.pts) (.inl rfl) h.pin (by omega) (o := 1) (.inl rfl)
  obtain ⟨s2, es2, rs2, vs2⟩ := law_sum_ok (d := .lst (p.rims.flatten.map .int)) (.inr rfl) (In.flat fun r hr => (h.rin r hr).1) (by omega) (o := 2) (.inr rfl)
  have e1 : s1 = a := red_unique rs1 ra (by rw [vs1, va]; grind)
  have e2' : s2 = b := red_unique rs2 rb (by rw [vs2, vb]; grind)
  subst e1 e2'
  -- the common bottom
  obtain ⟨a1, a2⟩ := s1
  obtain ⟨b1, b2⟩ := s2
  obtain ⟨ba1, ba2, ba3⟩ := ba
  obtain ⟨bb1, bb2, bb3⟩ := bb
  simp only at ba1 ba2 ba3 bb1 bb2 bb3
  have B0 : 0 < a2 * b2 := Int.mul_pos ba3 bb3
  have Bl : (a2 * b2).natAbs < 2 ^ 180 := by
    rw [Int.natAbs_mul, show (2 : Nat) ^ 180 = 2 ^ 40 * 2 ^ 140 by rw [← Nat.pow_add]]
    exact Nat.mul_lt_mul'' ba2 bb2
  have d1 : a2 * b2 / a2 = b2 := Int.mul_ediv_cancel_left _ (by omega)
  have d2 : a2 * b2 / b2 = a2 := Int.mul_ediv_cancel _ (by omega)
  have m0 : mulOk 2 p.h = true := mulOk_of (a := 2) (b := 3) (by decide) (by omega) (by decide)
  have m1 : mulOk 1 a2 = true := mulOk_of (a := 1) (by decide) ba2 (by decide)
  have m2 := mulOk_of ba2 bb2 (by decide)
  have m3 : mulOk (2 * p.h) (a2 * b2) = true := mulOk_of (a := 5) (by omega) Bl (by decide)
  have m4 := mulOk_of ba1 bb2 (by decide)
  have m5 : mulOk (p.rims.length : Int) (a2 * b2) = true := mulOk_of (a := 5) (by omega) Bl (by decide)
  have m6 := mulOk_of bb1 ba2 (by decide)
  have m7 : mulOk p.c (a2 * b2) = true := mulOk_of (a := 5) (by omega) Bl (by decide)
  have m8 : mulOk 2 (a2 * b2) = true := mulOk_of (a := 2) (by decide) Bl (by decide)
  have la : a2.natAbs.log2 < 9000 := log_lt ba2 (by decide)
  have lb : b2.natAbs.log2 < 9000 := log_lt bb2 (by decide)
  generalize hT : 2 * p.h * (a2 * b2) + (a1 * b2 + ((p.rims.length : Int) * (a2 * b2) + (b1 * a2 + p.c * (a2 * b2)))) = T
  have Tl : T.natAbs < 2 ^ 190 := by
    have x1 : (2 * p.h * (a2 * b2)).natAbs ≤ 8 * 2 ^ 180 := by rw [Int.natAbs_mul]; exact Nat.mul_le_mul (by omega) (by omega)
    have x2 : (a1 * b2).natAbs < 2 ^ 180 := by
      rw [Int.natAbs_mul, show (2 : Nat) ^ 180 = 2 ^ 40 * 2 ^ 140 by rw [← Nat.pow_add]]
      exact Nat.mul_lt_mul'' ba1 bb2
    have x3 : ((p.rims.length : Int) * (a2 * b2)).natAbs ≤ 8 * 2 ^ 180 := by rw [Int.natAbs_mul]; exact Nat.mul_le_mul (by omega) (by omega)
    have x4 : (b1 * a2).natAbs < 2 ^ 180 := by
      rw [Int.natAbs_mul, Nat.mul_comm, show (2 : Nat) ^ 180 = 2 ^ 40 * 2 ^ 140 by rw [← Nat.pow_add]]
      exact Nat.mul_lt_mul'' ba2 bb1
    have x5 : (p.c * (a2 * b2)).natAbs ≤ 8 * 2 ^ 180 := by rw [Int.natAbs_mul]; exact Nat.mul_le_mul (by omega) (by omega)
    omega
  have lw1 : ∀ s, F__law_low [.int T, .int (a2 * b2)] s = .ok (pr (nrm T (a2 * b2))) s := fun s => low_ok B0 (by omega) (Nat.lt_of_lt_of_le Tl (Nat.pow_le_pow_right (by decide) (by decide))) s
  have lw2 : ∀ s, F__law_low [.int (2 * (a2 * b2) - T), .int (a2 * b2)] s = .ok (pr (nrm (2 * (a2 * b2) - T) (a2 * b2))) s := fun s => low_ok B0 (by omega) (Nat.lt_of_lt_of_le (show (2 * (a2 * b2) - T).natAbs < 2 ^ 200 by omega) (Nat.pow_le_pow_right (by decide) (by decide))) s
  obtain ⟨n1, n2, _, _⟩ := nrm_spec (a := T) B0
  obtain ⟨n3, n4, _, _⟩ := nrm_spec (a := 2 * (a2 * b2) - T) B0
  have ra' := cast_ne ba3
  have rb' := cast_ne bb3
  have vT : (T : Rat) / ((a2 * b2 : Int) : Rat) = val r := by
    rw [vr, ← hT]
    simp only [sumV, val_int, Rat.intCast_add, Rat.intCast_mul]
    unfold val
    grind
  have c1 : nrm T (a2 * b2) = r := red_unique n1 rr (by rw [n2, vT])
  have c2 : nrm (2 * (a2 * b2) - T) (a2 * b2) = t := red_unique n3 rt (by
    rw [n4, vt, ← vT, Rat.intCast_sub, Rat.intCast_mul]
    have hB := cast_ne B0
    have : ((2 : Int) : Rat) = 2 := by rfl
    rw [this]
    grind)
  have rimz : p.rims.length ≤ sizeLine := by rw [sizeLine_eq]; omega
  obtain ⟨z', el⟩ := rims_loop p.rims [] (.p p.d) (.p (.int p.h)) (.p (iT p.pts)) (.p (.tup (p.rims.map iT))) (.p (.int p.c)) .un .un .un .un .un .un .un .un .un s (fun r hr => by have := (h.rin r hr).2; omega) (by simp; omega)
  simp only [List.map_nil, List.nil_append] at el
  have eS : ∀ a b c d e : Int, dSum (.lst [.int a, .int b, .int c, .int d, .int e]) = some (.int (a + (b + (c + (d + e))))) := fun a b c d e => by simp [dSum, asInts, Int.add_assoc]
  have w1 := cost_of_ok h er
  have w2 := rest_of_ok h et
  have w3 := word_ok h et
  have w4 := partsof_ok h eq
  have ww : (if t.1 = 0 ∧ t.2 = 1 then ("flat" : Str) else if 0 < t.1 then "round" else "wide") = wordOf t := by
    unfold wordOf
    by_cases z : t.1 = 0
    · have : t.2 = 1 := by
        obtain ⟨t1, t2⟩ := rt
        rw [z] at t2
        simp at t2
        omega
      simp [z, this]
    · by_cases z2 : 0 < t.1 <;> simp [z, z2]
  have wo : dEq (.str (wordOf t)) (.str (wordOf t)) = some (.bl true) := by
    unfold wordOf
    split
    · kernel_rfl
    · split <;> kernel_rfl
  have lk := like_refl 8 (.lst [pr r, pr t, .str (wordOf t), .tup ([(2 * p.h, 1), (a1, a2), ((p.rims.length : Int), 1), (b1, b2), (p.c, 1)].map pr)]) (by simp [okL, pr, wo])
  simp only [pr, List.map_cons, List.map_nil] at es1 es2 lw1 lw2 w1 w2 w4 lk c1 c2 er et
  rw [c1] at lw1
  rw [c2] at lw2
  have ed : p.d = .tup [.int p.h, iT p.pts, .tup (p.rims.map iT), .int p.c] := rfl
  have ec : lcM (bName 9) tTrue (e2 dMul (e2 dIx (eVar 9) (eC (.int 0))) (e2 dDiv (eVar 8) (e2 dIx (eVar 9) (eC (.int 1))))) [.p p.d, .p (.int p.h), .p (iT p.pts), .p (.tup (p.rims.map iT)), .p (.int p.c), .p (.lst (p.rims.flatten.map .int)), z', .p (.lst [.tup [.int (2 * p.h), .int 1], .tup [.int a1, .int a2], .tup [.int (p.rims.length : Int), .int 1], .tup [.int b1, .int b2], .tup [.int p.c, .int 1]]), .p (.int (a2 * b2)), .un, .un, .un, .un, .un, .un] [.tup [.int (2 * p.h), .int 1], .tup [.int a1, .int a2], .tup [.int (p.rims.length : Int), .int 1], .tup [.int b1, .int b2], .tup [.int p.c, .int 1]] s = .ok [.int (2 * p.h * (a2 * b2)), .int (a1 * b2), .int ((p.rims.length : Int) * (a2 * b2)), .int (b1 * a2), .int (p.c * (a2 * b2))] s :=
    turn_ok ev_div1 (ev_mul m3) (turn_ok (by rw [ev_div ba3 la, d1]) (ev_mul m4) (turn_ok ev_div1 (ev_mul m5) (turn_ok (by rw [ev_div bb3 lb, d2]) (ev_mul m6) (turn_ok ev_div1 (ev_mul m7) rfl))))
  have eT : dSum (.lst [.int (2 * p.h * (a2 * b2)), .int (a1 * b2), .int ((p.rims.length : Int) * (a2 * b2)), .int (b1 * a2), .int (p.c * (a2 * b2))]) = some (.int T) := by rw [eS, hT]
  unfold F__law_right
  rw [ev_run1]
  have main : sf__law_right [.p p.d, .un, .un, .un, .un, .un, .un, .un, .un, .un, .un, .un, .un, .un, .un] s = .ok (.rt (.bl true)) s := ?_
  · show R.bind (sf__law_right [.p p.d, .un, .un, .un, .un, .un, .un, .un, .un, .un, .un, .un, .un, .un, .un] s) _ = _
    rw [main]; rfl
  unfold sf__law_right
  refine (seq_ok (env := [.p p.d, .un, .un, .un, .un, .un, .un, .un, .un, .un, .un, .un, .un, .un, .un]) (e := [.p p.d, .p (.int p.h), .p (iT p.pts), .p (.tup (p.rims.map iT)), .p (.int p.c), .un, .un, .un, .un, .un, .un, .un, .un, .un, .un]) (s' := s) (by simp [-List.map_append, -List.map_flatten, ed])).trans ?_
  refine (seq_ok (env := [.p p.d, .p (.int p.h), .p (iT p.pts), .p (.tup (p.rims.map iT)), .p (.int p.c), .un, .un, .un, .un, .un, .un, .un, .un, .un, .un]) (e := [.p p.d, .p (.int p.h), .p (iT p.pts), .p (.tup (p.rims.map iT)), .p (.int p.c), .p (.lst []), .un, .un, .un, .un, .un, .un, .un, .un, .un]) (s' := s) (by simp [-List.map_append, -List.map_flatten, slN])).trans ?_
  refine (seq_ok (env := [.p p.d, .p (.int p.h), .p (iT p.pts), .p (.tup (p.rims.map iT)), .p (.int p.c), .p (.lst []), .un, .un, .un, .un, .un, .un, .un, .un, .un]) (e := [.p p.d, .p (.int p.h), .p (iT p.pts), .p (.tup (p.rims.map iT)), .p (.int p.c), .p (.lst (p.rims.flatten.map .int)), z', .un, .un, .un, .un, .un, .un, .un, .un]) (s' := s) (by rw [ev_for]; simp only [ev_iseq, ev_vS, ev_v0, ev_ok]; exact el)).trans ?_
  refine (seq_ok (env := [.p p.d, .p (.int p.h), .p (iT p.pts), .p (.tup (p.rims.map iT)), .p (.int p.c), .p (.lst (p.rims.flatten.map .int)), z', .un, .un, .un, .un, .un, .un, .un, .un]) (e := [.p p.d, .p (.int p.h), .p (iT p.pts), .p (.tup (p.rims.map iT)), .p (.int p.c), .p (.lst (p.rims.flatten.map .int)), z', .p (.lst [.tup [.int (2 * p.h), .int 1], .tup [.int a1, .int a2], .tup [.int (p.rims.length : Int), .int 1], .tup [.int b1, .int b2], .tup [.int p.c, .int 1]]), .un, .un, .un, .un, .un, .un, .un]) (s' := s) (by simp [-List.map_append, -List.map_flatten, slN, ev_mul m0, es1, es2])).trans ?_
  refine (seq_ok (env := [.p p.d, .p (.int p.h), .p (iT p.pts), .p (.tup (p.rims.map iT)), .p (.int p.c), .p (.lst (p.rims.flatten.map .int)), z', .p (.lst [.tup [.int (2 * p.h), .int 1], .tup [.int a1, .int a2], .tup [.int (p.rims.length : Int), .int 1], .tup [.int b1, .int b2], .tup [.int p.c, .int 1]]), .un, .un, .un, .un, .un, .un, .un]) (e := [.p p.d, .p (.int p.h), .p (iT p.pts), .p (.tup (p.rims.map iT)), .p (.int p.c), .p (.lst (p.rims.flatten.map .int)), z', .p (.lst [.tup [.int (2 * p.h), .int 1], .tup [.int a1, .int a2], .tup [.int (p.rims.length : Int), .int 1], .tup [.int b1, .int b2], .tup [.int p.c, .int 1]]), .p (.int 1), .un, .un, .un, .un, .un, .un]) (s' := s) (by simp [-List.map_append, -List.map_flatten, ])).trans ?_
  refine (seq_ok (env := [.p p.d, .p (.int p.h), .p (iT p.pts), .p (.tup (p.rims.map iT)), .p (.int p.c), .p (.lst (p.rims.flatten.map .int)), z', .p (.lst [.tup [.int (2 * p.h), .int 1], .tup [.int a1, .int a2], .tup [.int (p.rims.length : Int), .int 1], .tup [.int b1, .int b2], .tup [.int p.c, .int 1]]), .p (.int 1), .un, .un, .un, .un, .un, .un]) (e := [.p p.d, .p (.int p.h), .p (iT p.pts), .p (.tup (p.rims.map iT)), .p (.int p.c), .p (.lst (p.rims.flatten.map .int)), z', .p (.lst [.tup [.int (2 * p.h), .int 1], .tup [.int a1, .int a2], .tup [.int (p.rims.length : Int), .int 1], .tup [.int b1, .int b2], .tup [.int p.c, .int 1]]), .p (.int (a2 * b2)), .p (.tup [.int p.c, .int 1]), .un, .un, .un, .un, .un]) (s' := s) (by simp [-List.map_append, -List.map_flatten, ev_1mul, ev_mul1, ev_mul m2])).trans ?_
  refine (seq_ok (env := [.p p.d, .p (.int p.h), .p (iT p.pts), .p (.tup (p.rims.map iT)), .p (.int p.c), .p (.lst (p.rims.flatten.map .int)), z', .p (.lst [.tup [.int (2 * p.h), .int 1], .tup [.int a1, .int a2], .tup [.int (p.rims.length : Int), .int 1], .tup [.int b1, .int b2], .tup [.int p.c, .int 1]]), .p (.int (a2 * b2)), .p (.tup [.int p.c, .int 1]), .un, .un, .un, .un, .un]) (e := [.p p.d, .p (.int p.h), .p (iT p.pts), .p (.tup (p.rims.map iT)), .p (.int p.c), .p (.lst (p.rims.flatten.map .int)), z', .p (.lst [.tup [.int (2 * p.h), .int 1], .tup [.int a1, .int a2], .tup [.int (p.rims.length : Int), .int 1], .tup [.int b1, .int b2], .tup [.int p.c, .int 1]]), .p (.int (a2 * b2)), .p (.tup [.int p.c, .int 1]), .p (.int T), .un, .un, .un, .un]) (s' := s) (by simp [-List.map_append, -List.map_flatten, slN, ec, eT])).trans ?_
  refine (seq_ok (env := [.p p.d, .p (.int p.h), .p (iT p.pts), .p (.tup (p.rims.map iT)), .p (.int p.c), .p (.lst (p.rims.flatten.map .int)), z', .p (.lst [.tup [.int (2 * p.h), .int 1], .tup [.int a1, .int a2], .tup [.int (p.rims.length : Int), .int 1], .tup [.int b1, .int b2], .tup [.int p.c, .int 1]]), .p (.int (a2 * b2)), .p (.tup [.int p.c, .int 1]), .p (.int T), .un, .un, .un, .un]) (e := [.p p.d, .p (.int p.h), .p (iT p.pts), .p (.tup (p.rims.map iT)), .p (.int p.c), .p (.lst (p.rims.flatten.map .int)), z', .p (.lst [.tup [.int (2 * p.h), .int 1], .tup [.int a1, .int a2], .tup [.int (p.rims.length : Int), .int 1], .tup [.int b1, .int b2], .tup [.int p.c, .int 1]]), .p (.int (a2 * b2)), .p (.tup [.int p.c, .int 1]), .p (.int T), .p (.tup [.int r.1, .int r.2]), .p (.tup [.int t.1, .int t.2]), .un, .un]) (s' := s) (by simp [-List.map_append, -List.map_flatten, ev_mul m8, lw1, lw2])).trans ?_
  refine (seq_ok (env := [.p p.d, .p (.int p.h), .p (iT p.pts), .p (.tup (p.rims.map iT)), .p (.int p.c), .p (.lst (p.rims.flatten.map .int)), z', .p (.lst [.tup [.int (2 * p.h), .int 1], .tup [.int a1, .int a2], .tup [.int (p.rims.length : Int), .int 1], .tup [.int b1, .int b2], .tup [.int p.c, .int 1]]), .p (.int (a2 * b2)), .p (.tup [.int p.c, .int 1]), .p (.int T), .p (.tup [.int r.1, .int r.2]), .p (.tup [.int t.1, .int t.2]), .un, .un]) (e := [.p p.d, .p (.int p.h), .p (iT p.pts), .p (.tup (p.rims.map iT)), .p (.int p.c), .p (.lst (p.rims.flatten.map .int)), z', .p (.lst [.tup [.int (2 * p.h), .int 1], .tup [.int a1, .int a2], .tup [.int (p.rims.length : Int), .int 1], .tup [.int b1, .int b2], .tup [.int p.c, .int 1]]), .p (.int (a2 * b2)), .p (.tup [.int p.c, .int 1]), .p (.int T), .p (.tup [.int r.1, .int r.2]), .p (.tup [.int t.1, .int t.2]), .p (.str (wordOf t)), .un]) (s' := s) (by
    rw [← ww]
    by_cases q1 : t.1 = 0
    · by_cases q3 : t.2 = 1 <;> simp [-List.map_append, -List.map_flatten, slN, ev_eq_pr, q1, q3]
    · by_cases q2 : 0 < t.1 <;> simp [-List.map_append, -List.map_flatten, slN, ev_eq_pr, q1, q2])).trans ?_
  refine (seq_ok (env := [.p p.d, .p (.int p.h), .p (iT p.pts), .p (.tup (p.rims.map iT)), .p (.int p.c), .p (.lst (p.rims.flatten.map .int)), z', .p (.lst [.tup [.int (2 * p.h), .int 1], .tup [.int a1, .int a2], .tup [.int (p.rims.length : Int), .int 1], .tup [.int b1, .int b2], .tup [.int p.c, .int 1]]), .p (.int (a2 * b2)), .p (.tup [.int p.c, .int 1]), .p (.int T), .p (.tup [.int r.1, .int r.2]), .p (.tup [.int t.1, .int t.2]), .p (.str (wordOf t)), .un]) (e := [.p p.d, .p (.int p.h), .p (iT p.pts), .p (.tup (p.rims.map iT)), .p (.int p.c), .p (.lst (p.rims.flatten.map .int)), z', .p (.lst [.tup [.int (2 * p.h), .int 1], .tup [.int a1, .int a2], .tup [.int (p.rims.length : Int), .int 1], .tup [.int b1, .int b2], .tup [.int p.c, .int 1]]), .p (.int (a2 * b2)), .p (.tup [.int p.c, .int 1]), .p (.int T), .p (.tup [.int r.1, .int r.2]), .p (.tup [.int t.1, .int t.2]), .p (.str (wordOf t)), .p (.lst [.tup [.int r.1, .int r.2], .tup [.int t.1, .int t.2], .str (wordOf t), .tup [.tup [.int (2 * p.h), .int 1], .tup [.int a1, .int a2], .tup [.int (p.rims.length : Int), .int 1], .tup [.int b1, .int b2], .tup [.int p.c, .int 1]]])]) (s' := s) (by simp [-List.map_append, -List.map_flatten, slN, w1, w2, w3, w4])).trans ?_
  simp [slN, lk]
/-! ### the draws -/
theorem roll_ok {m : Int} (h : 0 < m) (h9 : m.natAbs.log2 < 9000) (s : S) : ∃ r s', F__law_roll [.cup, .int m] s = .ok (.int r) s' ∧ 0 ≤ r ∧ r < m := by
  unfold F__law_roll
  rw [ev_run2]
  by_cases hs : 0 < s.1
  · refine ⟨s.1 % m, (s.1 / m, s.2), ?_, Int.emod_nonneg _ (by omega), Int.emod_lt_of_pos _ h⟩
    simp [sf__law_roll, List.replicate, hs, ev_mod h, ev_div h h9]
  · have m1 : mulOk s.2 107 = true := by simp [mulOk]
    refine ⟨(s.2 * 107 + 1931) % 99881 / 29 % m, (s.1, (s.2 * 107 + 1931) % 99881), ?_, Int.emod_nonneg _ (by omega), Int.emod_lt_of_pos _ h⟩
    simp [sf__law_roll, List.replicate, hs, ev_mul m1, ev_mod (show (0 : Int) < 99881 by decide), ev_div (show (0 : Int) < 29 by decide) (show (29 : Int).natAbs.log2 < 9000 by decide), ev_mod h]
theorem some_ok {l : List D} (h : l ≠ []) (hl : l.length < 2 ^ 60) (s : S) : ∃ d s', F__law_some [.cup, .lst l] s = .ok d s' ∧ d ∈ l := by
  have h0 : 0 < l.length := List.length_pos_iff.mpr h
  obtain ⟨r, s', e, r0, r1⟩ := roll_ok (m := (l.length : Nat)) (by omega) (log_lt (k := 60) (by omega) (by decide)) s
  have hr : r.toNat < l.length := by omega
  refine ⟨l[r.toNat], s', ?_, List.getElem_mem hr⟩
  have e2 : L2.atI l r = some l[r.toNat] := by
    obtain ⟨n, rfl⟩ : ∃ n : Nat, r = n := ⟨r.toNat, by omega⟩
    rw [ev_atN]
    exact List.getElem?_eq_getElem _
  unfold F__law_some
  simp [ev_run2, sf__law_some, e, e2]
abbrev partE : EF := e2 dAdd (eC (.int 2)) (eCall F__law_some (aCons (eVar 0) (aCons (eLst (aCons (eC (.int 0)) (aCons (eC (.int 0)) (aCons (eC (.int 1)) (aCons (eC (.int 2)) (aCons (eC (.int 4)) (aCons (eCall F__law_roll (aCons (eVar 0) (aCons (eC (.int 99)) aNil))) aNil))))))) aNil)))
theorem part_loop : ∀ (ds : List D) (x z : Sl) (s : S), ∃ l s', lcM (bName 2) tTrue partE [.p .cup, x, z] ds s = .ok (l.map .int) s' ∧ l.length = ds.length ∧ In l
  | [], x, z, s => ⟨[], s, rfl, rfl, fun _ h => by simp at h⟩
  | d :: ds, x, z, s => by
    obtain ⟨r, s1, e1, r0, r1⟩ := roll_ok (m := 99) (by decide) (by decide) s
    obtain ⟨y, s2, e2', hy⟩ := some_ok (l := [.int 0, .int 0, .int 1, .int 2, .int 4, .int r]) (by simp) (show 6 < 2 ^ 60 by decide) s1
    obtain ⟨l, s3, e3, hl, hi⟩ := part_loop ds x z s2
    obtain ⟨v, rfl, v0, v1⟩ : ∃ v : Int, y = .int v ∧ 0 ≤ v ∧ v ≤ 98 := by
      simp only [List.mem_cons, List.mem_nil_iff, or_false] at hy
      rcases hy with rfl | rfl | rfl | rfl | rfl | rfl
      · exact ⟨_, rfl, by decide, by decide⟩
      · exact ⟨_, rfl, by decide, by decide⟩
      · exact ⟨_, rfl, by decide, by decide⟩
      · exact ⟨_, rfl, by decide, by decide⟩
      · exact ⟨_, rfl, by decide, by decide⟩
      · exact ⟨_, rfl, by omega, by omega⟩
    have ee : partE [.p .cup, x, .p d] s = .ok (.int (2 + v)) s2 := by simp [partE, slN, e1, e2']
    refine ⟨(2 + v) :: l, s3, ?_, by simp [hl], fun n hn => ?_⟩
    · rw [lc_t (e1 := [.p .cup, x, .p d]) rfl rfl ee, e3]
      rfl
    · rcases List.mem_cons.mp hn with rfl | hn
      · omega
      · exact hi n hn
theorem draw_parts (s : S) : ∃ l s', F__law_parts [.cup, .int 4] s = .ok (iT l) s' ∧ In l ∧ l.length ≤ 4 := by
  obtain ⟨r, s1, e1, r0, r1⟩ := roll_ok (m := 5) (by decide) (by decide) s
  obtain ⟨l, s2, e2', hl, hi⟩ := part_loop (rngD 0 r.toNat) (.p (.int 4)) .un s1
  rw [rng_len] at hl
  refine ⟨l, s2, ?_, hi, by omega⟩
  have hz : (rngD 0 r.toNat).length ≤ sizeLine := by rw [rng_len, sizeLine_eq]; omega
  have hr : (-4611686018427387904 ≤ r ∧ r < 4611686018427387904) := by omega
  unfold F__law_parts
  simp [ev_run2, sf__law_parts, List.replicate, e1, hr, hz]
  rw [e2']
  simp [iT]
theorem rim_loop : ∀ (ds : List D) (a b c z : Sl) (s : S), ∃ (rs : List (List Int)) (s' : S), lcM (bName 4) tTrue (eCall F__law_parts (aCons (eVar 0) (aCons (eC (.int 4)) aNil))) [.p .cup, a, b, c, z] ds s = .ok (rs.map iT) s' ∧ rs.length = ds.length ∧ ∀ r ∈ rs, In r ∧ r.length ≤ 4
  | [], a, b, c, z, s => ⟨[], s, rfl, rfl, fun _ h => by simp at h⟩
  | d :: ds, a, b, c, z, s => by
    obtain ⟨l, s1, e1, hi, hl⟩ := draw_parts s
    obtain ⟨rs, s2, e2', hr, ha⟩ := rim_loop ds a b c z s1
    have ee : eCall F__law_parts (aCons (eVar 0) (aCons (eC (.int 4)) aNil)) [.p .cup, a, b, c, .p d] s = .ok (iT l) s1 := by simp [e1]
    refine ⟨l :: rs, s2, ?_, by simp [hr], fun r h => ?_⟩
    · rw [lc_t (e1 := [.p .cup, a, b, c, .p d]) rfl rfl ee, e2']
      rfl
    · rcases List.mem_cons.mp h with rfl | h
      · exact ⟨hi, hl⟩
      · exact ha r h
theorem pick {l : List Int} (h : l ≠ []) (hl : l.length < 100) (s : S) : ∃ v s', F__law_some [.cup, .lst (l.map .int)] s = .ok (.int v) s' ∧ v ∈ l := by
  obtain ⟨d, s', e, hd⟩ := some_ok (l := l.map .int) (by simpa using h) (by rw [List.length_map]; omega) s
  obtain ⟨v, hv, rfl⟩ := List.mem_map.mp hd
  exact ⟨v, s', e, hv⟩
theorem piece_ok (s : S) : ∃ p s', F__law_piece [.cup] s = .ok (Pc.d p) s' ∧ p.Ok := by
  obtain ⟨h, s1, e1, h1⟩ := pick (l := [0, 0, 0, 1, 2]) (by simp) (by decide) s
  obtain ⟨c, s2, e2', c1⟩ := pick (l := [0, 0, 1, 3]) (by simp) (by decide) s1
  obtain ⟨n, s3, e3, n1⟩ := pick (l := [0, 0, 1, 1, 2, 3]) (by simp) (by decide) s2
  simp only [List.mem_cons, List.mem_nil_iff, or_false] at h1 c1 n1
  obtain ⟨rs, s4, e4, r1, r2⟩ := rim_loop (rngD 0 n.toNat) (.p (.int h)) (.p (.int c)) .un .un s3
  rw [rng_len] at r1
  obtain ⟨l, s5, e5, l1, l2⟩ := draw_parts s4
  have hn : (-4611686018427387904 ≤ n ∧ n < 4611686018427387904) := by omega
  have hz : (rngD 0 n.toNat).length ≤ sizeLine := by rw [rng_len, sizeLine_eq]; omega
  have eR : dSort (.lst (rs.map iT)) = some (.lst ((rs.map iT).mergeSort leD)) := by
    show (if srtOk (rs.map iT) then some (D.lst ((rs.map iT).mergeSort leD)) else none) = _
    rw [if_pos (show srtOk (rs.map iT) = true from srtOk_tups rs)]
  have eP : dSort (iT l) = some (.lst ((l.map D.int).mergeSort leD)) := by
    show (if srtOk (l.map D.int) then some (D.lst ((l.map D.int).mergeSort leD)) else none) = _
    rw [if_pos (srtOk_ints l)]
  have eM : (rs.map iT).mergeSort leD = (rs.mergeSort fun a b => leD (iT a) (iT b)).map iT :=
    (List.map_mergeSort (f := iT) (r := fun a b => leD (iT a) (iT b)) (s := leD) fun _ _ _ _ => rfl).symm
  have sM := sorted_leD (rs.map iT)
  rw [eM] at sM eR
  rw [sort_ints] at eP
  refine ⟨⟨h, l.mergeSort fun a b => decide (a ≤ b), rs.mergeSort fun a b => leD (iT a) (iT b), if h = 0 then c else 0⟩, s5, ?_, ?_⟩
  · simp only [List.map_cons, List.map_nil] at e1 e2' e3
    have main : sf__law_piece [.p .cup, .un, .un, .un, .un] s = .ok (.rt (Pc.d ⟨h, l.mergeSort fun a b => decide (a ≤ b), rs.mergeSort fun a b => leD (iT a) (iT b), if h = 0 then c else 0⟩)) s5 := by
      unfold sf__law_piece
      refine (seq_ok (e := [.p .cup, .p (.int h), .p (.int c), .un, .un]) (s' := s2) (by simp [slN, e1, e2'])).trans ?_
      refine (seq_ok (e := [.p .cup, .p (.int h), .p (.int c), .p (.tup ((rs.mergeSort fun a b => leD (iT a) (iT b)).map iT)), .un]) (s' := s4) (by simp [slN, e3, hn, hz, e4, eR])).trans ?_
      by_cases h0 : h = 0
      · subst h0
        simp [slN, e5, eP]
        simp [Pc.d, iT]
      · simp [slN, e5, eP, h0]
        simp [Pc.d, iT, h0]
    show R.bind (sf__law_piece [.p .cup, .un, .un, .un, .un] s) _ = _
    rw [main]
    rfl
  · have pm : (l.mergeSort fun a b => decide (a ≤ b)).Perm l := List.mergeSort_perm _ _
    have rm : (rs.mergeSort fun a b => leD (iT a) (iT b)).Perm rs := List.mergeSort_perm _ _
    refine ⟨by show 0 ≤ h ∧ h ≤ 4; omega, by show 0 ≤ (if h = 0 then c else 0) ∧ (if h = 0 then c else 0) ≤ 4; split <;> omega, ?_, fun n hn => l1 n (pm.mem_iff.mp hn), pm.length_eq ▸ l2, fun r hr => r2 r (rm.mem_iff.mp hr), (by show (rs.mergeSort fun a b => leD (iT a) (iT b)).length ≤ 4; rw [rm.length_eq]; omega), ?_, sM⟩
    · show h = 0 ∨ (if h = 0 then c else 0) = 0
      by_cases h0 : h = 0 <;> simp [h0]
    · have := List.pairwise_mergeSort (le := fun a b : Int => decide (a ≤ b)) (by intro a b c; simp; omega) (by intro a b; simp; omega) l
      exact this.imp fun h => by simpa using h
/-! ### the law -/
abbrev lawBody : SF := sIf (tNotF (tB (eCall F__law_right (aCons (eCall F__law_piece (aCons (eVar 1) aNil)) aNil)))) (sRet (eC (.bl false))) sNil
theorem law_loop (a : Sl) (r : PL.Env) : ∀ (ds : List D) (z : Sl) (s : S), ∃ z' s', forM (bName 2) lawBody ds (a :: .p .cup :: z :: r) s = .ok (.nx (a :: .p .cup :: z' :: r)) s' ∧ (ds = [] → z' = z) ∧ (∀ d, ds.getLast? = some d → z' = .p d)
  | [], z, s => ⟨z, s, rfl, fun _ => rfl, fun d h => by simp at h⟩
  | d :: ds, z, s => by
    obtain ⟨p, s1, e1, hp⟩ := piece_ok s
    obtain ⟨z', s2, e2', h1, h2⟩ := law_loop a r ds (.p d) s1
    refine ⟨z', s2, ?_, fun h => by simp at h, fun d' h => ?_⟩
    · have ee : lawBody (a :: .p .cup :: .p d :: r) s = .ok (.nx (a :: .p .cup :: .p d :: r)) s1 := by simp [lawBody, e1, right_ok hp]
      rw [ev_forS (env1 := a :: .p .cup :: .p d :: r) rfl, ee]
      exact e2'
    · cases ds with
      | nil => simp at h; rw [h1 rfl, h]
      | cons y ys => exact h2 d' (by simpa using h)
theorem tail_true (s : S) : st_law_14 [.un, .p .cup, .p (.int 11), .un, .un, .un, .un, .un, .un, .un, .un, .un, .un, .un] s = .ok (.rt (.bl true)) s := by kernel_rfl
theorem lawTrue : LawTrue := by
  intro ns hl hb
  obtain ⟨z', s', e, _, hz⟩ := law_loop .un (List.replicate 11 .un) (rngD 0 12) .un (cup0 ns)
  have := hz (.int 11) (by kernel_rfl)
  subst this
  refine ⟨s', ?_⟩
  have e0 : sFor (iRng1 (eC (.int 12))) (bName 2) lawBody ((List.replicate 14 Sl.un).set 1 (.p .cup)) (cup0 ns) = .ok (.nx [.un, .p .cup, .p (.int 11), .un, .un, .un, .un, .un, .un, .un, .un, .un, .un, .un]) s' := e
  exact (seq_ok e0).trans (tail_true s')
end L58
namespace L58
open PySem PySem.Spec PyProof.Rows L2 PL
theorem tabs_of {K : PySem.W.Frag} {H : Hp} (h : ∀ p ∈ ([("law", none)] : List He.Defn).map (He.cT K), H p.2 = some (.tbl #[])) : LamX.Tabs (gOf K).T H := fun p hp => by
  rw [List.mem_singleton.mp hp]
  exact LamX.TabS.nil (h _ (.head _))
def fa : List He.Fa := [(.glo "is_whole"), (.glo "is_tuple_of"), (.glo "are_turns"), (.glo "is_falling"), (.glo "fits"), (.glo "need_piece"), (.glo "corners_of"), (.glo "lowest"), (.glo "plus"), (.glo "points_cost"), (.glo "halved"), (.glo "parts_in"), (.glo "cost_in"), (.glo "rest_in"), (.glo "cost_of"), (.glo "rest_of_piece"), (.glo "rest_word"), (.glo "cost_parts"), (.glo "_law_cup"), (.glo "_law_roll"), (.glo "_law_some"), (.glo "_law_sort"), (.glo "_law_like"), (.glo "_law_low"), (.glo "_law_parts"), (.glo "_law_piece"), (.glo "_law_known"), (.glo "_law_no_pieces"), (.glo "_law_fails"), (.glo "_law_sum"), (.glo "_law_right"), (.glo "law"), (.free "abs"), (.free "all"), (.free "any"), (.free "bool"), (.free "int"), (.free "isinstance"), (.free "len"), (.free "list"), (.free "range"), (.free "sorted"), (.free "str"), (.free "sum"), (.free "tuple"), (.free "zip"), (.int "GREAT" 100), (.int "LEAST" 2), (.int "LONG" 8), (.int "MOST" 4), (.glo "PatternError"), (.exc "PatternError"), (.glo "InvalidPiece"), (.exc "InvalidPiece"), (.exm "PatternError" "PatternError" true), (.exm "InvalidPiece" "PatternError" true)]
def fn : List He.DefD := [⟨("is_whole", none), "is_whole", "is_whole", defArgs (top 5), defBody (top 5), defScope (top 5), [], []⟩, ⟨("is_tuple_of", none), "is_tuple_of", "is_tuple_of", defArgs (top 6), defBody (top 6), defScope (top 6), [], []⟩, ⟨("are_turns", none), "are_turns", "are_turns", defArgs (top 12), defBody (top 12), defScope (top 12), [], []⟩, ⟨("is_falling", none), "is_falling", "is_falling", defArgs (top 13), defBody (top 13), defScope (top 13), [], []⟩, ⟨("fits", none), "fits", "fits", defArgs (top 14), defBody (top 14), defScope (top 14), [], []⟩, ⟨("need_piece", none), "need_piece", "need_piece", defArgs (top 15), defBody (top 15), defScope (top 15), [], []⟩, ⟨("corners_of", none), "corners_of", "corners_of", defArgs (top 16), defBody (top 16), defScope (top 16), [], []⟩, ⟨("lowest", none), "lowest", "lowest", defArgs (top 18), defBody (top 18), defScope (top 18), [], []⟩, ⟨("plus", none), "plus", "plus", defArgs (top 19), defBody (top 19), defScope (top 19), [], []⟩, ⟨("points_cost", none), "points_cost", "points_cost", defArgs (top 21), defBody (top 21), defScope (top 21), [], []⟩, ⟨("halved", none), "halved", "halved", defArgs (top 22), defBody (top 22), defScope (top 22), [], []⟩, ⟨("parts_in", none), "parts_in", "parts_in", defArgs (top 23), defBody (top 23), defScope (top 23), [], []⟩, ⟨("cost_in", none), "cost_in", "cost_in", defArgs (top 24), defBody (top 24), defScope (top 24), [], []⟩, ⟨("rest_in", none), "rest_in", "rest_in", defArgs (top 25), defBody (top 25), defScope (top 25), [], []⟩, ⟨("cost_of", none), "cost_of", "cost_of", defArgs (top 26), defBody (top 26), defScope (top 26), [], []⟩, ⟨("rest_of_piece", none), "rest_of_piece", "rest_of_piece", defArgs (top 27), defBody (top 27), defScope (top 27), [], []⟩, ⟨("rest_word", none), "rest_word", "rest_word", defArgs (top 28), defBody (top 28), defScope (top 28), [], []⟩, ⟨("cost_parts", none), "cost_parts", "cost_parts", defArgs (top 29), defBody (top 29), defScope (top 29), [], []⟩, ⟨("_law_cup", none), "_law_cup", "_law_cup", defArgs (top 31), defBody (top 31), defScope (top 31), [], []⟩, ⟨("_law_roll", none), "_law_roll", "_law_roll", defArgs (top 32), defBody (top 32), defScope (top 32), [], []⟩, ⟨("_law_some", none), "_law_some", "_law_some", defArgs (top 33), defBody (top 33), defScope (top 33), [], []⟩, ⟨("_law_sort", none), "_law_sort", "_law_sort", defArgs (top 34), defBody (top 34), defScope (top 34), [], []⟩, ⟨("_law_like", none), "_law_like", "_law_like", defArgs (top 35), defBody (top 35), defScope (top 35), [], []⟩, ⟨("_law_low", none), "_law_low", "_law_low", defArgs (top 36), defBody (top 36), defScope (top 36), [], []⟩, ⟨("_law_parts", none), "_law_parts", "_law_parts", defArgs (top 37), defBody (top 37), defScope (top 37), [], []⟩, ⟨("_law_piece", none), "_law_piece", "_law_piece", defArgs (top 38), defBody (top 38), defScope (top 38), [], []⟩, ⟨("_law_known", none), "_law_known", "_law_known", defArgs (top 39), defBody (top 39), defScope (top 39), [], []⟩, ⟨("_law_no_pieces", none), "_law_no_pieces", "_law_no_pieces", defArgs (top 40), defBody (top 40), defScope (top 40), [], []⟩, ⟨("_law_fails", none), "_law_fails", "_law_fails", defArgs (top 41), defBody (top 41), defScope (top 41), [], []⟩, ⟨("_law_sum", none), "_law_sum", "_law_sum", defArgs (top 42), defBody (top 42), defScope (top 42), [], []⟩, ⟨("_law_right", none), "_law_right", "_law_right", defArgs (top 43), defBody (top 43), defScope (top 43), [], []⟩, ⟨("law", none), "law", "law", defArgs (top 44), defBody (top 44), defScope (top 44), [], []⟩]
def tf : List He.Defn := [("law", none)]
def excB (K : PySem.W.Frag) (D : Addr) : Bool := decide (PySem.W.findIn K (.ref D) "__getattribute__" = some (some (.builtin "BaseException.__getattribute__"))) && (decide (PySem.W.findIn K (.ref D) "__getattr__" = some none) && (decide (PySem.W.subIn K (.ref D) (.type "BaseException") = some true) && (PySem.W.hasDictIn K D && (decide (PySem.W.findIn K (.ref D) "__class__" = some (some (.builtin "object.__class__"))) && (decide (PySem.W.specialIn K (.builtin "object.__class__") "__get__" = some (some (.builtin "getset_descriptor.__get__"))) && (decide (PySem.W.takesIn K (.builtin "object.__class__") = some true) && decide (PySem.W.mroIn K D (.type "object") = some true)))))))
theorem excB_ok {K : PySem.W.Frag} {D : Addr} (h : excB K D = true) : ExcC K D := by
  simp only [excB, Bool.and_eq_true, decide_eq_true_eq] at h
  obtain ⟨h1, h2, h3, h4, h5, h6, h7, h8⟩ := h
  exact ⟨h1, h2, h3, h4, h5, h6, h7, h8⟩
def exL (K : PySem.W.Frag) : List Bool := [decide (PySem.W.nsIn K mainGlobals "gcd" = some (some (.builtin "math.gcd"))), excB K (He.ga K "PatternError"), excB K (He.ga K "InvalidPiece"), decide (PySem.W.kitOne K (.ref (He.ga K "PatternError")) (.ref (He.ga K "InvalidPiece")) = some false), decide (PySem.W.kitOne K (.ref (He.ga K "InvalidPiece")) (.ref (He.ga K "InvalidPiece")) = some true)]
def ex (K : PySem.W.Frag) : Bool := (exL K).all id
theorem ex_at {K : PySem.W.Frag} (h : ex K = true) (i : Nat) {b : Bool} (e : (exL K)[i]? = some b := by rfl) : b = true := List.all_eq_true.mp h b (List.mem_of_getElem? e)
theorem txt {P : Program} {w : World} {K : PySem.W.Frag} {h : Heap} {mg : Str → Option Value} {base : Heap} {h0 : Heap} (X : K.In h) (G : h.Ns mainGlobals mg) (c : He.SaysX fa fn [] tf ex w h0 K) (tb : ∀ p ∈ tf, LamX.TabB base mg (He.cT K p).1 (He.cT K p).2) : Txt P w mg base K := by
  have cD : He.SaysD fa fn K := congrArg (fun z : He.AlT => z.1) c.t
  exact {
    f_is_whole := cD.def_ 0 (d := ⟨("is_whole", none), "is_whole", "is_whole", defArgs (top 5), defBody (top 5), defScope (top 5), [], []⟩) rfl,
    f_is_tuple_of := cD.def_ 1 (d := ⟨("is_tuple_of", none), "is_tuple_of", "is_tuple_of", defArgs (top 6), defBody (top 6), defScope (top 6), [], []⟩) rfl,
    f_are_turns := cD.def_ 2 (d := ⟨("are_turns", none), "are_turns", "are_turns", defArgs (top 12), defBody (top 12), defScope (top 12), [], []⟩) rfl,
    f_is_falling := cD.def_ 3 (d := ⟨("is_falling", none), "is_falling", "is_falling", defArgs (top 13), defBody (top 13), defScope (top 13), [], []⟩) rfl,
    f_fits := cD.def_ 4 (d := ⟨("fits", none), "fits", "fits", defArgs (top 14), defBody (top 14), defScope (top 14), [], []⟩) rfl,
    f_need_piece := cD.def_ 5 (d := ⟨("need_piece", none), "need_piece", "need_piece", defArgs (top 15), defBody (top 15), defScope (top 15), [], []⟩) rfl,
    f_corners_of := cD.def_ 6 (d := ⟨("corners_of", none), "corners_of", "corners_of", defArgs (top 16), defBody (top 16), defScope (top 16), [], []⟩) rfl,
    f_lowest := cD.def_ 7 (d := ⟨("lowest", none), "lowest", "lowest", defArgs (top 18), defBody (top 18), defScope (top 18), [], []⟩) rfl,
    f_plus := cD.def_ 8 (d := ⟨("plus", none), "plus", "plus", defArgs (top 19), defBody (top 19), defScope (top 19), [], []⟩) rfl,
    f_points_cost := cD.def_ 9 (d := ⟨("points_cost", none), "points_cost", "points_cost", defArgs (top 21), defBody (top 21), defScope (top 21), [], []⟩) rfl,
    f_halved := cD.def_ 10 (d := ⟨("halved", none), "halved", "halved", defArgs (top 22), defBody (top 22), defScope (top 22), [], []⟩) rfl,
    f_parts_in := cD.def_ 11 (d := ⟨("parts_in", none), "parts_in", "parts_in", defArgs (top 23), defBody (top 23), defScope (top 23), [], []⟩) rfl,
    f_cost_in := cD.def_ 12 (d := ⟨("cost_in", none), "cost_in", "cost_in", defArgs (top 24), defBody (top 24), defScope (top 24), [], []⟩) rfl,
    f_rest_in := cD.def_ 13 (d := ⟨("rest_in", none), "rest_in", "rest_in", defArgs (top 25), defBody (top 25), defScope (top 25), [], []⟩) rfl,
    f_cost_of := cD.def_ 14 (d := ⟨("cost_of", none), "cost_of", "cost_of", defArgs (top 26), defBody (top 26), defScope (top 26), [], []⟩) rfl,
    f_rest_of_piece := cD.def_ 15 (d := ⟨("rest_of_piece", none), "rest_of_piece", "rest_of_piece", defArgs (top 27), defBody (top 27), defScope (top 27), [], []⟩) rfl,
    f_rest_word := cD.def_ 16 (d := ⟨("rest_word", none), "rest_word", "rest_word", defArgs (top 28), defBody (top 28), defScope (top 28), [], []⟩) rfl,
    f_cost_parts := cD.def_ 17 (d := ⟨("cost_parts", none), "cost_parts", "cost_parts", defArgs (top 29), defBody (top 29), defScope (top 29), [], []⟩) rfl,
    f__law_cup := cD.def_ 18 (d := ⟨("_law_cup", none), "_law_cup", "_law_cup", defArgs (top 31), defBody (top 31), defScope (top 31), [], []⟩) rfl,
    f__law_roll := cD.def_ 19 (d := ⟨("_law_roll", none), "_law_roll", "_law_roll", defArgs (top 32), defBody (top 32), defScope (top 32), [], []⟩) rfl,
    f__law_some := cD.def_ 20 (d := ⟨("_law_some", none), "_law_some", "_law_some", defArgs (top 33), defBody (top 33), defScope (top 33), [], []⟩) rfl,
    f__law_sort := cD.def_ 21 (d := ⟨("_law_sort", none), "_law_sort", "_law_sort", defArgs (top 34), defBody (top 34), defScope (top 34), [], []⟩) rfl,
    f__law_like := cD.def_ 22 (d := ⟨("_law_like", none), "_law_like", "_law_like", defArgs (top 35), defBody (top 35), defScope (top 35), [], []⟩) rfl,
    f__law_low := cD.def_ 23 (d := ⟨("_law_low", none), "_law_low", "_law_low", defArgs (top 36), defBody (top 36), defScope (top 36), [], []⟩) rfl,
    f__law_parts := cD.def_ 24 (d := ⟨("_law_parts", none), "_law_parts", "_law_parts", defArgs (top 37), defBody (top 37), defScope (top 37), [], []⟩) rfl,
    f__law_piece := cD.def_ 25 (d := ⟨("_law_piece", none), "_law_piece", "_law_piece", defArgs (top 38), defBody (top 38), defScope (top 38), [], []⟩) rfl,
    f__law_known := cD.def_ 26 (d := ⟨("_law_known", none), "_law_known", "_law_known", defArgs (top 39), defBody (top 39), defScope (top 39), [], []⟩) rfl,
    f__law_no_pieces := cD.def_ 27 (d := ⟨("_law_no_pieces", none), "_law_no_pieces", "_law_no_pieces", defArgs (top 40), defBody (top 40), defScope (top 40), [], []⟩) rfl,
    f__law_fails := cD.def_ 28 (d := ⟨("_law_fails", none), "_law_fails", "_law_fails", defArgs (top 41), defBody (top 41), defScope (top 41), [], []⟩) rfl,
    f__law_sum := cD.def_ 29 (d := ⟨("_law_sum", none), "_law_sum", "_law_sum", defArgs (top 42), defBody (top 42), defScope (top 42), [], []⟩) rfl,
    f__law_right := cD.def_ 30 (d := ⟨("_law_right", none), "_law_right", "_law_right", defArgs (top 43), defBody (top 43), defScope (top 43), [], []⟩) rfl,
    f_law := cD.def_ 31 (d := ⟨("law", none), "law", "law", defArgs (top 44), defBody (top 44), defScope (top 44), [], []⟩) rfl,
    m_is_whole := He.glo_ok X G (cD.fact 0 (f := .glo "is_whole") rfl),
    m_is_tuple_of := He.glo_ok X G (cD.fact 1 (f := .glo "is_tuple_of") rfl),
    m_are_turns := He.glo_ok X G (cD.fact 2 (f := .glo "are_turns") rfl),
    m_is_falling := He.glo_ok X G (cD.fact 3 (f := .glo "is_falling") rfl),
    m_fits := He.glo_ok X G (cD.fact 4 (f := .glo "fits") rfl),
    m_need_piece := He.glo_ok X G (cD.fact 5 (f := .glo "need_piece") rfl),
    m_corners_of := He.glo_ok X G (cD.fact 6 (f := .glo "corners_of") rfl),
    m_lowest := He.glo_ok X G (cD.fact 7 (f := .glo "lowest") rfl),
    m_plus := He.glo_ok X G (cD.fact 8 (f := .glo "plus") rfl),
    m_points_cost := He.glo_ok X G (cD.fact 9 (f := .glo "points_cost") rfl),
    m_halved := He.glo_ok X G (cD.fact 10 (f := .glo "halved") rfl),
    m_parts_in := He.glo_ok X G (cD.fact 11 (f := .glo "parts_in") rfl),
    m_cost_in := He.glo_ok X G (cD.fact 12 (f := .glo "cost_in") rfl),
    m_rest_in := He.glo_ok X G (cD.fact 13 (f := .glo "rest_in") rfl),
    m_cost_of := He.glo_ok X G (cD.fact 14 (f := .glo "cost_of") rfl),
    m_rest_of_piece := He.glo_ok X G (cD.fact 15 (f := .glo "rest_of_piece") rfl),
    m_rest_word := He.glo_ok X G (cD.fact 16 (f := .glo "rest_word") rfl),
    m_cost_parts := He.glo_ok X G (cD.fact 17 (f := .glo "cost_parts") rfl),
    m__law_cup := He.glo_ok X G (cD.fact 18 (f := .glo "_law_cup") rfl),
    m__law_roll := He.glo_ok X G (cD.fact 19 (f := .glo "_law_roll") rfl),
    m__law_some := He.glo_ok X G (cD.fact 20 (f := .glo "_law_some") rfl),
    m__law_sort := He.glo_ok X G (cD.fact 21 (f := .glo "_law_sort") rfl),
    m__law_like := He.glo_ok X G (cD.fact 22 (f := .glo "_law_like") rfl),
    m__law_low := He.glo_ok X G (cD.fact 23 (f := .glo "_law_low") rfl),
    m__law_parts := He.glo_ok X G (cD.fact 24 (f := .glo "_law_parts") rfl),
    m__law_piece := He.glo_ok X G (cD.fact 25 (f := .glo "_law_piece") rfl),
    m__law_known := He.glo_ok X G (cD.fact 26 (f := .glo "_law_known") rfl),
    m__law_no_pieces := He.glo_ok X G (cD.fact 27 (f := .glo "_law_no_pieces") rfl),
    m__law_fails := He.glo_ok X G (cD.fact 28 (f := .glo "_law_fails") rfl),
    m__law_sum := He.glo_ok X G (cD.fact 29 (f := .glo "_law_sum") rfl),
    m__law_right := He.glo_ok X G (cD.fact 30 (f := .glo "_law_right") rfl),
    m_law := He.glo_ok X G (cD.fact 31 (f := .glo "law") rfl),
    b_abs := He.free_ok X G (cD.fact 32 (f := .free "abs") rfl),
    b_all := He.free_ok X G (cD.fact 33 (f := .free "all") rfl),
    b_any := He.free_ok X G (cD.fact 34 (f := .free "any") rfl),
    b_bool := He.free_ok X G (cD.fact 35 (f := .free "bool") rfl),
    b_int := He.free_ok X G (cD.fact 36 (f := .free "int") rfl),
    b_isinstance := He.free_ok X G (cD.fact 37 (f := .free "isinstance") rfl),
    b_len := He.free_ok X G (cD.fact 38 (f := .free "len") rfl),
    b_list := He.free_ok X G (cD.fact 39 (f := .free "list") rfl),
    b_range := He.free_ok X G (cD.fact 40 (f := .free "range") rfl),
    b_sorted := He.free_ok X G (cD.fact 41 (f := .free "sorted") rfl),
    b_str := He.free_ok X G (cD.fact 42 (f := .free "str") rfl),
    b_sum := He.free_ok X G (cD.fact 43 (f := .free "sum") rfl),
    b_tuple := He.free_ok X G (cD.fact 44 (f := .free "tuple") rfl),
    b_zip := He.free_ok X G (cD.fact 45 (f := .free "zip") rfl),
    c_GREAT := He.int_ok X G (cD.fact 46 (f := .int "GREAT" 100) rfl),
    c_LEAST := He.int_ok X G (cD.fact 47 (f := .int "LEAST" 2) rfl),
    c_LONG := He.int_ok X G (cD.fact 48 (f := .int "LONG" 8) rfl),
    c_MOST := He.int_ok X G (cD.fact 49 (f := .int "MOST" 4) rfl),
    m_PatternError := He.glo_ok X G (cD.fact 50 (f := .glo "PatternError") rfl),
    x_PatternError := He.exc_ok (cD.fact 51 (f := .exc "PatternError") rfl),
    m_InvalidPiece := He.glo_ok X G (cD.fact 52 (f := .glo "InvalidPiece") rfl),
    x_InvalidPiece := He.exc_ok (cD.fact 53 (f := .exc "InvalidPiece") rfl),
    e_PatternError_PatternError := He.exm_ok (cD.fact 54 (f := .exm "PatternError" "PatternError" true) rfl),
    e_InvalidPiece_PatternError := He.exm_ok (cD.fact 55 (f := .exm "InvalidPiece" "PatternError" true) rfl),
    i_gcd := PySem.W.mg_of X G (of_decide_eq_true (ex_at c.more 0)),
    xc_PatternError := excB_ok (ex_at c.more 1),
    xc_InvalidPiece := excB_ok (ex_at c.more 2),
    kit_PatternError_InvalidPiece := of_decide_eq_true (ex_at c.more 3),
    kit_InvalidPiece_InvalidPiece := of_decide_eq_true (ex_at c.more 4),
    tb_law := tb _ (List.mem_of_getElem? (i := 0) rfl) }
abbrev Rr : PySem.W.OpenRow := PySem.W.OpenLaw.row PySem.Challenge.rw_patternsturn_k58_whole_costs_of_pieces
abbrev hk : PySem.W.Hook := He.hookX 5 fa fn [] tf ex
def ob (s : PySem.W.SharedT) : He.AlX := He.obsX 5 fa fn [] tf ex (HandSHeadRun.getT s)
theorem ob_eq (s : PySem.W.SharedT) : ob s = hk.obs s.abs := He.obsX_eq (HandSHeadRun.getT_eq s)
def loose0 : List Str := ["PatternError", "InvalidPiece", "is_whole", "is_tuple_of", "MOST", "LONG", "LEAST", "GREAT", "are_turns", "is_falling", "fits", "need_piece", "corners_of", "lowest", "plus", "points_cost", "halved", "parts_in", "cost_in", "rest_in", "cost_of", "rest_of_piece", "rest_word", "cost_parts"]
def loose1 : List Str := ["_law_cup", "_law_roll", "_law_some", "_law_sort", "_law_like", "_law_low", "_law_parts", "_law_piece", "_law_known", "_law_no_pieces", "_law_fails", "_law_sum", "_law_right"]
def loose : List Str := loose0 ++ loose1
theorem run (w : World) : HandSHeadRun.RunEqI Rr (PySem.W.view Rr.prog [0, 44]) hk ob 3000 loose w := by
  unfold HandSHeadRun.RunEqI
  kernel_rfl
end L58
open PySem PySem.W PySem.Calls PyProof.Rows
theorem PySem.Challenge.cw_patternsturn_k58_whole_costs_of_pieces_holds : PySem.Challenge.rw_patternsturn_k58_whole_costs_of_pieces.Holds := by
  w_on; o_law
  refine HandSHeadRun.head_imp (r := OpenLaw.row PySem.Challenge.rw_patternsturn_k58_whole_costs_of_pieces) (q := view (OpenLaw.row PySem.Challenge.rw_patternsturn_k58_whole_costs_of_pieces).prog [0, 44]) (H := L58.hk) (ob := L58.ob) (M := 3000) (loose := L58.loose) (d := HandSHeadRun.topDef (OpenLaw.row PySem.Challenge.rw_patternsturn_k58_whole_costs_of_pieces).prog 44) (kwd := []) L58.ob_eq
    L58.run (by kernel_rfl) (by kernel_rfl) (by kernel_rfl) (by rfl) (by first | assumption | decide +kernel) (by decide +kernel) ⟨rfl, rfl, rfl, rfl, rfl, by decide +kernel⟩ ?hw ?hc
  case hw => w_witness2
  case hc =>
    refine LamX.walk_ofTsE (l := PySem.Challenge.rw_patternsturn_k58_whole_costs_of_pieces) (n := 63) (k := 14) (x := "script") (CX := fun w => L2N.CX (PySem.Challenge.rw_patternsturn_k58_whole_costs_of_pieces).prog w) rfl (by decide) (by kernel_rfl) ⟨rfl, by decide, by decide⟩ ?F (fun _ _ _ _ _ ⟨_, _, _, _, _, _, _, _, _, _, _, _, z⟩ => z.elim)
    intro w mg fa h Y G hmg0
    obtain ⟨K, KX, c⟩ := Y
    have hmg : mg ("law" : PySem.Str) = some (.ref fa) := by
      have e : (HandSHeadRun.topDef (OpenLaw.row PySem.Challenge.rw_patternsturn_k58_whole_costs_of_pieces).prog 44).name = ("law" : PySem.Str) := by kernel_rfl
      rw [← e]
      exact hmg0
    have cD : He.SaysD L58.fa L58.fn K := congrArg (fun z : He.AlT => z.1) c.t
    have efa : fa = He.ga K "law" := by
      have e := hmg.symm.trans (He.glo_ok KX G (cD.fact 31 (f := .glo "law") rfl))
      cases e; rfl
    subst efa
    obtain ⟨fd, F⟩ := cD.def_ 31 (d := ⟨("law", none), "law", "law", L2.defArgs (L58.top 44), L2.defBody (L58.top 44), L2.defScope (L58.top 44), [], []⟩) rfl
    refine ⟨K, KX, fd, L58.tf.map (He.cT K), L58.spLaw K, fun p hp => ?_, fun p hp => ?_, fun p hp => ?_, fun s u => ?_, fun H a ns hl hb hT hS => ⟨a, ns, rfl, hS, hl, hb, L58.tabs_of hT, fun _ => rfl⟩, fun base hKb hGb hTB => L58.ok_law L58.lawTrue (L58.txt KX G c fun p hp => hTB _ (List.mem_map.mpr ⟨p, hp, rfl⟩)) F⟩
    · obtain ⟨q, hq, e⟩ := List.mem_map.mp hp
      subst e
      exact c.empty q hq
    · obtain ⟨q, hq, e⟩ := List.mem_map.mp hp
      subst e
      exact c.out q hq
    · obtain ⟨q, hq, e⟩ := List.mem_map.mp hp
      subst e
      exact PySem.W.codeHd_of_K KX (c.hd q hq)
    · exact (L2.FunD.bindsA (ps := ["script"]) F fun _ _ _ _ _ _ us hl => match us, hl with | [_], _ => rfl) s [u] rfl

