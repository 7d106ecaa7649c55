import PyProof.Rows.All
import Wide.All
import OpenK.AllK
import Wide.FinOn
import HandS.ForMost
import HandS.ForExc
import HandS.Walk
import HandS.Flow
import HandS.Wide
import HandS.TupAny
import HandS.More
import HandS.Deep
import PyProof.Rows.RuleB_pow
import HandS.Conv
import HandS.IsInst
import HandS.Gcd
import HandS.FStrTup
import HandS.Text
import KE.KxIndex
import HandS.CallSlots
import HandS.EndBits
import HandS.Ends
import HandS.Style
import KE.KIntText
import HandS.RaiseMore
import PyProof.StrLawsChain
import PyProof.Rows.ReprOcc
import PySem.Challenge.RW_trialslaidout_k00_levels_and_fractions
set_option Elab.async false
set_option linter.all false
set_option maxRecDepth 100000
set_option maxHeartbeats 2000000
namespace MP
open PySem PySem.Spec PyProof.Rows L2
abbrev St := L2.St
set_option autoImplicit false

/-! ### deep data, mutable things, outcomes -/
inductive D where
  | non | bl (b : Bool) | int (i : Int) | str (x : Str) | tup (ds : List D) | rls (ds : List D) | loc (n : Nat) | ty (n : String) | glb (x : Str)
inductive MO where
  | lst (xs : List D)
abbrev Hm := List MO
inductive Out (α : Type) where
  | ok (a : α) (h : Hm) | exc (c : Str) (v : D) (h : Hm) | stuck
def Out.bind {α β : Type} (o : Out α) (f : α → Hm → Out β) : Out β := match o with
  | .ok a h => f a h
  | .exc c v h => .exc c v h
  | .stuck => .stuck
abbrev Ls := List (Option D)
abbrev EM := Ls → Hm → Out D
/-- a list of values -/
abbrev AM := Ls → Hm → Out (List D)
/-- a test -/
abbrev BM := Ls → Hm → Out Bool
inductive Fl where
  | nx | rt (d : D) | bk | ct
inductive SOut where
  | ok (f : Fl) (ls : Ls) (h : Hm) | exc (c : Str) (v : D) (ls : Ls) (h : Hm) | stuck
abbrev SM := Ls → Hm → SOut

section
variable (K : PySem.W.Frag) (mg : Str → Option Value) (H : Hp) (ρ : List Addr)
/-- a tuple at a: tracked, or of the written part -/
def TupAt (a : Addr) (vs : List V) : Prop := H a = some (.tup vs) ∨ ∀ H' : Hp, SqT K H' a vs
/-- a list that nobody writes: the script, or one of the written part -/
def RoAt (a : Addr) (vs : List V) : Prop := (∃ o, H a = some (.frz o (.lst vs))) ∨ ∀ H' : Hp, SqL K H' a vs
mutual
inductive Rep : D → V → Prop where
  | non : Rep .non .non
  | bl {b : Bool} : Rep (.bl b) (.bl b)
  | int {i : Int} : Rep (.int i) (.int i)
  | str {x : Str} : Rep (.str x) (.str x)
  | ty {n : String} : Rep (.ty n) (.ty n)
  | loc {n : Nat} {a : Addr} (h : ρ[n]? = some a) : Rep (.loc n) (.ref a)
  | glb {x : Str} {v : V} {u : Value} (h : mg x = some u) (r : RelV v u) : Rep (.glb x) v
  | tup {ds : List D} {a : Addr} {vs : List V} (h : TupAt K H a vs) (r : Reps ds vs) : Rep (.tup ds) (.ref a)
  | rls {ds : List D} {a : Addr} {vs : List V} (h : RoAt K H a vs) (r : Reps ds vs) : Rep (.rls ds) (.ref a)
inductive Reps : List D → List V → Prop where
  | nil : Reps [] []
  | cons {d : D} {v : V} {ds : List D} {vs : List V} (h : Rep d v) (r : Reps ds vs) : Reps (d :: ds) (v :: vs)
end
def MOk (a : Addr) : MO → Prop
  | .lst xs => ∃ vs, H a = some (.lst vs) ∧ Reps K mg H ρ xs vs
structure HAbs (h : Hm) : Prop where
  len : ρ.length = h.length
  nd : ρ.Nodup
  obj : ∀ (i : Nat) (o : MO), h[i]? = some o → ∃ a, ρ[i]? = some a ∧ MOk K mg H ρ a o
def LRep (ls : Ls) (σ : St) : Prop := ls.length = σ.length ∧ ∀ (i : Nat) (d : D), ls[i]? = some (some d) → ∃ v, σ[i]? = some (some v) ∧ Rep K mg H ρ d v
end

/-- what may have become of the heap -/
structure Ext (ρ : List Addr) (H : Hp) (ρ' : List Addr) (H' : Hp) : Prop where
  pre : ρ <+: ρ'
  new : ∀ a, a ∈ ρ' → a ∉ ρ → H a = none
  old : ∀ a o, H a = some o → a ∉ ρ → H' a = some o
  tup : ∀ a xs, H a = some (.tup xs) → H' a = some (.tup xs)
  frz : ∀ a o u, H a = some (.frz o u) → H' a = some (.frz o u)
theorem Ext.refl {ρ : List Addr} {H : Hp} : Ext ρ H ρ H := ⟨List.prefix_rfl, fun _ h n => absurd h n, fun _ _ h _ => h, fun _ _ h => h, fun _ _ _ h => h⟩
theorem Ext.trans {ρ ρ' ρ'' : List Addr} {H H' H'' : Hp} (a : Ext ρ H ρ' H') (b : Ext ρ' H' ρ'' H'') : Ext ρ H ρ'' H'' where
  pre := a.pre.trans b.pre
  new := fun x h n => by
    by_cases hx : x ∈ ρ'
    · exact a.new x hx n
    · have h1 := b.new x h hx
      cases e : H x with
      | none => rfl
      | some o => rw [a.old x o e n] at h1; cases h1
  old := fun x o e n => by
    have h1 := a.old x o e n
    refine b.old x o h1 fun hx => ?_
    rw [a.new x hx n] at e; cases e
  tup := fun x xs e => b.tup x xs (a.tup x xs e)
  frz := fun x o u e => b.frz x o u (a.frz x o u e)

section
variable {K : PySem.W.Frag} {mg : Str → Option Value} {H H' : Hp} {ρ ρ' : List Addr}
theorem TupAt.sq {a : Addr} {vs : List V} (t : TupAt K H a vs) : SqT K H a vs := t.elim (fun h => .of h) (fun h => h H)
theorem TupAt.keep {a : Addr} {vs : List V} (t : TupAt K H a vs) (k : ∀ a xs, H a = some (.tup xs) → H' a = some (.tup xs)) : TupAt K H' a vs := t.elim (fun h => .inl (k _ _ h)) .inr
theorem RoAt.sq {a : Addr} {vs : List V} (t : RoAt K H a vs) : SqL K H a vs := t.elim (fun ⟨o, h⟩ => .inl (.inr ⟨o, h⟩)) (fun h => h H)
theorem RoAt.keep {a : Addr} {vs : List V} (t : RoAt K H a vs) (k : ∀ a o u, H a = some (.frz o u) → H' a = some (.frz o u)) : RoAt K H' a vs := t.elim (fun ⟨o, h⟩ => .inl ⟨o, k _ _ _ h⟩) .inr
mutual
theorem Rep.keep (k : ∀ a xs, H a = some (.tup xs) → H' a = some (.tup xs)) (z : ∀ a o u, H a = some (.frz o u) → H' a = some (.frz o u)) (p : ρ <+: ρ') : ∀ {d : D} {v : V}, Rep K mg H ρ d v → Rep K mg H' ρ' d v
  | _, _, .non => .non
  | _, _, .bl => .bl
  | _, _, .int => .int
  | _, _, .str => .str
  | _, _, .ty => .ty
  | _, _, .loc h => .loc (by
      obtain ⟨t, rfl⟩ := p
      rw [List.getElem?_append_left (List.getElem?_eq_some_iff.mp h).1]; exact h)
  | _, _, .glb h r => .glb h r
  | _, _, .tup h r => .tup (h.keep k) (Reps.keep k z p r)
  | _, _, .rls h r => .rls (h.keep z) (Reps.keep k z p r)
theorem Reps.keep (k : ∀ a xs, H a = some (.tup xs) → H' a = some (.tup xs)) (z : ∀ a o u, H a = some (.frz o u) → H' a = some (.frz o u)) (p : ρ <+: ρ') : ∀ {ds : List D} {vs : List V}, Reps K mg H ρ ds vs → Reps K mg H' ρ' ds vs
  | _, _, .nil => .nil
  | _, _, .cons h r => .cons (Rep.keep k z p h) (Reps.keep k z p r)
end
theorem Rep.ext {d : D} {v : V} (r : Rep K mg H ρ d v) (e : Ext ρ H ρ' H') : Rep K mg H' ρ' d v := r.keep e.tup e.frz e.pre
theorem Reps.ext {d : List D} {v : List V} (r : Reps K mg H ρ d v) (e : Ext ρ H ρ' H') : Reps K mg H' ρ' d v := r.keep e.tup e.frz e.pre
theorem LRep.ext {ls : Ls} {σ : St} (r : LRep K mg H ρ ls σ) (e : Ext ρ H ρ' H') : LRep K mg H' ρ' ls σ :=
  ⟨r.1, fun i d h => let ⟨v, h1, h2⟩ := r.2 i d h; ⟨v, h1, h2.ext e⟩⟩
theorem LRep.get {ls : Ls} {σ : St} {i : Nat} {d : D} (r : LRep K mg H ρ ls σ) (h : ls[i]? = some (some d)) : ∃ v, σ[i]? = some (some v) ∧ Rep K mg H ρ d v := r.2 i d h
theorem LRep.set {ls : Ls} {σ : St} {i : Nat} {d : D} {v : V} (r : LRep K mg H ρ ls σ) (q : Rep K mg H ρ d v) : LRep K mg H ρ (ls.set i (some d)) (σ.set i (some v)) := by
  refine ⟨by rw [List.length_set, List.length_set]; exact r.1, fun j e h => ?_⟩
  by_cases hj : i = j
  · subst hj
    rw [List.getElem?_set] at h
    simp only [if_true] at h
    split at h
    · rename_i hl
      cases h
      refine ⟨v, ?_, q⟩
      rw [List.getElem?_set]
      simp only [if_true]
      rw [if_pos (by rw [← r.1]; exact hl)]
    · cases h
  · rw [List.getElem?_set_ne hj] at h
    obtain ⟨u, h1, h2⟩ := r.2 j e h
    exact ⟨u, by rw [List.getElem?_set_ne hj]; exact h1, h2⟩
theorem Reps.length {ds : List D} {vs : List V} (r : Reps K mg H ρ ds vs) : ds.length = vs.length := by
  induction ds generalizing vs with
  | nil => cases r; rfl
  | cons d ds ih => cases r with | cons h r => simp [ih r]
theorem Reps.get : ∀ {ds : List D} {vs : List V}, Reps K mg H ρ ds vs → ∀ {i : Nat} {d : D}, ds[i]? = some d → ∃ v, vs[i]? = some v ∧ Rep K mg H ρ d v
  | _, _, .nil, _, _, h => by simp at h
  | _, _, .cons r _, 0, _, h => by simp at h; subst h; exact ⟨_, rfl, r⟩
  | _, _, .cons _ r, i + 1, _, h => by
    obtain ⟨v, h1, h2⟩ := Reps.get r (i := i) (by simpa using h)
    exact ⟨v, by simpa using h1, h2⟩
theorem Reps.getV : ∀ {ds : List D} {vs : List V}, Reps K mg H ρ ds vs → ∀ {i : Nat} {v : V}, vs[i]? = some v → ∃ d, ds[i]? = some d ∧ Rep K mg H ρ d v
  | _, _, .nil, _, _, h => by simp at h
  | _, _, .cons r _, 0, _, h => by simp at h; subst h; exact ⟨_, rfl, r⟩
  | _, _, .cons _ r, i + 1, _, h => by
    obtain ⟨v, h1, h2⟩ := Reps.getV r (i := i) (by simpa using h)
    exact ⟨v, by simpa using h1, h2⟩
theorem Reps.append {ds es : List D} {vs us : List V} (r : Reps K mg H ρ ds vs) (q : Reps K mg H ρ es us) : Reps K mg H ρ (ds ++ es) (vs ++ us) := by
  induction ds generalizing vs with
  | nil => cases r; exact q
  | cons d ds ih => cases r with | cons h r => exact .cons h (ih r)
theorem Reps.take {ds : List D} {vs : List V} (n : Nat) (r : Reps K mg H ρ ds vs) : Reps K mg H ρ (ds.take n) (vs.take n) := by
  induction n generalizing ds vs with
  | zero => exact .nil
  | succ n ih => cases r with
    | nil => exact .nil
    | cons h r => exact .cons h (ih r)
theorem Reps.drop {ds : List D} {vs : List V} (n : Nat) (r : Reps K mg H ρ ds vs) : Reps K mg H ρ (ds.drop n) (vs.drop n) := by
  induction n generalizing ds vs with
  | zero => exact r
  | succ n ih => cases r with
    | nil => exact .nil
    | cons h r => exact ih r
theorem Reps.set {ds : List D} {vs : List V} {d : D} {v : V} (n : Nat) (r : Reps K mg H ρ ds vs) (q : Rep K mg H ρ d v) : Reps K mg H ρ (ds.set n d) (vs.set n v) := by
  induction n generalizing ds vs with
  | zero => cases r with
    | nil => exact .nil
    | cons h r => exact .cons q r
  | succ n ih => cases r with
    | nil => exact .nil
    | cons h r => exact .cons h (ih r)
theorem Reps.reverse {ds : List D} {vs : List V} (r : Reps K mg H ρ ds vs) : Reps K mg H ρ ds.reverse vs.reverse := by
  induction ds generalizing vs with
  | nil => cases r; exact .nil
  | cons d ds ih => cases r with
    | cons h r => rw [List.reverse_cons, List.reverse_cons]; exact (ih r).append (.cons h .nil)
theorem Reps.last {ds : List D} {d : D} {vs : List V} {v : V} (r : Reps K mg H ρ ds vs) (q : Rep K mg H ρ d v) : Reps K mg H ρ (ds ++ [d]) (vs ++ [v]) := r.append (.cons q .nil)
theorem HAbs.get {h : Hm} {n : Nat} {o : MO} (A : HAbs K mg H ρ h) (e : h[n]? = some o) : ∃ a, ρ[n]? = some a ∧ MOk K mg H ρ a o := A.obj n o e
theorem MOk.mut {a : Addr} {o : MO} (m : MOk K mg H ρ a o) : ∃ u, H a = some u ∧ Mut (some u) := by
  cases o with
  | lst xs => obtain ⟨vs, e, _⟩ := m; exact ⟨_, e, trivial⟩
theorem HAbs.mut {h : Hm} (A : HAbs K mg H ρ h) {p : Addr} (hp : p ∈ ρ) : ∃ u, H p = some u ∧ Mut (some u) := by
  obtain ⟨i, hi, e⟩ := List.getElem_of_mem hp
  have hh : i < h.length := by rw [← A.len]; exact hi
  obtain ⟨a, e1, m⟩ := A.obj i h[i] (List.getElem?_eq_getElem hh)
  rw [List.getElem?_eq_getElem hi, e] at e1
  cases e1
  exact m.mut
theorem HAbs.fresh {h : Hm} (A : HAbs K mg H ρ h) {p : Addr} (n : H p = none) : p ∉ ρ := fun hp => by
  obtain ⟨u, e, _⟩ := A.mut hp
  rw [n] at e; cases e
theorem MOk.keep {a : Addr} {o : MO} (m : MOk K mg H ρ a o) (e : Ext ρ H ρ' H') (hs : H' a = H a) : MOk K mg H' ρ' a o := by
  cases o with
  | lst xs =>
    obtain ⟨vs, q1, q2⟩ := m
    exact ⟨vs, hs.trans q1, q2.ext e⟩
theorem Ext.push {a : Addr} {u : HO} (hn : H a = none) : Ext ρ H (ρ ++ [a]) (upd H a u) :=
  ⟨List.prefix_append _ _, fun b hb nb => by
      rcases List.mem_append.mp hb with z | z
      · exact absurd z nb
      · simp at z; subst z; exact hn,
    fun b o e _ => by rw [upd_ne (ne_of_none e hn)]; exact e, fun b o e => by rw [upd_ne (ne_of_none e hn)]; exact e, fun b o u e => by rw [upd_ne (ne_of_none e hn)]; exact e⟩
/-- a new object that is not ours to name -/
theorem Ext.laid {a : Addr} {u : HO} (hn : H a = none) : Ext ρ H ρ (upd H a u) :=
  ⟨List.prefix_rfl, fun b hb nb => absurd hb nb, fun b o e _ => by rw [upd_ne (ne_of_none e hn)]; exact e, fun b o e => by rw [upd_ne (ne_of_none e hn)]; exact e, fun b o u e => by rw [upd_ne (ne_of_none e hn)]; exact e⟩
/-- a new thing at the end: it stands in the heap already -/
theorem HAbs.own {h : Hm} {a : Addr} {o : MO} (A : HAbs K mg H ρ h) (na : a ∉ ρ) (ho : MOk K mg H (ρ ++ [a]) a o) : HAbs K mg H (ρ ++ [a]) (h ++ [o]) := by
  refine ⟨by simp [A.len], ?_, fun i p e => ?_⟩
  · rw [List.nodup_append]
    exact ⟨A.nd, by simp, fun b hb c hc => by simp at hc; subst hc; rintro rfl; exact na hb⟩
  · by_cases hi : i < h.length
    · rw [List.getElem?_append_left hi] at e
      obtain ⟨b, h1, h2⟩ := A.obj i p e
      refine ⟨b, by rw [List.getElem?_append_left (by rw [A.len]; exact hi)]; exact h1, ?_⟩
      cases p with
      | lst xs =>
        obtain ⟨vs, q1, q2⟩ := h2
        exact ⟨vs, q1, q2.keep (fun _ _ h => h) (fun _ _ _ h => h) (List.prefix_append _ _)⟩
    · have hi2 : i = h.length := by
        have := (List.getElem?_eq_some_iff.mp e).1
        simp at this; omega
      subst hi2
      rw [List.getElem?_append_right (Nat.le_refl _)] at e
      simp at e
      subst e
      exact ⟨a, by rw [List.getElem?_append_right (by rw [A.len]; exact Nat.le_refl _)]; simp [A.len], ho⟩
theorem HAbs.laid {h : Hm} {a : Addr} {u : HO} (A : HAbs K mg H ρ h) (hn : H a = none) : HAbs K mg (upd H a u) ρ h :=
  ⟨A.len, A.nd, fun i o e => let ⟨b, h1, h2⟩ := A.obj i o e; ⟨b, h1, h2.keep (Ext.laid hn) (upd_ne fun z => A.fresh hn (by rw [← z]; exact List.mem_of_getElem? h1))⟩⟩
theorem HAbs.push {h : Hm} {a : Addr} {u : HO} {o : MO} (A : HAbs K mg H ρ h) (hn : H a = none) (ho : MOk K mg (upd H a u) (ρ ++ [a]) a o) : HAbs K mg (upd H a u) (ρ ++ [a]) (h ++ [o]) :=
  (A.laid hn).own (A.fresh hn) ho
/-- the n-th thing is written -/
theorem Ext.write {a : Addr} {u u' : HO} (ha : a ∈ ρ) (h0 : H a = some u') (mu : Mut (some u')) : Ext ρ H ρ (upd H a u) :=
  ⟨List.prefix_rfl, fun b hb nb => absurd hb nb, fun b o e nb => by rw [upd_ne (fun z => nb (by rw [z]; exact ha))]; exact e,
    fun b o e => by rw [upd_ne (fun z => by rw [z, h0] at e; cases e; exact mu)]; exact e, fun b o w e => by rw [upd_ne (fun z => by rw [z, h0] at e; cases e; exact mu)]; exact e⟩
theorem HAbs.write {h : Hm} {a : Addr} {n : Nat} {u : HO} {o : MO} (A : HAbs K mg H ρ h) (hn : ρ[n]? = some a) (ho : MOk K mg (upd H a u) ρ a o) : HAbs K mg (upd H a u) ρ (h.set n o) := by
  obtain ⟨u', h0, mu⟩ := A.mut (List.mem_of_getElem? hn)
  refine ⟨by rw [List.length_set]; exact A.len, A.nd, fun i p e => ?_⟩
  by_cases hi : n = i
  · subst hi
    rw [List.getElem?_set] at e
    simp only [if_true] at e
    split at e
    · cases e; exact ⟨a, hn, ho⟩
    · cases e
  · rw [List.getElem?_set_ne hi] at e
    obtain ⟨b, h1, h2⟩ := A.obj i p e
    refine ⟨b, h1, h2.keep (Ext.write (List.mem_of_getElem? hn) h0 mu) (upd_ne fun z => hi ?_)⟩
    subst z
    exact (List.getElem?_inj (List.getElem?_eq_some_iff.mp hn).1 A.nd).mp (hn.trans h1.symm)
theorem HAbs.writeExt {h : Hm} {a : Addr} {n : Nat} {u : HO} (A : HAbs K mg H ρ h) (hn : ρ[n]? = some a) : Ext ρ H ρ (upd H a u) := by
  obtain ⟨u', h0, mu⟩ := A.mut (List.mem_of_getElem? hn)
  exact Ext.write (List.mem_of_getElem? hn) h0 mu
end
end MP

set_option Elab.async false
set_option linter.all false
set_option maxRecDepth 100000
set_option maxHeartbeats 2000000
set_option autoImplicit false
namespace MP
open PySem PySem.Spec PyProof.Rows L2

/-! ### what is wanted behind an outcome -/
def XRep (K : PySem.W.Frag) (mg : Str → Option Value) (H : Hp) (ρ : List Addr) (c : Str) (d : D) (cls : Value) (dx : Option Addr) : Prop :=
  mg c = some cls ∧ ∃ a v, dx = some a ∧ H a = some (.xd [("value", v)]) ∧ Rep K mg H ρ d v
def PostG {α β : Type} (K : PySem.W.Frag) (mg : Str → Option Value) (R : Hp → List Addr → α → β → Prop) (W' : Value → Option Addr → Hp → Prop) (H : Hp) (ρ : List Addr) (Q : β → Hp → Prop) : Out α → Prop
  | .ok a h => ∀ b H' ρ', Ext ρ H ρ' H' → R H' ρ' a b → HAbs K mg H' ρ' h → Q b H'
  | .exc c d h => ∀ cls dx H' ρ', Ext ρ H ρ' H' → XRep K mg H' ρ' c d cls dx → HAbs K mg H' ρ' h → W' cls dx H'
  | .stuck => False
section
variable {α β γ δ : Type} {K : PySem.W.Frag} {mg : Str → Option Value} {R : Hp → List Addr → α → β → Prop} {W' : Value → Option Addr → Hp → Prop} {H H1 : Hp} {ρ ρ1 : List Addr} {Q : β → Hp → Prop} {o : Out α}
theorem PostG.shift (P : PostG K mg R W' H ρ Q o) (e : Ext ρ H ρ1 H1) : PostG K mg R W' H1 ρ1 Q o := by
  cases o with
  | ok a h => exact fun b H' ρ' e' => P b H' ρ' (e.trans e')
  | exc c d h => exact fun cls dx H' ρ' e' => P cls dx H' ρ' (e.trans e')
  | stuck => exact P
end
/-- the reading of monadic code -/
def tG {α β : Type} (X : Cx) (W : WX) (R : Hp → List Addr → α → β → Prop) (m : Ls → Hm → Out α) : St → Hp → (β → Hp → Prop) → Prop :=
  fun σ H Q => ∃ ρ ls h, LRep X.K X.mg H ρ ls σ ∧ HAbs X.K X.mg H ρ h ∧ PostG X.K X.mg R (fun c d H' => W c d σ H') H ρ Q (m ls h)
abbrev RV (X : Cx) : Hp → List Addr → D → V → Prop := fun H ρ => Rep X.K X.mg H ρ
abbrev RA (X : Cx) : Hp → List Addr → List D → List V → Prop := fun H ρ => Reps X.K X.mg H ρ
abbrev RB : Hp → List Addr → Bool → Bool → Prop := fun _ _ a b => a = b
/-- a list or a tuple, to be read -/
def RQ (X : Cx) : Hp → List Addr → (Bool × List D) → V → Prop := fun H ρ q v => ∃ a vs, v = .ref a ∧ (if q.1 = true then SqL X.K H a vs else TupAt X.K H a vs) ∧ Reps X.K X.mg H ρ q.2 vs
/-- a new list that nobody else holds -/
def RL (X : Cx) (H0 : Hp) : Hp → List Addr → List D → V → Prop := fun H ρ ds v => ∃ a vs, v = .ref a ∧ H0 a = none ∧ a ∉ ρ ∧ H a = some (.lst vs) ∧ Reps X.K X.mg H ρ ds vs
section
variable (X : Cx) (W : WX)
def J (e : Expr) (m : EM) : Prop := PE X e (tG X W (RV X) m)
def JA (es : List Expr) (m : AM) : Prop := PA X es (tG X W (RA X) m)
def JT (e : Expr) (m : BM) : Prop := PT X e (tG X W RB m)
def JW (e : Expr) (m : BM) : Prop := PW X e (tG X W RB m)
def JQ (e : Expr) (m : Ls → Hm → Out (Bool × List D)) : Prop := PE X e (tG X W (RQ X) m)
def JL (e : Expr) (m : AM) : Prop := PE X e (fun σ H Q => tG X W (RL X H) m σ H Q)
end
section
variable {X : Cx} {W : WX}
theorem peW {e : Expr} {t t' : TE} (p : PE X e t) (h : ∀ σ H Q, t' σ H Q → t σ H Q) : PE X e t' := ⟨fun pins s σ H Q I q => p.run pins s σ H Q I (h σ H Q q)⟩
theorem ptW {e : Expr} {t t' : TT} (p : PT X e t) (h : ∀ σ H Q, t' σ H Q → t σ H Q) : PT X e t' := ⟨fun pins s σ H Q I q => p.run pins s σ H Q I (h σ H Q q)⟩
theorem pwW {e : Expr} {t t' : TT} (p : PW X e t) (h : ∀ σ H Q, t' σ H Q → t σ H Q) : PW X e t' := ⟨fun wh pins s σ H Q I q => p.run wh pins s σ H Q I (h σ H Q q)⟩
theorem paW {e : List Expr} {t t' : TA} (p : PA X e t) (h : ∀ σ H Q, t' σ H Q → t σ H Q) : PA X e t' := ⟨fun pos pins s σ H Q I q => p.run pos pins s σ H Q I (h σ H Q q)⟩
theorem psW {e : Stmt} {t t' : TS} (p : PS X e t) (h : ∀ D σ H, t' D σ H → t D σ H) : PS X e t' := ⟨fun pins s σ H D I q => p.run pins s σ H D I (h D σ H q)⟩
theorem pssW {e : List Stmt} {t t' : TS} (p : PSs X e t) (h : ∀ D σ H, t' D σ H → t D σ H) : PSs X e t' := ⟨fun pins s σ H D I q => p.run pins s σ H D I (h D σ H q)⟩
/-- one piece of monadic code, then the rest -/
theorem tG_bind0 {α β γ δ : Type} {R1 : Hp → List Addr → α → β → Prop} {R2 : Hp → List Addr → γ → δ → Prop} {m : Ls → Hm → Out α} {f : α → Hm → Out γ} {ls : Ls} {h : Hm} {σ : St} {H : Hp} {ρ : List Addr} {Q : δ → Hp → Prop} {Q1 : β → Hp → Prop}
    (LR : LRep X.K X.mg H ρ ls σ) (HA : HAbs X.K X.mg H ρ h) (P : PostG X.K X.mg R2 (fun c d H' => W c d σ H') H ρ Q ((m ls h).bind f))
    (k : ∀ a h1 b H1 ρ1, Ext ρ H ρ1 H1 → R1 H1 ρ1 a b → HAbs X.K X.mg H1 ρ1 h1 → LRep X.K X.mg H1 ρ1 ls σ → PostG X.K X.mg R2 (fun c d H' => W c d σ H') H ρ Q (f a h1) → Q1 b H1) : tG X W R1 m σ H Q1 := by
  refine ⟨ρ, ls, h, LR, HA, ?_⟩
  cases e : m ls h with
  | ok a h1 =>
    rw [e] at P
    exact fun b H1 ρ1 ex r ha => k a h1 b H1 ρ1 ex r ha (LR.ext ex) P
  | exc c d h1 => rw [e] at P; exact P
  | stuck => rw [e] at P; exact P
theorem tG_bind {α β γ δ : Type} {R1 : Hp → List Addr → α → β → Prop} {R2 : Hp → List Addr → γ → δ → Prop} {m : Ls → Hm → Out α} {f : α → Hm → Out γ} {ls : Ls} {h : Hm} {σ : St} {H : Hp} {ρ : List Addr} {Q : δ → Hp → Prop} {Q1 : β → Hp → Prop}
    (LR : LRep X.K X.mg H ρ ls σ) (HA : HAbs X.K X.mg H ρ h) (P : PostG X.K X.mg R2 (fun c d H' => W c d σ H') H ρ Q ((m ls h).bind f))
    (k : ∀ a h1 b H1 ρ1, Ext ρ H ρ1 H1 → R1 H1 ρ1 a b → HAbs X.K X.mg H1 ρ1 h1 → LRep X.K X.mg H1 ρ1 ls σ → PostG X.K X.mg R2 (fun c d H' => W c d σ H') H1 ρ1 Q (f a h1) → Q1 b H1) : tG X W R1 m σ H Q1 :=
  tG_bind0 LR HA P fun a h1 b H1 ρ1 e r ha lr p => k a h1 b H1 ρ1 e r ha lr (p.shift e)

/-! ### names, constants -/
def eVar (i : Nat) : EM := fun ls h => match ls[i]? with
  | some (some d) => .ok d h
  | _ => .stuck
def eC (d : D) : EM := fun _ h => .ok d h
theorem j_var (i : Nat) {e : Expr} (p : PE X e (tVar i)) : J X W e (eVar i) := peW p fun σ H Q ⟨ρ, ls, h, LR, HA, P⟩ => by
  unfold eVar at P
  split at P
  · rename_i d e1
    obtain ⟨v, e2, r⟩ := LR.get e1
    exact ⟨v, e2, P v H ρ .refl r HA⟩
  · exact P.elim
theorem j_c {e : Expr} {d : D} {v : V} (p : PE X e (tC v)) (r : ∀ H ρ, Rep X.K X.mg H ρ d v) : J X W e (eC d) := peW p fun σ H Q ⟨ρ, ls, h, LR, HA, P⟩ => P v H ρ .refl (r H ρ) HA
theorem j_int {i : Int} {k : Nat} {pos : Pos} : J X W (.Constant (.int i) k pos) (eC (.int i)) := j_c pe_int fun _ _ => .int
theorem j_bl {i : Bool} {k : Nat} {pos : Pos} : J X W (.Constant (.bool i) k pos) (eC (.bl i)) := j_c pe_bl fun _ _ => .bl
theorem j_non {k : Nat} {pos : Pos} : J X W (.Constant .none k pos) (eC .non) := j_c pe_non fun _ _ => .non
theorem j_str {x : Str} {k : Nat} {pos : Pos} : J X W (.Constant (.str x) k pos) (eC (.str x)) := j_c pe_str fun _ _ => .str
/-- a module's constant (an int, a text ..) -/
theorem j_glob {x : Str} {d : D} {v : V} {u : Value} {pos : Pos} (hm : X.mg x = some u) (r : RelV v u) (q : ∀ H ρ, Rep X.K X.mg H ρ d v) (hg : Gl X x := by rfl) (hd : (x == ("__debug__" : Str)) = false := by decide +kernel) : J X W (.Name x pos) (eC d) :=
  j_c (pe_glob hg hm r hd) q

/-! ### argument lists, displays -/
def aNil : AM := fun _ h => .ok [] h
def aCons (m : EM) (r : AM) : AM := fun ls h => (m ls h).bind fun d h1 => (r ls h1).bind fun ds h2 => .ok (d :: ds) h2
theorem ja_nil : JA X W [] aNil := paW pa_nil fun σ H Q ⟨ρ, ls, h, LR, HA, P⟩ => P [] H ρ .refl .nil HA
theorem ja_cons {e : Expr} {es : List Expr} {m : EM} {r : AM} (a : J X W e m) (b : JA X W es r) (hs : starEach (e :: es) X.env = (false, eval e X.env) :: starEach es X.env := by rfl) : JA X W (e :: es) (aCons m r) :=
  paW (pa_cons a b hs) fun σ H Q ⟨ρ, ls, h, LR, HA, P⟩ => tG_bind LR HA P fun d h1 v H1 ρ1 e1 r1 HA1 LR1 P1 => tG_bind LR1 HA1 P1 fun ds h2 vs H2 ρ2 e2 r2 HA2 LR2 P2 => P2 (v :: vs) H2 ρ2 .refl (.cons (r1.ext e2) r2) HA2
/-- (a, b, ..) -/
def eTup (m : AM) : EM := fun ls h => (m ls h).bind fun ds h1 => if ds.length ≤ sizeLine then .ok (.tup ds) h1 else .stuck
theorem j_tup {es : List Expr} {m : AM} {k : Nat} {pos : Pos} (a : JA X W es m) : J X W (.Tuple es k pos) (eTup m) :=
  peW (pe_tup a) fun σ H Q ⟨ρ, ls, h, LR, HA, P⟩ => tG_bind LR HA P fun ds h1 vs H1 ρ1 e1 r1 HA1 LR1 P1 => by
    split at P1
    · rename_i hz
      refine ⟨by rw [← r1.length]; exact hz, fun p hp => ?_⟩
      exact P1 (.ref p) (upd H1 p (.tup vs)) ρ1 (.laid hp) (.tup (.inl upd_same) (r1.ext (.laid hp))) (HA1.laid hp)
    · exact P1.elim
/-- [a, b, ..] -/
def lDisp (m : AM) : AM := fun ls h => (m ls h).bind fun ds h1 => if ds.length ≤ sizeLine then .ok ds h1 else .stuck
theorem fresh_back {K : PySem.W.Frag} {mg : Str → Option Value} {H H1 : Hp} {ρ ρ1 : List Addr} {h : Hm} (e : Ext ρ H ρ1 H1) (A : HAbs K mg H1 ρ1 h) {p : Addr} (n : H1 p = none) : H p = none ∧ p ∉ ρ1 := by
  have np := A.fresh n
  refine ⟨?_, np⟩
  cases q : H p with
  | none => rfl
  | some o =>
    have := e.old p o q fun z => np (e.pre.subset z)
    rw [n] at this; cases this
theorem jl_disp {es : List Expr} {m : AM} {pos : Pos} (a : JA X W es m) : JL X W (.List es pos) (lDisp m) :=
  peW (pe_lst a) fun σ H Q ⟨ρ, ls, h, LR, HA, P⟩ => tG_bind LR HA P fun ds h1 vs H1 ρ1 e1 r1 HA1 LR1 P1 => by
    split at P1
    · rename_i hz
      refine ⟨by rw [← r1.length]; exact hz, fun p hp => ?_⟩
      obtain ⟨f1, f2⟩ := fresh_back e1 HA1 hp
      exact P1 (.ref p) (upd H1 p (.lst vs)) ρ1 (.laid hp) ⟨p, vs, rfl, f1, f2, upd_same, r1.ext (.laid hp)⟩ (HA1.laid hp)
    · exact P1.elim
/-- a new list, kept -/
def eNew (m : AM) : EM := fun ls h => (m ls h).bind fun ds h1 => .ok (.loc h1.length) (h1 ++ [.lst ds])
theorem j_new {e : Expr} {m : AM} (a : JL X W e m) : J X W e (eNew m) := peW a fun σ H Q ⟨ρ, ls, h, LR, HA, P⟩ =>
  tG_bind0 (R1 := RL X H) LR HA P fun ds h1 v H1 ρ1 e1 r1 HA1 LR1 P1 => by
    obtain ⟨p, vs, rfl, n0, np, ep, r⟩ := r1
    refine P1 (.ref p) H1 (ρ1 ++ [p]) ⟨e1.pre.trans (List.prefix_append _ _), fun b hb nb => ?_, e1.old, e1.tup, e1.frz⟩ (.loc ?_)
      (HA1.own np ⟨vs, ep, r.keep (fun _ _ h => h) (fun _ _ _ h => h) (List.prefix_append _ _)⟩)
    · rcases List.mem_append.mp hb with z | z
      · exact e1.new b z nb
      · simp at z; subst z; exact n0
    · rw [List.getElem?_append_right (by rw [HA1.len]; exact Nat.le_refl _)]; simp [HA1.len]
/-! ### a list or a tuple to be read -/
def getL (h : Hm) (n : Nat) : Option (List D) := match h[n]? with
  | some (.lst ds) => some ds
  | none => none
def seqOf : D → Hm → Out (Bool × List D)
  | .tup ds, h => .ok (false, ds) h
  | .rls ds, h => .ok (true, ds) h
  | .loc n, h => (match getL h n with
    | some ds => .ok (true, ds) h
    | none => .stuck)
  | _, _ => .stuck
def eSeq (m : EM) : Ls → Hm → Out (Bool × List D) := fun ls h => (m ls h).bind seqOf
theorem getL_at {K : PySem.W.Frag} {mg : Str → Option Value} {H : Hp} {ρ : List Addr} {h : Hm} {n : Nat} {ds : List D} {a : Addr} (A : HAbs K mg H ρ h) (e : getL h n = some ds) (hn : ρ[n]? = some a) : ∃ vs, H a = some (.lst vs) ∧ Reps K mg H ρ ds vs := by
  unfold getL at e
  split at e
  · rename_i q
    cases e
    obtain ⟨b, e2, vs, e3, r⟩ := A.get q
    rw [hn] at e2; cases e2
    exact ⟨vs, e3, r⟩
  · cases e
def eSeqL (m : AM) : Ls → Hm → Out (Bool × List D) := fun ls h => (m ls h).bind fun ds h1 => .ok (true, ds) h1
theorem jq_of {e : Expr} {m : EM} (a : J X W e m) : JQ X W e (eSeq m) := peW a fun σ H Q ⟨ρ, ls, h, LR, HA, P⟩ => tG_bind LR HA P fun d h1 v H1 ρ1 e1 r1 HA1 LR1 P1 => by
  cases r1 with
  | tup t r => exact P1 _ H1 ρ1 .refl ⟨_, _, rfl, t, r⟩ HA1
  | rls t r => exact P1 _ H1 ρ1 .refl ⟨_, _, rfl, t.sq, r⟩ HA1
  | @loc n a hn =>
    have P2 : PostG X.K X.mg (RQ X) (fun c d H' => W c d σ H') H1 ρ1 Q (match getL h1 n with
      | some ds => .ok (true, ds) h1
      | none => .stuck) := P1
    cases q : getL h1 n with
    | some ds =>
      rw [q] at P2
      obtain ⟨vs, e3, r⟩ := getL_at HA1 q hn
      exact P2 _ H1 ρ1 .refl ⟨_, _, rfl, .of e3, r⟩ HA1
    | none => rw [q] at P2; exact P2.elim
  | _ => exact P1.elim
theorem jq_ofL {e : Expr} {m : AM} (a : JL X W e m) : JQ X W e (eSeqL m) := peW a fun σ H Q ⟨ρ, ls, h, LR, HA, P⟩ => tG_bind (R1 := RL X H) LR HA P fun ds h1 v H1 ρ1 e1 r1 HA1 LR1 P1 => by
  obtain ⟨p, vs, rfl, n0, np, ep, r⟩ := r1
  exact P1 _ H1 ρ1 .refl ⟨_, _, rfl, .of ep, r⟩ HA1
/-! ### operators -/
def eBin (g : D → D → Hm → Out D) (a b : EM) : EM := fun ls h => (a ls h).bind fun x h1 => (b ls h1).bind fun y h2 => g x y h2
def OpD (X : Cx) (W : WX) (g : D → D → Hm → Out D) (r : R2) : Prop := ∀ (x y : D) (v u : V) (H : Hp) (ρ : List Addr) (h : Hm) (σ : St) (Q : VK), Rep X.K X.mg H ρ x v → Rep X.K X.mg H ρ y u → HAbs X.K X.mg H ρ h →
  PostG X.K X.mg (RV X) (fun c d H' => W c d σ H') H ρ Q (g x y h) → r v u H Q
theorem j_bin {op : Operator} {r : R2} {g : D → D → Hm → Out D} {a b : Expr} {ma mb : EM} {pos : Pos} (ho : OpR X (binaryOp op) r) (hg : OpD X W g r) (ha : J X W a ma) (hb : J X W b mb) : J X W (.BinOp a op b pos) (eBin g ma mb) :=
  peW (pe_op ho ha hb) fun σ H Q ⟨ρ, ls, h, LR, HA, P⟩ => tG_bind LR HA P fun x h1 v H1 ρ1 e1 r1 HA1 LR1 P1 => tG_bind LR1 HA1 P1 fun y h2 u H2 ρ2 e2 r2 HA2 LR2 P2 => hg x y v u H2 ρ2 h2 σ Q (r1.ext e2) r2 HA2 P2
theorem j_cmp {op : CmpOp} {r : R2} {g : D → D → Hm → Out D} {a b : Expr} {ma mb : EM} {pos : Pos} (ho : OpR X (compareOp op) r) (hg : OpD X W g r) (ha : J X W a ma) (hb : J X W b mb) (hm : behindInMarks op b = false) : J X W (.Compare a [op] [b] pos) (eBin g ma mb) :=
  peW (pe_cmpR ho ha hb hm) fun σ H Q ⟨ρ, ls, h, LR, HA, P⟩ => tG_bind LR HA P fun x h1 v H1 ρ1 e1 r1 HA1 LR1 P1 => tG_bind LR1 HA1 P1 fun y h2 u H2 ρ2 e2 r2 HA2 LR2 P2 => hg x y v u H2 ρ2 h2 σ Q (r1.ext e2) r2 HA2 P2
/-- what is a bool, as a test -/
def toB : D → Hm → Out Bool
  | .bl b, h => .ok b h
  | _, _ => .stuck
def bOf (m : EM) : BM := fun ls h => (m ls h).bind toB
theorem Out.bind_assoc {α β γ : Type} (o : Out α) (f : α → Hm → Out β) (g : β → Hm → Out γ) : (o.bind f).bind g = o.bind fun a h => (f a h).bind g := by
  cases o <;> rfl
theorem toB_post {X : Cx} {W : WX} {σ : St} {H : Hp} {ρ : List Addr} {Q : Bool → Hp → Prop} {o : Out D} (P : PostG X.K X.mg RB (fun c d H' => W c d σ H') H ρ Q (o.bind toB)) :
    PostG X.K X.mg (RV X) (fun c d H' => W c d σ H') H ρ (fun x H' => ∃ k, x = .bl k ∧ Q k H') o := by
  cases o with
  | ok d h3 =>
    intro b H' ρ' ex rr ha'
    cases rr with
    | @bl k => exact ⟨k, rfl, P k H' ρ' ex rfl ha'⟩
    | _ => exact P.elim
  | exc c d h3 => exact P
  | stuck => exact P
theorem jt_cmp {op : CmpOp} {r : R2} {g : D → D → Hm → Out D} {a b : Expr} {ma mb : EM} {pos : Pos} (ho : OpR X (compareOp op) r) (hg : OpD X W g r) (ha : J X W a ma) (hb : J X W b mb) (hm : behindInMarks op b = false) : JT X W (.Compare a [op] [b] pos) (bOf (eBin g ma mb)) :=
  ptW (pt_cmpR ho ha hb hm) fun σ H Q ⟨ρ, ls, h, LR, HA, P⟩ => by
    show tG X W (RV X) ma σ H _
    exact tG_bind LR HA (toB_post P) fun x h1 v H1 ρ1 e1 r1 HA1 LR1 P1 => tG_bind LR1 HA1 P1 fun y h2 u H2 ρ2 e2 r2 HA2 LR2 P2 => hg x y v u H2 ρ2 h2 σ _ (r1.ext e2) r2 HA2 P2
end
end MP

set_option Elab.async false
set_option linter.all false
set_option maxRecDepth 100000
set_option maxHeartbeats 2000000
set_option autoImplicit false
namespace MP
open PySem PySem.Spec PyProof.Rows L2
section
variable {X : Cx} {W : WX}
theorem OpD.or {g : D → D → Hm → Out D} {r r' : R2} (h : ∀ (x y : D) (v u : V) (H : Hp) (ρ : List Addr) (h : Hm) (σ : St) (Q : VK), Rep X.K X.mg H ρ x v → Rep X.K X.mg H ρ y u → HAbs X.K X.mg H ρ h →
  PostG X.K X.mg (RV X) (fun c d H' => W c d σ H') H ρ Q (g x y h) → r v u H Q ∨ r' v u H Q) : OpD X W g (fun x y H Q => r x y H Q ∨ r' x y H Q) := h

/-! ### + - * // % ** -/
def dAdd : D → D → Hm → Out D
  | .int i, .int j, h => .ok (.int (i + j)) h
  | .str x, .str y, h => if x.length + y.length ≤ sizeLine then .ok (.str (x ++ y)) h else .stuck
  | .tup xs, .tup ys, h => if xs.length + ys.length ≤ sizeLine then .ok (.tup (xs ++ ys)) h else .stuck
  | _, _, _ => .stuck
theorem op_dAdd : OpD X W dAdd (fun x y H Q => (rI0 (fun i j => .int (i + j)) x y H Q ∨ (fun (x y : V) (H : Hp) (Q : VK) => ∃ i j, x = .str i ∧ y = .str j ∧ i.length + j.length ≤ sizeLine ∧ Q (.str (i ++ j)) H) x y H Q) ∨ rCatA X.K x y H Q) := by
  intro x y v u H ρ h σ Q rx ry HA P
  cases rx with
  | int => cases ry with
    | int => exact .inl (.inl ⟨_, _, rfl, rfl, P _ H ρ .refl .int HA⟩)
    | _ => exact P.elim
  | str => cases ry with
    | @str y =>
      rename_i x
      have P' : PostG X.K X.mg (RV X) (fun c d H' => W c d σ H') H ρ Q (if x.length + y.length ≤ sizeLine then .ok (.str (x ++ y)) h else .stuck) := P
      split at P'
      · rename_i hz
        exact .inl (.inr ⟨_, _, rfl, rfl, hz, P' _ H ρ .refl .str HA⟩)
      · exact P'.elim
    | _ => exact P.elim
  | @tup xs a vs t r => cases ry with
    | @tup ys b us t' r' =>
      have P' : PostG X.K X.mg (RV X) (fun c d H' => W c d σ H') H ρ Q (if xs.length + ys.length ≤ sizeLine then .ok (.tup (xs ++ ys)) h else .stuck) := P
      split at P'
      · rename_i hz
        refine .inr ⟨a, b, vs, us, rfl, rfl, t.sq, t'.sq, by rw [← r.length, ← r'.length]; exact hz, fun e => ?_, fun ne e => ?_, fun ne ne' p hp => ?_⟩
        · subst e
          cases r
          exact P' _ H ρ .refl (.tup t' r') HA
        · subst e
          cases r'
          refine P' _ H ρ .refl (.tup t ?_) HA
          rw [List.append_nil]; exact r
        · exact P' _ _ ρ (.laid hp) (.tup (.inl upd_same) ((r.append r').ext (.laid hp))) (HA.laid hp)
      · exact P'.elim
    | _ => exact P.elim
  | _ => exact P.elim
theorem j_add {a b : Expr} {ma mb : EM} {pos : Pos} (ha : J X W a ma) (hb : J X W b mb) : J X W (.BinOp a .Add b pos) (eBin dAdd ma mb) := j_bin ((op_add.or op_add_str).or op_catA) op_dAdd ha hb
def dSub : D → D → Hm → Out D
  | .int i, .int j, h => .ok (.int (i - j)) h
  | _, _, _ => .stuck
theorem j_sub {a b : Expr} {ma mb : EM} {pos : Pos} (ha : J X W a ma) (hb : J X W b mb) : J X W (.BinOp a .Sub b pos) (eBin dSub ma mb) := j_bin op_sub (fun x y v u H ρ h σ Q rx ry HA P => by
  cases rx with
  | int => cases ry with
    | int => exact ⟨_, _, rfl, rfl, P _ H ρ .refl .int HA⟩
    | _ => exact P.elim
  | _ => exact P.elim) ha hb
def mulOk (i j : Int) : Bool := decide (i.natAbs.log2 + j.natAbs.log2 < 1000000)
def dMul : D → D → Hm → Out D
  | .int i, .int j, h => if mulOk i j = true then .ok (.int (i * j)) h else .stuck
  | _, _, _ => .stuck
theorem j_mul {a b : Expr} {ma mb : EM} {pos : Pos} (ha : J X W a ma) (hb : J X W b mb) : J X W (.BinOp a .Mult b pos) (eBin dMul ma mb) := j_bin op_mulW (fun x y v u H ρ h σ Q rx ry HA P => by
  cases rx with
  | @int i => cases ry with
    | @int j =>
      have P' : PostG X.K X.mg (RV X) (fun c d H' => W c d σ H') H ρ Q (if mulOk i j = true then .ok (.int (i * j)) h else .stuck) := P
      split at P'
      · rename_i hz
        exact ⟨_, _, rfl, rfl, (of_decide_eq_true (p := i.natAbs.log2 + j.natAbs.log2 < 1000000) hz : CMulW i j), P' _ H ρ .refl .int HA⟩
      · exact P'.elim
    | _ => exact P.elim
  | _ => exact P.elim) ha hb
def dFdiv : D → D → Hm → Out D
  | .int i, .int j, h => if 0 < j ∧ j.natAbs.log2 < 9000 then .ok (.int (i / j)) h else .stuck
  | _, _, _ => .stuck
theorem j_fdiv {a b : Expr} {ma mb : EM} {pos : Pos} (ha : J X W a ma) (hb : J X W b mb) : J X W (.BinOp a .FloorDiv b pos) (eBin dFdiv ma mb) := j_bin op_fdivW (fun x y v u H ρ h σ Q rx ry HA P => by
  cases rx with
  | @int i => cases ry with
    | @int j =>
      have P' : PostG X.K X.mg (RV X) (fun c d H' => W c d σ H') H ρ Q (if 0 < j ∧ j.natAbs.log2 < 9000 then .ok (.int (i / j)) h else .stuck) := P
      split at P'
      · rename_i hz
        exact ⟨_, _, rfl, rfl, hz, P' _ H ρ .refl .int HA⟩
      · exact P'.elim
    | _ => exact P.elim
  | _ => exact P.elim) ha hb
def dMod : D → D → Hm → Out D
  | .int i, .int j, h => if 0 < j then .ok (.int (i % j)) h else .stuck
  | _, _, _ => .stuck
theorem j_mod {a b : Expr} {ma mb : EM} {pos : Pos} (ha : J X W a ma) (hb : J X W b mb) : J X W (.BinOp a .Mod b pos) (eBin dMod ma mb) := j_bin op_mod (fun x y v u H ρ h σ Q rx ry HA P => by
  cases rx with
  | @int i => cases ry with
    | @int j =>
      have P' : PostG X.K X.mg (RV X) (fun c d H' => W c d σ H') H ρ Q (if 0 < j then .ok (.int (i % j)) h else .stuck) := P
      split at P'
      · rename_i hz
        exact ⟨_, _, rfl, rfl, hz, P' _ H ρ .refl .int HA⟩
      · exact P'.elim
    | _ => exact P.elim
  | _ => exact P.elim) ha hb
def dPow : D → D → Hm → Out D
  | .int i, .int j, h => if 0 ≤ j ∧ (Builtin.Int.intBits i : Int) * j ≤ 2 ^ 27 then .ok (.int (i ^ j.toNat)) h else .stuck
  | _, _, _ => .stuck
theorem j_pow {a b : Expr} {ma mb : EM} {pos : Pos} (ha : J X W a ma) (hb : J X W b mb) : J X W (.BinOp a .Pow b pos) (eBin dPow ma mb) :=
  j_bin (r := rI (fun i j => 0 ≤ j ∧ (Builtin.Int.intBits i : Int) * j ≤ 2 ^ 27) fun i j => .int (i ^ j.toNat)) (opI fun _ _ _ _ _ _ _ hc q => pow_int hc.1 hc.2 q) (fun x y v u H ρ h σ Q rx ry HA P => by
  cases rx with
  | @int i => cases ry with
    | @int j =>
      have P' : PostG X.K X.mg (RV X) (fun c d H' => W c d σ H') H ρ Q (if 0 ≤ j ∧ (Builtin.Int.intBits i : Int) * j ≤ 2 ^ 27 then .ok (.int (i ^ j.toNat)) h else .stuck) := P
      split at P'
      · rename_i hz
        exact ⟨_, _, rfl, rfl, hz, P' _ H ρ .refl .int HA⟩
      · exact P'.elim
    | _ => exact P.elim
  | _ => exact P.elim) ha hb
def eNeg (m : EM) : EM := fun ls h => (m ls h).bind fun d h1 => match d with
  | .int i => .ok (.int (-i)) h1
  | _ => .stuck
theorem j_neg {a : Expr} {ma : EM} {pos : Pos} (ha : J X W a ma) : J X W (.UnaryOp .USub a pos) (eNeg ma) := peW (pe_un un_neg ha) fun σ H Q ⟨ρ, ls, h, LR, HA, P⟩ => tG_bind LR HA P fun x h1 v H1 ρ1 e1 r1 HA1 LR1 P1 => by
  cases r1 with
  | int => exact ⟨_, rfl, P1 _ H1 ρ1 .refl .int HA1⟩
  | _ => exact P1.elim

/-! ### < <= > >= of ints -/
def dCmp (p : Int → Int → Bool) : D → D → Hm → Out D
  | .int i, .int j, h => .ok (.bl (p i j)) h
  | _, _, _ => .stuck
theorem op_dCmp {p : Int → Int → Bool} : OpD X W (dCmp p) (rI0 fun i j => .bl (p i j)) := fun x y v u H ρ h σ Q rx ry HA P => by
  cases rx with
  | int => cases ry with
    | int => exact ⟨_, _, rfl, rfl, P _ H ρ .refl .bl HA⟩
    | _ => exact P.elim
  | _ => exact P.elim
abbrev dLt := dCmp fun i j => decide (i < j)
abbrev dLe := dCmp fun i j => decide (i ≤ j)
abbrev dGt := dCmp fun i j => decide (j < i)
abbrev dGe := dCmp fun i j => decide (j ≤ i)

/-! ### == of data -/
def pdF (h : Hm) : Nat → D → Option PyData
  | 0, _ => none
  | _ + 1, .non => some .none
  | _ + 1, .bl b => some (.bool b)
  | _ + 1, .int i => some (.int i)
  | _ + 1, .str x => some (.str x)
  | k + 1, .tup ds => (ds.mapM (pdF h k)).map .tuple
  | k + 1, .rls ds => (ds.mapM (pdF h k)).map .list
  | k + 1, .loc n => (getL h n).bind fun ds => (ds.mapM (pdF h k)).map .list
  | _ + 1, _ => none
theorem dp_all {K : PySem.W.Frag} {mg : Str → Option Value} {H : Hp} {ρ : List Addr} {f : D → Option PyData} (hf : ∀ d v p, Rep K mg H ρ d v → f d = some p → Dp K H v p) : ∀ {ds : List D} {vs : List V} {ps : List PyData}, Reps K mg H ρ ds vs → ds.mapM f = some ps → DpAll K H vs ps
  | [], _, ps, .nil, e => by
    simp at e; subst e; exact .nil
  | d :: ds, _, ps, .cons r rs, e => by
    rw [List.mapM_cons] at e
    cases q : f d with
    | none => rw [q] at e; cases e
    | some p =>
      rw [q] at e
      cases q2 : ds.mapM f with
      | none => rw [q2] at e; cases e
      | some ps' =>
        rw [q2] at e
        cases e
        exact .cons (hf _ _ _ r q) (dp_all hf rs q2)
theorem dp_of {K : PySem.W.Frag} {mg : Str → Option Value} {H : Hp} {ρ : List Addr} {h : Hm} (A : HAbs K mg H ρ h) : ∀ (k : Nat) (d : D) (v : V) (p : PyData), Rep K mg H ρ d v → pdF h k d = some p → Dp K H v p
  | 0, _, _, _, _, e => by cases e
  | k + 1, _, _, _, .non, e => by cases e; exact .non
  | k + 1, _, _, _, .bl, e => by cases e; exact .bl _
  | k + 1, _, _, _, .int, e => by cases e; exact .int _
  | k + 1, _, _, _, .str, e => by cases e; exact .str _
  | k + 1, .tup ds, _, _, .tup t r, e => by
    have e' : (ds.mapM (pdF h k)).map PyData.tuple = some _ := e
    cases q : ds.mapM (pdF h k) with
    | none => rw [q] at e'; cases e'
    | some ps => rw [q] at e'; cases e'; exact .tup t.sq (dp_all (dp_of A k) r q)
  | k + 1, .rls ds, _, _, .rls t r, e => by
    have e' : (ds.mapM (pdF h k)).map PyData.list = some _ := e
    cases q : ds.mapM (pdF h k) with
    | none => rw [q] at e'; cases e'
    | some ps => rw [q] at e'; cases e'; exact .lst t.sq (dp_all (dp_of A k) r q)
  | k + 1, .loc n, _, _, .loc hn, e => by
    have e' : ((getL h n).bind fun ds => (ds.mapM (pdF h k)).map PyData.list) = some _ := e
    cases q : getL h n with
    | none => rw [q] at e'; cases e'
    | some ds =>
      rw [q] at e'
      obtain ⟨vs, e3, r⟩ := getL_at A q hn
      have e' : (ds.mapM (pdF h k)).map PyData.list = some _ := e'
      cases q : ds.mapM (pdF h k) with
      | none => rw [q] at e'; cases e'
      | some ps => rw [q] at e'; cases e'; exact .lst (.of e3) (dp_all (dp_of A k) r q)
  | k + 1, _, _, _, .ty, e => by cases e
  | k + 1, _, _, _, .glb _ _, e => by cases e
/-- == by its answer f (the identity, or not) -/
def dEqG (f : Bool → Bool) : D → D → Hm → Out D
  | .int i, .int j, h => .ok (.bl (f (decide (i = j)))) h
  | .str i, .str j, h => .ok (.bl (f (decide (i = j)))) h
  | x, y, h => match pdF h 66 x, pdF h 66 y with
    | some p, some q => if SeqAt.shaped p = true ∧ SeqAt.shaped q = true then .ok (.bl (f (PyData.eqv p q))) h else .stuck
    | _, _ => .stuck
def dEq := dEqG fun b => b
def dNe := dEqG fun b => !b
theorem op_dEqG {f : Bool → Bool} : OpD X W (dEqG f) (fun x y H Q => (scal x y = true ∧ Q (.bl (f (decide (x = y)))) H) ∨ (∃ d e, Dp X.K H x d ∧ Dp X.K H y e ∧ SeqAt.shaped d = true ∧ SeqAt.shaped e = true ∧ Q (.bl (f (PyData.eqv d e))) H)) := by
  intro x y v u H ρ h σ Q rx ry HA P
  have gen : PostG X.K X.mg (RV X) (fun c d H' => W c d σ H') H ρ Q (match pdF h 66 x, pdF h 66 y with
    | some p, some q => if SeqAt.shaped p = true ∧ SeqAt.shaped q = true then .ok (.bl (f (PyData.eqv p q))) h else .stuck
    | _, _ => .stuck) → ∃ d e, Dp X.K H v d ∧ Dp X.K H u e ∧ SeqAt.shaped d = true ∧ SeqAt.shaped e = true ∧ Q (.bl (f (PyData.eqv d e))) H := by
    intro P
    cases q1 : pdF h 66 x with
    | none => rw [q1] at P; exact P.elim
    | some p => cases q2 : pdF h 66 y with
      | none => rw [q1, q2] at P; exact P.elim
      | some q =>
        rw [q1, q2] at P
        dsimp only at P
        split at P
        · rename_i hz
          exact ⟨p, q, dp_of HA 66 x v p rx q1, dp_of HA 66 y u q ry q2, hz.1, hz.2, P _ H ρ .refl .bl HA⟩
        · exact P.elim
  cases rx with
  | @int i =>
    cases ry with
    | @int j =>
      refine .inl ⟨rfl, ?_⟩
      have e : decide (V.int i = V.int j) = decide (i = j) := by by_cases h : i = j <;> simp [h]
      rw [e]
      exact P _ H ρ .refl .bl HA
    | _ => exact .inr (gen P)
  | @str i =>
    cases ry with
    | @str j =>
      refine .inl ⟨rfl, ?_⟩
      have e : decide (V.str i = V.str j) = decide (i = j) := by by_cases h : i = j <;> simp [h]
      rw [e]
      exact P _ H ρ .refl .bl HA
    | _ => exact .inr (gen P)
  | _ => exact .inr (gen P)
theorem j_eq {a b : Expr} {ma mb : EM} {pos : Pos} (hu : X.A.units + 64 < cLine) (ha : J X W a ma) (hb : J X W b mb) : J X W (.Compare a [.Eq] [b] pos) (eBin dEq ma mb) := j_cmp (op_eq.or (op_eqD hu)) op_dEqG ha hb (nomark _)
theorem j_ne {a b : Expr} {ma mb : EM} {pos : Pos} (hu : X.A.units + 64 < cLine) (ha : J X W a ma) (hb : J X W b mb) : J X W (.Compare a [.NotEq] [b] pos) (eBin dNe ma mb) := j_cmp (op_ne.or (op_neD hu)) op_dEqG ha hb (nomark _)
theorem jt_eq {a b : Expr} {ma mb : EM} {pos : Pos} (hu : X.A.units + 64 < cLine) (ha : J X W a ma) (hb : J X W b mb) : JT X W (.Compare a [.Eq] [b] pos) (bOf (eBin dEq ma mb)) := jt_cmp (op_eq.or (op_eqD hu)) op_dEqG ha hb (nomark _)
theorem jt_ne {a b : Expr} {ma mb : EM} {pos : Pos} (hu : X.A.units + 64 < cLine) (ha : J X W a ma) (hb : J X W b mb) : JT X W (.Compare a [.NotEq] [b] pos) (bOf (eBin dNe ma mb)) := jt_cmp (op_ne.or (op_neD hu)) op_dEqG ha hb (nomark _)
/-! ### in -/
def dInG (f : Bool → Bool) : D → D → Hm → Out D
  | .str x, .str z, h => if x.cps.size = 1 then .ok (.bl (f (decide (x.cps.toList.headD 0 ∈ z.cps.toList)))) h else .stuck
  | x, .loc n, h => (match pdF h 65 x, pdF h 65 (.loc n) with
    | some p, some (.list qs) => if SeqAt.shaped p = true ∧ SeqAt.shaped (.list qs) = true then .ok (.bl (f (qs.any fun z => PyData.eqv z p))) h else .stuck
    | _, _ => .stuck)
  | _, _, _ => .stuck
theorem op_dInG {f : Bool → Bool} : OpD X W (dInG f) (fun x y H Q => (∃ (c : Nat) (z : Str), x = .str ⟨#[c]⟩ ∧ y = .str z ∧ Q (.bl (f (decide (c ∈ z.cps.toList)))) H) ∨
    (∃ d ds, Dp X.K H x d ∧ Dp X.K H y (.list ds) ∧ SeqAt.shaped d = true ∧ SeqAt.shaped (.list ds) = true ∧ Q (.bl (f (ds.any fun z => PyData.eqv z d))) H)) := by
  intro x y v u H ρ h σ Q rx ry HA P
  have gen : ∀ n a, ρ[n]? = some a → PostG X.K X.mg (RV X) (fun c d H' => W c d σ H') H ρ Q (match pdF h 65 x, pdF h 65 (.loc n) with
    | some p, some (.list qs) => if SeqAt.shaped p = true ∧ SeqAt.shaped (.list qs) = true then .ok (.bl (f (qs.any fun z => PyData.eqv z p))) h else .stuck
    | _, _ => .stuck) → (∃ d ds, Dp X.K H v d ∧ Dp X.K H (.ref a) (.list ds) ∧ SeqAt.shaped d = true ∧ SeqAt.shaped (.list ds) = true ∧ Q (.bl (f (ds.any fun z => PyData.eqv z d))) H) := by
    intro n a hn P
    cases q1 : pdF h 65 x with
    | none => rw [q1] at P; exact P.elim
    | some p => cases q2 : pdF h 65 (.loc n) with
      | none => rw [q1, q2] at P; exact P.elim
      | some q =>
        rw [q1, q2] at P
        cases q with
        | list qs =>
          dsimp only at P
          split at P
          · rename_i hz
            exact ⟨p, qs, dp_of HA 65 x v p rx q1, dp_of HA 65 _ _ _ (.loc hn) q2, hz.1, hz.2, P _ H ρ .refl .bl HA⟩
          · exact P.elim
        | _ => exact P.elim
  cases rx with
  | @str x =>
    cases ry with
    | @str z =>
      have P' : PostG X.K X.mg (RV X) (fun c d H' => W c d σ H') H ρ Q (if x.cps.size = 1 then .ok (.bl (f (decide (x.cps.toList.headD 0 ∈ z.cps.toList)))) h else .stuck) := P
      split at P'
      · rename_i hz
        obtain ⟨⟨l⟩⟩ := x
        match l, hz with
        | [c], _ => exact .inl ⟨c, z, rfl, rfl, P' _ H ρ .refl .bl HA⟩
      · exact P'.elim
    | @loc n a hn => exact .inr (gen n a hn P)
    | _ => exact P.elim
  | _ =>
    cases ry with
    | @loc n a hn => exact .inr (gen n a hn P)
    | _ => exact P.elim
abbrev dIn := dInG fun b => b
abbrev dNotIn := dInG fun b => !b
theorem in_hu {A : Around} {k : Nat} (hr : Room k A) : A.units + 65 < cLine := by have := hr.un; omega
theorem j_in {a b : Expr} {ma mb : EM} {pos : Pos} (hu : X.A.units + 65 < cLine) (ha : J X W a ma) (hb : J X W b mb) (hm : behindInMarks .In b = false := by rfl) : J X W (.Compare a [.In] [b] pos) (eBin dIn ma mb) := j_cmp (op_in_sign.or (op_inD hu)) op_dInG ha hb hm
theorem jt_in {a b : Expr} {ma mb : EM} {pos : Pos} (hu : X.A.units + 65 < cLine) (ha : J X W a ma) (hb : J X W b mb) (hm : behindInMarks .In b = false := by rfl) : JT X W (.Compare a [.In] [b] pos) (bOf (eBin dIn ma mb)) := jt_cmp (op_in_sign.or (op_inD hu)) op_dInG ha hb hm
theorem j_notIn {a b : Expr} {ma mb : EM} {pos : Pos} (hu : X.A.units + 65 < cLine) (ha : J X W a ma) (hb : J X W b mb) (hm : behindInMarks .NotIn b = false := by rfl) : J X W (.Compare a [.NotIn] [b] pos) (eBin dNotIn ma mb) := j_cmp (op_notIn_sign.or (op_notInD hu)) op_dInG ha hb hm
theorem jt_notIn {a b : Expr} {ma mb : EM} {pos : Pos} (hu : X.A.units + 65 < cLine) (ha : J X W a ma) (hb : J X W b mb) (hm : behindInMarks .NotIn b = false := by rfl) : JT X W (.Compare a [.NotIn] [b] pos) (bOf (eBin dNotIn ma mb)) := jt_cmp (op_notIn_sign.or (op_notInD hu)) op_dInG ha hb hm
/-! ### is None -/
def dIsN (f : Bool → Bool) : D → D → Hm → Out D
  | .non, .non, h => .ok (.bl (f true)) h
  | .glb _, .non, _ => .stuck
  | _, .non, h => .ok (.bl (f false)) h
  | _, _, _ => .stuck
theorem op_dIsN {f : Bool → Bool} : OpD X W (dIsN f) (fun x y H Q => y = .non ∧ Q (.bl (f (decide (x = .non)))) H) := by
  intro x y v u H ρ h σ Q rx ry HA P
  cases ry with
  | non =>
    refine ⟨rfl, ?_⟩
    cases rx with
    | glb _ _ => exact P.elim
    | _ => exact P _ H ρ .refl .bl HA
  | _ => cases rx <;> exact P.elim
theorem j_isN {a b : Expr} {ma mb : EM} {pos : Pos} (ha : J X W a ma) (hb : J X W b mb) : J X W (.Compare a [.Is] [b] pos) (eBin (dIsN fun b => b) ma mb) := j_cmp op_isN op_dIsN ha hb (nomark _)
theorem j_notN {a b : Expr} {ma mb : EM} {pos : Pos} (ha : J X W a ma) (hb : J X W b mb) : J X W (.Compare a [.IsNot] [b] pos) (eBin (dIsN fun b => !b) ma mb) := j_cmp op_notN op_dIsN ha hb (nomark _)
theorem jt_isN {a b : Expr} {ma mb : EM} {pos : Pos} (ha : J X W a ma) (hb : J X W b mb) : JT X W (.Compare a [.Is] [b] pos) (bOf (eBin (dIsN fun b => b) ma mb)) := jt_cmp op_isN op_dIsN ha hb (nomark _)
theorem jt_notN {a b : Expr} {ma mb : EM} {pos : Pos} (ha : J X W a ma) (hb : J X W b mb) : JT X W (.Compare a [.IsNot] [b] pos) (bOf (eBin (dIsN fun b => !b) ma mb)) := jt_cmp op_notN op_dIsN ha hb (nomark _)
/-! ### truth, and, or, not, if -/
def dTru : D → Hm → Out Bool
  | .non, h => .ok false h
  | .bl b, h => .ok b h
  | .int i, h => .ok (i != 0) h
  | .str y, h => if y.length ≤ sizeLine then .ok ((y.length : Int) != 0) h else .stuck
  | .tup ds, h => .ok (!ds.isEmpty) h
  | .rls ds, h => .ok (!ds.isEmpty) h
  | .loc n, h => (match getL h n with
    | some ds => .ok (!ds.isEmpty) h
    | none => .stuck)
  | _, _ => .stuck
theorem isEmpty_reps {K : PySem.W.Frag} {mg : Str → Option Value} {H : Hp} {ρ : List Addr} {ds : List D} {vs : List V} (r : Reps K mg H ρ ds vs) : ds.isEmpty = vs.isEmpty := by cases r <;> rfl
theorem tru_of {K : PySem.W.Frag} {mg : Str → Option Value} {H : Hp} {ρ : List Addr} {h h' : Hm} {d : D} {v : V} {b : Bool} (A : HAbs K mg H ρ h) (r : Rep K mg H ρ d v) (e : dTru d h = .ok b h') : h' = h ∧ TruV K v H b := by
  cases r with
  | non => cases e; exact ⟨rfl, rfl⟩
  | bl => cases e; exact ⟨rfl, rfl⟩
  | int => cases e; exact ⟨rfl, rfl⟩
  | @str y =>
    have e' : (if y.length ≤ sizeLine then .ok ((y.length : Int) != 0) h else .stuck) = Out.ok b h' := e
    split at e'
    · rename_i hz; cases e'; exact ⟨rfl, hz, rfl⟩
    · cases e'
  | tup t r => cases e; exact ⟨rfl, .inr (.inl ⟨_, t.sq, by rw [isEmpty_reps r]⟩)⟩
  | rls t r => cases e; exact ⟨rfl, .inl ⟨_, t.sq, by rw [isEmpty_reps r]⟩⟩
  | @loc n a hn =>
    have e' : (match getL h n with
      | some ds => .ok (!ds.isEmpty) h
      | none => .stuck) = Out.ok b h' := e
    cases q : getL h n with
    | none => rw [q] at e'; cases e'
    | some ds =>
      rw [q] at e'
      cases e'
      obtain ⟨vs, e3, r⟩ := getL_at A q hn
      exact ⟨rfl, .inl ⟨vs, .of e3, by rw [isEmpty_reps r]⟩⟩
  | ty => cases e
  | glb _ _ => cases e
theorem dTru_noexc {d : D} {h h' : Hm} {c : Str} {w : D} : dTru d h ≠ .exc c w h' := by
  intro e
  unfold dTru at e
  (repeat' split at e) <;> cases e
def bTru (m : EM) : BM := fun ls h => (m ls h).bind dTru
theorem jt_tru {a : Expr} {ma : EM} (ha : J X W a ma) (he : ∀ whole, isTrue a X.env whole = (do let v ← whole; standAt a.pos; holding [v] (truthy v)) := by intro _; rfl) : JT X W a (bTru ma) := ptW (pt_truth ha he) fun σ H Q ⟨ρ, ls, h, LR, HA, P⟩ => tG_bind (R2 := RB) LR HA P fun d h1 v H1 ρ1 e1 r1 HA1 LR1 P1 => by
  cases q : dTru d h1 with
  | ok b h2 =>
    rw [q] at P1
    obtain ⟨rfl, t⟩ := tru_of HA1 r1 q
    exact ⟨b, t, P1 b H1 ρ1 .refl rfl HA1⟩
  | exc c w h2 => exact absurd q dTru_noexc
  | stuck => rw [q] at P1; exact P1.elim
def bAnd (a b : BM) : BM := fun ls h => (a ls h).bind fun c h1 => if c = true then b ls h1 else .ok false h1
def bOr (a b : BM) : BM := fun ls h => (a ls h).bind fun c h1 => if c = true then .ok true h1 else b ls h1
def bNot (a : BM) : BM := fun ls h => (a ls h).bind fun c h1 => .ok (!c) h1
theorem jw_and1 {a : Expr} {ma : BM} {pos : Pos} (ha : JT X W a ma) : JW X W (.BoolOp .And [a] pos) ma := pw_and1 ha
theorem jw_or1 {a : Expr} {ma : BM} {pos : Pos} (ha : JT X W a ma) : JW X W (.BoolOp .Or [a] pos) ma := pw_or1 ha
theorem jw_and {a b : Expr} {rest : List Expr} {ma mb : BM} {pos : Pos} (ha : JT X W a ma) (hb : JW X W (.BoolOp .And (b :: rest) pos) mb) : JW X W (.BoolOp .And (a :: b :: rest) pos) (bAnd ma mb) :=
  pwW (pw_and ha hb) fun σ H Q ⟨ρ, ls, h, LR, HA, P⟩ => tG_bind (R2 := RB) LR HA P fun c h1 c' H1 ρ1 e1 r1 HA1 LR1 P1 => by
    cases r1
    cases c with
    | true => exact ⟨ρ1, ls, h1, LR1, HA1, P1⟩
    | false => exact P1 false H1 ρ1 .refl rfl HA1
theorem jw_or {a b : Expr} {rest : List Expr} {ma mb : BM} {pos : Pos} (ha : JT X W a ma) (hb : JW X W (.BoolOp .Or (b :: rest) pos) mb) : JW X W (.BoolOp .Or (a :: b :: rest) pos) (bOr ma mb) :=
  pwW (pw_or ha hb) fun σ H Q ⟨ρ, ls, h, LR, HA, P⟩ => tG_bind (R2 := RB) LR HA P fun c h1 c' H1 ρ1 e1 r1 HA1 LR1 P1 => by
    cases r1
    cases c with
    | false => exact ⟨ρ1, ls, h1, LR1, HA1, P1⟩
    | true => exact P1 true H1 ρ1 .refl rfl HA1
theorem jt_w {e : Expr} {m : BM} (h : JW X W e m) : JT X W e m := PW.pt h
theorem jt_not {a : Expr} {ma : BM} {pos : Pos} (ha : JT X W a ma) : JT X W (.UnaryOp .Not a pos) (bNot ma) := ptW (pt_not ha) fun σ H Q ⟨ρ, ls, h, LR, HA, P⟩ => tG_bind (R2 := RB) LR HA P fun c h1 c' H1 ρ1 e1 r1 HA1 LR1 P1 => by
  cases r1
  exact P1 _ H1 ρ1 .refl rfl HA1
/-- as values -/
def eAnd (a b : EM) : EM := fun ls h => (a ls h).bind fun d h1 => (dTru d h1).bind fun k h2 => if k = true then b ls h2 else .ok d h2
def eOr (a b : EM) : EM := fun ls h => (a ls h).bind fun d h1 => (dTru d h1).bind fun k h2 => if k = true then .ok d h2 else b ls h2
def eNot (a : EM) : EM := fun ls h => (a ls h).bind fun d h1 => (dTru d h1).bind fun k h2 => .ok (.bl (!k)) h2
theorem j_one {op : BoolOp} {a : Expr} {ma : EM} {pos : Pos} (ha : J X W a ma) : J X W (.BoolOp op [a] pos) ma := pe_one ha
theorem tru_step {d : D} {v : V} {H1 : Hp} {ρ1 : List Addr} {h1 : Hm} {σ : St} {Q : VK} {f : Bool → Hm → Out D} {G : Prop} (A : HAbs X.K X.mg H1 ρ1 h1) (r : Rep X.K X.mg H1 ρ1 d v) (P : PostG X.K X.mg (RV X) (fun c d H' => W c d σ H') H1 ρ1 Q ((dTru d h1).bind f))
    (k : ∀ b, TruV X.K v H1 b → PostG X.K X.mg (RV X) (fun c d H' => W c d σ H') H1 ρ1 Q (f b h1) → G) : G := by
  cases q : dTru d h1 with
  | ok b h2 =>
    rw [q] at P
    obtain ⟨rfl, t⟩ := tru_of A r q
    exact k b t P
  | exc c w h2 => exact absurd q dTru_noexc
  | stuck => rw [q] at P; exact P.elim
theorem j_and {a b : Expr} {rest : List Expr} {ma mb : EM} {pos : Pos} (ha : J X W a ma) (hb : J X W (.BoolOp .And (b :: rest) pos) mb) : J X W (.BoolOp .And (a :: b :: rest) pos) (eAnd ma mb) :=
  peW (pe_andT ha hb) fun σ H Q ⟨ρ, ls, h, LR, HA, P⟩ => tG_bind LR HA P fun d h1 v H1 ρ1 e1 r1 HA1 LR1 P1 => tru_step HA1 r1 P1 fun k t P2 => ⟨k, t, by
    cases k with
    | true => exact ⟨ρ1, ls, h1, LR1, HA1, P2⟩
    | false => exact P2 _ H1 ρ1 .refl r1 HA1⟩
theorem j_or {a b : Expr} {rest : List Expr} {ma mb : EM} {pos : Pos} (ha : J X W a ma) (hb : J X W (.BoolOp .Or (b :: rest) pos) mb) : J X W (.BoolOp .Or (a :: b :: rest) pos) (eOr ma mb) :=
  peW (pe_orT ha hb) fun σ H Q ⟨ρ, ls, h, LR, HA, P⟩ => tG_bind LR HA P fun d h1 v H1 ρ1 e1 r1 HA1 LR1 P1 => tru_step HA1 r1 P1 fun k t P2 => ⟨k, t, by
    cases k with
    | false => exact ⟨ρ1, ls, h1, LR1, HA1, P2⟩
    | true => exact P2 _ H1 ρ1 .refl r1 HA1⟩
theorem j_not {a : Expr} {ma : EM} {pos : Pos} (ha : J X W a ma) : J X W (.UnaryOp .Not a pos) (eNot ma) :=
  peW (pe_notT ha) fun σ H Q ⟨ρ, ls, h, LR, HA, P⟩ => tG_bind LR HA P fun d h1 v H1 ρ1 e1 r1 HA1 LR1 P1 => tru_step HA1 r1 P1 fun k t P2 => ⟨k, t, P2 _ H1 ρ1 .refl .bl HA1⟩
def eIf (c : BM) (a b : EM) : EM := fun ls h => (c ls h).bind fun k h1 => if k = true then a ls h1 else b ls h1
theorem j_if {c a b : Expr} {mc : BM} {ma mb : EM} {pos : Pos} (hc : JT X W c mc) (ha : J X W a ma) (hb : J X W b mb) : J X W (.IfExp c a b pos) (eIf mc ma mb) :=
  peW (pe_ifExp hc ha hb) fun σ H Q ⟨ρ, ls, h, LR, HA, P⟩ => tG_bind LR HA P fun k h1 k' H1 ρ1 e1 r1 HA1 LR1 P1 => by
    cases r1
    cases k with
    | true => exact ⟨ρ1, ls, h1, LR1, HA1, P1⟩
    | false => exact ⟨ρ1, ls, h1, LR1, HA1, P1⟩
/-! ### a op b op' c -/
def eChain (g g' : D → D → Hm → Out D) (a b c : EM) : EM := fun ls h => (a ls h).bind fun x h1 => (b ls h1).bind fun y h2 => (g x y h2).bind fun z h3 => (toB z h3).bind fun k h4 => if k = true then (c ls h4).bind fun w h5 => g' y w h5 else .ok (.bl false) h4
/-- a comparison's way: nothing is made, a bool comes -/
def Pure (g : D → D → Hm → Out D) : Prop := ∀ x y h d h', g x y h = .ok d h' → h' = h ∧ ∃ k, d = .bl k
def NoExc (g : D → D → Hm → Out D) : Prop := ∀ x y h c d h', g x y h ≠ .exc c d h'
theorem pure_dCmp {p : Int → Int → Bool} : Pure (dCmp p) := fun x y h d h' e => by
  unfold dCmp at e
  split at e
  · cases e; exact ⟨rfl, _, rfl⟩
  · cases e
theorem noexc_dCmp {p : Int → Int → Bool} : NoExc (dCmp p) := fun x y h c d h' e => by
  unfold dCmp at e
  split at e <;> cases e
theorem chain_core {g g' : D → D → Hm → Out D} {r r' : R2} {ma mb mc : EM} {σ : St} {H : Hp} {Q : VK} {ρ : List Addr} {ls : Ls} {h : Hm} (hp : Pure g) (hx : NoExc g) (hg : OpD X W g r) (hg' : OpD X W g' r') (LR : LRep X.K X.mg H ρ ls σ) (HA : HAbs X.K X.mg H ρ h)
    (P : PostG X.K X.mg (RV X) (fun c d H' => W c d σ H') H ρ Q (eChain g g' ma mb mc ls h)) : tChain r r' (tG X W (RV X) ma) (tG X W (RV X) mb) (tG X W (RV X) mc) σ H Q :=
  tG_bind LR HA P fun x h1 v H1 ρ1 e1 r1 HA1 LR1 P1 => tG_bind LR1 HA1 P1 fun y h2 u H2 ρ2 e2 r2 HA2 LR2 P2 => hg x y v u H2 ρ2 h2 σ _ (r1.ext e2) r2 HA2 (by
    cases q : g x y h2 with
    | ok d h3 =>
      rw [q] at P2
      obtain ⟨rfl, k, rfl⟩ := hp _ _ _ _ _ q
      intro b H' ρ' ex rr ha'
      cases rr
      refine ⟨k, rfl, ?_⟩
      cases k with
      | true => exact tG_bind (LR2.ext ex) ha' (PostG.shift (o := (mc ls h3).bind fun w h5 => g' y w h5) P2 ex) fun w h5 z H5 ρ5 e5 r5 HA5 LR5 P5 => hg' y w u z H5 ρ5 h5 σ Q ((r2.ext ex).ext e5) r5 HA5 P5
      | false => exact P2 _ H' ρ' ex .bl ha'
    | exc c d h3 => exact absurd q (hx _ _ _ _ _ _)
    | stuck => rw [q] at P2; exact P2)
theorem j_chain {op op' : CmpOp} {r r' : R2} {g g' : D → D → Hm → Out D} {a b c : Expr} {ma mb mc : EM} {pos : Pos} (hp : Pure g) (hx : NoExc g) (ho : OpR X (compareOp op) r) (hg : OpD X W g r) (ho' : OpR X (compareOp op') r') (hg' : OpD X W g' r') (ha : J X W a ma) (hb : J X W b mb) (hc : J X W c mc)
    (hm : lastMarks [op, op'] [b, c] = false := by rfl) : J X W (.Compare a [op, op'] [b, c] pos) (eChain g g' ma mb mc) :=
  peW (pe_chain ho ho' ha hb hc hm) fun σ H Q ⟨ρ, ls, h, LR, HA, P⟩ => chain_core hp hx hg hg' LR HA P
theorem jt_chain {op op' : CmpOp} {r r' : R2} {g g' : D → D → Hm → Out D} {a b c : Expr} {ma mb mc : EM} {pos : Pos} (hp : Pure g) (hx : NoExc g) (ho : OpR X (compareOp op) r) (hg : OpD X W g r) (ho' : OpR X (compareOp op') r') (hg' : OpD X W g' r') (ha : J X W a ma) (hb : J X W b mb) (hc : J X W c mc)
    (hm : lastMarks [op, op'] [b, c] = false := by rfl) : JT X W (.Compare a [op, op'] [b, c] pos) (bOf (eChain g g' ma mb mc)) :=
  ptW (pt_chain ho ho' ha hb hc hm) fun σ H Q ⟨ρ, ls, h, LR, HA, P⟩ => chain_core hp hx hg hg' LR HA (toB_post P)
end
end MP

set_option Elab.async false
set_option linter.all false
set_option maxRecDepth 100000
set_option maxHeartbeats 2000000
set_option autoImplicit false
namespace MP
open PySem PySem.Spec PyProof.Rows L2
section
variable {X : Cx} {W : WX}
/-! ### statements -/
def FlP (X : Cx) (D : Ends) (σ : St) (H : Hp) (ρ : List Addr) : Fl → Prop
  | .nx => D.nx σ H
  | .rt d => ∀ v, Rep X.K X.mg H ρ d v → D.rt v H
  | .bk => D.bk σ H
  | .ct => D.ct σ H
def PostS (X : Cx) (W : WX) (H : Hp) (ρ : List Addr) (D : Ends) : SOut → Prop
  | .ok f ls h => ∀ σ' H' ρ', Ext ρ H ρ' H' → LRep X.K X.mg H' ρ' ls σ' → HAbs X.K X.mg H' ρ' h → FlP X D σ' H' ρ' f
  | .exc c d ls h => ∀ σ' cls dx H' ρ', Ext ρ H ρ' H' → LRep X.K X.mg H' ρ' ls σ' → XRep X.K X.mg H' ρ' c d cls dx → HAbs X.K X.mg H' ρ' h → W cls dx σ' H'
  | .stuck => False
theorem PostS.shift {H H1 : Hp} {ρ ρ1 : List Addr} {D : Ends} {o : SOut} (P : PostS X W H ρ D o) (e : Ext ρ H ρ1 H1) : PostS X W H1 ρ1 D o := by
  cases o with
  | ok a ls h => exact fun b H' ρ' e' => P b H' ρ' (e.trans e')
  | exc c d ls h => exact fun σ' cls dx H' ρ' e' => P σ' cls dx H' ρ' (e.trans e')
  | stuck => exact P
def tS (X : Cx) (W : WX) (m : SM) : TS := fun D σ H => ∃ ρ ls h, LRep X.K X.mg H ρ ls σ ∧ HAbs X.K X.mg H ρ h ∧ PostS X W H ρ D (m ls h)
def JS (X : Cx) (W : WX) (s : Stmt) (m : SM) : Prop := PS X s (tS X W m)
def JSs (X : Cx) (W : WX) (s : List Stmt) (m : SM) : Prop := PSs X s (tS X W m)
def Out.sb {α : Type} (o : Out α) (ls : Ls) (f : α → Hm → SOut) : SOut := match o with
  | .ok a h => f a h
  | .exc c d h => .exc c d ls h
  | .stuck => .stuck
theorem tS_bind0 {α β : Type} {R1 : Hp → List Addr → α → β → Prop} {m : Ls → Hm → Out α} {f : α → Hm → SOut} {ls : Ls} {h : Hm} {σ : St} {H : Hp} {ρ : List Addr} {D : Ends} {Q1 : β → Hp → Prop}
    (LR : LRep X.K X.mg H ρ ls σ) (HA : HAbs X.K X.mg H ρ h) (P : PostS X W H ρ D ((m ls h).sb ls f))
    (k : ∀ a h1 b H1 ρ1, Ext ρ H ρ1 H1 → R1 H1 ρ1 a b → HAbs X.K X.mg H1 ρ1 h1 → LRep X.K X.mg H1 ρ1 ls σ → PostS X W H ρ D (f a h1) → Q1 b H1) : tG X W R1 m σ H Q1 := by
  refine ⟨ρ, ls, h, LR, HA, ?_⟩
  cases e : m ls h with
  | ok a h1 =>
    rw [e] at P
    exact fun b H1 ρ1 ex r ha => k a h1 b H1 ρ1 ex r ha (LR.ext ex) P
  | exc c d h1 =>
    rw [e] at P
    exact fun cls dx H' ρ' ex xr ha => P σ cls dx H' ρ' ex (LR.ext ex) xr ha
  | stuck => rw [e] at P; exact P
theorem tS_bind {α β : Type} {R1 : Hp → List Addr → α → β → Prop} {m : Ls → Hm → Out α} {f : α → Hm → SOut} {ls : Ls} {h : Hm} {σ : St} {H : Hp} {ρ : List Addr} {D : Ends} {Q1 : β → Hp → Prop}
    (LR : LRep X.K X.mg H ρ ls σ) (HA : HAbs X.K X.mg H ρ h) (P : PostS X W H ρ D ((m ls h).sb ls f))
    (k : ∀ a h1 b H1 ρ1, Ext ρ H ρ1 H1 → R1 H1 ρ1 a b → HAbs X.K X.mg H1 ρ1 h1 → LRep X.K X.mg H1 ρ1 ls σ → PostS X W H1 ρ1 D (f a h1) → Q1 b H1) : tG X W R1 m σ H Q1 :=
  tS_bind0 LR HA P fun a h1 b H1 ρ1 e r ha lr p => k a h1 b H1 ρ1 e r ha lr (p.shift e)
def sNx : SM := fun ls h => .ok .nx ls h
def sSeq (a b : SM) : SM := fun ls h => match a ls h with
  | .ok .nx ls1 h1 => b ls1 h1
  | o => o
theorem jss_nil : JSs X W [] sNx := pssW pss_nil fun D σ H ⟨ρ, ls, h, LR, HA, P⟩ => P σ H ρ .refl LR HA
theorem jss_one {s : Stmt} {m : SM} (a : JS X W s m) : JSs X W [s] m := pssW (pss_one a) fun D σ H q => q
theorem jss_cons {s : Stmt} {r : List Stmt} {m n : SM} (a : JS X W s m) (b : JSs X W r n) : JSs X W (s :: r) (sSeq m n) := pssW (pss_cons a b) fun D σ H ⟨ρ, ls, h, LR, HA, P⟩ => by
  refine ⟨ρ, ls, h, LR, HA, ?_⟩
  unfold sSeq at P
  cases e : m ls h with
  | ok f ls1 h1 =>
    rw [e] at P
    cases f with
    | nx => exact fun σ' H' ρ' ex lr ha => ⟨ρ', ls1, h1, lr, ha, PostS.shift (o := n ls1 h1) P ex⟩
    | rt d => exact P
    | bk => exact P
    | ct => exact P
  | exc c d ls1 h1 => rw [e] at P; exact P
  | stuck => rw [e] at P; exact P
theorem js_pass {pos : Pos} : JS X W (.Pass pos) sNx := psW ps_pass fun D σ H ⟨ρ, ls, h, LR, HA, P⟩ => P σ H ρ .refl LR HA
theorem js_break {pos : Pos} : JS X W (.Break pos) (fun ls h => .ok .bk ls h) := psW ps_break fun D σ H ⟨ρ, ls, h, LR, HA, P⟩ => P σ H ρ .refl LR HA
theorem js_cont {pos : Pos} : JS X W (.Continue pos) (fun ls h => .ok .ct ls h) := psW ps_continue fun D σ H ⟨ρ, ls, h, LR, HA, P⟩ => P σ H ρ .refl LR HA
def sRet (m : EM) : SM := fun ls h => (m ls h).sb ls fun d h1 => .ok (.rt d) ls h1
theorem js_ret {e : Expr} {m : EM} {pos : Pos} (a : J X W e m) : JS X W (.Return (some e) pos) (sRet m) := psW (ps_ret a) fun D σ H ⟨ρ, ls, h, LR, HA, P⟩ =>
  tS_bind LR HA P fun d h1 v H1 ρ1 e1 r1 HA1 LR1 P1 => P1 σ H1 ρ1 .refl LR1 HA1 v r1
def sRetN : SM := fun ls h => .ok (.rt .non) ls h
theorem js_retN {pos : Pos} : JS X W (.Return none pos) sRetN := psW ps_retN fun D σ H ⟨ρ, ls, h, LR, HA, P⟩ => P σ H ρ .refl LR HA .non .non
def sEx (m : EM) : SM := fun ls h => (m ls h).sb ls fun _ h1 => .ok .nx ls h1
theorem js_expr {e : Expr} {m : EM} {pos : Pos} (a : J X W e m) (hs : swapsWith e none pos.line X.env = pure false := by rfl) : JS X W (.Expr e pos) (sEx m) := psW (ps_expr a hs) fun D σ H ⟨ρ, ls, h, LR, HA, P⟩ =>
  tS_bind LR HA P fun d h1 v H1 ρ1 e1 r1 HA1 LR1 P1 => P1 σ H1 ρ1 .refl LR1 HA1
def sIf (c : BM) (a b : SM) : SM := fun ls h => (c ls h).sb ls fun k h1 => if k = true then a ls h1 else b ls h1
theorem js_if {c : Expr} {a b : List Stmt} {mc : BM} {ma mb : SM} {pos : Pos} (hc : JT X W c mc) (ha : JSs X W a ma) (hb : JSs X W b mb) : JS X W (.If c a b pos) (sIf mc ma mb) := psW (ps_if hc ha hb) fun D σ H ⟨ρ, ls, h, LR, HA, P⟩ =>
  tS_bind LR HA P fun k h1 k' H1 ρ1 e1 r1 HA1 LR1 P1 => by
    cases r1
    cases k with
    | true => exact ⟨ρ1, ls, h1, LR1, HA1, P1⟩
    | false => exact ⟨ρ1, ls, h1, LR1, HA1, P1⟩
def sSet (i : Nat) (m : EM) : SM := fun ls h => (m ls h).sb ls fun d h1 => .ok .nx (ls.set i (some d)) h1
theorem js_set0 {s : Stmt} {i : Nat} {te : TE} {m : EM} (a : PS X s (tAsg te (gName i))) (ht : ∀ σ H Q, tG X W (RV X) m σ H Q → te σ H Q) : JS X W s (sSet i m) := psW a fun D σ H ⟨ρ, ls, h, LR, HA, P⟩ =>
  ht σ H _ (tS_bind LR HA P fun d h1 v H1 ρ1 e1 r1 HA1 LR1 P1 => P1 _ H1 ρ1 .refl (LR1.set r1) HA1)
theorem js_set {i : Nat} {x : Str} {e : Expr} {m : EM} {pos pos' : Pos} (hN : X.N.Nodup) (a : J X W e m) (hi : X.N[i]? = some x := by rfl) (hx : Loc X.env.scope x := by first | exact .inl rfl | exact .inr rfl)
    (hs : swapsWith e (some (.Name x pos')) pos.line X.env = pure false := by rfl) (hf : X.fn x = true ∨ X.env.scope.names.lookup x = some .local := by first | exact .inl rfl | exact .inr rfl) : JS X W (.Assign [.Name x pos'] e pos) (sSet i m) :=
  js_set0 (te := tG X W (RV X) m) (ps_set hN hi hx a hs (hf := hf)) fun _ _ _ q => q
/-! ### targets -/
/-- what an assignment does to the slots; fs: the slots it writes -/
def tTg (X : Cx) (fs : List Nat) (f : D → Ls → Option Ls) : TG := fun v σ H Q => ∃ ρ ls d ls', LRep X.K X.mg H ρ ls σ ∧ Rep X.K X.mg H ρ d v ∧ f d ls = some ls' ∧ ∀ σ' : St, σ'.length = σ.length → (∀ j, j ∉ fs → σ'[j]? = σ[j]?) → LRep X.K X.mg H ρ ls' σ' → Q σ' H
def JG (X : Cx) (tg : Expr) (fs : List Nat) (f : D → Ls → Option Ls) : Prop := PG X tg (tTg X fs f)
def JGs (X : Cx) (tgs : List Expr) (fs : List Nat) (f : List D → Ls → Option Ls) : Prop :=
  PGs X tgs (fun vs σ H Q => ∃ ρ ls ds ls', LRep X.K X.mg H ρ ls σ ∧ Reps X.K X.mg H ρ ds vs ∧ f ds ls = some ls' ∧ ∀ σ', σ'.length = σ.length → (∀ j, j ∉ fs → σ'[j]? = σ[j]?) → LRep X.K X.mg H ρ ls' σ' → Q σ' H)
theorem pgW {e : Expr} {t t' : TG} (p : PG X e t) (h : ∀ v σ H Q, t' v σ H Q → t v σ H Q) : PG X e t' := ⟨fun pins s σ H v u Q I r q => p.run pins s σ H v u Q I r (h v σ H Q q)⟩
theorem pgsW {e : List Expr} {t t' : TGs} (p : PGs X e t) (h : ∀ v σ H Q, t' v σ H Q → t v σ H Q) : PGs X e t' := ⟨fun pins s σ H v u Q I r q => p.run pins s σ H v u Q I r (h v σ H Q q)⟩
def gN (i : Nat) : D → Ls → Option Ls := fun d ls => some (ls.set i (some d))
theorem jg_name {i : Nat} {x : Str} {pos : Pos} (hN : X.N.Nodup) (hi : X.N[i]? = some x := by rfl) (hx : Loc X.env.scope x := by first | exact .inl rfl | exact .inr rfl)
    (hf : X.fn x = true ∨ X.env.scope.names.lookup x = some .local := by first | exact .inl rfl | exact .inr rfl) : JG X (.Name x pos) [i] (gN i) := pgW (pg_name hN hi hx hf) fun v σ H Q ⟨ρ, ls, d, ls', LR, r, e, k⟩ => by
  cases e
  exact k _ (by rw [List.length_set]) (fun j hj => by rw [List.getElem?_set_ne (fun z => hj (by simp [z]))]) (LR.set r)
def gsNil : List D → Ls → Option Ls := fun ds ls => match ds with
  | [] => some ls
  | _ => none
def gsCons (f : D → Ls → Option Ls) (g : List D → Ls → Option Ls) : List D → Ls → Option Ls := fun ds ls => match ds with
  | d :: r => (f d ls).bind (g r)
  | _ => none
theorem jgs_nil : JGs X [] [] gsNil := pgsW pgs_nil fun vs σ H Q ⟨ρ, ls, ds, ls', LR, r, e, k⟩ => by
  cases r with
  | nil => cases e; exact ⟨rfl, k σ rfl (fun _ _ => rfl) LR⟩
  | cons _ _ => cases e
theorem jgs_cons {t : Expr} {ts : List Expr} {fs gs : List Nat} {f : D → Ls → Option Ls} {g : List D → Ls → Option Ls} (a : JG X t fs f) (b : JGs X ts gs g) (hs : (assignEach (t :: ts) X.env).map (·.2) = assign t X.env :: (assignEach ts X.env).map (·.2) := by rfl) : JGs X (t :: ts) (fs ++ gs) (gsCons f g) :=
  pgsW (pgs_cons a b hs) fun vs σ H Q ⟨ρ, ls, ds, ls', LR, r, e, k⟩ => by
    cases r with
    | nil => cases e
    | @cons d v ds vs r1 r2 =>
      refine ⟨v, vs, rfl, ?_⟩
      have e' : (f d ls).bind (g ds) = some ls' := e
      cases q : f d ls with
      | none => rw [q] at e'; cases e'
      | some ls1 =>
        rw [q] at e'
        refine ⟨ρ, ls, d, ls1, LR, r1, q, fun σ1 hl hk lr => ⟨ρ, ls1, ds, ls', lr, r2, e', fun σ2 hl2 hk2 lr2 => k σ2 (hl2.trans hl) (fun j hj => ?_) lr2⟩⟩
        rw [hk2 j (fun z => hj (List.mem_append_right _ z)), hk j (fun z => hj (List.mem_append_left _ z))]
def gTp (g : List D → Ls → Option Ls) : D → Ls → Option Ls := fun d ls => match d with
  | .tup ds => g ds ls
  | _ => none
theorem jg_tup {ts : List Expr} {fs : List Nat} {g : List D → Ls → Option Ls} {k : Nat} {pos : Pos} {n : Nat} (hc : X.calm = true) (a : JGs X ts fs g) (hlen : ∀ ds ls ls', g ds ls = some ls' → ds.length = n) (hn : (assignEach ts X.env).length = n := by rfl) (hst : List.findIdx? (fun x => x.1) (assignEach ts X.env) = none := by rfl) : JG X (.Tuple ts k pos) fs (gTp g) :=
  pgW (pg_tup hc a hn hst) fun v σ H Q ⟨ρ, ls, d, ls', LR, r, e, k⟩ => by
    cases r with
    | @tup ds a vs t r => exact ⟨a, vs, rfl, t.sq, by rw [← r.length]; exact hlen _ _ _ e, ρ, ls, ds, ls', LR, r, e, k⟩
    | _ => cases e
theorem gsNil_len {ds : List D} {ls ls' : Ls} (h : gsNil ds ls = some ls') : ds.length = 0 := by
  cases ds with
  | nil => rfl
  | cons _ _ => cases h
theorem gsCons_len {f : D → Ls → Option Ls} {g : List D → Ls → Option Ls} {n : Nat} (hg : ∀ ds ls ls', g ds ls = some ls' → ds.length = n) : ∀ ds ls ls', gsCons f g ds ls = some ls' → ds.length = n + 1 := by
  intro ds ls ls' h
  cases ds with
  | nil => cases h
  | cons d r =>
    have h' : (f d ls).bind (g r) = some ls' := h
    cases q : f d ls with
    | none => rw [q] at h'; cases h'
    | some l1 => rw [q] at h'; simp [hg _ _ _ h']
def sAsg (g : D → Ls → Option Ls) (m : EM) : SM := fun ls h => (m ls h).sb ls fun d h1 => match g d ls with
  | some ls' => .ok .nx ls' h1
  | none => .stuck
theorem js_asg {tg e : Expr} {fs : List Nat} {g : D → Ls → Option Ls} {m : EM} {pos : Pos} (a : J X W e m) (b : JG X tg fs g) (hs : swapsWithSole [tg] e pos.line X.env = pure false := by rfl) (hw : swappedStores [tg] e X.env = pure none := by rfl) (h1 : (assignEach [tg] X.env).map (·.2) = [assign tg X.env] := by rfl) : JS X W (.Assign [tg] e pos) (sAsg g m) :=
  psW (ps_asg a b hs hw h1) fun D σ H ⟨ρ, ls, h, LR, HA, P⟩ => tS_bind LR HA P fun d h1 v H1 ρ1 e1 r1 HA1 LR1 P1 => by
    cases q : g d ls with
    | none => rw [q] at P1; exact P1.elim
    | some ls' =>
      rw [q] at P1
      exact ⟨ρ1, ls, d, ls', LR1, r1, q, fun σ' _ _ lr => P1 σ' H1 ρ1 .refl lr HA1⟩
/-- a, b = x, y -/
def sPar (i j : Nat) (m n : EM) : SM := fun ls h => (m ls h).sb ls fun d h1 => (n ls h1).sb ls fun e h2 => .ok .nx ((ls.set i (some d)).set j (some e)) h2
theorem sb_bind {α β : Type} (o : Out α) (ls : Ls) (f : α → Hm → Out β) (g : β → Hm → SOut) : (o.bind f).sb ls g = o.sb ls fun a h => (f a h).sb ls g := by cases o <;> rfl
theorem js_par {i j : Nat} {x y : Str} {a b : Expr} {ma mb : EM} {px py pt pt2 pos : Pos} {kt k2 : Nat} (hc : X.calm = true) (hN : X.N.Nodup) (ha : J X W a ma) (hb : J X W b mb) (hi : X.N[i]? = some x := by rfl) (hj : X.N[j]? = some y := by rfl) (hij : i ≠ j := by decide)
    (hx : X.env.scope.names.lookup x = some .local := by rfl) (hy : X.env.scope.names.lookup y = some .local := by rfl)
    (hst1 : starEach [b] X.env = (false, eval b X.env) :: starEach [] X.env := by rfl) (hst : starEach [a, b] X.env = (false, eval a X.env) :: starEach [b] X.env := by rfl)
    (hw : swappedStores [.Tuple [.Name x px, .Name y py] kt pt] (.Tuple [a, b] k2 pt2) X.env = pure (some [x, y]) := by rfl)
    (hs : swapsWithSole [.Tuple [.Name x px, .Name y py] kt pt] (.Tuple [a, b] k2 pt2) pos.line X.env = pure false := by rfl) : JS X W (.Assign [.Tuple [.Name x px, .Name y py] kt pt] (.Tuple [a, b] k2 pt2) pos) (sPar i j ma mb) :=
  psW (ps_par hc hN hi hj hij hx hy (ja_cons ha (ja_cons hb ja_nil hst1) hst) hw hs) fun D σ H ⟨ρ, ls, h, LR, HA, P⟩ => by
    have P' : PostS X W H ρ D ((aCons ma (aCons mb aNil) ls h).sb ls fun ds h2 => match ds with
      | [d, e] => .ok .nx ((ls.set i (some d)).set j (some e)) h2
      | _ => .stuck) := by
      unfold aCons
      rw [sb_bind]
      unfold sPar at P
      cases q : ma ls h with
      | ok d h1 =>
        rw [q] at P
        show PostS X W H ρ D (Out.sb ((((mb ls h1).bind fun d h1 => (aNil ls h1).bind fun ds h2 => .ok (d :: ds) h2)).bind fun ds h2 => .ok (d :: ds) h2) ls _)
        have P2 : PostS X W H ρ D ((mb ls h1).sb ls fun e h2 => .ok .nx ((ls.set i (some d)).set j (some e)) h2) := P
        cases q2 : mb ls h1 with
        | ok e h2 => rw [q2] at P2; exact P2
        | exc _ _ _ => rw [q2] at P2; exact P2
        | stuck => rw [q2] at P2; exact P2
      | exc _ _ _ => rw [q] at P; exact P
      | stuck => rw [q] at P; exact P
    exact tS_bind (R1 := RA X) LR HA P' fun ds h1 vs H1 ρ1 e1 r1 HA1 LR1 P1 => by
      match ds, vs, r1 with
      | [d, e], _, .cons q1 (.cons q2 .nil) => exact ⟨_, _, rfl, P1 _ H1 ρ1 .refl ((LR1.set q1).set q2) HA1⟩
      | [], _, _ => exact P1.elim
      | [_], _, _ => exact P1.elim
      | _ :: _ :: _ :: _, _, _ => exact P1.elim
/-! ### loops -/
/-- a turn's end, then the next turn -/
def loopK (next : SM) : SOut → SOut
  | .ok .nx ls h => next ls h
  | .ok .ct ls h => next ls h
  | .ok .bk ls h => .ok .nx ls h
  | o => o
theorem loop_turn {D : Ends} {next : SM} {H : Hp} {ρ : List Addr} {o : SOut} {N : St → Hp → Prop} (P : PostS X W H ρ D (loopK next o))
    (hN : ∀ ls h σ' H' ρ', Ext ρ H ρ' H' → LRep X.K X.mg H' ρ' ls σ' → HAbs X.K X.mg H' ρ' h → PostS X W H' ρ' D (next ls h) → N σ' H') : PostS X W H ρ { D with nx := N, ct := N, bk := D.nx } o := by
  cases o with
  | ok f ls h =>
    cases f with
    | nx => exact fun σ' H' ρ' e lr ha => hN ls h σ' H' ρ' e lr ha (PostS.shift (o := next ls h) P e)
    | ct => exact fun σ' H' ρ' e lr ha => hN ls h σ' H' ρ' e lr ha (PostS.shift (o := next ls h) P e)
    | bk => exact P
    | rt d => exact P
  | exc c d ls h => exact P
  | stuck => exact P
def sWh (c : BM) (b : SM) : Nat → SM
  | 0 => fun _ _ => .stuck
  | n + 1 => fun ls h => (c ls h).sb ls fun k h1 => if k = true then loopK (sWh c b n) (b ls h1) else .ok .nx ls h1
theorem js_while {c : Expr} {b : List Stmt} {mc : BM} {mb : SM} {pos : Pos} (n : Nat) (hp : PassesOwn (model X.prog X.w) X.A X.env X.xe) (hc : JT X W c mc) (hb : JSs X W b mb) : JS X W (.While c b [] pos) (sWh mc mb n) :=
  psW (ps_while hp hc hb) fun D σ H ⟨ρ, ls, h, LR, HA, P⟩ => by
    refine ⟨fun m σ H => ∃ ρ ls h, LRep X.K X.mg H ρ ls σ ∧ HAbs X.K X.mg H ρ h ∧ PostS X W H ρ D (sWh mc mb m ls h), ⟨n, ρ, ls, h, LR, HA, P⟩, fun m σ H q => ?_⟩
    obtain ⟨ρ, ls, h, LR, HA, P⟩ := q
    cases m with
    | zero => exact P.elim
    | succ m =>
      exact tS_bind LR HA P fun k h1 k' H1 ρ1 e1 r1 HA1 LR1 P1 => by
        cases r1
        cases k with
        | true =>
          refine ⟨fun σ' H' => ∃ ρ ls h, LRep X.K X.mg H' ρ ls σ' ∧ HAbs X.K X.mg H' ρ h ∧ PostS X W H' ρ D (sWh mc mb m ls h), fun σ' H' q => ⟨m, Nat.lt_succ_self m, q⟩, ρ1, ls, h1, LR1, HA1, ?_⟩
          exact loop_turn P1 fun ls h σ' H' ρ' e lr ha p => ⟨ρ', ls, h, lr, ha, p⟩
        | false => exact P1 σ H1 ρ1 .refl LR1 HA1
def sItems (g : D → Ls → Option Ls) (b : SM) : List D → SM
  | [] => sNx
  | d :: r => fun ls h => match g d ls with
    | none => .stuck
    | some ls1 => loopK (sItems g b r) (b ls1 h)
def sLoc (n : Nat) (g : D → Ls → Option Ls) (b : SM) : Nat → Nat → SM
  | 0, i => fun ls h => match getL h n with
    | none => .stuck
    | some ds => if ds.length = i then .ok .nx ls h else .stuck
  | k + 1, i => fun ls h => match getL h n with
    | none => .stuck
    | some ds => if ds.length = i + (k + 1) then (match ds[i]? with
      | none => .stuck
      | some d => (match g d ls with
        | none => .stuck
        | some ls1 => loopK (sLoc n g b k (i + 1)) (b ls1 h))) else .stuck
/-- what a loop walks: things that stand, or the list that we name -/
inductive Src where
  | items (ds : List D) | loc (n : Nat)
structure IRel (X : Cx) (H0 : Hp) (ρ0 : List Addr) (J : It) (ds : List D) : Prop where
  mk :: (ex : ∃ (G : Hp → Prop) (Y : Nat → Hp → V → Hp → Prop), Walk J ds.length G Y ∧ (∀ H ρ, Ext ρ0 H0 ρ H → G H) ∧
    ∀ i H ρ h x H', i < ds.length → Ext ρ0 H0 ρ H → HAbs X.K X.mg H ρ h → Y i H x H' → Ext ρ H ρ H' ∧ HAbs X.K X.mg H' ρ h ∧ ∃ d, ds[i]? = some d ∧ Rep X.K X.mg H' ρ d x)
def SRel (X : Cx) (H : Hp) (ρ : List Addr) : Src → It → Prop
  | .items ds, J => IRel X H ρ J ds
  | .loc n, J => ∃ a, ρ[n]? = some a ∧ J = Itl X.K a
def JI (X : Cx) (W : WX) (tg e : Expr) (m : Ls → Hm → Out Src) : Prop := PI X tg e (fun σ H R => tG X W (SRel X) m σ H R)
theorem piW {tg e : Expr} {t t' : TI} (p : PI X tg e t) (h : ∀ σ H Q, t' σ H Q → t σ H Q) : PI X tg e t' := ⟨fun pins s σ H Q I q => p.run pins s σ H Q I (h σ H Q q)⟩
def sFor (g : D → Ls → Option Ls) (m : Ls → Hm → Out Src) (b : SM) : SM := fun ls h => (m ls h).sb ls fun s h1 => match s with
  | .items ds => sItems g b ds ls h1
  | .loc n => (match getL h1 n with
    | none => .stuck
    | some ds => sLoc n g b ds.length 0 ls h1)
theorem js_for {tg e : Expr} {fs : List Nat} {g : D → Ls → Option Ls} {m : Ls → Hm → Out Src} {b : List Stmt} {mb : SM} {pos : Pos} (hp : PassesOwn (model X.prog X.w) X.A X.env X.xe) (hc : X.calm = true) (hi : JI X W tg e m) (hg : JG X tg fs g) (hb : JSs X W b mb)
    (hs : ∀ x, foldedSetIterable e X.env x = pure x := by intro _; rfl) : JS X W (.For tg e b [] pos) (sFor g m mb) :=
  psW (ps_for hp hc hi hg hb hs) fun D σ H ⟨ρ, ls, h, LR, HA, P⟩ => tS_bind (R1 := SRel X) LR HA P fun s h1 J H1 ρ1 e1 r1 HA1 LR1 P1 => by
    cases s with
    | items ds =>
      obtain ⟨G, Y, w, hG, hY⟩ := r1
      refine for_it (g := tTg X fs g) (tb := tS X W mb) (D := D) w (fun i σ H => ∃ ρ ls h, Ext ρ1 H1 ρ H ∧ LRep X.K X.mg H ρ ls σ ∧ HAbs X.K X.mg H ρ h ∧ PostS X W H ρ D (sItems g mb (ds.drop i) ls h)) ⟨ρ1, ls, h1, .refl, LR1, HA1, P1⟩
        (fun i σ H _ ⟨ρ, ls, h, ex, _⟩ => hG H ρ ex) (fun i x σ H H' hi ⟨ρ, ls, h, ex, lr, ha, p⟩ y => ?_) fun σ H ⟨ρ, ls, h, ex, lr, ha, p⟩ => ?_
      · obtain ⟨e2, ha2, d, hd, rd⟩ := hY i H ρ h x H' hi ex ha y
        have ed : ds.drop i = d :: ds.drop (i + 1) := by
          rw [List.drop_eq_getElem_cons hi]
          rw [List.getElem?_eq_getElem hi] at hd
          rw [Option.some.inj hd]
        rw [ed] at p
        have p' : PostS X W H ρ D (match g d ls with
          | none => .stuck
          | some ls1 => loopK (sItems g mb (ds.drop (i + 1))) (mb ls1 h)) := p
        cases q : g d ls with
        | none => rw [q] at p'; exact p'.elim
        | some ls1 =>
          rw [q] at p'
          refine ⟨ρ, ls, d, ls1, lr.ext e2, rd, q, fun σ2 _ _ lr2 => ⟨ρ, ls1, h, lr2, ha2, ?_⟩⟩
          exact loop_turn (PostS.shift p' e2) fun ls h σ' H' ρ' e lr ha p => ⟨ρ', ls, h, (ex.trans e2).trans e, lr, ha, p⟩
      · rw [List.drop_length] at p
        exact p σ H ρ .refl lr ha
    | loc n =>
      obtain ⟨a, hn, rfl⟩ := r1
      have P2 : PostS X W H1 ρ1 D (match getL h1 n with
        | none => .stuck
        | some ds => sLoc n g mb ds.length 0 ls h1) := P1
      cases q0 : getL h1 n with
      | none => rw [q0] at P2; exact P2.elim
      | some ds0 =>
        rw [q0] at P2
        refine ⟨fun i m σ H => ∃ ρ ls h, Ext ρ1 H1 ρ H ∧ LRep X.K X.mg H ρ ls σ ∧ HAbs X.K X.mg H ρ h ∧ PostS X W H ρ D (sLoc n g mb m i ls h), ⟨_, ρ1, ls, h1, .refl, LR1, HA1, P2⟩, fun i m σ H q => ?_⟩
        obtain ⟨ρ, ls, h, ex, lr, ha, p⟩ := q
        have hn' : ρ[n]? = some a := by
          obtain ⟨t, rfl⟩ := ex.pre
          rw [List.getElem?_append_left (List.getElem?_eq_some_iff.mp hn).1]; exact hn
        cases m with
        | zero =>
          have p' : PostS X W H ρ D (match getL h n with
            | none => .stuck
            | some ds => if ds.length = i then .ok .nx ls h else .stuck) := p
          cases q : getL h n with
          | none => rw [q] at p'; exact p'.elim
          | some ds =>
            rw [q] at p'
            dsimp only at p'
            split at p'
            · rename_i hl
              obtain ⟨vs, e3, r⟩ := getL_at ha q hn'
              exact .inl ⟨⟨vs, .of e3, by rw [← r.length]; omega⟩, p' σ H ρ .refl lr ha⟩
            · exact p'.elim
        | succ m =>
          have p' : PostS X W H ρ D (match getL h n with
            | none => .stuck
            | some ds => if ds.length = i + (m + 1) then (match ds[i]? with
              | none => .stuck
              | some d => (match g d ls with
                | none => .stuck
                | some ls1 => loopK (sLoc n g mb m (i + 1)) (mb ls1 h))) else .stuck) := p
          cases q : getL h n with
          | none => rw [q] at p'; exact p'.elim
          | some ds =>
            rw [q] at p'
            dsimp only at p'
            split at p'
            · rename_i hl
              obtain ⟨vs, e3, r⟩ := getL_at ha q hn'
              have hi : i < ds.length := by omega
              rw [List.getElem?_eq_getElem hi] at p'
              dsimp only at p'
              obtain ⟨v, hv, rv⟩ := r.get (List.getElem?_eq_getElem hi)
              refine .inr ⟨⟨vs, v, .of e3, hv⟩, fun σ' H' => ∃ ρ ls h, Ext ρ1 H1 ρ H' ∧ LRep X.K X.mg H' ρ ls σ' ∧ HAbs X.K X.mg H' ρ h ∧ PostS X W H' ρ D (sLoc n g mb m (i + 1) ls h), fun σ' H' q => ⟨m, Nat.lt_succ_self m, q⟩, fun x H' y => ?_⟩
              obtain ⟨rfl, y⟩ := y
              have ex2 : x = v := Option.some.inj ((y vs (.of e3)).symm.trans hv)
              subst ex2
              cases q2 : g ds[i] ls with
              | none => rw [q2] at p'; exact p'.elim
              | some ls1 =>
                rw [q2] at p'
                refine ⟨ρ, ls, ds[i], ls1, lr, rv, q2, fun σ2 _ _ lr2 => ⟨ρ, ls1, h, lr2, ha, ?_⟩⟩
                exact loop_turn p' fun ls h σ' H' ρ' e lr ha p => ⟨ρ', ls, h, ex.trans e, lr, ha, p⟩
            · exact p'.elim
end
end MP

set_option Elab.async false
set_option linter.all false
set_option maxRecDepth 100000
set_option maxHeartbeats 2000000
set_option autoImplicit false
namespace MP
open PySem PySem.Spec PyProof.Rows L2
section
variable {X : Cx} {W : WX}
/-! ### what is walked -/
def signs (x : Str) : List D := x.cps.toList.map fun c => .str ⟨#[c]⟩
def srcOf : D → Hm → Out Src
  | .tup ds, h => .ok (.items ds) h
  | .rls ds, h => .ok (.items ds) h
  | .str x, h => .ok (.items (signs x)) h
  | .loc n, h => (match getL h n with
    | some _ => .ok (.loc n) h
    | none => .stuck)
  | _, _ => .stuck
def iVal (m : EM) : Ls → Hm → Out Src := fun ls h => (m ls h).bind srcOf
theorem ji_val {tg e : Expr} {m : EM} (a : J X W e m) : JI X W tg e (iVal m) := by
  refine ⟨fun pins s σ H R I q => ?_⟩
  obtain ⟨ρ, ls, h, LR, HA, P⟩ := q
  unfold iVal at P
  cases q : m ls h with
  | stuck => rw [q] at P; exact P.elim
  | exc c d h1 =>
    rw [q] at P
    exact (pi_tup (tg := tg) a).run pins s σ H R I ⟨ρ, ls, h, LR, HA, by rw [q]; exact P⟩
  | ok d h1 =>
    rw [q] at P
    cases d with
    | tup ds =>
      refine (pi_tup (tg := tg) a).run pins s σ H R I ⟨ρ, ls, h, LR, HA, ?_⟩
      rw [q]
      intro v H1 ρ1 e1 r1 HA1
      cases r1 with
      | @tup _ a vs t r =>
        refine ⟨a, rfl, ⟨vs, t.sq⟩, P (Itt X.K a) H1 ρ1 e1 ⟨_, _, r.length ▸ walk_tup (K := X.K) (a := a) (xs := vs), fun H ρ ex => (t.keep ex.tup).sq, fun i H ρ h x H' hi ex ha y => ?_⟩ HA1⟩
        obtain ⟨rfl, y⟩ := y
        obtain ⟨d, h1, h2⟩ := r.getV y
        exact ⟨.refl, ha, d, h1, h2.ext ex⟩
    | rls ds =>
      refine (pi_list (tg := tg) a).run pins s σ H R I ⟨ρ, ls, h, LR, HA, ?_⟩
      rw [q]
      intro v H1 ρ1 e1 r1 HA1
      cases r1 with
      | @rls _ a vs t r =>
        refine ⟨a, rfl, ⟨vs, t.sq⟩, P (Itl X.K a) H1 ρ1 e1 ⟨_, _, r.length ▸ walk_list (K := X.K) (a := a) (xs := vs), fun H ρ ex => (t.keep ex.frz).sq, fun i H ρ h x H' hi ex ha y => ?_⟩ HA1⟩
        obtain ⟨rfl, y⟩ := y
        obtain ⟨d, h1, h2⟩ := r.getV y
        exact ⟨.refl, ha, d, h1, h2.ext ex⟩
    | str x =>
      refine (pi_str (tg := tg) a).run pins s σ H R I ⟨ρ, ls, h, LR, HA, ?_⟩
      rw [q]
      intro v H1 ρ1 e1 r1 HA1
      cases r1 with
      | str =>
        refine ⟨x, rfl, P (Its x) H1 ρ1 e1 ⟨_, _, (show (signs x).length = x.cps.size by simp [signs]) ▸ walk_str (z := x), fun H ρ ex => trivial, fun i H ρ h v H' hi ex ha y => ?_⟩ HA1⟩
        obtain ⟨rfl, c, e1, rfl⟩ := y
        refine ⟨.refl, ha, .str ⟨#[c]⟩, ?_, .str⟩
        unfold signs
        rw [List.getElem?_map, Array.getElem?_toList, e1]; rfl
    | loc n =>
      have P2 : PostG X.K X.mg (SRel X) (fun c d H' => W c d σ H') H ρ R (match getL h1 n with
        | some _ => .ok (.loc n) h1
        | none => .stuck) := P
      cases q2 : getL h1 n with
      | none => rw [q2] at P2; exact P2.elim
      | some ds =>
        rw [q2] at P2
        refine (pi_list (tg := tg) a).run pins s σ H R I ⟨ρ, ls, h, LR, HA, ?_⟩
        rw [q]
        intro v H1 ρ1 e1 r1 HA1
        cases r1 with
        | @loc _ a hn =>
          obtain ⟨vs, e3, r⟩ := getL_at HA1 q2 hn
          exact ⟨a, rfl, ⟨vs, .of e3⟩, P2 (Itl X.K a) H1 ρ1 e1 ⟨a, hn, rfl⟩ HA1⟩
    | _ => exact P.elim
/-- over a new list -/
def iNew (m : AM) : Ls → Hm → Out Src := fun ls h => (m ls h).bind fun ds h1 => .ok (.items ds) h1
theorem ji_new {tg e : Expr} {m : AM} (a : JL X W e m) : JI X W tg e (iNew m) :=
  piW (pi_list (tg := tg) a) fun σ H R ⟨ρ, ls, h, LR, HA, P⟩ => tG_bind0 (R1 := RL X H) LR HA P fun ds h1 v H1 ρ1 e1 r1 HA1 LR1 P1 => by
    obtain ⟨p, vs, rfl, n0, np, ep, r⟩ := r1
    refine ⟨p, rfl, ⟨vs, .of ep⟩, P1 (Itl X.K p) H1 ρ1 e1 ⟨_, _, r.length ▸ walk_list (K := X.K) (a := p) (xs := vs), fun H ρ ex => .of (ex.old p _ ep np), fun i H ρ h x H' hi ex ha y => ?_⟩ HA1⟩
    obtain ⟨rfl, y⟩ := y
    obtain ⟨d, h1, h2⟩ := r.getV y
    exact ⟨.refl, ha, d, h1, h2.ext ex⟩
/-! ### range -/
def rng (lo : Int) (n : Nat) : List D := (List.range n).map fun i => .int (lo + (i : Nat))
def rng1Of : D → Hm → Out (List D)
  | .int j, h => if -(2 ^ 62) ≤ j ∧ j < 2 ^ 62 then .ok (rng 0 j.toNat) h else .stuck
  | _, _ => .stuck
def rng2Of : D → D → Hm → Out (List D)
  | .int i, .int j, h => if -(2 ^ 62) ≤ i ∧ i < 2 ^ 62 ∧ -(2 ^ 62) ≤ j ∧ j < 2 ^ 62 then .ok (rng i (j - i).toNat) h else .stuck
  | _, _, _ => .stuck
def lRng1 (m : EM) : AM := fun ls h => (m ls h).bind rng1Of
def lRng2 (m n : EM) : AM := fun ls h => (m ls h).bind fun x h1 => (n ls h1).bind fun y h2 => rng2Of x y h2
theorem rng_len {lo : Int} {n : Nat} : (rng lo n).length = n := by simp [rng]
theorem irel_range {H : Hp} {ρ : List Addr} {lo : Int} {n : Nat} : IRel X H ρ (Itr lo n) (rng lo n) := by
  refine ⟨fun _ => True, YFn fun i => .int (lo + i), ?_, fun H ρ ex => trivial, fun i H ρ h v H' hi ex ha y => ?_⟩
  · rw [rng_len]; exact walk_range (lo := lo) (n := n)
  · obtain ⟨rfl, rfl⟩ := y
    have hi' : i < n := by simpa [rng] using hi
    exact ⟨.refl, ha, .int (lo + (i : Nat)), by simp [rng, hi'], .int⟩
theorem ji_range1 {tg a : Expr} {m : EM} {p pos : Pos} (ha : J X W a m) (hm : X.mg "range" = none) (hg : Gl X "range" := by rfl) (hst : starEach [a] X.env = (false, eval a X.env) :: starEach [] X.env := by rfl) (hs : starEach [a] X.env = [(false, eval a X.env)] := by rfl) :
    JI X W tg (.Call (.Name "range" p) [a] [] pos) (iNew (lRng1 m)) :=
  piW (pi_range1 hg hm (pa_cons ha pa_nil hst) hs) fun σ H R ⟨ρ, ls, h, LR, HA, P⟩ => by
    unfold iNew lRng1 at P
    rw [Out.bind_assoc] at P
    refine tG_bind LR HA P fun d h1 v H1 ρ1 e1 r1 HA1 LR1 P1 => ?_
    cases r1 with
    | @int j =>
      have P2 : PostG X.K X.mg (SRel X) (fun c d H' => W c d σ H') H1 ρ1 R ((if -(2 ^ 62) ≤ j ∧ j < 2 ^ 62 then .ok (rng 0 j.toNat) h1 else .stuck : Out (List D)).bind fun r h2 => .ok (.items r) h2) := P1
      split at P2
      · rename_i hz
        exact ⟨j, rfl, hz.1, hz.2, P2 _ H1 ρ1 .refl irel_range HA1⟩
      · exact P2.elim
    | _ => exact P1.elim
theorem ji_range2 {tg a b : Expr} {m n : EM} {p pos : Pos} (ha : J X W a m) (hb : J X W b n) (hm : X.mg "range" = none) (hg : Gl X "range" := by rfl) (hst1 : starEach [b] X.env = (false, eval b X.env) :: starEach [] X.env := by rfl) (hst : starEach [a, b] X.env = (false, eval a X.env) :: starEach [b] X.env := by rfl)
    (hs : starEach [a, b] X.env = [(false, eval a X.env), (false, eval b X.env)] := by rfl) (hs2 : starEach [b] X.env = [(false, eval b X.env)] := by rfl) : JI X W tg (.Call (.Name "range" p) [a, b] [] pos) (iNew (lRng2 m n)) :=
  piW (pi_range2 hg hm (pa_cons ha (pa_cons hb pa_nil hst1) hst) hs hs2) fun σ H R ⟨ρ, ls, h, LR, HA, P⟩ => by
    unfold iNew lRng2 at P
    rw [Out.bind_assoc] at P
    refine tG_bind LR HA P fun d h1 v H1 ρ1 e1 r1 HA1 LR1 P1 => ?_
    have P1 : PostG X.K X.mg (SRel X) (fun c d H' => W c d σ H') H1 ρ1 R (((n ls h1).bind fun y h2 => rng2Of d y h2).bind fun ds h1 => .ok (.items ds) h1) := P1
    rw [Out.bind_assoc] at P1
    refine tG_bind LR1 HA1 P1 fun d2 h2 v2 H2 ρ2 e2 r2 HA2 LR2 P2 => ?_
    cases r1 with
    | @int i => cases r2 with
      | @int j =>
        have P3 : PostG X.K X.mg (SRel X) (fun c d H' => W c d σ H') H2 ρ2 R ((if -(2 ^ 62) ≤ i ∧ i < 2 ^ 62 ∧ -(2 ^ 62) ≤ j ∧ j < 2 ^ 62 then .ok (rng i (j - i).toNat) h2 else .stuck : Out (List D)).bind fun r h2 => .ok (.items r) h2) := P2
        split at P3
        · rename_i hz
          exact ⟨i, j, rfl, hz, P3 _ H2 ρ2 .refl irel_range HA2⟩
        · exact P3.elim
      | _ => exact P2.elim
    | _ => exact P2.elim
/-! ### comprehensions -/
def wipeL (ls : Ls) : List Nat → Ls
  | [] => ls
  | v :: vs => (wipeL ls vs).set v none
theorem LRep.wipe {K : PySem.W.Frag} {mg : Str → Option Value} {H : Hp} {ρ : List Addr} {ls : Ls} {σ : St} (r : LRep K mg H ρ ls σ) : ∀ vs : List Nat, LRep K mg H ρ (wipeL ls vs) (L2.wipe σ vs)
  | [] => r
  | v :: vs => by
    have ih := r.wipe vs
    refine ⟨?_, fun i d e => ?_⟩
    · show ((wipeL ls vs).set v none).length = ((L2.wipe σ vs).set v none).length
      rw [List.length_set, List.length_set]; exact ih.1
    · have e' : ((wipeL ls vs).set v none)[i]? = some (some d) := e
      by_cases hv : v = i
      · subst hv
        rw [List.getElem?_set] at e'
        simp only [if_true] at e'
        split at e' <;> cases e'
      · rw [List.getElem?_set_ne hv] at e'
        obtain ⟨u, h1, h2⟩ := ih.2 i d e'
        refine ⟨u, ?_, h2⟩
        show ((L2.wipe σ vs).set v none)[i]? = _
        rw [List.getElem?_set_ne hv]; exact h1
theorem wipe_get {σ : St} {j : Nat} : ∀ {vs : List Nat}, (L2.wipe σ vs)[j]? = if j ∈ vs ∧ j < σ.length then some none else σ[j]?
  | [] => by simp [L2.wipe]
  | v :: vs => by
    show ((L2.wipe σ vs).set v none)[j]? = _
    rw [List.getElem?_set]
    have ih := wipe_get (σ := σ) (j := j) (vs := vs)
    by_cases hv : v = j
    · subst hv
      rw [if_pos rfl, wipe_length]
      by_cases hl : v < σ.length
      · rw [if_pos hl, if_pos ⟨List.mem_cons_self, hl⟩]
      · rw [if_neg hl, if_neg (fun z => hl z.2)]
        rw [List.getElem?_eq_none (by omega)]
    · rw [if_neg hv, ih]
      have e : (j ∈ v :: vs ∧ j < σ.length) ↔ (j ∈ vs ∧ j < σ.length) := by
        constructor
        · rintro ⟨h1, h2⟩
          rcases List.mem_cons.mp h1 with z | z
          · exact absurd z.symm hv
          · exact ⟨z, h2⟩
        · rintro ⟨h1, h2⟩; exact ⟨List.mem_cons_of_mem _ h1, h2⟩
      by_cases hc : j ∈ vs ∧ j < σ.length
      · rw [if_pos hc, if_pos (e.mpr hc)]
      · rw [if_neg hc, if_neg (fun z => hc (e.mp z))]
theorem wipe_same {σ σ' : St} {vs fs : List Nat} (hl : σ'.length = σ.length) (hs : ∀ j ∈ fs, j ∈ vs) (hk : ∀ j, j ∉ fs → σ'[j]? = (L2.wipe σ vs)[j]?) : L2.wipe σ' vs = L2.wipe σ vs := by
  apply List.ext_getElem?
  intro j
  rw [wipe_get]
  by_cases hj : j ∈ vs
  · rw [wipe_get, hl]
    by_cases h2 : j < σ.length
    · rw [if_pos ⟨hj, h2⟩, if_pos ⟨hj, h2⟩]
    · rw [if_neg (fun z => h2 z.2), if_neg (fun z => h2 z.2)]
      rw [List.getElem?_eq_none (by omega), List.getElem?_eq_none (by omega)]
  · rw [if_neg (fun z => hj z.1)]
    exact hk j (fun z => hj (hs j z))
/-- within a block nothing leaves -/
abbrev W0 : WX := fun _ _ _ _ => False
def Out.nox {α : Type} : Out α → Out α
  | .exc _ _ _ => .stuck
  | o => o
/-- the items of a comprehension; k: how many stand already -/
def compD (g : D → Ls → Option Ls) (c : BM) (e : EM) (vs : List Nat) : List D → Nat → Ls → Hm → Out (List D)
  | [], _ => fun _ h => .ok [] h
  | d :: r, k => fun ls h => match g d (wipeL ls vs) with
    | none => .stuck
    | some ls1 => (c ls1 h).nox.bind fun b h1 => if b = true then (if k < sizeLine then (e ls1 h1).nox.bind fun y h2 => (compD g c e vs r (k + 1) ls h2).bind fun ys h3 => .ok (y :: ys) h3 else .stuck) else compD g c e vs r k ls h1
def bYes : BM := fun _ h => .ok true h
/-- a list that we alone hold is written -/
theorem rep_keep_at {K : PySem.W.Frag} {mg : Str → Option Value} {H : Hp} {ρ : List Addr} {a : Addr} {u : HO} {xs : List V} (ea : H a = some (.lst xs)) : (∀ b ys, H b = some (.tup ys) → upd H a u b = some (.tup ys)) ∧ ∀ b o w, H b = some (.frz o w) → upd H a u b = some (.frz o w) :=
  ⟨fun b ys e => by rw [upd_ne (fun z => by rw [z, ea] at e; cases e)]; exact e, fun b o w e => by rw [upd_ne (fun z => by rw [z, ea] at e; cases e)]; exact e⟩
theorem HAbs.side {K : PySem.W.Frag} {mg : Str → Option Value} {H : Hp} {ρ : List Addr} {h : Hm} {a : Addr} {u : HO} {xs : List V} (A : HAbs K mg H ρ h) (na : a ∉ ρ) (ea : H a = some (.lst xs)) : HAbs K mg (upd H a u) ρ h := by
  obtain ⟨k1, k2⟩ := rep_keep_at (K := K) (mg := mg) (ρ := ρ) (u := u) ea
  refine ⟨A.len, A.nd, fun i o e => ?_⟩
  obtain ⟨b, h1, h2⟩ := A.obj i o e
  have hb : b ≠ a := fun z => na (by rw [← z]; exact List.mem_of_getElem? h1)
  refine ⟨b, h1, ?_⟩
  cases o with
  | lst ds =>
    obtain ⟨vs, q1, q2⟩ := h2
    exact ⟨vs, by rw [upd_ne hb]; exact q1, q2.keep k1 k2 List.prefix_rfl⟩
theorem LRep.keep {K : PySem.W.Frag} {mg : Str → Option Value} {H H' : Hp} {ρ : List Addr} {ls : Ls} {σ : St} (r : LRep K mg H ρ ls σ) (k1 : ∀ b ys, H b = some (.tup ys) → H' b = some (.tup ys)) (k2 : ∀ b o w, H b = some (.frz o w) → H' b = some (.frz o w)) : LRep K mg H' ρ ls σ :=
  ⟨r.1, fun i d e => let ⟨v, h1, h2⟩ := r.2 i d e; ⟨v, h1, h2.keep k1 k2 List.prefix_rfl⟩⟩
theorem Ext.side {ρ ρ' : List Addr} {H H' : Hp} {a : Addr} {u : HO} (e : Ext ρ H ρ' H') (n : H a = none) (na : a ∉ ρ') : Ext ρ H ρ' (upd H' a u) :=
  ⟨e.pre, e.new, fun b o h nb => by rw [upd_ne (ne_of_none h n)]; exact e.old b o h nb, fun b o h => by rw [upd_ne (ne_of_none h n)]; exact e.tup b o h, fun b o w h => by rw [upd_ne (ne_of_none h n)]; exact e.frz b o w h⟩
theorem Ext.keeps {ρ ρ' : List Addr} {H H' : Hp} (e : Ext ρ H ρ' H') {a : Addr} {xs : List V} (na : a ∉ ρ) (ea : H a = some (.lst xs)) : H' a = some (.lst xs) ∧ a ∉ ρ' :=
  ⟨e.old a _ ea na, fun z => by rw [e.new a z na] at ea; cases ea⟩
/-- one turn -/
theorem comp_step {R2 : Hp → List Addr → List D → V → Prop} {Hs H0 : Hp} {ρs ρ0 : List Addr} {Q : VK} {σ0 σ : St} {g : D → Ls → Option Ls} {c : BM} {e : EM} {vs fs : List Nat} {H' : Hp} {ρ : List Addr} {Dd : Addr} {acc : List V} {accD : List D} {ls : Ls} {h : Hm} {d : D} {x : V} {rest : Nat → Ls → Hm → Out (List D)} {Nx : Hp → Prop}
    (hfs : ∀ j ∈ fs, j ∈ vs) (n0 : Hs Dd = none) (ex : Ext ρs Hs ρ H') (nD : Dd ∉ ρ) (eD : H' Dd = some (.lst acc)) (rD : Reps X.K X.mg H' ρ accD acc) (lr : LRep X.K X.mg H' ρ ls σ) (ha : HAbs X.K X.mg H' ρ h) (rd : Rep X.K X.mg H' ρ d x)
    (P : PostG X.K X.mg R2 (fun c d H' => W c d σ0 H') H0 ρ0 Q ((match g d (wipeL ls vs) with
      | none => .stuck
      | some ls1 => (c ls1 h).nox.bind fun b h1 => if b = true then (if accD.length < sizeLine then (e ls1 h1).nox.bind fun y h2 => (rest (accD.length + 1) ls h2).bind fun ys h3 => .ok (y :: ys) h3 else .stuck) else rest accD.length ls h1 : Out (List D)).bind fun ys h => .ok (accD ++ ys) h))
    (hN : ∀ (ρ' : List Addr) (H2 : Hp) (acc2 : List V) (accD2 : List D) (h2 : Hm), Ext ρs Hs ρ' H2 → Dd ∉ ρ' → H2 Dd = some (.lst acc2) → Reps X.K X.mg H2 ρ' accD2 acc2 → LRep X.K X.mg H2 ρ' ls σ → HAbs X.K X.mg H2 ρ' h2 →
      PostG X.K X.mg R2 (fun c d H' => W c d σ0 H') H0 ρ0 Q ((rest accD2.length ls h2).bind fun ys h => .ok (accD2 ++ ys) h) → Nx H2) :
    tTg X fs g x (L2.wipe σ vs) H' fun σ2 H2 => L2.wipe σ2 vs = L2.wipe σ vs ∧ tG X W0 RB c σ2 H2 fun b H3 =>
      if b = true then tG X W0 (RV X) e σ2 H3 fun y H4 => ∃ acc, H4 Dd = some (.lst acc) ∧ acc.length < sizeLine ∧ Nx (upd H4 Dd (.lst (acc ++ [y]))) else Nx H3 := by
  cases q : g d (wipeL ls vs) with
  | none => rw [q] at P; exact P.elim
  | some ls1 =>
    rw [q] at P
    refine ⟨ρ, wipeL ls vs, d, ls1, lr.wipe vs, rd, q, fun σ2 hl hk lr2 => ⟨wipe_same (hl.trans (wipe_length _ _)) hfs hk, ρ, ls1, h, lr2, ha, ?_⟩⟩
    dsimp only at P
    cases q2 : c ls1 h with
    | stuck => rw [q2] at P; exact P.elim
    | exc _ _ _ => rw [q2] at P; exact P.elim
    | ok b h1 =>
      rw [q2] at P
      rintro b' H3 ρ3 ex3 rfl ha3
      obtain ⟨eD3, nD3⟩ := ex3.keeps nD eD
      cases b with
      | false => exact hN ρ3 H3 acc accD h1 (ex.trans ex3) nD3 eD3 (rD.ext ex3) (lr.ext ex3) ha3 P
      | true =>
        refine ⟨ρ3, ls1, h1, lr2.ext ex3, ha3, ?_⟩
        have P' : PostG X.K X.mg R2 (fun c d H' => W c d σ0 H') H0 ρ0 Q ((if accD.length < sizeLine then (e ls1 h1).nox.bind fun y h2 => (rest (accD.length + 1) ls h2).bind fun ys h3 => .ok (y :: ys) h3 else .stuck).bind fun ys h => .ok (accD ++ ys) h) := P
        split at P'
        · rename_i hz
          cases q3 : e ls1 h1 with
          | stuck => rw [q3] at P'; exact P'.elim
          | exc _ _ _ => rw [q3] at P'; exact P'.elim
          | ok y h2 =>
            rw [q3] at P'
            intro v H4 ρ4 ex4 rv ha4
            obtain ⟨eD4, nD4⟩ := ex4.keeps nD3 eD3
            obtain ⟨k1, k2⟩ := rep_keep_at (K := X.K) (mg := X.mg) (ρ := ρ4) (u := .lst (acc ++ [v])) eD4
            refine ⟨acc, eD4, by rw [← rD.length]; exact hz, hN ρ4 _ (acc ++ [v]) (accD ++ [y]) h2 (((ex.trans ex3).trans ex4).side n0 nD4) nD4 upd_same ?_ ?_ (ha4.side nD4 eD4) ?_⟩
            · exact ((((rD.ext ex3).ext ex4)).last rv).keep k1 k2 List.prefix_rfl
            · exact ((lr.ext ex3).ext ex4).keep k1 k2
            · have P2 : PostG X.K X.mg R2 (fun c d H' => W c d σ0 H') H0 ρ0 Q ((((rest (accD.length + 1) ls h2).bind fun ys h3 => .ok (y :: ys) h3)).bind fun ys h => .ok (accD ++ ys) h) := P'
              rw [Out.bind_assoc] at P2
              rw [List.length_append]
              have e1 : (fun (ys : List D) (h : Hm) => (Out.ok (accD ++ [y] ++ ys) h : Out (List D))) = fun ys h => (Out.ok (y :: ys) h).bind fun ys h => .ok (accD ++ ys) h := by
                funext ys h
                show Out.ok (accD ++ [y] ++ ys) h = Out.ok (accD ++ (y :: ys)) h
                rw [List.append_assoc]; rfl
              rw [e1]
              exact P2
        · exact P'.elim
def JTs (X : Cx) (W : WX) (ifs : List Expr) (m : BM) : Prop := PTs X ifs (tG X W RB m)
theorem jts_nil : JTs X W [] bYes := ⟨fun pins s σ H Q I ⟨ρ, ls, h, LR, HA, P⟩ => pts_nil.run pins s σ H Q I (P true H ρ .refl rfl HA)⟩
theorem jts_one {c : Expr} {m : BM} (h : JT X W c m) : JTs X W [c] m := pts_one h
def compL (n : Nat) (g : D → Ls → Option Ls) (c : BM) (e : EM) (vs : List Nat) : Nat → Nat → Nat → Ls → Hm → Out (List D)
  | 0, i, _ => fun _ h => match getL h n with
    | none => .stuck
    | some ds => if ds.length = i then .ok [] h else .stuck
  | m + 1, i, k => fun ls h => match getL h n with
    | none => .stuck
    | some ds => if ds.length = i + (m + 1) then (match ds[i]? with
      | none => .stuck
      | some d => (match g d (wipeL ls vs) with
        | none => .stuck
        | some ls1 => (c ls1 h).nox.bind fun b h1 => if b = true then (if k < sizeLine then (e ls1 h1).nox.bind fun y h2 => (compL n g c e vs m (i + 1) (k + 1) ls h2).bind fun ys h3 => .ok (y :: ys) h3 else .stuck) else compL n g c e vs m (i + 1) k ls h1)) else .stuck
def lComp (g : D → Ls → Option Ls) (mi : Ls → Hm → Out Src) (c : BM) (e : EM) (vs : List Nat) : AM := fun ls h => (mi ls h).bind fun s h1 => match s with
  | .items ds => compD g c e vs ds 0 ls h1
  | .loc n => (match getL h1 n with
    | none => .stuck
    | some ds => compL n g c e vs ds.length 0 0 ls h1)
theorem comp_core {tg iter : Expr} {ifs : List Expr} {g : D → Ls → Option Ls} {mi : Ls → Hm → Out Src} {c : BM} {e : EM} {vs fs : List Nat} {σ : St} {H : Hp} {Q : VK} (hfs : ∀ j ∈ fs, j ∈ vs) (q : tG X W (RL X H) (lComp g mi c e vs) σ H Q) :
    tLc (fun σ H R => tG X W (SRel X) mi σ H R) (tTg X fs g) (tG X W0 RB c) (tG X W0 (RV X) e) vs σ H Q := by
  obtain ⟨ρ, ls, h, LR, HA, P⟩ := q
  refine tG_bind0 (R1 := SRel X) (R2 := RL X H) LR HA P fun s h1 J H1 ρ1 e1 r1 HA1 LR1 P1 => fun Dd hD => ?_
  obtain ⟨n0, nD⟩ := fresh_back e1 HA1 hD
  have ex0 : Ext ρ1 H1 ρ1 (upd H1 Dd (.lst [])) := .laid hD
  have fin : ∀ (ρ2 : List Addr) (H2 : Hp) (acc : List V) (accD : List D) (h2 : Hm), Ext ρ1 H1 ρ2 H2 → Dd ∉ ρ2 → H2 Dd = some (.lst acc) → Reps X.K X.mg H2 ρ2 accD acc → HAbs X.K X.mg H2 ρ2 h2 →
      PostG X.K X.mg (RL X H) (fun c d H' => W c d σ H') H ρ Q ((Out.ok [] h2).bind fun ys h => .ok (accD ++ ys) h) → Q (.ref Dd) H2 := fun ρ2 H2 acc accD h2 ex nd eD rD ha p =>
    p (.ref Dd) H2 ρ2 (e1.trans ex) ⟨Dd, acc, rfl, n0, nd, eD, by rw [List.append_nil]; exact rD⟩ ha
  cases s with
  | items ds =>
    obtain ⟨G, Y, w, hG, hY⟩ := r1
    refine lc_it (g := tTg X fs g) (tt := tG X W0 RB c) (te := tG X W0 (RV X) e) w (fun i H2 => ∃ ρ2 acc accD h2, Ext ρ1 H1 ρ2 H2 ∧ Dd ∉ ρ2 ∧ H2 Dd = some (.lst acc) ∧ Reps X.K X.mg H2 ρ2 accD acc ∧ LRep X.K X.mg H2 ρ2 ls σ ∧ HAbs X.K X.mg H2 ρ2 h2 ∧
      PostG X.K X.mg (RL X H) (fun c d H' => W c d σ H') H ρ Q ((compD g c e vs (ds.drop i) accD.length ls h2).bind fun ys h => .ok (accD ++ ys) h)) ⟨ρ1, [], [], h1, ex0, nD, upd_same, .nil, LR1.ext ex0, HA1.laid hD, ?_⟩
      (fun i H2 _ ⟨ρ2, _, _, _, ex, _⟩ => hG H2 ρ2 ex) (fun i x H2 H' hi q y => ?_) fun H2 q => ?_
    · have P2 : PostG X.K X.mg (RL X H) (fun c d H' => W c d σ H') H ρ Q (compD g c e vs ds 0 ls h1) := P1
      show PostG X.K X.mg (RL X H) (fun c d H' => W c d σ H') H ρ Q ((compD g c e vs ds 0 ls h1).bind fun ys h => .ok ([] ++ ys) h)
      cases z : compD g c e vs ds 0 ls h1 with
      | ok a b => rw [z] at P2; exact P2
      | exc a b d => rw [z] at P2; exact P2
      | stuck => rw [z] at P2; exact P2
    · obtain ⟨ρ2, acc, accD, h2, ex, nd, eD, rD, lr, ha, p⟩ := q
      obtain ⟨e2, ha2, d, hd, rd⟩ := hY i H2 ρ2 h2 x H' hi ex ha y
      have ed : ds.drop i = d :: ds.drop (i + 1) := by
        rw [List.drop_eq_getElem_cons hi]
        rw [List.getElem?_eq_getElem hi] at hd
        rw [Option.some.inj hd]
      rw [ed] at p
      exact comp_step (R2 := RL X H) (rest := fun k => compD g c e vs (ds.drop (i + 1)) k) hfs hD (ex.trans e2) nd (e2.keeps nd eD).1 (rD.ext e2) (lr.ext e2) ha2 rd p fun ρ' H2 acc2 accD2 h2 a1 a2 a3 a4 a5 a6 a7 => ⟨ρ', acc2, accD2, h2, a1, a2, a3, a4, a5, a6, a7⟩
    · obtain ⟨ρ2, acc, accD, h2, ex, nd, eD, rD, lr, ha, p⟩ := q
      rw [List.drop_length] at p
      exact fin ρ2 H2 acc accD h2 ex nd eD rD ha p
  | loc n =>
    obtain ⟨a, hn, rfl⟩ := r1
    have P2 : PostG X.K X.mg (RL X H) (fun c d H' => W c d σ H') H ρ Q (match getL h1 n with
      | none => .stuck
      | some ds => compL n g c e vs ds.length 0 0 ls h1) := P1
    cases q0 : getL h1 n with
    | none => rw [q0] at P2; exact P2.elim
    | some ds0 =>
      rw [q0] at P2
      refine ⟨fun i m H2 => ∃ ρ2 acc accD h2, Ext ρ1 H1 ρ2 H2 ∧ Dd ∉ ρ2 ∧ H2 Dd = some (.lst acc) ∧ Reps X.K X.mg H2 ρ2 accD acc ∧ LRep X.K X.mg H2 ρ2 ls σ ∧ HAbs X.K X.mg H2 ρ2 h2 ∧
        PostG X.K X.mg (RL X H) (fun c d H' => W c d σ H') H ρ Q ((compL n g c e vs m i accD.length ls h2).bind fun ys h => .ok (accD ++ ys) h), ⟨ds0.length, ρ1, [], [], h1, ex0, nD, upd_same, .nil, LR1.ext ex0, HA1.laid hD, ?_⟩, fun i m H2 q => ?_⟩
      · show PostG X.K X.mg (RL X H) (fun c d H' => W c d σ H') H ρ Q ((compL n g c e vs ds0.length 0 0 ls h1).bind fun ys h => .ok ([] ++ ys) h)
        have P3 : PostG X.K X.mg (RL X H) (fun c d H' => W c d σ H') H ρ Q (compL n g c e vs ds0.length 0 0 ls h1) := P2
        cases z : compL n g c e vs ds0.length 0 0 ls h1 with
        | ok a b => rw [z] at P3; exact P3
        | exc a b d => rw [z] at P3; exact P3
        | stuck => rw [z] at P3; exact P3
      · obtain ⟨ρ2, acc, accD, h2, ex, nd, eD, rD, lr, ha, p⟩ := q
        have hn' : ρ2[n]? = some a := by
          obtain ⟨t, rfl⟩ := ex.pre
          rw [List.getElem?_append_left (List.getElem?_eq_some_iff.mp hn).1]; exact hn
        cases m with
        | zero =>
          have p' : PostG X.K X.mg (RL X H) (fun c d H' => W c d σ H') H ρ Q ((match getL h2 n with
            | none => .stuck
            | some ds => if ds.length = i then .ok [] h2 else .stuck : Out (List D)).bind fun ys h => .ok (accD ++ ys) h) := p
          cases q : getL h2 n with
          | none => rw [q] at p'; exact p'.elim
          | some ds =>
            rw [q] at p'
            dsimp only at p'
            split at p'
            · rename_i hl
              obtain ⟨vs, e3, r⟩ := getL_at ha q hn'
              exact .inl ⟨⟨vs, .of e3, by rw [← r.length]; omega⟩, fin ρ2 H2 acc accD h2 ex nd eD rD ha p'⟩
            · exact p'.elim
        | succ m =>
          have p' : PostG X.K X.mg (RL X H) (fun c d H' => W c d σ H') H ρ Q ((match getL h2 n with
            | none => .stuck
            | some ds => if ds.length = i + (m + 1) then (match ds[i]? with
              | none => .stuck
              | some d => (match g d (wipeL ls vs) with
                | none => .stuck
                | some ls1 => (c ls1 h2).nox.bind fun b h1 => if b = true then (if accD.length < sizeLine then (e ls1 h1).nox.bind fun y h2 => (compL n g c e vs m (i + 1) (accD.length + 1) ls h2).bind fun ys h3 => .ok (y :: ys) h3 else .stuck) else compL n g c e vs m (i + 1) accD.length ls h1)) else .stuck : Out (List D)).bind fun ys h => .ok (accD ++ ys) h) := p
          cases q : getL h2 n with
          | none => rw [q] at p'; exact p'.elim
          | some ds =>
            rw [q] at p'
            dsimp only at p'
            split at p'
            · rename_i hl
              obtain ⟨us, e3, r⟩ := getL_at ha q hn'
              have hi : i < ds.length := by omega
              rw [List.getElem?_eq_getElem hi] at p'
              dsimp only at p'
              obtain ⟨v, hv, rv⟩ := r.get (List.getElem?_eq_getElem hi)
              refine .inr ⟨⟨us, v, .of e3, hv⟩, fun H2 => ∃ ρ2 acc accD h2, Ext ρ1 H1 ρ2 H2 ∧ Dd ∉ ρ2 ∧ H2 Dd = some (.lst acc) ∧ Reps X.K X.mg H2 ρ2 accD acc ∧ LRep X.K X.mg H2 ρ2 ls σ ∧ HAbs X.K X.mg H2 ρ2 h2 ∧
                PostG X.K X.mg (RL X H) (fun c d H' => W c d σ H') H ρ Q ((compL n g c e vs m (i + 1) accD.length ls h2).bind fun ys h => .ok (accD ++ ys) h), fun H' q => ⟨m, Nat.lt_succ_self m, q⟩, fun x H' y => ?_⟩
              obtain ⟨rfl, y⟩ := y
              have ex2 : x = v := Option.some.inj ((y us (.of e3)).symm.trans hv)
              subst ex2
              exact comp_step (R2 := RL X H) (rest := fun k => compL n g c e vs m (i + 1) k) hfs hD ex nd eD rD lr ha rv p' fun ρ' H2 acc2 accD2 h2 a1 a2 a3 a4 a5 a6 a7 => ⟨ρ', acc2, accD2, h2, a1, a2, a3, a4, a5, a6, a7⟩
            · exact p'.elim
theorem jl_comp {elt tg iter : Expr} {ifs : List Expr} {scope : Scope} {own : List (Str × Nat)} {pos : Pos} {fs : List Nat} {g : D → Ls → Option Ls} {mi : Ls → Hm → Out Src} {c : BM} {e : EM} (hc : X.calm = true) (hN : X.N.Nodup) (hi : JI X W tg iter mi) (ok : BlkOk X.N X.env.scope scope own)
    (hg : ∀ (s : Shared) (H : Hp) (C : Addr) (cl : List (Str × Addr)) (fp : List Addr), JG (X.blk s H scope (compEnvC scope cl C X.env) fp) tg fs g) (ht : ∀ (s : Shared) (H : Hp) (C : Addr) (cl : List (Str × Addr)) (fp : List Addr), JTs (X.blk s H scope (compEnvC scope cl C X.env) fp) W0 ifs c)
    (he : ∀ (s : Shared) (H : Hp) (C : Addr) (cl : List (Str × Addr)) (fp : List Addr), J (X.blk s H scope (compEnvC scope cl C X.env) fp) W0 elt e) (hfs : ∀ j ∈ fs, j ∈ own.map (·.2)) (hs : ∀ x, foldedSetIterable iter X.env x = pure x := by intro _; rfl) :
    JL X W (.ListComp elt [⟨tg, iter, ifs, 0⟩] scope pos) (lComp g mi c e (own.map (·.2))) :=
  peW (pe_lc (g := tTg X fs g) (tt := tG X W0 RB c) (te := tG X W0 (RV X) e) hc hN hi ok hg ht he hs) fun σ H Q q => comp_core (tg := tg) (iter := iter) (ifs := ifs) hfs q
/-- name = [..] on one line -/
theorem js_setC {i : Nat} {y : Str} {py : Pos} {elt tg iter : Expr} {ifs : List Expr} {scope : Scope} {own : List (Str × Nat)} {pos spos : Pos} {fs : List Nat} {g : D → Ls → Option Ls} {mi : Ls → Hm → Out Src} {c : BM} {e : EM} (hc : X.calm = true) (hN : X.N.Nodup) (hi : JI X W tg iter mi) (ok : BlkOk X.N X.env.scope scope own)
    (hg : ∀ (s : Shared) (H : Hp) (C : Addr) (cl : List (Str × Addr)) (fp : List Addr), JG (X.blk s H scope (compEnvC scope cl C X.env) fp) tg fs g) (ht : ∀ (s : Shared) (H : Hp) (C : Addr) (cl : List (Str × Addr)) (fp : List Addr), JTs (X.blk s H scope (compEnvC scope cl C X.env) fp) W0 ifs c)
    (he : ∀ (s : Shared) (H : Hp) (C : Addr) (cl : List (Str × Addr)) (fp : List Addr), J (X.blk s H scope (compEnvC scope cl C X.env) fp) W0 elt e) (hfs : ∀ j ∈ fs, j ∈ own.map (·.2))
    (hsw : swapsWith (.ListComp elt [⟨tg, iter, ifs, 0⟩] scope pos) (some (.Name y py)) spos.line X.env = pure true) (hy : X.N[i]? = some y := by rfl) (hyl : X.env.scope.names.lookup y = some .local := by rfl) (hs : ∀ x, foldedSetIterable iter X.env x = pure x := by intro _; rfl) :
    JS X W (.Assign [.Name y py] (.ListComp elt [⟨tg, iter, ifs, 0⟩] scope pos) spos) (sSet i (eNew (lComp g mi c e (own.map (·.2))))) :=
  js_set0 (ps_setLc (g := tTg X fs g) (tt := tG X W0 RB c) (te := tG X W0 (RV X) e) hc hN hy hyl hsw hi ok hg ht he hs) fun σ H Q q => by
    obtain ⟨ρ, ls, h, LR, HA, P⟩ := q
    refine comp_core (X := X) (W := W) (tg := tg) (iter := iter) (ifs := ifs) hfs (tG_bind0 (R1 := RL X H) LR HA P fun ds h1 v H1 ρ1 e1 r1 HA1 LR1 P1 => ?_)
    obtain ⟨p, vs, rfl, n0, np, ep, r⟩ := r1
    refine P1 (.ref p) H1 (ρ1 ++ [p]) ⟨e1.pre.trans (List.prefix_append _ _), fun b hb nb => ?_, e1.old, e1.tup, e1.frz⟩ (.loc ?_)
      (HA1.own np ⟨vs, ep, r.keep (fun _ _ h => h) (fun _ _ _ h => h) (List.prefix_append _ _)⟩)
    · rcases List.mem_append.mp hb with z | z
      · exact e1.new b z nb
      · simp at z; subst z; exact n0
    · rw [List.getElem?_append_right (by rw [HA1.len]; exact Nat.le_refl _)]; simp [HA1.len]
end
end MP

set_option Elab.async false
set_option linter.all false
set_option maxRecDepth 100000
set_option maxHeartbeats 2000000
set_option autoImplicit false
namespace MP
open PySem PySem.Spec PyProof.Rows L2
section
variable {X : Cx} {W : WX}
/-! ### x[i], x[i:j] -/
def oko {α : Type} (o : Option α) (h : Hm) : Out α := match o with
  | some a => .ok a h
  | none => .stuck
def dIx : D → D → Hm → Out D
  | .str z, .int i, h => if z.length ≤ sizeLine then (oko (atI z.cps.toList i) h).bind fun c h => .ok (.str ⟨#[c]⟩) h else .stuck
  | .tup ds, .int i, h => oko (atI ds i) h
  | .rls ds, .int i, h => oko (atI ds i) h
  | .loc n, .int i, h => (oko (getL h n) h).bind fun ds h => oko (atI ds i) h
  | _, _, _ => .stuck
theorem atI_reps {K : PySem.W.Frag} {mg : Str → Option Value} {H : Hp} {ρ : List Addr} {ds : List D} {vs : List V} {i : Int} {d : D} (r : Reps K mg H ρ ds vs) (e : atI ds i = some d) : ∃ v, atI vs i = some v ∧ Rep K mg H ρ d v := by
  unfold atI at e ⊢
  rw [← r.length]
  cases q : ixN ds.length i with
  | none => rw [q] at e; cases e
  | some j => rw [q] at e; exact r.get e
theorem oko_post {α β : Type} {R : Hp → List Addr → α → β → Prop} {W' : Value → Option Addr → Hp → Prop} {H : Hp} {ρ : List Addr} {Q : β → Hp → Prop} {o : Option α} {h : Hm} {K : PySem.W.Frag} {mg : Str → Option Value} (P : PostG K mg R W' H ρ Q (oko o h)) : ∃ a, o = some a ∧ PostG K mg R W' H ρ Q (.ok a h) := by
  cases o with
  | none => exact P.elim
  | some a => exact ⟨a, rfl, P⟩
theorem oko_bind {α β γ : Type} {R : Hp → List Addr → γ → β → Prop} {W' : Value → Option Addr → Hp → Prop} {H : Hp} {ρ : List Addr} {Q : β → Hp → Prop} {o : Option α} {h : Hm} {f : α → Hm → Out γ} {K : PySem.W.Frag} {mg : Str → Option Value} (P : PostG K mg R W' H ρ Q ((oko o h).bind f)) : ∃ a, o = some a ∧ PostG K mg R W' H ρ Q (f a h) := by
  cases o with
  | none => exact P.elim
  | some a => exact ⟨a, rfl, P⟩
theorem j_ix {a b : Expr} {ma mb : EM} {pos : Pos} (ha : J X W a ma) (hb : J X W b mb) (hs : PlainIx b := by exact fun _ _ => rfl) : J X W (.Subscript a b pos) (eBin dIx ma mb) :=
  peW (pe_ix ix_seq ha hb hs) fun σ H Q ⟨ρ, ls, h, LR, HA, P⟩ => tG_bind LR HA P fun x h1 v H1 ρ1 e1 r1 HA1 LR1 P1 => tG_bind LR1 HA1 P1 fun y h2 u H2 ρ2 e2 r2 HA2 LR2 P2 => by
    have r1 := r1.ext e2
    cases r2 with
    | @int i =>
      cases r1 with
      | @str z =>
        have P3 : PostG X.K X.mg (RV X) (fun c d H' => W c d σ H') H2 ρ2 Q (if z.length ≤ sizeLine then (oko (atI z.cps.toList i) h2).bind fun c h => .ok (.str ⟨#[c]⟩) h else .stuck) := P2
        split at P3
        · rename_i hz
          obtain ⟨c, ec, P4⟩ := oko_bind P3
          exact .inr (.inr ⟨z, i, c, rfl, rfl, hz, ec, P4 _ H2 ρ2 .refl .str HA2⟩)
        · exact P3.elim
      | @tup ds p vs t r =>
        obtain ⟨d, ed, P4⟩ := oko_post (show PostG X.K X.mg (RV X) (fun c d H' => W c d σ H') H2 ρ2 Q (oko (atI ds i) h2) from P2)
        obtain ⟨v, ev, rv⟩ := atI_reps r ed
        exact .inr (.inl ⟨p, vs, i, v, rfl, rfl, t.sq, ev, P4 v H2 ρ2 .refl rv HA2⟩)
      | @rls ds p vs t r =>
        obtain ⟨d, ed, P4⟩ := oko_post (show PostG X.K X.mg (RV X) (fun c d H' => W c d σ H') H2 ρ2 Q (oko (atI ds i) h2) from P2)
        obtain ⟨v, ev, rv⟩ := atI_reps r ed
        exact .inl ⟨p, vs, i, v, rfl, rfl, t.sq, ev, P4 v H2 ρ2 .refl rv HA2⟩
      | @loc n p hn =>
        obtain ⟨ds, eds, P3⟩ := oko_bind (show PostG X.K X.mg (RV X) (fun c d H' => W c d σ H') H2 ρ2 Q ((oko (getL h2 n) h2).bind fun ds h => oko (atI ds i) h) from P2)
        obtain ⟨vs, e3, r⟩ := getL_at HA2 eds hn
        obtain ⟨d, ed, P4⟩ := oko_post P3
        obtain ⟨v, ev, rv⟩ := atI_reps r ed
        exact .inl ⟨p, vs, i, v, rfl, rfl, .of e3, ev, P4 v H2 ρ2 .refl rv HA2⟩
      | _ => exact P2.elim
    | _ => cases r1 <;> exact P2.elim
def cutD (xs : List D) (lo hi : Option Int) : List D := (xs.drop (HT.sIx xs.length 0 lo)).take (HT.sIx xs.length xs.length hi - HT.sIx xs.length 0 lo)
theorem cut_reps {K : PySem.W.Frag} {mg : Str → Option Value} {H : Hp} {ρ : List Addr} {ds : List D} {vs : List V} {lo hi : Option Int} (r : Reps K mg H ρ ds vs) : Reps K mg H ρ (cutD ds lo hi) (cutV vs lo hi) := by
  unfold cutD cutV
  rw [← r.length]
  exact (r.drop _).take _
/-- a part of a slice -/
abbrev OM := Ls → Hm → Out (Option Int)
def oNo : OM := fun _ h => .ok none h
def toI : D → Hm → Out (Option Int)
  | .int i, h => .ok (some i) h
  | _, _ => .stuck
def oIs (m : EM) : OM := fun ls h => (m ls h).bind toI
def JO (X : Cx) (W : WX) (e : Option Expr) (m : OM) : Prop := PO X e (fun σ H Q => tG X W (fun _ _ a b => a = b) m σ H Q)
theorem poW {e : Option Expr} {t t' : TO} (p : PO X e t) (h : ∀ σ H Q, t' σ H Q → t σ H Q) : PO X e t' := ⟨fun pins s σ H Q I q => p.run pins s σ H Q I (h σ H Q q)⟩
theorem jo_no : JO X W none oNo := poW po_none fun σ H Q ⟨ρ, ls, h, LR, HA, P⟩ => P none H ρ .refl rfl HA
theorem jo_is {e : Expr} {m : EM} (a : J X W e m) : JO X W (some e) (oIs m) := poW (po_some a) fun σ H Q ⟨ρ, ls, h, LR, HA, P⟩ => tG_bind (R2 := fun _ _ a b => a = b) LR HA P fun d h1 v H1 ρ1 e1 r1 HA1 LR1 P1 => by
  cases r1 with
  | @int i => exact ⟨i, rfl, P1 (some i) H1 ρ1 .refl rfl HA1⟩
  | _ => exact P1.elim
def eSl (f : D → Option Int → Option Int → Hm → Out D) (m : EM) (lo hi : OM) : EM := fun ls h => (m ls h).bind fun d h1 => (lo ls h1).bind fun l h2 => (hi ls h2).bind fun u h3 => f d l u h3
def dSl : D → Option Int → Option Int → Hm → Out D
  | .str z, l, u, h => if z.length ≤ sizeLine then .ok (.str (cutS z l u)) h else .stuck
  | .tup ds, l, u, h => .ok (.tup (cutD ds l u)) h
  | .rls ds, l, u, h => .ok (.loc h.length) (h ++ [.lst (cutD ds l u)])
  | .loc n, l, u, h => (oko (getL h n) h).bind fun ds h => .ok (.loc h.length) (h ++ [.lst (cutD ds l u)])
  | _, _, _, _ => .stuck
theorem new_loc {K : PySem.W.Frag} {mg : Str → Option Value} {H : Hp} {ρ : List Addr} {h : Hm} {p : Addr} {ds : List D} {vs : List V} (A : HAbs K mg H ρ h) (n : H p = none) (r : Reps K mg H ρ ds vs) :
    Ext ρ H (ρ ++ [p]) (upd H p (.lst vs)) ∧ Rep K mg (upd H p (.lst vs)) (ρ ++ [p]) (.loc h.length) (.ref p) ∧ HAbs K mg (upd H p (.lst vs)) (ρ ++ [p]) (h ++ [.lst ds]) := by
  refine ⟨.push n, .loc ?_, A.push n ⟨vs, upd_same, r.ext (.push n)⟩⟩
  rw [List.getElem?_append_right (by rw [A.len]; exact Nat.le_refl _)]; simp [A.len]
theorem j_sl {e : Expr} {lo hi : Option Expr} {m : EM} {l u : OM} {pos p2 : Pos} (a : J X W e m) (b : JO X W lo l) (c : JO X W hi u) : J X W (.Subscript e (.Slice lo hi none p2) pos) (eSl dSl m l u) :=
  peW (pe_slice ((sl_str.or sl_tupA).or sl_list) a b c) fun σ H Q ⟨ρ, ls, h, LR, HA, P⟩ => tG_bind LR HA P fun x h1 v H1 ρ1 e1 r1 HA1 LR1 P1 => tG_bind (R1 := fun _ _ a b => a = b) LR1 HA1 P1 fun y h2 y' H2 ρ2 e2 r2 HA2 LR2 P2 => tG_bind (R1 := fun _ _ a b => a = b) LR2 HA2 P2 fun z h3 z' H3 ρ3 e3 r3 HA3 LR3 P3 => by
    cases r2
    cases r3
    have r1 := (r1.ext e2).ext e3
    cases r1 with
    | @str x =>
      have P4 : PostG X.K X.mg (RV X) (fun c d H' => W c d σ H') H3 ρ3 Q (if x.length ≤ sizeLine then .ok (.str (cutS x y z)) h3 else .stuck) := P3
      split at P4
      · rename_i hz
        exact .inl (.inl ⟨x, rfl, hz, P4 _ H3 ρ3 .refl .str HA3⟩)
      · exact P4.elim
    | @tup ds p vs t r =>
      refine .inl (.inr ⟨p, vs, rfl, t.sq, fun whole => ?_, fun _ q hq => ?_⟩)
      · refine P3 _ H3 ρ3 .refl (.tup t ?_) HA3
        unfold cutD
        rw [r.length, whole.1, whole.2, List.drop_zero, Nat.sub_zero, ← r.length, List.take_length]
        exact r
      · exact P3 _ _ ρ3 (.laid hq) (.tup (.inl upd_same) ((cut_reps r).ext (.laid hq))) (HA3.laid hq)
    | @rls ds p vs t r =>
      refine .inr ⟨p, vs, rfl, t.sq, fun q hq => ?_⟩
      obtain ⟨q1, q2, q3⟩ := new_loc HA3 hq (cut_reps (lo := y) (hi := z) r)
      exact P3 _ _ _ q1 q2 q3
    | @loc n p hn =>
      obtain ⟨ds, eds, P4⟩ := oko_bind (show PostG X.K X.mg (RV X) (fun c d H' => W c d σ H') H3 ρ3 Q ((oko (getL h3 n) h3).bind fun ds h => .ok (.loc h.length) (h ++ [.lst (cutD ds y z)])) from P3)
      obtain ⟨vs, e3, r⟩ := getL_at HA3 eds hn
      refine .inr ⟨p, vs, rfl, .of e3, fun q hq => ?_⟩
      obtain ⟨q1, q2, q3⟩ := new_loc HA3 hq (cut_reps (lo := y) (hi := z) r)
      exact P4 _ _ _ q1 q2 q3
    | _ => exact P3.elim
/-- a slice of a list, as a new list -/
def dSlL : D → Option Int → Option Int → Hm → Out (List D)
  | .rls ds, l, u, h => .ok (cutD ds l u) h
  | .loc n, l, u, h => (oko (getL h n) h).bind fun ds h => .ok (cutD ds l u) h
  | _, _, _, _ => .stuck
def lSl (m : EM) (lo hi : OM) : AM := fun ls h => (m ls h).bind fun d h1 => (lo ls h1).bind fun l h2 => (hi ls h2).bind fun u h3 => dSlL d l u h3
theorem jl_sl {e : Expr} {lo hi : Option Expr} {m : EM} {l u : OM} {pos p2 : Pos} (a : J X W e m) (b : JO X W lo l) (c : JO X W hi u) : JL X W (.Subscript e (.Slice lo hi none p2) pos) (lSl m l u) :=
  peW (pe_slice sl_list a b c) fun σ H Q ⟨ρ, ls, h, LR, HA, P⟩ => tG_bind0 (R2 := RL X H) LR HA P fun x h1 v H1 ρ1 e1 r1 HA1 LR1 P1 => by
    refine tG_bind0 (R1 := fun _ _ a b => a = b) (R2 := RL X H) (Q := Q) LR1 HA1 (PostG.shift (H := H) (ρ := ρ) P1 e1) fun y h2 y' H2 ρ2 e2 r2 HA2 LR2 P2 => ?_
    refine tG_bind0 (R1 := fun _ _ a b => a = b) (R2 := RL X H) (Q := Q) LR2 HA2 (PostG.shift (H := H1) (ρ := ρ1) P2 e2) fun z h3 z' H3 ρ3 e3 r3 HA3 LR3 P3 => ?_
    have P3 := PostG.shift P3 e3
    cases r2
    cases r3
    have r1 := (r1.ext e2).ext e3
    have fin : ∀ (ds : List D) (vs : List V) (q : Addr), H3 q = none → Reps X.K X.mg H3 ρ3 ds vs → PostG X.K X.mg (RL X H) (fun c d H' => W c d σ H') H3 ρ3 Q (.ok (cutD ds y z) h3) → Q (.ref q) (upd H3 q (.lst (cutV vs y z))) := fun ds vs q hq r p => by
      obtain ⟨n0, nq⟩ := fresh_back ((e1.trans e2).trans e3) HA3 hq
      exact p _ _ ρ3 (.laid hq) ⟨q, _, rfl, n0, nq, upd_same, (cut_reps r).ext (.laid hq)⟩ (HA3.laid hq)
    cases r1 with
    | @rls ds p vs t r => exact ⟨p, vs, rfl, t.sq, fun q hq => fin ds vs q hq r P3⟩
    | @loc n p hn =>
      obtain ⟨ds, eds, P4⟩ := oko_bind (show PostG X.K X.mg (RL X H) (fun c d H' => W c d σ H') H3 ρ3 Q ((oko (getL h3 n) h3).bind fun ds h => .ok (cutD ds y z) h) from P3)
      obtain ⟨vs, e3, r⟩ := getL_at HA3 eds hn
      exact ⟨p, vs, rfl, .of e3, fun q hq => fin ds vs q hq r P4⟩
    | _ => exact P3.elim
/-! ### calls of built-ins by one value -/
def eU (f : D → Hm → Out D) (m : EM) : EM := fun ls h => (m ls h).bind f
def eUQ (f : Bool × List D → Hm → Out D) (m : Ls → Hm → Out (Bool × List D)) : EM := fun ls h => (m ls h).bind f
def UnD (X : Cx) (W : WX) (f : D → Hm → Out D) (r : List V → Hp → VK → Prop) : Prop := ∀ (d : D) (v : V) (H : Hp) (ρ : List Addr) (h : Hm) (σ : St) (Q : VK), Rep X.K X.mg H ρ d v → HAbs X.K X.mg H ρ h → PostG X.K X.mg (RV X) (fun c d H' => W c d σ H') H ρ Q (f d h) → r [v] H Q
def UnQ (X : Cx) (W : WX) (f : Bool × List D → Hm → Out D) (r : List V → Hp → VK → Prop) : Prop := ∀ (q : Bool × List D) (v : V) (H : Hp) (ρ : List Addr) (h : Hm) (σ : St) (Q : VK), RQ X H ρ q v → HAbs X.K X.mg H ρ h → PostG X.K X.mg (RV X) (fun c d H' => W c d σ H') H ρ Q (f q h) → r [v] H Q
section
variable {x : Str} {id T : String} {p pos : Pos} {e : Expr} {r : List V → Hp → VK → Prop}
theorem one_core {f : D → Hm → Out D} {m : EM} {σ : St} {H : Hp} {Q : VK} (hq : UnD X W f r) (q : tG X W (RV X) (eU f m) σ H Q) : tCB r (tCons (tG X W (RV X) m) tNil) σ H Q := by
  obtain ⟨ρ, ls, h, LR, HA, P⟩ := q
  exact tG_bind LR HA P fun d h1 v H1 ρ1 e1 r1 HA1 LR1 P1 => hq d v H1 ρ1 h1 σ Q r1 HA1 P1
theorem oneQ_core {f : Bool × List D → Hm → Out D} {m : Ls → Hm → Out (Bool × List D)} {σ : St} {H : Hp} {Q : VK} (hq : UnQ X W f r) (q : tG X W (RV X) (eUQ f m) σ H Q) : tCB r (tCons (tG X W (RQ X) m) tNil) σ H Q := by
  obtain ⟨ρ, ls, h, LR, HA, P⟩ := q
  exact tG_bind (R1 := RQ X) LR HA P fun d h1 v H1 ρ1 e1 r1 HA1 LR1 P1 => hq d v H1 ρ1 h1 σ Q r1 HA1 P1
theorem j_b1 {f : D → Hm → Out D} {m : EM} (hc : CallR X (.builtin id) r) (hq : UnD X W f r) (a : J X W e m) (hm : X.mg x = none) (hv : bootBuiltins x = some (.builtin id)) (hn : x ≠ "__name__") (hdb : (x == ("__debug__" : Str)) = false) (hg : Gl X x)
    (he : starEach [e] X.env = (false, eval e X.env) :: starEach [] X.env := by rfl) (hpl : (backTo pos (starEach [] X.env)).any (·.1) = false := by rfl) : J X W (.Call (.Name x p) [e] [] pos) (eU f m) :=
  peW (pe_callB hc hg hm hv (pa_cons a pa_nil he) hn hdb he hpl) fun σ H Q q => one_core hq q
theorem j_q1 {f : Bool × List D → Hm → Out D} {m : Ls → Hm → Out (Bool × List D)} (hc : CallR X (.builtin id) r) (hq : UnQ X W f r) (a : JQ X W e m) (hm : X.mg x = none) (hv : bootBuiltins x = some (.builtin id)) (hn : x ≠ "__name__") (hdb : (x == ("__debug__" : Str)) = false) (hg : Gl X x)
    (he : starEach [e] X.env = (false, eval e X.env) :: starEach [] X.env := by rfl) (hpl : (backTo pos (starEach [] X.env)).any (·.1) = false := by rfl) : J X W (.Call (.Name x p) [e] [] pos) (eUQ f m) :=
  peW (pe_callB hc hg hm hv (pa_cons a pa_nil he) hn hdb he hpl) fun σ H Q q => oneQ_core hq q
theorem j_t1 {f : D → Hm → Out D} {m : EM} (hc : CallR X (.type T) r) (hq : UnD X W f r) (a : J X W e m) (hm : X.mg x = none) (hv : bootBuiltins x = some (.type T)) (hn : x ≠ "__name__") (hdb : (x == ("__debug__" : Str)) = false) (hg : Gl X x)
    (he : starEach [e] X.env = (false, eval e X.env) :: starEach [] X.env := by rfl) (hpl : (backTo pos (starEach [] X.env)).any (·.1) = false := by rfl) : J X W (.Call (.Name x p) [e] [] pos) (eU f m) :=
  peW (pe_callTy hc hg hm hv (pa_cons a pa_nil he) hn hdb he hpl) fun σ H Q q => one_core hq q
theorem j_tq1 {f : Bool × List D → Hm → Out D} {m : Ls → Hm → Out (Bool × List D)} (hc : CallR X (.type T) r) (hq : UnQ X W f r) (a : JQ X W e m) (hm : X.mg x = none) (hv : bootBuiltins x = some (.type T)) (hn : x ≠ "__name__") (hdb : (x == ("__debug__" : Str)) = false) (hg : Gl X x)
    (he : starEach [e] X.env = (false, eval e X.env) :: starEach [] X.env := by rfl) (hpl : (backTo pos (starEach [] X.env)).any (·.1) = false := by rfl) : J X W (.Call (.Name x p) [e] [] pos) (eUQ f m) :=
  peW (pe_callTy hc hg hm hv (pa_cons a pa_nil he) hn hdb he hpl) fun σ H Q q => oneQ_core hq q
end
/-! ### len -/
def dLen : D → Hm → Out D
  | .str z, h => if z.length ≤ sizeLine then .ok (.int z.length) h else .stuck
  | .tup ds, h => .ok (.int ds.length) h
  | .rls ds, h => .ok (.int ds.length) h
  | .loc n, h => (oko (getL h n) h).bind fun ds h => .ok (.int ds.length) h
  | _, _ => .stuck
theorem un_len : UnD X W dLen (fun xs H Q => ∃ x n, xs = [x] ∧ LenV X.K x H n ∧ Q (.int n) H) := fun d v H ρ h σ Q r HA P => by
  cases r with
  | @str z =>
    have P4 : PostG X.K X.mg (RV X) (fun c d H' => W c d σ H') H ρ Q (if z.length ≤ sizeLine then .ok (.int z.length) h else .stuck) := P
    split at P4
    · rename_i hz
      exact ⟨_, _, rfl, ⟨hz, rfl⟩, P4 _ H ρ .refl .int HA⟩
    · exact P4.elim
  | tup t r => exact ⟨_, _, rfl, .inr ⟨_, t.sq, rfl⟩, P _ H ρ .refl (by rw [r.length]; exact .int) HA⟩
  | rls t r => exact ⟨_, _, rfl, .inl ⟨_, t.sq, rfl⟩, P _ H ρ .refl (by rw [r.length]; exact .int) HA⟩
  | @loc n a hn =>
    obtain ⟨ds, eds, P4⟩ := oko_bind (show PostG X.K X.mg (RV X) (fun c d H' => W c d σ H') H ρ Q ((oko (getL h n) h).bind fun ds h => .ok (.int ds.length) h) from P)
    obtain ⟨vs, e3, r⟩ := getL_at HA eds hn
    exact ⟨_, _, rfl, .inl ⟨_, .of e3, rfl⟩, P4 _ H ρ .refl (by rw [r.length]; exact .int) HA⟩
  | _ => exact P.elim
theorem j_len {e : Expr} {m : EM} {p pos : Pos} (a : J X W e m) (hm : X.mg "len" = none) (hg : Gl X "len" := by rfl) (he : starEach [e] X.env = (false, eval e X.env) :: starEach [] X.env := by rfl) : J X W (.Call (.Name "len" p) [e] [] pos) (eU dLen m) :=
  j_b1 call_len un_len a hm boot_len (by decide) (by decide) hg he
def qLen : Bool × List D → Hm → Out D := fun q h => .ok (.int q.2.length) h
theorem j_lenQ {e : Expr} {m : Ls → Hm → Out (Bool × List D)} {p pos : Pos} (a : JQ X W e m) (hm : X.mg "len" = none) (hg : Gl X "len" := by rfl) (he : starEach [e] X.env = (false, eval e X.env) :: starEach [] X.env := by rfl) : J X W (.Call (.Name "len" p) [e] [] pos) (eUQ qLen m) :=
  j_q1 call_len (fun q v H ρ h σ Q r HA P => by
    obtain ⟨a, vs, rfl, hs, r⟩ := r
    refine ⟨_, vs.length, rfl, ?_, P _ H ρ .refl (by rw [r.length]; exact .int) HA⟩
    split at hs
    · exact .inl ⟨_, hs, rfl⟩
    · exact .inr ⟨_, TupAt.sq hs, rfl⟩) a hm boot_len (by decide) (by decide) hg he
/-! ### abs, int, bool, str of an int -/
def dAbs : D → Hm → Out D
  | .int i, h => .ok (.int (if i < 0 then -i else i)) h
  | _, _ => .stuck
theorem j_abs {e : Expr} {m : EM} {p pos : Pos} (a : J X W e m) (hm : X.mg "abs" = none) (hg : Gl X "abs" := by rfl) (he : starEach [e] X.env = (false, eval e X.env) :: starEach [] X.env := by rfl) : J X W (.Call (.Name "abs" p) [e] [] pos) (eU dAbs m) :=
  j_b1 call_abs (fun d v H ρ h σ Q r HA P => by
    cases r with
    | int => exact ⟨_, rfl, P _ H ρ .refl .int HA⟩
    | _ => exact P.elim) a hm (by decide +kernel) (by decide) (by decide) hg he
def dInt : D → Hm → Out D
  | .int i, h => .ok (.int i) h
  | .bl b, h => .ok (.int (if b then 1 else 0)) h
  | _, _ => .stuck
theorem j_int1 {e : Expr} {m : EM} {p pos : Pos} (a : J X W e m) (hm : X.mg "int" = none) (hg : Gl X "int" := by rfl) (he : starEach [e] X.env = (false, eval e X.env) :: starEach [] X.env := by rfl) : J X W (.Call (.Name "int" p) [e] [] pos) (eU dInt m) :=
  j_t1 call_int1 (fun d v H ρ h σ Q r HA P => by
    cases r with
    | int => exact .inl ⟨_, rfl, P _ H ρ .refl .int HA⟩
    | bl => exact .inr ⟨_, rfl, P _ H ρ .refl .int HA⟩
    | _ => exact P.elim) a hm boot_int (by decide) (by decide) hg he
def dStr : D → Hm → Out D
  | .int i, h => if i.natAbs.log2 < 1920 then .ok (.str (toString i)) h else .stuck
  | _, _ => .stuck
theorem j_strI {e : Expr} {m : EM} {p pos : Pos} (a : J X W e m) (hm : X.mg "str" = none) (hg : Gl X "str" := by rfl) (he : starEach [e] X.env = (false, eval e X.env) :: starEach [] X.env := by rfl) : J X W (.Call (.Name "str" p) [e] [] pos) (eU dStr m) :=
  j_t1 call_str_int (fun d v H ρ h σ Q r HA P => by
    cases r with
    | @int i =>
      have P4 : PostG X.K X.mg (RV X) (fun c d H' => W c d σ H') H ρ Q (if i.natAbs.log2 < 1920 then .ok (.str (toString i)) h else .stuck) := P
      split at P4
      · rename_i hz
        exact ⟨_, rfl, hz, P4 _ H ρ .refl .str HA⟩
      · exact P4.elim
    | _ => exact P.elim) a hm (by decide +kernel) (by decide) (by decide) hg he
end
end MP

set_option Elab.async false
set_option linter.all false
set_option maxRecDepth 100000
set_option maxHeartbeats 2000000
set_option autoImplicit false
namespace MP
open PySem PySem.Spec PyProof.Rows L2
section
variable {X : Cx} {W : WX}
/-! ### all, any, sum, tuple, list -/
def asBl : D → Option Bool
  | .bl b => some b
  | _ => none
def asIn : D → Option Int
  | .int i => some i
  | _ => none
def asSt : D → Option Str
  | .str x => some x
  | _ => none
theorem as_map {α : Type} {K : PySem.W.Frag} {mg : Str → Option Value} {H : Hp} {ρ : List Addr} {f : D → Option α} {g : α → V} (hf : ∀ d v a, Rep K mg H ρ d v → f d = some a → v = g a) : ∀ {ds : List D} {vs : List V} {bs : List α}, Reps K mg H ρ ds vs → ds.mapM f = some bs → vs = bs.map g
  | [], _, bs, .nil, e => by simp at e; subst e; rfl
  | d :: ds, _, bs, .cons r rs, e => by
    rw [List.mapM_cons] at e
    cases q : f d with
    | none => rw [q] at e; cases e
    | some p =>
      rw [q] at e
      cases q2 : ds.mapM f with
      | none => rw [q2] at e; cases e
      | some ps' =>
        rw [q2] at e
        cases e
        rw [hf _ _ _ r q, as_map hf rs q2]; rfl
theorem asBl_v {K : PySem.W.Frag} {mg : Str → Option Value} {H : Hp} {ρ : List Addr} : ∀ d v a, Rep K mg H ρ d v → asBl d = some a → v = V.bl a := fun d v a r e => by
  cases r <;> first | (cases e; rfl) | cases e
theorem asIn_v {K : PySem.W.Frag} {mg : Str → Option Value} {H : Hp} {ρ : List Addr} : ∀ d v a, Rep K mg H ρ d v → asIn d = some a → v = V.int a := fun d v a r e => by
  cases r <;> first | (cases e; rfl) | cases e
theorem asSt_v {K : PySem.W.Frag} {mg : Str → Option Value} {H : Hp} {ρ : List Addr} : ∀ d v a, Rep K mg H ρ d v → asSt d = some a → v = V.str a := fun d v a r e => by
  cases r <;> first | (cases e; rfl) | cases e
def qAll : Bool × List D → Hm → Out D := fun q h => if q.1 = true then (oko (q.2.mapM asBl) h).bind fun bs h => .ok (.bl (bs.all id)) h else .stuck
def qAny : Bool × List D → Hm → Out D := fun q h => if q.1 = true then (oko (q.2.mapM asBl) h).bind fun bs h => .ok (.bl (bs.any id)) h else .stuck
def qSum : Bool × List D → Hm → Out D := fun q h => if q.1 = true then (oko (q.2.mapM asIn) h).bind fun bs h => .ok (.int bs.sum) h else .stuck
section
variable {e : Expr} {m : Ls → Hm → Out (Bool × List D)} {p pos : Pos}
theorem j_all (hc : X.calm = true) (a : JQ X W e m) (hm : X.mg "all" = none) (hg : Gl X "all" := by rfl) (he : starEach [e] X.env = (false, eval e X.env) :: starEach [] X.env := by rfl) : J X W (.Call (.Name "all" p) [e] [] pos) (eUQ qAll m) :=
  j_q1 (cr_all hc) (fun q v H ρ h σ Q r HA P => by
    obtain ⟨a, vs, rfl, hs, r⟩ := r
    unfold qAll at P
    split at P
    · rename_i hq
      rw [if_pos hq] at hs
      obtain ⟨bs, eb, P4⟩ := oko_bind P
      exact ⟨a, bs, rfl, as_map asBl_v r eb ▸ hs, P4 _ H ρ .refl .bl HA⟩
    · exact P.elim) a hm (by decide +kernel) (by decide) (by decide) hg he
theorem j_any (hc : X.calm = true) (a : JQ X W e m) (hm : X.mg "any" = none) (hg : Gl X "any" := by rfl) (he : starEach [e] X.env = (false, eval e X.env) :: starEach [] X.env := by rfl) : J X W (.Call (.Name "any" p) [e] [] pos) (eUQ qAny m) :=
  j_q1 (cr_any hc) (fun q v H ρ h σ Q r HA P => by
    obtain ⟨a, vs, rfl, hs, r⟩ := r
    unfold qAny at P
    split at P
    · rename_i hq
      rw [if_pos hq] at hs
      obtain ⟨bs, eb, P4⟩ := oko_bind P
      exact ⟨a, bs, rfl, as_map asBl_v r eb ▸ hs, P4 _ H ρ .refl .bl HA⟩
    · exact P.elim) a hm (by decide +kernel) (by decide) (by decide) hg he
theorem j_sum (hc : X.calm = true) (a : JQ X W e m) (hm : X.mg "sum" = none) (hg : Gl X "sum" := by rfl) (he : starEach [e] X.env = (false, eval e X.env) :: starEach [] X.env := by rfl) : J X W (.Call (.Name "sum" p) [e] [] pos) (eUQ qSum m) :=
  j_q1 (cr_sum hc) (fun q v H ρ h σ Q r HA P => by
    obtain ⟨a, vs, rfl, hs, r⟩ := r
    unfold qSum at P
    split at P
    · rename_i hq
      rw [if_pos hq] at hs
      obtain ⟨bs, eb, P4⟩ := oko_bind P
      exact ⟨a, bs, rfl, as_map asIn_v r eb ▸ hs, P4 _ H ρ .refl .int HA⟩
    · exact P.elim) a hm (by decide +kernel) (by decide) (by decide) hg he
def qTup : Bool × List D → Hm → Out D := fun q h => .ok (.tup q.2) h
theorem j_tupOf (a : JQ X W e m) (hm : X.mg "tuple" = none) (hg : Gl X "tuple" := by rfl) (he : starEach [e] X.env = (false, eval e X.env) :: starEach [] X.env := by rfl) : J X W (.Call (.Name "tuple" p) [e] [] pos) (eUQ qTup m) :=
  j_tq1 call_tuple_of (fun q v H ρ h σ Q r HA P => by
    obtain ⟨a, vs, rfl, hs, r⟩ := r
    refine ⟨a, vs, rfl, ?_⟩
    split at hs
    · exact .inl ⟨hs, fun l hl => P _ _ ρ (.laid hl) (.tup (.inl upd_same) (r.ext (.laid hl))) (HA.laid hl)⟩
    · exact .inr ⟨TupAt.sq hs, P _ H ρ .refl (.tup hs r) HA⟩) a hm boot_tuple (by decide) (by decide) hg he
def lOf (m : Ls → Hm → Out (Bool × List D)) : AM := fun ls h => (m ls h).bind fun q h1 => .ok q.2 h1
theorem jl_listOf (a : JQ X W e m) (hm : X.mg "list" = none) (hg : Gl X "list" := by rfl) (he : starEach [e] X.env = (false, eval e X.env) :: starEach [] X.env := by rfl) : JL X W (.Call (.Name "list" p) [e] [] pos) (lOf m) :=
  peW (pe_callTy call_list_of hg hm boot_list (pa_cons a pa_nil he) (by decide) (by decide) he rfl) fun σ H Q ⟨ρ, ls, h, LR, HA, P⟩ => tG_bind0 (R1 := RQ X) LR HA P fun q h1 v H1 ρ1 e1 r1 HA1 LR1 P1 => by
    obtain ⟨a, vs, rfl, hs, r⟩ := r1
    refine ⟨a, vs, rfl, ?_, fun l hl => ?_⟩
    · split at hs
      · exact .inl hs
      · exact .inr (TupAt.sq hs)
    · obtain ⟨n0, nl⟩ := fresh_back e1 HA1 hl
      exact P1 (.ref l) _ ρ1 (e1.trans (.laid hl)) ⟨l, vs, rfl, n0, nl, upd_same, r.ext (.laid hl)⟩ (HA1.laid hl)
end
/-- list(range(a)), list(range(a, b)) -/
theorem rgV_reps {K : PySem.W.Frag} {mg : Str → Option Value} {H : Hp} {ρ : List Addr} {a b : Int} : Reps K mg H ρ (rng a (b - a).toNat) (rgV a b) := by
  unfold rng rgV
  generalize List.range (b - a).toNat = l
  induction l with
  | nil => exact .nil
  | cons i l ih => exact .cons .int ih
def rgOk (a b : Int) : Prop := -(2 ^ 62) ≤ a ∧ a < 2 ^ 62 ∧ -(2 ^ 62) ≤ b ∧ b < 2 ^ 62 ∧ (b - a).toNat ≤ 2 ^ 24
instance (a b : Int) : Decidable (rgOk a b) := by unfold rgOk; infer_instance
def dRg1 : D → Hm → Out (List D)
  | .int j, h => if rgOk 0 j then .ok (rng 0 (j - 0).toNat) h else .stuck
  | _, _ => .stuck
def dRg2 : D → D → Hm → Out (List D)
  | .int i, .int j, h => if rgOk i j then .ok (rng i (j - i).toNat) h else .stuck
  | _, _, _ => .stuck
def lRg1 (m : EM) : AM := fun ls h => (m ls h).bind dRg1
def lRg2 (m n : EM) : AM := fun ls h => (m ls h).bind fun x h1 => (n ls h1).bind fun y h2 => dRg2 x y h2
section
variable {a b : Expr} {m n : EM} {p p2 pos pos2 : Pos}
theorem jl_listR1 (hc : X.calm = true) (ha : J X W a m) (hm : X.mg "list" = none) (hm2 : X.mg "range" = none) (hg : Gl X "list" := by rfl) (hg2 : Gl X "range" := by rfl) (na : starEach [a] X.env = (false, eval a X.env) :: starEach [] X.env := by rfl)
    (nb : starEach [.Call (.Name "range" p2) [a] [] pos2] X.env = (false, eval (.Call (.Name "range" p2) [a] [] pos2) X.env) :: starEach [] X.env := by rfl) : JL X W (.Call (.Name "list" p) [.Call (.Name "range" p2) [a] [] pos2] [] pos) (lRg1 m) :=
  peW (pe_listRg hc hg hm (prg_1 hg2 hm2 ha na) nb) fun σ H Q ⟨ρ, ls, h, LR, HA, P⟩ => tG_bind0 (R2 := RL X H) LR HA P fun d h1 v H1 ρ1 e1 r1 HA1 LR1 P1 => by
    cases r1 with
    | @int j =>
      refine ⟨j, rfl, ?_⟩
      have P2 : PostG X.K X.mg (RL X H) (fun c d H' => W c d σ H') H ρ Q (if rgOk 0 j then .ok (rng 0 (j - 0).toNat) h1 else .stuck) := P1
      split at P2
      · rename_i hz
        refine ⟨hz, fun q hq => ?_⟩
        obtain ⟨n0, nl⟩ := fresh_back e1 HA1 hq
        exact P2 (.ref q) _ ρ1 (e1.trans (.laid hq)) ⟨q, _, rfl, n0, nl, upd_same, rgV_reps⟩ (HA1.laid hq)
      · exact P2.elim
    | _ => exact P1.elim
theorem jl_listR2 (hc : X.calm = true) (ha : J X W a m) (hb : J X W b n) (hm : X.mg "list" = none) (hm2 : X.mg "range" = none) (hg : Gl X "list" := by rfl) (hg2 : Gl X "range" := by rfl) (na : starEach [a, b] X.env = (false, eval a X.env) :: starEach [b] X.env := by rfl) (na2 : starEach [b] X.env = (false, eval b X.env) :: starEach [] X.env := by rfl)
    (hp : (backTo pos2 (starEach [b] X.env)).any (·.1) = false := by rfl)
    (nb : starEach [.Call (.Name "range" p2) [a, b] [] pos2] X.env = (false, eval (.Call (.Name "range" p2) [a, b] [] pos2) X.env) :: starEach [] X.env := by rfl) : JL X W (.Call (.Name "list" p) [.Call (.Name "range" p2) [a, b] [] pos2] [] pos) (lRg2 m n) :=
  peW (pe_listRg hc hg hm (prg_2 hg2 hm2 ha hb na na2 hp) nb) fun σ H Q ⟨ρ, ls, h, LR, HA, P⟩ => tG_bind0 (R2 := RL X H) LR HA P fun d h1 v H1 ρ1 e1 r1 HA1 LR1 P1 => tG_bind0 (R2 := RL X H) (Q := Q) LR1 HA1 (PostG.shift (H := H) (ρ := ρ) P1 e1) fun d2 h2 v2 H2 ρ2 e2 r2 HA2 LR2 P2 => by
    have P2 := PostG.shift P2 e2
    cases r1 with
    | @int i => cases r2 with
      | @int j =>
        refine ⟨i, j, rfl, rfl, ?_⟩
        have P3 : PostG X.K X.mg (RL X H) (fun c d H' => W c d σ H') H2 ρ2 Q (if rgOk i j then .ok (rng i (j - i).toNat) h2 else .stuck) := P2
        split at P3
        · rename_i hz
          refine ⟨hz, fun q hq => ?_⟩
          obtain ⟨n0, nl⟩ := fresh_back (e1.trans e2) HA2 hq
          exact P3 (.ref q) _ ρ2 (.laid hq) ⟨q, _, rfl, n0, nl, upd_same, rgV_reps⟩ (HA2.laid hq)
        · exact P3.elim
      | _ => exact P2.elim
    | _ => exact P2.elim
/-! ### two arguments -/
variable {x : Str} {id : String} {r : List V → Hp → VK → Prop} {g : D → D → Hm → Out D}
def BiD (X : Cx) (W : WX) (g : D → D → Hm → Out D) (r : List V → Hp → VK → Prop) : Prop := ∀ (d e : D) (v u : V) (H : Hp) (ρ : List Addr) (h : Hm) (σ : St) (Q : VK), Rep X.K X.mg H ρ d v → Rep X.K X.mg H ρ e u → HAbs X.K X.mg H ρ h → PostG X.K X.mg (RV X) (fun c d H' => W c d σ H') H ρ Q (g d e h) → r [v, u] H Q
theorem two_core {σ : St} {H : Hp} {Q : VK} (hq : BiD X W g r) (q : tG X W (RV X) (eBin g m n) σ H Q) : tCB r (tCons (tG X W (RV X) m) (tCons (tG X W (RV X) n) tNil)) σ H Q := by
  obtain ⟨ρ, ls, h, LR, HA, P⟩ := q
  exact tG_bind LR HA P fun d h1 v H1 ρ1 e1 r1 HA1 LR1 P1 => tG_bind LR1 HA1 P1 fun e h2 u H2 ρ2 e2 r2 HA2 LR2 P2 => hq d e v u H2 ρ2 h2 σ Q (r1.ext e2) r2 HA2 P2
theorem j_b2 (hc : CallR X (.builtin id) r) (hq : BiD X W g r) (ha : J X W a m) (hb : J X W b n) (hm : X.mg x = none) (hv : bootBuiltins x = some (.builtin id)) (hn : x ≠ "__name__") (hdb : (x == ("__debug__" : Str)) = false) (hg : Gl X x)
    (he2 : starEach [b] X.env = (false, eval b X.env) :: starEach [] X.env := by rfl) (he : starEach [a, b] X.env = (false, eval a X.env) :: starEach [b] X.env := by rfl) (hpl : (backTo pos (starEach [b] X.env)).any (·.1) = false := by rfl) : J X W (.Call (.Name x p) [a, b] [] pos) (eBin g m n) :=
  peW (pe_callB hc hg hm hv (pa_cons ha (pa_cons hb pa_nil he2) he) hn hdb he hpl) fun σ H Q q => two_core hq q
def dMax : D → D → Hm → Out D
  | .int i, .int j, h => .ok (.int (if j > i then j else i)) h
  | _, _, _ => .stuck
def dMin : D → D → Hm → Out D
  | .int i, .int j, h => .ok (.int (if j < i then j else i)) h
  | _, _, _ => .stuck
theorem j_max2 (hc : X.calm = true) (ha : J X W a m) (hb : J X W b n) (hm : X.mg "max" = none) (hg : Gl X "max" := by rfl)
    (he2 : starEach [b] X.env = (false, eval b X.env) :: starEach [] X.env := by rfl) (he : starEach [a, b] X.env = (false, eval a X.env) :: starEach [b] X.env := by rfl) (hpl : (backTo pos (starEach [b] X.env)).any (·.1) = false := by rfl) : J X W (.Call (.Name "max" p) [a, b] [] pos) (eBin dMax m n) :=
  j_b2 (call_max2 hc) (fun d e v u H ρ h σ Q r1 r2 HA P => by
    cases r1 with
    | int => cases r2 with
      | int => exact ⟨_, _, rfl, P _ H ρ .refl .int HA⟩
      | _ => exact P.elim
    | _ => exact P.elim) ha hb hm (by decide +kernel) (by decide) (by decide) hg he2 he hpl
theorem j_min2 (hc : X.calm = true) (ha : J X W a m) (hb : J X W b n) (hm : X.mg "min" = none) (hg : Gl X "min" := by rfl)
    (he2 : starEach [b] X.env = (false, eval b X.env) :: starEach [] X.env := by rfl) (he : starEach [a, b] X.env = (false, eval a X.env) :: starEach [b] X.env := by rfl) (hpl : (backTo pos (starEach [b] X.env)).any (·.1) = false := by rfl) : J X W (.Call (.Name "min" p) [a, b] [] pos) (eBin dMin m n) :=
  j_b2 (call_min2 hc) (fun d e v u H ρ h σ Q r1 r2 HA P => by
    cases r1 with
    | int => cases r2 with
      | int => exact ⟨_, _, rfl, P _ H ρ .refl .int HA⟩
      | _ => exact P.elim
    | _ => exact P.elim) ha hb hm (by decide +kernel) (by decide) (by decide) hg he2 he hpl
def dGcd : D → D → Hm → Out D
  | .int i, .int j, h => .ok (.int ((Nat.gcd i.natAbs j.natAbs : Nat) : Int)) h
  | _, _, _ => .stuck
theorem j_gcd (ha : J X W a m) (hb : J X W b n) (hm : X.mg x = some (.builtin "math.gcd")) (hdb : (x == ("__debug__" : Str)) = false := by decide +kernel) (hg : Gl X x := by rfl)
    (he2 : starEach [b] X.env = (false, eval b X.env) :: starEach [] X.env := by rfl) (he : starEach [a, b] X.env = (false, eval a X.env) :: starEach [b] X.env := by rfl) (hpl : (backTo pos (starEach [b] X.env)).any (·.1) = false := by rfl) : J X W (.Call (.Name x p) [a, b] [] pos) (eBin dGcd m n) :=
  peW (pe_callBfun cr_gcd hg hm (pa_cons ha (pa_cons hb pa_nil he2) he) hdb he hpl) fun σ H Q q => two_core (r := rGcd) (fun d e v u H ρ h σ Q r1 r2 HA P => by
    cases r1 with
    | int => cases r2 with
      | int => exact ⟨_, _, rfl, P _ H ρ .refl .int HA⟩
      | _ => exact P.elim
    | _ => exact P.elim) q
/-! ### isinstance(x, T) of a built-in type -/
def dTy : D → Option String
  | .non => some "NoneType"
  | .bl _ => some "bool"
  | .int _ => some "int"
  | .str _ => some "str"
  | .tup _ => some "tuple"
  | .rls _ => some "list"
  | .loc _ => some "list"
  | _ => none
def dIsi : D → D → Hm → Out D
  | d, .ty T, h => (oko (dTy d) h).bind fun t h => (oko (kitB t T) h).bind fun b h => .ok (.bl b) h
  | _, _, _ => .stuck
theorem ty_of {K : PySem.W.Frag} {mg : Str → Option Value} {H : Hp} {ρ : List Addr} {h : Hm} {d : D} {v : V} {t : String} (A : HAbs K mg H ρ h) (r : Rep K mg H ρ d v) (e : dTy d = some t) : TyX K H v (.type t) := by
  cases r with
  | non => cases e; exact .base .non
  | bl => cases e; exact .base (.bl _)
  | int => cases e; exact .base (.int _)
  | str => cases e; exact .base (.str _)
  | tup t r =>
    cases e
    rcases t with t | t
    · exact .base (.tup t)
    · rcases t (fun _ => none) with z | ⟨o, its, n, z1, z2, _⟩
      · rcases z with z | ⟨o, z⟩ <;> cases z
      · exact .kTuple z1 z2
  | rls t r =>
    cases e
    rcases t with ⟨o, t⟩ | t
    · exact .base (.frz t)
    · rcases t (fun _ => none) with z | ⟨o, its, n, z1, z2, _⟩
      · rcases z with z | ⟨o, z⟩ <;> cases z
      · exact .kList z1 z2
  | @loc n a hn =>
    cases e
    have hi : n < h.length := by rw [← A.len]; exact (List.getElem?_eq_some_iff.mp hn).1
    obtain ⟨b, e1, mo⟩ := A.obj n h[n] (List.getElem?_eq_getElem hi)
    rw [hn] at e1; cases e1
    cases q : h[n] with
    | lst xs => rw [q] at mo; obtain ⟨vs, e2, _⟩ := mo; exact .base (.lst e2)
  | ty => cases e
  | glb _ _ => cases e
theorem j_isi (ha : J X W a m) (hb : J X W b n) (hm : X.mg "isinstance" = none) (hg : Gl X "isinstance" := by rfl)
    (he2 : starEach [b] X.env = (false, eval b X.env) :: starEach [] X.env := by rfl) (he : starEach [a, b] X.env = (false, eval a X.env) :: starEach [b] X.env := by rfl) (hpl : (backTo pos (starEach [b] X.env)).any (·.1) = false := by rfl) : J X W (.Call (.Name "isinstance" p) [a, b] [] pos) (eBin dIsi m n) :=
  j_b2 call_isi (fun d e v u H ρ h σ Q r1 r2 HA P => by
    cases r2 with
    | @ty T =>
      obtain ⟨t, et, P2⟩ := oko_bind (show PostG X.K X.mg (RV X) (fun c d H' => W c d σ H') H ρ Q ((oko (dTy d) h).bind fun t h => (oko (kitB t T) h).bind fun b h => .ok (.bl b) h) from P)
      obtain ⟨b, eb, P3⟩ := oko_bind P2
      exact ⟨v, .ty T, _, _, b, rfl, .ty T, ty_of HA r1 et, kit_ty eb, P3 _ H ρ .refl .bl HA⟩
    | _ => cases r1 <;> exact P.elim) ha hb hm (by decide +kernel) (by decide) (by decide) hg he2 he hpl
theorem j_ty {T : String} {x : Str} {pos : Pos} (hm : X.mg x = none) (hv : bootBuiltins x = some (.type T)) (hn : x ≠ "__name__") (hdb : (x == ("__debug__" : Str)) = false) (hg : Gl X x) : J X W (.Name x pos) (eC (.ty T)) := j_c (pe_bltn (v := .ty T) hg hm hv rfl hn hdb) fun _ _ => .ty
theorem j_tyInt {pos : Pos} (hm : X.mg "int" = none) (hg : Gl X "int" := by rfl) : J X W (.Name "int" pos) (eC (.ty "int")) := j_ty hm boot_int (by decide) (by decide) hg
theorem j_tyStr {pos : Pos} (hm : X.mg "str" = none) (hg : Gl X "str" := by rfl) : J X W (.Name "str" pos) (eC (.ty "str")) := j_ty hm (by decide +kernel) (by decide) (by decide) hg
theorem j_tyBool {pos : Pos} (hm : X.mg "bool" = none) (hg : Gl X "bool" := by rfl) : J X W (.Name "bool" pos) (eC (.ty "bool")) := j_ty hm (by decide +kernel) (by decide) (by decide) hg
theorem j_tyTup {pos : Pos} (hm : X.mg "tuple" = none) (hg : Gl X "tuple" := by rfl) : J X W (.Name "tuple" pos) (eC (.ty "tuple")) := j_ty hm boot_tuple (by decide) (by decide) hg
theorem j_tyList {pos : Pos} (hm : X.mg "list" = none) (hg : Gl X "list" := by rfl) : J X W (.Name "list" pos) (eC (.ty "list")) := j_ty hm boot_list (by decide) (by decide) hg
end
end
end MP

set_option Elab.async false
set_option linter.all false
set_option maxRecDepth 100000
set_option maxHeartbeats 2000000
set_option autoImplicit false
namespace MP
open PySem PySem.Spec PyProof.Rows L2
/-! ### repr -/
mutual
def pw : PyData → Nat
  | .none => 5
  | .bool _ => 5
  | .int _ => 2000
  | .str x => if (x.cps.toList.all fun c => decide (c < 16 ^ 8)) = true then 10 * x.length + 2 else sizeLine + 1
  | .list xs => pwAll xs + 2
  | .tuple xs => pwAll xs + 2
  | .dict _ => sizeLine + 1
def pwAll : List PyData → Nat
  | [] => 0
  | x :: xs => (pw x + 2) + pwAll xs
end
theorem textFrom_le : ∀ (ts : List Str) (k : Nat) (acc : Str), (textFrom k acc ts).length ≤ acc.length + piled ts
  | [], k, acc => by show acc.length ≤ acc.length + piled []; omega
  | t :: ts, 0, acc => by
    have h := textFrom_length_pos ts 1 (acc ++ (if 0 > 0 then ", " else "" : String) ++ t) (by decide)
    show (textFrom 1 (acc ++ (if 0 > 0 then ", " else "" : String) ++ t) ts).length ≤ _
    rw [h, piled_cons, strLen_append, strLen_append]
    have : (((if 0 > 0 then ", " else "" : String) : Str)).length = 0 := by decide
    omega
  | t :: ts, k + 1, acc => by
    rw [textFrom_length_pos _ _ _ (Nat.succ_pos k)]; exact Nat.le_refl _
theorem listText_le (ts : List Str) : (listText ts).length ≤ piled ts + 2 := by
  unfold listText
  have h := textFrom_le ts 0 "["
  rw [strLen_append]
  have e1 : ((("[" : String) : Str)).length = 1 := by decide
  have e2 : ((("]" : String) : Str)).length = 1 := by decide
  omega
mutual
theorem shown_le : ∀ d : PyData, d.showable = true → d.shown.length ≤ pw d ∨ sizeLine < pw d
  | .none, _ => .inl (by rw [PyData.shown, pw]; decide)
  | .bool b, _ => .inl (by rw [PyData.shown, pw]; cases b <;> decide)
  | .int i, h => .inl (by
      rw [PyData.showable] at h
      have := int_text_length_le (k := 1920) (by decide) (of_decide_eq_true h)
      rw [PyData.shown, pw]
      rw [PySem.ofString_length]; omega)
  | .str x, _ => by
    rw [PyData.shown, pw]
    split
    · rename_i hx
      refine .inl (StrLaws.reprText_len x fun c hc => ?_)
      exact of_decide_eq_true (List.all_eq_true.mp hx c hc)
    · exact .inr (Nat.lt_succ_self _)
  | .list xs, h => by
    rw [PyData.showable] at h
    rw [PyData.shown, pw]
    rcases shownAll_le xs h with z | z
    · have := listText_le (PyData.shownAll xs); exact .inl (by omega)
    · exact .inr (by omega)
  | .tuple xs, h => by
    rw [PyData.showable] at h
    rw [PyData.shown, pw]
    rcases shownAll_le xs h with z | z
    · have := fmt_text (PyData.shownAll xs); exact .inl (by omega)
    · exact .inr (by omega)
  | .dict kvs, _ => .inr (by rw [pw]; exact Nat.lt_succ_self _)
theorem shownAll_le : ∀ xs : List PyData, PyData.showableAll xs = true → piled (PyData.shownAll xs) ≤ pwAll xs ∨ sizeLine < pwAll xs
  | [], _ => .inl (by rw [PyData.shownAll, pwAll]; exact Nat.le_refl _)
  | x :: xs, h => by
    rw [PyData.showableAll, Bool.and_eq_true] at h
    rw [PyData.shownAll, pwAll, piled_cons]
    rcases shown_le x h.1 with z | z
    · rcases shownAll_le xs h.2 with z2 | z2
      · exact .inl (by omega)
      · exact .inr (by omega)
    · exact .inr (by omega)
end
section
variable {X : Cx} {W : WX}
def reprOk (p : PyData) : Bool := p.showable && !p.hasDict && decide (p.depth ≤ 60) && decide (pw p ≤ sizeLine)
theorem cr_repr (hG : X.A.guards = some []) (hu : X.A.units + 64 < cLine) : CallR X (.builtin "repr") (fun xs H Q => ∃ x p, xs = [x] ∧ Dp X.K H x p ∧ reprOk p = true ∧ Q (.str p.shown) H) := by
  intro pins s σ H xs us Q I r h
  obtain ⟨x, p, rfl, dp, ok, q⟩ := h
  obtain ⟨u, rfl, ru⟩ := vals1 r
  unfold reprOk at ok
  simp only [Bool.and_eq_true, decide_eq_true_eq, Bool.not_eq_true'] at ok
  obtain ⟨⟨⟨o1, o2⟩, o3⟩, o4⟩ := ok
  have hsz : p.shown.length ≤ sizeLine := by
    rcases shown_le p o1 with z | z <;> omega
  have ref : ∀ a, x = .ref a → wpAny (model X.prog X.w) X.A (call (.builtin "repr") [u]) (EP X pins σ Q) X.xe s := by
    rintro a rfl
    obtain rfl : u = .ref a := ru
    obtain ⟨as, rd⟩ := dp.reads I p _ _ rfl
    exact repr_of_reads' rd o1 (PyData.noDict_hsm o2) hG (by omega) (fun _ _ e => e) (fun h' t tk hk => ⟨.str p.shown, H, I.kept hk, ⟨t, rfl⟩, q⟩) hsz
  cases dp with
  | non =>
    cases ru
    exact PySem.P.repr_of_none ⟨.str _, H, I.tok _, ⟨_, rfl⟩, q⟩
  | bl b =>
    cases ru
    exact PySem.P.repr_of_bool ⟨.str _, H, I.tok _, ⟨_, rfl⟩, q⟩
  | int i =>
    obtain ⟨t, rfl⟩ := ru
    exact PySem.P.repr_of_int (by simpa [PyData.showable] using o1) ⟨.str _, H, I.tok _, ⟨_, rfl⟩, q⟩
  | str z =>
    obtain ⟨t, rfl⟩ := ru
    exact PySem.P.repr_of_str ⟨.str _, H, I.tok _, ⟨_, rfl⟩, q⟩ (by simpa [PyData.shown] using hsz)
  | lst _ _ => exact ref _ rfl
  | tup _ _ => exact ref _ rfl
def dRepr : D → Hm → Out D := fun d h => (oko (pdF h 66 d) h).bind fun p h => if reprOk p = true then .ok (.str p.shown) h else .stuck
variable {e a b : Expr} {m n : EM} {p pos apos : Pos}
theorem j_repr (hG : X.A.guards = some []) (hu : X.A.units + 64 < cLine) (a : J X W e m) (hm : X.mg "repr" = none) (hg : Gl X "repr" := by rfl) (he : starEach [e] X.env = (false, eval e X.env) :: starEach [] X.env := by rfl) : J X W (.Call (.Name "repr" p) [e] [] pos) (eU dRepr m) :=
  j_b1 (cr_repr hG hu) (fun d v H ρ h σ Q r HA P => by
    obtain ⟨p, ep, P2⟩ := oko_bind (show PostG X.K X.mg (RV X) (fun c d H' => W c d σ H') H ρ Q ((oko (pdF h 66 d) h).bind fun p h => if reprOk p = true then .ok (.str p.shown) h else .stuck) from P)
    split at P2
    · rename_i hz
      exact ⟨v, p, rfl, dp_of HA 66 d v p r ep, hz, P2 _ H ρ .refl .str HA⟩
    · exact P2.elim) a hm (by decide +kernel) (by decide) (by decide) hg he
/-! ### int(text) -/
def dIntS : D → Hm → Out D
  | .int i, h => .ok (.int i) h
  | .bl b, h => .ok (.int (if b then 1 else 0)) h
  | .str x, h => if x.length ≤ 640 then (oko (PySem.intText? x) h).bind fun n h => .ok (.int n) h else .stuck
  | _, _ => .stuck
theorem j_intS (a : J X W e m) (hm : X.mg "int" = none) (hg : Gl X "int" := by rfl) (he : starEach [e] X.env = (false, eval e X.env) :: starEach [] X.env := by rfl) : J X W (.Call (.Name "int" p) [e] [] pos) (eU dIntS m) :=
  j_t1 (call_int1.or call_int_str) (fun d v H ρ h σ Q r HA P => by
    cases r with
    | int => exact .inl (.inl ⟨_, rfl, P _ H ρ .refl .int HA⟩)
    | bl => exact .inl (.inr ⟨_, rfl, P _ H ρ .refl .int HA⟩)
    | @str x =>
      have P2 : PostG X.K X.mg (RV X) (fun c d H' => W c d σ H') H ρ Q (if x.length ≤ 640 then (oko (PySem.intText? x) h).bind fun n h => .ok (.int n) h else .stuck) := P
      split at P2
      · rename_i hz
        obtain ⟨k, ek, P3⟩ := oko_bind P2
        exact .inr ⟨x, k, rfl, ek, hz, P3 _ H ρ .refl .int HA⟩
      · exact P2.elim
    | _ => exact P.elim) a hm boot_int (by decide) (by decide) hg he
/-! ### text * int -/
def dMulS : D → D → Hm → Out D
  | .str x, .int i, h => if x.length ≤ 16 ∧ -(2 ^ 63 : Int) ≤ i ∧ i ≤ 1048576 then .ok (.str (Txt.mul x i)) h else .stuck
  | x, y, h => dMul x y h
theorem op_mulS : OpR X (binaryOp .Mult) (fun x y H Q => ∃ z i, x = .str z ∧ y = .int i ∧ z.length ≤ 16 ∧ -(2 ^ 63 : Int) ≤ i ∧ i ≤ 1048576 ∧ Q (.str (Txt.mul z i)) H) := by
  intro pins s σ H x y v u Q I rx ry h
  obtain ⟨z, i, rfl, rfl, h1, h2, h3, q⟩ := h
  obtain ⟨t, rfl⟩ := rx
  obtain ⟨t', rfl⟩ := ry
  exact PySem.W.KXi.mul rfl h1 h2 h3 fun t k _ _ => ⟨.str _, H, I.tok _, ⟨_, rfl⟩, q⟩
theorem j_mulS {a b : Expr} {ma mb : EM} {pos : Pos} (ha : J X W a ma) (hb : J X W b mb) : J X W (.BinOp a .Mult b pos) (eBin dMulS ma mb) := j_bin (op_mulW.or op_mulS) (fun x y v u H ρ h σ Q rx ry HA P => by
  cases rx with
  | @int i => cases ry with
    | @int j =>
      have P' : PostG X.K X.mg (RV X) (fun c d H' => W c d σ H') H ρ Q (if mulOk i j = true then .ok (.int (i * j)) h else .stuck) := P
      split at P'
      · rename_i hz
        exact .inl ⟨_, _, rfl, rfl, (of_decide_eq_true (p := i.natAbs.log2 + j.natAbs.log2 < 1000000) hz : CMulW i j), P' _ H ρ .refl .int HA⟩
      · exact P'.elim
    | _ => exact P.elim
  | @str z => cases ry with
    | @int j =>
      have P' : PostG X.K X.mg (RV X) (fun c d H' => W c d σ H') H ρ Q (if z.length ≤ 16 ∧ -(2 ^ 63 : Int) ≤ j ∧ j ≤ 1048576 then .ok (.str (Txt.mul z j)) h else .stuck) := P
      split at P'
      · rename_i hz
        exact .inr ⟨_, _, rfl, rfl, hz.1, hz.2.1, hz.2.2, P' _ H ρ .refl .str HA⟩
      · exact P'.elim
    | _ => exact P.elim
  | _ => cases ry <;> exact P.elim) ha hb
/-! ### lists that may be written: + * extend -/
def RK (X : Cx) : Hp → List Addr → List D → V → Prop := fun H ρ ds v => ∃ a vs, v = .ref a ∧ H a = some (.lst vs) ∧ Reps X.K X.mg H ρ ds vs
def JK (X : Cx) (W : WX) (e : Expr) (m : AM) : Prop := PE X e (tG X W (RK X) m)
theorem jk_new {m : AM} (a : JL X W e m) : JK X W e m := peW a fun σ H Q ⟨ρ, ls, h, LR, HA, P⟩ => ⟨ρ, ls, h, LR, HA, by
  cases q : m ls h with
  | ok ds h1 =>
    rw [q] at P
    exact fun v H1 ρ1 e1 ⟨p, vs, r1, n0, np, ep, r⟩ HA1 => P v H1 ρ1 e1 ⟨p, vs, r1, ep, r⟩ HA1
  | exc _ _ _ => rw [q] at P; exact P
  | stuck => rw [q] at P; exact P⟩
def locOf : D → Hm → Out (List D)
  | .loc n, h => oko (getL h n) h
  | _, _ => .stuck
def eLoc (m : EM) : AM := fun ls h => (m ls h).bind locOf
theorem jk_loc (a : J X W e m) : JK X W e (eLoc m) := peW a fun σ H Q ⟨ρ, ls, h, LR, HA, P⟩ => tG_bind (R2 := RK X) LR HA P fun d h1 v H1 ρ1 e1 r1 HA1 LR1 P1 => by
  cases r1 with
  | @loc n p hn =>
    obtain ⟨ds, eds, P2⟩ := oko_post (show PostG X.K X.mg (RK X) (fun c d H' => W c d σ H') H1 ρ1 Q (oko (getL h1 n) h1) from P1)
    obtain ⟨vs, e3, r⟩ := getL_at HA1 eds hn
    exact P2 _ H1 ρ1 .refl ⟨p, vs, rfl, e3, r⟩ HA1
  | _ => exact P1.elim
/-- x + y: what x is may be a list that y writes: we ask that it stands -/
def lCat (m n : AM) : AM := fun ls h => (m ls h).bind fun xs h1 => (n ls h1).bind fun ys h2 => if xs.length + ys.length ≤ sizeLine then .ok (xs ++ ys) h2 else .stuck
/-- a list that does not lie in the heap that we name, or is unwritten: the left side of + -/
theorem jl_cat {m n : AM} (ha : JL X W a m) (hb : JK X W b n) : JL X W (.BinOp a .Add b pos) (lCat m n) :=
  peW (pe_op op_cat ha hb) fun σ H Q ⟨ρ, ls, h, LR, HA, P⟩ => tG_bind0 (R1 := RL X H) (R2 := RL X H) LR HA P fun xs h1 v H1 ρ1 e1 r1 HA1 LR1 P1 => by
    obtain ⟨p, vs, rfl, n0, np, ep, r⟩ := r1
    refine tG_bind0 (R1 := RK X) (R2 := RL X H) (Q := Q) LR1 HA1 (PostG.shift (H := H) (ρ := ρ) P1 e1) fun ys h2 v2 H2 ρ2 e2 r2 HA2 LR2 P2 => ?_
    have P2 := PostG.shift P2 e2
    obtain ⟨p2, us, rfl, ep2, r2⟩ := r2
    split at P2
    · rename_i hz
      refine ⟨p, p2, vs, us, rfl, rfl, e2.old p _ ep np, ep2, by rw [← r.length, ← r2.length]; exact hz, fun q hq => ?_⟩
      obtain ⟨n0, nq⟩ := fresh_back (e1.trans e2) HA2 hq
      exact P2 (.ref q) _ ρ2 (.laid hq) ⟨q, _, rfl, n0, nq, upd_same, ((r.ext e2).append r2).ext (.laid hq)⟩ (HA2.laid hq)
    · exact P2.elim
/-- x + y, x a list of ours -/
def lCatV (m : EM) (n : AM) : AM := fun ls h => (m ls h).bind fun x h1 => (n ls h1).bind fun ys h2 => (locOf x h2).bind fun xs h2 => if xs.length + ys.length ≤ sizeLine then .ok (xs ++ ys) h2 else .stuck
theorem jl_catV {n : AM} (ha : J X W a m) (hb : JK X W b n) : JL X W (.BinOp a .Add b pos) (lCatV m n) :=
  peW (pe_op op_cat ha hb) fun σ H Q ⟨ρ, ls, h, LR, HA, P⟩ => tG_bind0 (R2 := RL X H) LR HA P fun x h1 v H1 ρ1 e1 r1 HA1 LR1 P1 => by
    refine tG_bind0 (R1 := RK X) (R2 := RL X H) (Q := Q) LR1 HA1 (PostG.shift (H := H) (ρ := ρ) P1 e1) fun ys h2 v2 H2 ρ2 e2 r2 HA2 LR2 P2 => ?_
    have P2 := PostG.shift P2 e2
    obtain ⟨p2, us, rfl, ep2, r2⟩ := r2
    have r1 := r1.ext e2
    cases r1 with
    | @loc k p hn =>
      obtain ⟨xs, exs, P3⟩ := oko_bind (show PostG X.K X.mg (RL X H) (fun c d H' => W c d σ H') H2 ρ2 Q ((oko (getL h2 k) h2).bind fun xs h2 => if xs.length + ys.length ≤ sizeLine then .ok (xs ++ ys) h2 else .stuck) from P2)
      obtain ⟨vs, ep, r⟩ := getL_at HA2 exs hn
      split at P3
      · rename_i hz
        refine ⟨p, p2, vs, us, rfl, rfl, ep, ep2, by rw [← r.length, ← r2.length]; exact hz, fun q hq => ?_⟩
        obtain ⟨n0, nq⟩ := fresh_back (e1.trans e2) HA2 hq
        exact P3 (.ref q) _ ρ2 (.laid hq) ⟨q, _, rfl, n0, nq, upd_same, (r.append r2).ext (.laid hq)⟩ (HA2.laid hq)
      · exact P3.elim
    | _ => exact P2.elim
/-- [..] * n -/
def lMul (m : AM) (n : EM) : AM := fun ls h => (m ls h).bind fun xs h1 => (n ls h1).bind fun k h2 => match k with
  | .int k => if -(2 ^ 63) ≤ k ∧ k < 2 ^ 63 ∧ xs.length * k.toNat ≤ sizeLine then .ok (List.replicate k.toNat xs).flatten h2 else .stuck
  | _ => .stuck
theorem reps_rep {K : PySem.W.Frag} {mg : Str → Option Value} {H : Hp} {ρ : List Addr} {ds : List D} {vs : List V} (r : Reps K mg H ρ ds vs) : ∀ k : Nat, Reps K mg H ρ (List.replicate k ds).flatten (List.replicate k vs).flatten
  | 0 => .nil
  | k + 1 => by
    rw [List.replicate_succ, List.replicate_succ, List.flatten_cons, List.flatten_cons]
    exact r.append (reps_rep r k)
theorem jl_mul {m : AM} (ha : JL X W a m) (hb : J X W b n) : JL X W (.BinOp a .Mult b pos) (lMul m n) :=
  peW (pe_op op_rep ha hb) fun σ H Q ⟨ρ, ls, h, LR, HA, P⟩ => tG_bind0 (R1 := RL X H) (R2 := RL X H) LR HA P fun xs h1 v H1 ρ1 e1 r1 HA1 LR1 P1 => by
    obtain ⟨p, vs, rfl, n0, np, ep, r⟩ := r1
    refine tG_bind0 (R2 := RL X H) (Q := Q) LR1 HA1 (PostG.shift (H := H) (ρ := ρ) P1 e1) fun ys h2 v2 H2 ρ2 e2 r2 HA2 LR2 P2 => ?_
    have P2 := PostG.shift P2 e2
    cases r2 with
    | @int k =>
      dsimp only at P2
      split at P2
      · rename_i hz
        refine ⟨p, k, vs, rfl, rfl, e2.old p _ ep np, hz.1, hz.2.1, by rw [← r.length]; exact hz.2.2, fun q hq => ?_⟩
        obtain ⟨n0, nq⟩ := fresh_back (e1.trans e2) HA2 hq
        exact P2 (.ref q) _ ρ2 (.laid hq) ⟨q, _, rfl, n0, nq, upd_same, (reps_rep (r.ext e2) _).ext (.laid hq)⟩ (HA2.laid hq)
      · exact P2.elim
    | _ => exact P2.elim
/-! ### methods of lists -/
theorem loc_ty {H : Hp} {ρ : List Addr} {h : Hm} {k : Nat} {p : Addr} (A : HAbs X.K X.mg H ρ h) (hn : ρ[k]? = some p) : tyV X.K "list" (.ref p) H := by
  have hi : k < h.length := by rw [← A.len]; exact (List.getElem?_eq_some_iff.mp hn).1
  obtain ⟨b, e1, mo⟩ := A.obj k h[k] (List.getElem?_eq_getElem hi)
  rw [hn] at e1; cases e1
  cases q : h[k] with
  | lst xs => rw [q] at mo; obtain ⟨vs, e2, _⟩ := mo; exact .inl ⟨rfl, vs, .of e2⟩
theorem write_loc {H : Hp} {ρ : List Addr} {h : Hm} {k : Nat} {p : Addr} {vs : List V} {ds : List D} (A : HAbs X.K X.mg H ρ h) (hn : ρ[k]? = some p) (r : Reps X.K X.mg H ρ ds vs) : Ext ρ H ρ (upd H p (.lst vs)) ∧ HAbs X.K X.mg (upd H p (.lst vs)) ρ (h.set k (.lst ds)) := by
  have e := A.writeExt (u := .lst vs) hn
  exact ⟨e, A.write hn ⟨vs, upd_same, r.ext e⟩⟩
def onLoc : D → Hm → Out Nat
  | .loc n, h => .ok n h
  | _, _ => .stuck
theorem grown {ρ ρ' : List Addr} {H H' : Hp} {k : Nat} {p : Addr} (e : Ext ρ H ρ' H') (hn : ρ[k]? = some p) : ρ'[k]? = some p := by
  obtain ⟨t, rfl⟩ := e.pre
  rw [List.getElem?_append_left (List.getElem?_eq_some_iff.mp hn).1]; exact hn
/-- o.m(y), o a list of ours -/
def eMt (g : Nat → D → Hm → Out D) (m n : EM) : EM := fun ls h => (m ls h).bind fun o h1 => (onLoc o h1).bind fun k h1 => (n ls h1).bind fun y h2 => g k y h2
def eMt0 (g : Nat → Hm → Out D) (m : EM) : EM := fun ls h => (m ls h).bind fun o h1 => (onLoc o h1).bind fun k h1 => g k h1
section
variable {name : Str} {id : String} {r : V → List V → Hp → VK → Prop}
theorem j_mt {g : Nat → D → Hm → Out D} (slot : Slot "list" name id) (hty : typeOf (.builtin id) = pure (.type "method_descriptor")) (hm : MtR X id r)
    (hg : ∀ (k : Nat) (p : Addr) (d : D) (v : V) (H : Hp) (ρ : List Addr) (h : Hm) (σ : St) (Q : VK), ρ[k]? = some p → Rep X.K X.mg H ρ d v → HAbs X.K X.mg H ρ h → PostG X.K X.mg (RV X) (fun c d H' => W c d σ H') H ρ Q (g k d h) → r (.ref p) [v] H Q)
    (ha : J X W a m) (hb : J X W b n) (hbase : attributeBase a name X.env (eval a X.env) = eval a X.env) (he : starEach [b] X.env = (false, eval b X.env) :: starEach [] X.env)
    (hfew : ((backTo pos (starEach [b] X.env)).all (fun x => !x.1) && (backToKw pos (keywordEach [] X.env)).all (fun x => x.1.isSome) && decide ([b].length + ([] : List Keyword).length + (if ([] : List Keyword).isEmpty then 0 else 1) < 30)) = true)
    (hline : (apos.endLine == pos.line) = true) : J X W (.Call (.Attribute a name apos) [b] [] pos) (eMt g m n) :=
  peW (pe_bm PySem.F.plainAttrs_list slot hty hm ha (pa_cons hb pa_nil he) hbase hfew hline he rfl) fun σ H Q ⟨ρ, ls, h, LR, HA, P⟩ => tG_bind LR HA P fun x h1 v H1 ρ1 e1 r1 HA1 LR1 P1 => by
    cases r1 with
    | @loc k p hn => exact ⟨loc_ty HA1 hn, tG_bind (f := fun y h2 => g k y h2) LR1 HA1 P1 fun y h2 u H2 ρ2 e2 r2 HA2 LR2 P2 => hg k p y u H2 ρ2 h2 σ Q (grown e2 hn) r2 HA2 P2⟩
    | _ => exact P1.elim
theorem j_mt0 {g : Nat → Hm → Out D} (slot : Slot "list" name id) (hty : typeOf (.builtin id) = pure (.type "method_descriptor")) (hm : MtR X id r)
    (hg : ∀ (k : Nat) (p : Addr) (H : Hp) (ρ : List Addr) (h : Hm) (σ : St) (Q : VK), ρ[k]? = some p → HAbs X.K X.mg H ρ h → PostG X.K X.mg (RV X) (fun c d H' => W c d σ H') H ρ Q (g k h) → r (.ref p) [] H Q)
    (ha : J X W a m) (hbase : attributeBase a name X.env (eval a X.env) = eval a X.env) (hline : (apos.endLine == pos.line) = true) : J X W (.Call (.Attribute a name apos) [] [] pos) (eMt0 g m) :=
  peW (pe_bm0 PySem.F.plainAttrs_list slot hty hm ha hbase hline) fun σ H Q ⟨ρ, ls, h, LR, HA, P⟩ => tG_bind LR HA P fun x h1 v H1 ρ1 e1 r1 HA1 LR1 P1 => by
    cases r1 with
    | @loc k p hn => exact ⟨loc_ty HA1 hn, hg k p H1 ρ1 h1 σ Q hn HA1 P1⟩
    | _ => exact P1.elim
end
def dApp : Nat → D → Hm → Out D := fun n y h => (oko (getL h n) h).bind fun xs h => if xs.length < sizeLine then .ok .non (h.set n (.lst (xs ++ [y]))) else .stuck
theorem j_append (ha : J X W a m) (hb : J X W b n) (hbase : attributeBase a "append" X.env (eval a X.env) = eval a X.env := by rfl) (he : starEach [b] X.env = (false, eval b X.env) :: starEach [] X.env := by rfl)
    (hfew : ((backTo pos (starEach [b] X.env)).all (fun x => !x.1) && (backToKw pos (keywordEach [] X.env)).all (fun x => x.1.isSome) && decide ([b].length + ([] : List Keyword).length + (if ([] : List Keyword).isEmpty then 0 else 1) < 30)) = true := by rfl)
    (hline : (apos.endLine == pos.line) = true := by rfl) : J X W (.Call (.Attribute a "append" apos) [b] [] pos) (eMt dApp m n) :=
  j_mt PySem.F.slot_list_append PySem.F.type_list_append mt_append (fun k p d v H ρ h σ Q hn r HA P => by
    obtain ⟨xs, exs, P3⟩ := oko_bind P
    obtain ⟨vs, ep, rr⟩ := getL_at HA exs hn
    split at P3
    · rename_i hz
      obtain ⟨q1, q2⟩ := write_loc HA hn (rr.last r)
      exact ⟨p, vs, v, rfl, rfl, ep, by rw [← rr.length]; exact hz, P3 _ _ ρ q1 .non q2⟩
    · exact P3.elim) ha hb hbase he hfew hline
def dPop : Nat → Hm → Out D := fun n h => (oko (getL h n) h).bind fun xs h => (oko xs[xs.length - 1]? h).bind fun x h => .ok x (h.set n (.lst xs.dropLast))
theorem reps_dropLast {K : PySem.W.Frag} {mg : Str → Option Value} {H : Hp} {ρ : List Addr} {ds : List D} {vs : List V} (r : Reps K mg H ρ ds vs) : Reps K mg H ρ ds.dropLast vs.dropLast := by
  rw [List.dropLast_eq_take, List.dropLast_eq_take, ← r.length]; exact r.take _
theorem j_pop (ha : J X W a m) (hbase : attributeBase a "pop" X.env (eval a X.env) = eval a X.env := by rfl) (hline : (apos.endLine == pos.line) = true := by rfl) : J X W (.Call (.Attribute a "pop" apos) [] [] pos) (eMt0 dPop m) :=
  j_mt0 PySem.F.slot_list_pop PySem.F.type_list_pop mt_pop (fun k p H ρ h σ Q hn HA P => by
    obtain ⟨xs, exs, P3⟩ := oko_bind P
    obtain ⟨x, ex, P4⟩ := oko_bind P3
    obtain ⟨vs, ep, rr⟩ := getL_at HA exs hn
    obtain ⟨v, ev, rv⟩ := rr.get ex
    obtain ⟨q1, q2⟩ := write_loc HA hn (reps_dropLast rr)
    exact ⟨p, vs, v, rfl, rfl, ep, by rw [← rr.length]; exact ev, P4 v _ ρ q1 (rv.ext q1) q2⟩) ha hbase hline
theorem reps_erase {K : PySem.W.Frag} {mg : Str → Option Value} {H : Hp} {ρ : List Addr} {ds : List D} {vs : List V} (k : Nat) (r : Reps K mg H ρ ds vs) : Reps K mg H ρ (ds.eraseIdx k) (vs.eraseIdx k) := by
  rw [List.eraseIdx_eq_take_drop_succ, List.eraseIdx_eq_take_drop_succ]; exact (r.take _).append (r.drop _)
def dPopAt : Nat → D → Hm → Out D := fun n i h => match i with
  | .int i => (oko (getL h n) h).bind fun xs h => if -(2 ^ 63) ≤ i ∧ i < 2 ^ 63 then (oko (seqIndex? i xs.length) h).bind fun k h => (oko xs[k]? h).bind fun x h => .ok x (h.set n (.lst (xs.eraseIdx k))) else .stuck
  | _ => .stuck
theorem j_popAt (ha : J X W a m) (hb : J X W b n) (hbase : attributeBase a "pop" X.env (eval a X.env) = eval a X.env := by rfl) (he : starEach [b] X.env = (false, eval b X.env) :: starEach [] X.env := by rfl)
    (hfew : ((backTo pos (starEach [b] X.env)).all (fun x => !x.1) && (backToKw pos (keywordEach [] X.env)).all (fun x => x.1.isSome) && decide ([b].length + ([] : List Keyword).length + (if ([] : List Keyword).isEmpty then 0 else 1) < 30)) = true := by rfl)
    (hline : (apos.endLine == pos.line) = true := by rfl) : J X W (.Call (.Attribute a "pop" apos) [b] [] pos) (eMt dPopAt m n) :=
  j_mt PySem.F.slot_list_pop PySem.F.type_list_pop mt_popAt (fun k p d v H ρ h σ Q hn r HA P => by
    cases r with
    | @int i =>
      obtain ⟨xs, exs, P3⟩ := oko_bind (show PostG X.K X.mg (RV X) (fun c d H' => W c d σ H') H ρ Q ((oko (getL h k) h).bind fun xs h => if -(2 ^ 63) ≤ i ∧ i < 2 ^ 63 then (oko (seqIndex? i xs.length) h).bind fun j h => (oko xs[j]? h).bind fun x h => .ok x (h.set k (.lst (xs.eraseIdx j))) else .stuck) from P)
      split at P3
      · rename_i hz
        obtain ⟨j, ej, P4⟩ := oko_bind P3
        obtain ⟨x, ex, P5⟩ := oko_bind P4
        obtain ⟨vs, ep, rr⟩ := getL_at HA exs hn
        obtain ⟨v, ev, rv⟩ := rr.get ex
        obtain ⟨q1, q2⟩ := write_loc HA hn (reps_erase j rr)
        exact ⟨p, vs, i, j, v, rfl, rfl, ep, hz.1, hz.2, by rw [← rr.length]; exact ej, ev, P5 v _ ρ q1 (rv.ext q1) q2⟩
      · exact P3.elim
    | _ => exact P.elim) ha hb hbase he hfew hline
/-- o.extend(ys) -/
def eExt (m : EM) (n : AM) : EM := fun ls h => (m ls h).bind fun o h1 => (onLoc o h1).bind fun k h1 => (n ls h1).bind fun ys h2 => (oko (getL h2 k) h2).bind fun xs h => if xs.length + ys.length ≤ sizeLine then .ok .non (h.set k (.lst (xs ++ ys))) else .stuck
theorem j_extend {n : AM} (ha : J X W a m) (hb : JK X W b n) (hbase : attributeBase a "extend" X.env (eval a X.env) = eval a X.env := by rfl) (he : starEach [b] X.env = (false, eval b X.env) :: starEach [] X.env := by rfl)
    (hfew : ((backTo pos (starEach [b] X.env)).all (fun x => !x.1) && (backToKw pos (keywordEach [] X.env)).all (fun x => x.1.isSome) && decide ([b].length + ([] : List Keyword).length + (if ([] : List Keyword).isEmpty then 0 else 1) < 30)) = true := by rfl)
    (hline : (apos.endLine == pos.line) = true := by rfl) : J X W (.Call (.Attribute a "extend" apos) [b] [] pos) (eExt m n) :=
  peW (pe_bm PySem.F.plainAttrs_list PySem.F.slot_list_extend PySem.F.type_list_extend mt_extend ha (pa_cons hb pa_nil he) hbase hfew hline he rfl) fun σ H Q ⟨ρ, ls, h, LR, HA, P⟩ => tG_bind LR HA P fun x h1 v H1 ρ1 e1 r1 HA1 LR1 P1 => by
    cases r1 with
    | @loc k p hn =>
      refine ⟨loc_ty HA1 hn, tG_bind (R1 := RK X) (R2 := RV X) (Q := Q) (f := fun ys h2 => (oko (getL h2 k) h2).bind fun xs h => if xs.length + ys.length ≤ sizeLine then .ok D.non (h.set k (.lst (xs ++ ys))) else .stuck) LR1 HA1 P1 fun ys h2 u H2 ρ2 e2 r2 HA2 LR2 P2 => ?_⟩
      obtain ⟨p2, us, rfl, ep2, r2⟩ := r2
      obtain ⟨xs, exs, P3⟩ := oko_bind P2
      obtain ⟨vs, ep, rr⟩ := getL_at HA2 exs (grown e2 hn)
      split at P3
      · rename_i hz
        obtain ⟨q1, q2⟩ := write_loc HA2 (grown e2 hn) (rr.append r2)
        exact ⟨p, p2, vs, us, rfl, rfl, ep, ep2, by rw [← rr.length, ← r2.length]; exact hz, P3 _ _ ρ2 q1 .non q2⟩
      · exact P3.elim
    | _ => exact P1.elim
/-! ### texts: split, join -/
def onStr : D → Hm → Out Str
  | .str x, h => .ok x h
  | _, _ => .stuck
def lSplit (m n : EM) : AM := fun ls h => (m ls h).bind fun x h1 => (onStr x h1).bind fun x h1 => (n ls h1).bind fun y h2 => (onStr y h2).bind fun y h2 => if (y.length == 0) = false ∧ x.length + 2 ≤ sizeLine then .ok ((Txt.split x y).map .str) h2 else .stuck
theorem reps_strs {K : PySem.W.Frag} {mg : Str → Option Value} {H : Hp} {ρ : List Addr} : ∀ ys : List Str, Reps K mg H ρ (ys.map .str) (ys.map V.str)
  | [] => .nil
  | _ :: ys => .cons .str (reps_strs ys)
theorem jl_split (ha : J X W a m) (hb : J X W b n) (he : starEach [b] X.env = [(false, eval b X.env)] := by rfl) (hbase : attributeBase a "split" X.env (eval a X.env) = eval a X.env := by rfl)
    (h3 : (apos.endLine == pos.line) = true := by rfl) : JL X W (.Call (.Attribute a "split" apos) [b] [] pos) (lSplit m n) :=
  peW (pe_split ha hb he hbase h3) fun σ H Q ⟨ρ, ls, h, LR, HA, P⟩ => tG_bind0 (R2 := RL X H) LR HA P fun x h1 v H1 ρ1 e1 r1 HA1 LR1 P1 => by
    cases r1 with
    | @str x =>
      refine ⟨⟨x, rfl⟩, tG_bind0 (R2 := RL X H) (Q := Q) (f := fun y h2 => (onStr y h2).bind fun y h2 => if (y.length == 0) = false ∧ x.length + 2 ≤ sizeLine then .ok ((Txt.split x y).map D.str) h2 else .stuck) LR1 HA1 (PostG.shift (H := H) (ρ := ρ) P1 e1) fun y h2 u H2 ρ2 e2 r2 HA2 LR2 P2 => ?_⟩
      have P2 := PostG.shift P2 e2
      cases r2 with
      | @str y =>
        have P3 : PostG X.K X.mg (RL X H) (fun c d H' => W c d σ H') H2 ρ2 Q (if (y.length == 0) = false ∧ x.length + 2 ≤ sizeLine then .ok ((Txt.split x y).map D.str) h2 else .stuck) := P2
        split at P3
        · rename_i hz
          refine ⟨x, y, rfl, rfl, hz.1, hz.2, fun q hq => ?_⟩
          obtain ⟨n0, nq⟩ := fresh_back (e1.trans e2) HA2 hq
          exact P3 (.ref q) _ ρ2 (.laid hq) ⟨q, _, rfl, n0, nq, upd_same, reps_strs _⟩ (HA2.laid hq)
        · exact P3.elim
      | _ => exact P2.elim
    | _ => exact P1.elim
def eJoin (m : EM) (n : Ls → Hm → Out (Bool × List D)) : EM := fun ls h => (m ls h).bind fun x h1 => (onStr x h1).bind fun x h1 => (n ls h1).bind fun q h2 => (oko (q.2.mapM asSt) h2).bind fun ys h2 => if (ys.map (·.length)).sum + ys.length * x.length ≤ 16777216 then .ok (.str (Txt.join x ys)) h2 else .stuck
theorem j_join {n : Ls → Hm → Out (Bool × List D)} (ha : J X W a m) (hb : JQ X W b n) (he : starEach [b] X.env = [(false, eval b X.env)] := by rfl) (hbase : attributeBase a "join" X.env (eval a X.env) = eval a X.env := by rfl)
    (h3 : (apos.endLine == pos.line) = true := by rfl) : J X W (.Call (.Attribute a "join" apos) [b] [] pos) (eJoin m n) :=
  peW (pe_join ha hb he hbase h3) fun σ H Q ⟨ρ, ls, h, LR, HA, P⟩ => tG_bind LR HA P fun x h1 v H1 ρ1 e1 r1 HA1 LR1 P1 => by
    cases r1 with
    | @str x =>
      refine ⟨⟨x, rfl⟩, tG_bind (R1 := RQ X) (Q := Q) (f := fun q h2 => (oko (q.2.mapM asSt) h2).bind fun ys h2 => if (ys.map (·.length)).sum + ys.length * x.length ≤ 16777216 then .ok (D.str (Txt.join x ys)) h2 else .stuck) LR1 HA1 P1 fun q h2 u H2 ρ2 e2 r2 HA2 LR2 P2 => ?_⟩
      obtain ⟨p, vs, rfl, hs, r⟩ := r2
      obtain ⟨ys, ey, P3⟩ := oko_bind P2
      split at P3
      · rename_i hz
        have ev := as_map asSt_v r ey
        subst ev
        refine ⟨x, p, ys, rfl, rfl, ?_, hz, P3 _ H2 ρ2 .refl .str HA2⟩
        split at hs
        · exact .inl hs
        · exact .inr (TupAt.sq hs)
      · exact P3.elim
    | _ => exact P1.elim
/-! ### o[i] = e -/
def dPut (ls : Ls) (x : D) : D → D → Hm → SOut
  | .loc n, .int k, h => match getL h n with
    | none => .stuck
    | some xs => (match ixN xs.length k with
      | none => .stuck
      | some j => .ok .nx ls (h.set n (.lst (xs.set j x))))
  | _, _, _ => .stuck
def sPut (mo mi me : EM) : SM := fun ls h => (me ls h).sb ls fun x h1 => (mo ls h1).sb ls fun o h2 => (mi ls h2).sb ls fun i h3 => dPut ls x o i h3
theorem js_put {o i e : Expr} {mo mi me : EM} {tpos pos : Pos} (he : J X W e me) (ho : J X W o mo) (hi : J X W i mi)
    (ha : ∀ v, assign (.Subscript o i tpos) X.env v = (do
      let ov ← holding [v] (eval o X.env)
      let iv ← holding [v, ov] (eval i X.env)
      standAt tpos
      holding [v, ov, iv] (setItem ov iv v)
      release [v, ov, iv] []) := by intro _; rfl)
    (hs : swapsWithSole [.Subscript o i tpos] e pos.line X.env = pure false := by rfl) (hw : swappedStores [.Subscript o i tpos] e X.env = pure none := by rfl) (h1 : (assignEach [.Subscript o i tpos] X.env).map (·.2) = [assign (.Subscript o i tpos) X.env] := by rfl) :
    JS X W (.Assign [.Subscript o i tpos] e pos) (sPut mo mi me) :=
  psW (ps_asg he (pg_sub ho hi set_list ha) hs hw h1) fun D σ H ⟨ρ, ls, h, LR, HA, P⟩ => tS_bind LR HA P fun x h1 v H1 ρ1 e1 r1 HA1 LR1 P1 => tS_bind LR1 HA1 P1 fun o h2 u H2 ρ2 e2 r2 HA2 LR2 P2 => tS_bind LR2 HA2 P2 fun i h3 w H3 ρ3 e3 r3 HA3 LR3 P3 => by
    have r1 := (r1.ext e2).ext e3
    have r2 := r2.ext e3
    cases r2 with
    | @loc n p hn => cases r3 with
      | @int k =>
        have P4 : PostS X W H3 ρ3 D (match getL h3 n with
          | none => .stuck
          | some xs => (match ixN xs.length k with
            | none => .stuck
            | some j => .ok .nx ls (h3.set n (.lst (xs.set j x))))) := P3
        cases q : getL h3 n with
        | none => rw [q] at P4; exact P4.elim
        | some xs =>
          rw [q] at P4
          dsimp only at P4
          cases q2 : ixN xs.length k with
          | none => rw [q2] at P4; exact P4.elim
          | some j =>
            rw [q2] at P4
            obtain ⟨vs, ep, rr⟩ := getL_at HA3 q hn
            obtain ⟨q3, q4⟩ := write_loc HA3 hn (rr.set j r1)
            exact ⟨p, vs, k, j, rfl, rfl, ep, by rw [← rr.length]; exact q2, P4 σ _ ρ3 q3 (LR3.ext q3) q4⟩
      | _ => exact P3.elim
    | _ => cases r3 <;> exact P3.elim
end
end MP

set_option Elab.async false
set_option linter.all false
set_option maxRecDepth 100000
set_option maxHeartbeats 2000000
set_option autoImplicit false
namespace MP
open PySem PySem.Spec PyProof.Rows L2
/-! ### what a call sees: its own arguments' things alone -/
mutual
def D.cl : D → Bool
  | .loc _ => false
  | .tup ds => cls ds
  | .rls ds => cls ds
  | _ => true
def cls : List D → Bool
  | [] => true
  | d :: ds => d.cl && cls ds
end
def MO.cl : MO → Bool
  | .lst xs => cls xs
mutual
theorem Rep.cl {K : PySem.W.Frag} {mg : Str → Option Value} {H : Hp} {ρ ρ' : List Addr} : ∀ {d : D} {v : V}, Rep K mg H ρ d v → d.cl = true → Rep K mg H ρ' d v
  | _, _, .non, _ => .non
  | _, _, .bl, _ => .bl
  | _, _, .int, _ => .int
  | _, _, .str, _ => .str
  | _, _, .ty, _ => .ty
  | _, _, .loc h, e => by rw [D.cl] at e; cases e
  | _, _, .glb h r, _ => .glb h r
  | _, _, .tup h r, e => .tup h (Reps.cl r (by rw [D.cl] at e; exact e))
  | _, _, .rls h r, e => .rls h (Reps.cl r (by rw [D.cl] at e; exact e))
theorem Reps.cl {K : PySem.W.Frag} {mg : Str → Option Value} {H : Hp} {ρ ρ' : List Addr} : ∀ {ds : List D} {vs : List V}, Reps K mg H ρ ds vs → cls ds = true → Reps K mg H ρ' ds vs
  | _, _, .nil, _ => .nil
  | _, _, .cons h r, e => by
    rw [cls, Bool.and_eq_true] at e
    exact .cons (Rep.cl h e.1) (Reps.cl r e.2)
end
theorem MOk.cl {K : PySem.W.Frag} {mg : Str → Option Value} {H : Hp} {ρ ρ' : List Addr} {a : Addr} {o : MO} (m : MOk K mg H ρ a o) (e : o.cl = true) : MOk K mg H ρ' a o := by
  cases o with
  | lst xs => obtain ⟨vs, h1, h2⟩ := m; exact ⟨vs, h1, h2.cl (by simpa [MO.cl] using e)⟩
def locs : List D → List Nat
  | [] => []
  | .loc n :: r => n :: locs r
  | _ :: r => locs r
def reloc : Nat → List D → List D
  | _, [] => []
  | k, .loc _ :: r => .loc k :: reloc (k + 1) r
  | k, d :: r => d :: reloc k r
/-- nothing of ours within -/
def flat : List D → Bool
  | [] => true
  | .loc _ :: r => flat r
  | d :: r => d.cl && flat r
def putAll (h : Hm) : List Nat → Hm → Hm
  | [], _ => h
  | _ :: _, [] => h
  | n :: ns, o :: os => putAll (h.set n o) ns os
def backOk (ns : List Nat) (h h' h1 : Hm) : D → Out D
  | .loc j => if j < ns.length then (oko ns[j]? h').bind fun n h' => .ok (.loc n) h' else (oko h1[j]? h').bind fun o h' => if o.cl = true then .ok (.loc h'.length) (h' ++ [o]) else .stuck
  | d => if d.cl = true then .ok d h' else .stuck
def back (ns : List Nat) (h : Hm) : Out D → Out D
  | .ok d h1 => if ns.length ≤ h1.length ∧ (h1.take ns.length).all MO.cl = true then backOk ns h (putAll h ns (h1.take ns.length)) h1 d else .stuck
  | .exc c v h1 => if ns.length ≤ h1.length ∧ (h1.take ns.length).all MO.cl = true ∧ v.cl = true then .exc c v (putAll h ns (h1.take ns.length)) else .stuck
  | .stuck => .stuck
def lcall (m : List D → Hm → Out D) (ds : List D) (h : Hm) : Out D :=
  (oko ((locs ds).mapM fun n => h[n]?) h).bind fun h0 h => if (locs ds).Nodup ∧ flat ds = true ∧ h0.all MO.cl = true then back (locs ds) h (m (reloc 0 ds) h0) else .stuck
theorem backOk_ne {ns : List Nat} {h h' h1 : Hm} {d : D} (hd : ∀ j, d ≠ .loc j) : backOk ns h h' h1 d = if d.cl = true then .ok d h' else .stuck := by
  cases d <;> first | rfl | exact absurd rfl (hd _)
theorem putAll_len : ∀ (ns : List Nat) (os h : Hm), (putAll h ns os).length = h.length
  | [], _, _ => by rw [putAll]
  | _ :: _, [], _ => by rw [putAll]
  | n :: ns, o :: os, h => by
    show (putAll (h.set n o) ns os).length = _
    rw [putAll_len ns os, List.length_set]
theorem putAll_out : ∀ (ns : List Nat) (os h : Hm) (i : Nat), i ∉ ns → (putAll h ns os)[i]? = h[i]?
  | [], _, _, _, _ => by rw [putAll]
  | _ :: _, [], _, _, _ => by rw [putAll]
  | n :: ns, o :: os, h, i, hi => by
    show (putAll (h.set n o) ns os)[i]? = _
    rw [putAll_out ns os _ i (fun z => hi (List.mem_cons_of_mem _ z)), List.getElem?_set_ne (fun z => hi (by rw [z]; exact List.mem_cons_self))]
theorem putAll_in : ∀ (ns : List Nat) (os h : Hm) (j i : Nat), ns.Nodup → ns[j]? = some i → i < h.length → j < os.length → (putAll h ns os)[i]? = os[j]?
  | [], _, _, _, _, _, e, _, _ => by simp at e
  | n :: ns, [], _, _, _, _, _, _, hj => by simp at hj
  | n :: ns, o :: os, h, 0, i, nd, e, hi, hj => by
    simp at e; subst e
    show (putAll (h.set n o) ns os)[n]? = _
    rw [putAll_out ns os _ n (List.nodup_cons.mp nd).1, List.getElem?_set]
    simp [hi]
  | n :: ns, o :: os, h, j + 1, i, nd, e, hi, hj => by
    show (putAll (h.set n o) ns os)[i]? = _
    rw [putAll_in ns os _ j i (List.nodup_cons.mp nd).2 (by simpa using e) (by rw [List.length_set]; exact hi) (by simpa using hj)]
    simp
theorem mapM_get {α β : Type} {f : α → Option β} : ∀ {l : List α} {r : List β}, l.mapM f = some r → r.length = l.length ∧ ∀ (j : Nat) (a : α), l[j]? = some a → ∃ b, r[j]? = some b ∧ f a = some b
  | [], r, e => by simp at e; subst e; exact ⟨rfl, fun j a h => by simp at h⟩
  | x :: l, r, e => by
    rw [List.mapM_cons] at e
    cases q : f x with
    | none => rw [q] at e; cases e
    | some y =>
      rw [q] at e
      cases q2 : l.mapM f with
      | none => rw [q2] at e; cases e
      | some r' =>
        rw [q2] at e
        cases e
        obtain ⟨h1, h2⟩ := mapM_get q2
        refine ⟨by simp [h1], fun j a h => ?_⟩
        cases j with
        | zero => simp at h; subst h; exact ⟨y, rfl, q⟩
        | succ j => exact h2 j a (by simpa using h)
section
variable {K : PySem.W.Frag} {mg : Str → Option Value} {H : Hp} {ρ ρ0 : List Addr}
theorem locs_addr : ∀ {ds : List D} {vs : List V}, Reps K mg H ρ ds vs → ∀ n ∈ locs ds, ∃ a, ρ[n]? = some a
  | _, _, .nil, n, h => by simp [locs] at h
  | _, _, .cons r rs, n, h => by
    cases r with
    | @loc k a hk =>
      rcases List.mem_cons.mp (show n ∈ k :: locs _ from h) with z | z
      · subst z; exact ⟨a, hk⟩
      · exact locs_addr rs n z
    | _ => exact locs_addr rs n h
theorem reloc_reps : ∀ {ds : List D} {vs : List V} (k : Nat), Reps K mg H ρ ds vs → flat ds = true → (∀ j n, (locs ds)[j]? = some n → ρ0[k + j]? = ρ[n]?) → Reps K mg H ρ0 (reloc k ds) vs
  | _, _, _, .nil, _, _ => .nil
  | _, _, k, .cons (d := d) r rs, f, h => by
    cases r with
    | @loc n a hn =>
      refine .cons (.loc ?_) (reloc_reps (k + 1) rs f fun j m e => ?_)
      · have := h 0 n rfl
        rw [Nat.add_zero] at this; rw [this]; exact hn
      · have := h (j + 1) m e
        rw [show k + 1 + j = k + (j + 1) by omega]; exact this
    | non => exact .cons .non (reloc_reps k rs (by simpa [flat, D.cl] using f) h)
    | bl => exact .cons .bl (reloc_reps k rs (by simpa [flat, D.cl] using f) h)
    | int => exact .cons .int (reloc_reps k rs (by simpa [flat, D.cl] using f) h)
    | str => exact .cons .str (reloc_reps k rs (by simpa [flat, D.cl] using f) h)
    | ty => exact .cons .ty (reloc_reps k rs (by simpa [flat, D.cl] using f) h)
    | glb a b => exact .cons (.glb a b) (reloc_reps k rs (by simpa [flat, D.cl] using f) h)
    | tup t r =>
      rw [flat, Bool.and_eq_true] at f
      exact .cons ((Rep.tup t r).cl f.1) (reloc_reps k rs f.2 h)
      all_goals (intro n e; cases e)
    | rls t r =>
      rw [flat, Bool.and_eq_true] at f
      exact .cons ((Rep.rls t r).cl f.1) (reloc_reps k rs f.2 h)
      all_goals (intro n e; cases e)
/-- a way to call: the callee's view and what comes of it -/
def CallsBy (md : (List D → Hm → Out D) → List D → Hm → Out D) : Prop := ∀ (K : PySem.W.Frag) (mg : Str → Option Value) (m : List D → Hm → Out D) (ds : List D) (vs : List V) (H : Hp) (ρ : List Addr) (h : Hm) (W' : Value → Option Addr → Hp → Prop) (Q : VK),
  Reps K mg H ρ ds vs → HAbs K mg H ρ h → PostG K mg (fun H ρ => Rep K mg H ρ) W' H ρ Q (md m ds h) → ∃ ρ0 ds0 h0, Reps K mg H ρ0 ds0 vs ∧ HAbs K mg H ρ0 h0 ∧ PostG K mg (fun H ρ => Rep K mg H ρ) W' H ρ0 Q (m ds0 h0)
def gcall (m : List D → Hm → Out D) (ds : List D) (h : Hm) : Out D := m ds h
theorem by_gcall : CallsBy gcall := fun K mg m ds vs H ρ h W' Q r A P => ⟨ρ, ds, h, r, A, P⟩
theorem by_lcall : CallsBy lcall := fun K mg m ds vs H ρ h W' Q r A P => by
  unfold lcall at P
  obtain ⟨h0, e0, P⟩ := oko_bind P
  split at P
  · rename_i hc
    obtain ⟨nd, fl, cl0⟩ := hc
    obtain ⟨l0, g0⟩ := mapM_get e0
    have adr : ∀ (j n : Nat), (locs ds)[j]? = some n → ∃ a, ρ[n]? = some a ∧ ((locs ds).map fun n => (ρ[n]?).getD 0)[j]? = some a := fun j n e => by
      obtain ⟨a, ha⟩ := locs_addr r n (List.mem_of_getElem? e)
      exact ⟨a, ha, by rw [List.getElem?_map, e]; simp [ha]⟩
    generalize hρ0 : ((locs ds).map fun n => (ρ[n]?).getD 0) = ρ0 at adr
    have len0 : ρ0.length = (locs ds).length := by rw [← hρ0, List.length_map]
    have at0 : ∀ (j : Nat) (a : Addr), ρ0[j]? = some a → ∃ n, (locs ds)[j]? = some n ∧ ρ[n]? = some a := fun j a e => by
      have hj : j < (locs ds).length := by rw [← len0]; exact (List.getElem?_eq_some_iff.mp e).1
      obtain ⟨b, h1, h2⟩ := adr j _ (List.getElem?_eq_getElem hj)
      rw [e] at h2; cases h2
      exact ⟨_, List.getElem?_eq_getElem hj, h1⟩
    have sub : ∀ a, a ∈ ρ0 → a ∈ ρ := fun a ha => by
      obtain ⟨j, hj, e⟩ := List.getElem_of_mem ha
      obtain ⟨n, _, h2⟩ := at0 j a (by rw [List.getElem?_eq_getElem hj, e])
      exact List.mem_of_getElem? h2
    have nd0 : ρ0.Nodup := by
      rw [List.Nodup, List.pairwise_iff_getElem]
      intro i j hi hj hij e
      obtain ⟨n, a1, a2⟩ := at0 i ρ0[i] (List.getElem?_eq_getElem hi)
      obtain ⟨n', b1, b2⟩ := at0 j ρ0[j] (List.getElem?_eq_getElem hj)
      rw [← e] at b2
      have en : n = n' := (List.getElem?_inj (List.getElem?_eq_some_iff.mp a2).1 A.nd).mp (a2.trans b2.symm)
      subst en
      have := (List.getElem?_inj (List.getElem?_eq_some_iff.mp a1).1 nd).mp (a1.trans b1.symm)
      omega
    have A0 : HAbs K mg H ρ0 h0 := by
      refine ⟨by rw [len0, l0], nd0, fun j o e => ?_⟩
      have hj : j < (locs ds).length := by rw [← l0]; exact (List.getElem?_eq_some_iff.mp e).1
      obtain ⟨o', h1, h2⟩ := g0 j _ (List.getElem?_eq_getElem hj)
      rw [e] at h1; cases h1
      obtain ⟨a, q1, q2⟩ := adr j _ (List.getElem?_eq_getElem hj)
      obtain ⟨b, q3, mo⟩ := A.obj _ _ h2
      rw [q1] at q3; cases q3
      exact ⟨a, q2, mo.cl (List.all_eq_true.mp cl0 o (List.mem_of_getElem? e))⟩
    refine ⟨ρ0, reloc 0 ds, h0, reloc_reps 0 r fl (fun j n e => by
      obtain ⟨a, q1, q2⟩ := adr j n e
      rw [Nat.zero_add, q1, q2]), A0, ?_⟩
    -- the heap behind the call
    have bk : ∀ (ρ1 : List Addr) (H' : Hp) (h1 : Hm), Ext ρ0 H ρ1 H' → HAbs K mg H' ρ1 h1 → (locs ds).length ≤ h1.length → (h1.take (locs ds).length).all MO.cl = true →
        Ext ρ H ρ H' ∧ HAbs K mg H' ρ (putAll h (locs ds) (h1.take (locs ds).length)) := fun ρ1 H' h1 ex A1 hl hcl => by
      have ex' : Ext ρ H ρ H' := ⟨List.prefix_rfl, fun a ha na => absurd ha na, fun a o e na => ex.old a o e fun z => na (sub a z), ex.tup, ex.frz⟩
      refine ⟨ex', by rw [putAll_len]; exact A.len, A.nd, fun i o e => ?_⟩
      have hi : i < h.length := by
        have := (List.getElem?_eq_some_iff.mp e).1
        rwa [putAll_len] at this
      by_cases hm : i ∈ locs ds
      · obtain ⟨j, hj, ej⟩ := List.getElem_of_mem hm
        have ej' : (locs ds)[j]? = some i := by rw [List.getElem?_eq_getElem hj, ej]
        have hjt : j < (h1.take (locs ds).length).length := by rw [List.length_take]; omega
        rw [putAll_in _ _ _ j i nd ej' hi hjt] at e
        obtain ⟨a, q1, q2⟩ := adr j i ej'
        have e1 : h1[j]? = some o := by
          rw [List.getElem?_take] at e
          rw [if_pos hj] at e; exact e
        obtain ⟨b, q3, mo⟩ := A1.obj j o e1
        rw [grown ex q2] at q3; cases q3
        exact ⟨a, q1, mo.cl (List.all_eq_true.mp hcl o (List.mem_of_getElem? e))⟩
      · rw [putAll_out _ _ _ i hm] at e
        obtain ⟨a, q1, mo⟩ := A.obj i o e
        obtain ⟨u, q2, _⟩ := mo.mut
        have na : a ∉ ρ0 := fun z => by
          obtain ⟨j, hj, ej⟩ := List.getElem_of_mem z
          obtain ⟨n, q3, q4⟩ := at0 j a (by rw [List.getElem?_eq_getElem hj, ej])
          have en : n = i := (List.getElem?_inj (List.getElem?_eq_some_iff.mp q4).1 A.nd).mp (q4.trans q1.symm)
          subst en
          exact hm (List.mem_of_getElem? q3)
        exact ⟨a, q1, mo.keep ex' ((ex.old a u q2 na).trans q2.symm)⟩
    cases em : m (reloc 0 ds) h0 with
    | stuck => rw [em] at P; exact P.elim
    | exc c v h1 =>
      rw [em] at P
      have P : PostG K mg (fun H ρ => Rep K mg H ρ) W' H ρ Q (if (locs ds).length ≤ h1.length ∧ (h1.take (locs ds).length).all MO.cl = true ∧ v.cl = true then .exc c v (putAll h (locs ds) (h1.take (locs ds).length)) else .stuck) := P
      split at P
      · rename_i hc
        exact fun cl dx H' ρ1 ex xr A1 => by
          obtain ⟨e2, A2⟩ := bk ρ1 H' h1 ex A1 hc.1 hc.2.1
          obtain ⟨x1, a, w, x2, x3, x4⟩ := xr
          exact P cl dx H' ρ e2 ⟨x1, a, w, x2, x3, x4.cl hc.2.2⟩ A2
      · exact P.elim
    | ok d h1 =>
      rw [em] at P
      have P : PostG K mg (fun H ρ => Rep K mg H ρ) W' H ρ Q (if (locs ds).length ≤ h1.length ∧ (h1.take (locs ds).length).all MO.cl = true then backOk (locs ds) h (putAll h (locs ds) (h1.take (locs ds).length)) h1 d else .stuck) := P
      split at P
      · rename_i hc
        intro b H' ρ1 ex rd A1
        obtain ⟨e2, A2⟩ := bk ρ1 H' h1 ex A1 hc.1 hc.2
        generalize putAll h (locs ds) (h1.take (locs ds).length) = hb at P A2
        have plain : (d.cl = true → PostG K mg (fun H ρ => Rep K mg H ρ) W' H ρ Q (.ok d hb)) → d.cl = true → Q b H' := fun p hd => p hd b H' ρ e2 (rd.cl hd) A2
        cases d with
        | loc j =>
          have P : PostG K mg (fun H ρ => Rep K mg H ρ) W' H ρ Q (if j < (locs ds).length then (oko (locs ds)[j]? hb).bind fun n h' => .ok (.loc n) h' else (oko h1[j]? hb).bind fun o h' => if o.cl = true then .ok (.loc h'.length) (h' ++ [o]) else .stuck) := P
          split at P
          · rename_i hj
            rw [List.getElem?_eq_getElem hj] at P
            have P : PostG K mg (fun H ρ => Rep K mg H ρ) W' H ρ Q (.ok (.loc (locs ds)[j]) hb) := P
            obtain ⟨a, q1, q2⟩ := adr j _ (List.getElem?_eq_getElem hj)
            refine P b H' ρ e2 ?_ A2
            cases rd with
            | loc hn => rw [grown ex q2] at hn; cases hn; exact .loc q1
          · rename_i hj
            obtain ⟨o, eo, P⟩ := oko_bind P
            split at P
            · rename_i ho
              obtain ⟨a, q1, mo⟩ := A1.obj j o eo
              cases rd with
              | loc hn =>
                rw [q1] at hn; cases hn
                have n0 : H a = none := ex.new a (List.mem_of_getElem? q1) fun z => by
                  obtain ⟨i, hi, ei⟩ := List.getElem_of_mem z
                  have q5 := grown ex (show ρ0[i]? = some a by rw [List.getElem?_eq_getElem hi, ei])
                  have := (List.getElem?_inj (List.getElem?_eq_some_iff.mp q1).1 A1.nd).mp (q1.trans q5.symm)
                  omega
                have na : a ∉ ρ := A.fresh n0
                refine P _ H' (ρ ++ [a]) ⟨List.prefix_append _ _, fun b hb nb => ?_, e2.old, e2.tup, e2.frz⟩ (.loc ?_) (A2.own na (mo.cl ho))
                · rcases List.mem_append.mp hb with z | z
                  · exact absurd z nb
                  · simp at z; subst z; exact n0
                · rw [List.getElem?_append_right (by rw [A2.len]; exact Nat.le_refl _)]; simp [A2.len]
            · exact P.elim
        | _ =>
          rw [backOk_ne (fun j e => by cases e)] at P
          split at P
          · rename_i hd
            exact P b H' ρ e2 (rd.cl hd) A2
          · exact P.elim
      · exact P.elim
  · exact P.elim
end
end MP

set_option Elab.async false
set_option linter.all false
set_option maxRecDepth 100000
set_option maxHeartbeats 2000000
set_option autoImplicit false
namespace MP
open PySem PySem.Spec PyProof.Rows L2
/-! ### defs -/
def spM (K : PySem.W.Frag) (mg : Str → Option Value) (n : Nat) (m : List D → Hm → Out D) : Sp := fun vs H Q E =>
  vs.length = n ∧ ∃ ρ ds h, Reps K mg H ρ ds vs ∧ HAbs K mg H ρ h ∧ PostG K mg (fun H ρ => Rep K mg H ρ) E H ρ Q (m ds h)
/-- the def at f does what m says, where no repr is under way -/
structure FnG (P : Program) (w : World) (K : PySem.W.Frag) (mg : Str → Option Value) (base : Heap) (k : Nat) (f : Addr) (fd : FuncData) (ps : List Str) (m : List D → Hm → Out D) : Prop where
  go : ∀ (A : Around) (outer : List Env) (s : Shared) (H : Hp) (args : Args) (us : List Value) (vs : List V) (Q : VK) (E : XK), Room k A → A.guards = some [] → Env0 P w K mg base A outer s H →
    BindsTo s fd args (ps.zip us) → Vals vs us → spM K mg ps.length m vs H Q E → codeAny (model P w) A (.call (.ref f) args) (CR (L2.CX P w) outer P w H s Q E) s
theorem FnG.mono {P : Program} {w : World} {K : PySem.W.Frag} {mg : Str → Option Value} {base : Heap} {j k : Nat} {f : Addr} {fd : FuncData} {ps : List Str} {m : List D → Hm → Out D} (F : FnG P w K mg base j f fd ps m) (h : j ≤ k) : FnG P w K mg base k f fd ps m :=
  ⟨fun A outer s H args us vs Q E hr => F.go A outer s H args us vs Q E (hr.mono h)⟩
theorem FnG.eq {P : Program} {w : World} {K : PySem.W.Frag} {mg : Str → Option Value} {base : Heap} {k : Nat} {f : Addr} {fd : FuncData} {ps : List Str} {m m' : List D → Hm → Out D} (F : FnG P w K mg base k f fd ps m) (h : m = m') : FnG P w K mg base k f fd ps m' := h ▸ F
def startL (n : Nat) (ds : List D) : Ls := ds.map some ++ List.replicate (n - ds.length) none
def runB (n : Nat) (mb : SM) : List D → Hm → Out D := fun ds h => match mb (startL n ds) h with
  | .ok .nx _ h => .ok .non h
  | .ok (.rt d) _ h => .ok d h
  | .ok .bk _ _ => .stuck
  | .ok .ct _ _ => .stuck
  | .exc c d _ h => .exc c d h
  | .stuck => .stuck
theorem start_rep {K : PySem.W.Frag} {mg : Str → Option Value} {H : Hp} {ρ : List Addr} {ds : List D} {vs : List V} {N : List Str} (r : Reps K mg H ρ ds vs) : LRep K mg H ρ (startL N.length ds) (L2.start N vs) := by
  refine ⟨by simp [startL, L2.start, r.length], fun i d e => ?_⟩
  unfold startL at e
  unfold L2.start
  by_cases hi : i < ds.length
  · rw [List.getElem?_append_left (by simpa using hi), List.getElem?_map] at e
    rw [List.getElem?_append_left (by rw [List.length_map, ← r.length]; exact hi), List.getElem?_map]
    rw [List.getElem?_eq_getElem hi] at e
    simp at e; subst e
    obtain ⟨v, e1, e2⟩ := r.get (List.getElem?_eq_getElem hi)
    exact ⟨v, by rw [e1]; rfl, e2⟩
  · rw [List.getElem?_append_right (by simpa using hi)] at e
    rw [List.getElem?_replicate] at e
    split at e <;> cases e
section
variable {P : Program} {w : World} {K : PySem.W.Frag} {mg : Str → Option Value} {base : Heap}
/-- a def of the text, by its body -/
theorem fnG_of {x qual : Str} {st : Stmt} {f : Addr} {fd : FuncData} {N ps : List Str} {k : Nat} {mb : SM} (F : Fun K x qual st f fd) (S : FnScope N ps (defScope st))
    (hb : ∀ (cdv : Value) (A : Around) (outer : List Env) (s : Shared) (H : Hp) (E : XK), Room k (A.deeper (envOfC qual (defScope st) s.heap.objs.size f cdv)) → (A.deeper (envOfC qual (defScope st) s.heap.objs.size f cdv)).guards = some [] →
      Takes (cxOf (L2.CX P w) P w K mg base N qual (defScope st) f cdv A outer s H E) (fun c d _ H => E c d H) →
      PassesOwn (model P w) (A.deeper (envOfC qual (defScope st) s.heap.objs.size f cdv)) (envOfC qual (defScope st) s.heap.objs.size f cdv) (cxOf (L2.CX P w) P w K mg base N qual (defScope st) f cdv A outer s H E).xe →
      JSs (cxOf (L2.CX P w) P w K mg base N qual (defScope st) f cdv A outer s H E) (fun c d _ H => E c d H) (defBody st) mb) : FnG P w K mg base (k + 1) f fd ps (runB N.length mb) := by
  obtain ⟨oc, od, kV, doc, pm, an, cdv, ct, osl, efd, lk, hcd⟩ := F.ex
  subst efd
  refine ⟨fun A outer s H args us vs Q E hr hG e0 hbd r hsp => ?_⟩
  obtain ⟨hl, ρ, ds, h, rd, HA, hP⟩ := hsp
  have held : ∀ b o, base.get? b = some o → s.heap.get? b = some o := fun b o e => (e0.bs b o e).1
  have kx : K.In s.heap := e0.mod.kin.keeps held
  have kinds : ∀ y ∈ ps.zip us, (defScope st).names.lookup y.1 = some .local ∨ ((defScope st).names.lookup y.1 = some .cell ∧ ((cellsFrom (s.heap.objs.size + 1) (defScope st).names []).lookup y.1).isSome = true) := by
    rintro ⟨n, v⟩ hy
    have hm := (List.of_mem_zip hy).1
    cases S.par n hm with
    | inl q => exact .inl q
    | inr q => exact .inr ⟨q, PySem.W.cellsFrom_some _ _ _ (.inl q)⟩
  refine codeAny_call_function hr.depth (kx _ _ lk) rfl S.co S.gen rfl (PySem.W.codeRec_of kx hcd) (hbd _ _ _ _ ?_)
  refine wpAny_newFunctionEnv_cells S.kind kinds fun env he s1 ic => ?_
  subst he
  refine ⟨(e0.mod.nolimit.keeps held).keeps ic.toInCall.keep, codeAny_func ?_⟩
  have tk : Takes (cxOf (L2.CX P w) P w K mg base N qual (defScope st) f cdv A outer s H E) (fun c d _ H => E c d H) := takes_of rfl rfl rfl rfl
  have body := hb cdv A outer s H E (hr.deeper _) hG tk (passes_of (K := fun e s'' => L2.CX P w outer H s E e s'') rfl)
  have I := inv_start (CX := L2.CX P w) (E := E) S hr.hd e0 hl r ic
  have start : tS (cxOf (L2.CX P w) P w K mg base N qual (defScope st) f cdv A outer s H E) (fun c d _ H => E c d H) mb { nx := fun _ H' => Q .non H', rt := Q } (L2.start N vs) H := by
    refine ⟨ρ, startL N.length ds, h, start_rep rd, HA, ?_⟩
    unfold runB at hP
    cases em : mb (startL N.length ds) h with
    | stuck => rw [em] at hP; exact hP
    | exc c d ls h1 =>
      rw [em] at hP
      exact fun σ' cl dx H' ρ' ex lr xr ha => hP cl dx H' ρ' ex xr ha
    | ok fl ls h1 =>
      rw [em] at hP
      cases fl with
      | nx => exact fun σ' H' ρ' ex lr ha => hP .non H' ρ' ex .non ha
      | rt d => exact fun σ' H' ρ' ex lr ha v rv => hP v H' ρ' ex rv ha
      | bk => exact hP.elim
      | ct => exact hP.elim
  refine wpAny_mono (PSs.run body [] s1 (L2.start N vs) H _ I start) (fun fl s' hs => ?_) fun _ _ hs => hs
  have out : ∀ {σ' : St} {H' : Hp} {v : V} {u : Value}, L2.Inv (cxOf (L2.CX P w) P w K mg base N qual (defScope st) f cdv A outer s H E) [] σ' H' s' → RelV v u → Q v H' → CE outer P w H s Q u s' :=
    fun J rv q => ⟨_, _, J.os, J.bare, J.base, J.hok, rv, q⟩
  match fl, hs with
  | .ret u, ⟨v, σ', H', J, rv, q⟩ => exact out J rv q
  | .next, ⟨σ', H', J, q⟩ => exact out (v := V.non) (u := Value.none) J rfl q
  | .brk, ⟨_, _, _, q⟩ => exact q.elim
  | .cont, ⟨_, _, _, q⟩ => exact q.elim
end
/-! ### calls -/
section
variable {X : Cx} {W : WX} {k : Nat} {f : Addr} {fd : FuncData} {ps : List Str} {m : List D → Hm → Out D} {md : (List D → Hm → Out D) → List D → Hm → Out D}
theorem runJ {pins : List (Addr × Obj)} {σ : St} {H : Hp} {ρ : List Addr} {h : Hm} {s : Shared} {Q : VK} {us bs : List Value} {kw : List (Str × Value)} {vs : List V} {ds : List D} (F : FnG X.prog X.w X.K X.mg X.base k f fd ps m) (hmd : CallsBy md) (hr : Room k X.A) (hG : X.A.guards = some []) (tk : Takes X W)
    (I : L2.Inv X pins σ H s) (hb : BindsTo s fd ⟨us, kw⟩ (ps.zip bs)) (r : Vals vs bs) (hl : vs.length = ps.length) (rd : Reps X.K X.mg H ρ ds vs) (HA : HAbs X.K X.mg H ρ h) (hP : PostG X.K X.mg (RV X) (fun c d H' => W c d σ H') H ρ Q (md m ds h)) :
    wpAny (model X.prog X.w) X.A (call (.ref f) us kw) (EP X pins σ Q) X.xe s := by
  obtain ⟨ρ0, ds0, h0, r0, A0, P0⟩ := hmd _ _ _ _ _ _ _ _ _ _ rd HA hP
  refine wpAny_call (codeAny_mono (F.go X.A X.stack s H ⟨us, kw⟩ bs vs Q (fun c d H' => W c d σ H') hr hG I.env0 hb r ⟨hl, ρ0, ds0, h0, r0, A0, P0⟩) fun res s' hq => ?_)
  match res, hq with
  | .error e, hq => exact tk e s' (XE.of_call I (fun _ _ _ z => z) hq)
  | .ok (.ret u), hq => exact I.after hq
  | .ok .next, hq => exact False.elim hq
  | .ok .brk, hq => exact False.elim hq
  | .ok .cont, hq => exact False.elim hq
/-- what stands at a parameter's place: the positional ones, then the keywords by their places -/
def pick {α : Type} (perm : List Nat) (ws : List α) : List α := perm.filterMap fun i => ws[i]?
theorem pick_vals {vs : List V} {us : List Value} (r : Vals vs us) : ∀ perm : List Nat, Vals (pick perm vs) (pick perm us)
  | [] => .nil
  | i :: perm => by
    have ih := pick_vals r perm
    unfold pick at ih ⊢
    rw [List.filterMap_cons, List.filterMap_cons]
    cases q : vs[i]? with
    | none => rw [r.none_of q]; exact ih
    | some v =>
      obtain ⟨u, e1, e2⟩ := r.get q
      rw [e1]; exact .cons e2 ih
theorem pick_reps {K : PySem.W.Frag} {mg : Str → Option Value} {H : Hp} {ρ : List Addr} {ds : List D} {vs : List V} (r : Reps K mg H ρ ds vs) : ∀ perm : List Nat, Reps K mg H ρ (pick perm ds) (pick perm vs)
  | [] => .nil
  | i :: perm => by
    have ih := pick_reps r perm
    unfold pick at ih ⊢
    rw [List.filterMap_cons, List.filterMap_cons]
    cases q : ds[i]? with
    | none =>
      have : vs[i]? = none := by
        rw [List.getElem?_eq_none_iff] at q ⊢; rw [← r.length]; exact q
      rw [this]; exact ih
    | some v =>
      obtain ⟨u, e1, e2⟩ := r.get q
      rw [e1]; exact .cons e2 ih
/-- how a call of this form binds -/
def KB (K : PySem.W.Frag) (fd : FuncData) (ps : List Str) (n : Nat) (ks : List Str) (perm : List Nat) : Prop := ∀ (s : Shared) (us ws : List Value), K.In s.heap → us.length = n → ws.length = ks.length → BindsTo s fd ⟨us, ks.zip ws⟩ (ps.zip (us ++ pick perm ws))
theorem kb_of {K : PySem.W.Frag} {x qual : Str} {st : Stmt} {f : Addr} {fd : FuncData} {ps : List Str} {n : Nat} {ks : List Str} {perm : List Nat} (F : Fun K x qual st f fd)
    (h : ∀ (kV doc pm : Value) (an : Option Addr) (cdv ct : Value) (us ws : List Value), us.length = n → ws.length = ks.length → bindArgs (PySem.W.fnOf x qual (defArgs st) (defBody st) (defScope st) .none kV doc pm an cdv ct) ⟨us, ks.zip ws⟩ = pure (ps.zip (us ++ pick perm ws))) : KB K fd ps n ks perm := by
  obtain ⟨oc, od, kV, doc, pm, an, cdv, ct, osl, efd, lk, hcd⟩ := F.ex
  subst efd
  exact fun s us ws _ h1 h2 => .of_eq (h kV doc pm an cdv ct us ws h1 h2)
def JP (X : Cx) (W : WX) (kws : List Keyword) (m : AM) : Prop := PK X kws (tG X W (RA X) m)
theorem pkW {e : List Keyword} {t t' : TA} (p : PK X e t) (h : ∀ σ H Q, t' σ H Q → t σ H Q) : PK X e t' := ⟨fun pos pins s σ H Q I q => p.run pos pins s σ H Q I (h σ H Q q)⟩
theorem jp_nil : JP X W [] aNil := pkW pk_nil fun σ H Q ⟨ρ, ls, h, LR, HA, P⟩ => P [] H ρ .refl .nil HA
theorem jp_cons {nm : Option Str} {e : Expr} {kpos : Pos} {kws : List Keyword} {m : EM} {r : AM} (a : J X W e m) (b : JP X W kws r) : JP X W (⟨nm, e, kpos⟩ :: kws) (aCons m r) :=
  pkW (pk_cons a b) fun σ H Q ⟨ρ, ls, h, LR, HA, P⟩ => tG_bind (R2 := RA X) LR HA P fun d h1 v H1 ρ1 e1 r1 HA1 LR1 P1 => tG_bind (R1 := RA X) (R2 := RA X) LR1 HA1 P1 fun ds h2 vs H2 ρ2 e2 r2 HA2 LR2 P2 => P2 (v :: vs) H2 ρ2 .refl (.cons (r1.ext e2) r2) HA2
/-- f(.., k = ..): the positional values, the keywords', then the call -/
def eCall (c : List D → Hm → Out D) (n l : Nat) (perm : List Nat) (a b : AM) : EM := fun ls h => (a ls h).bind fun us h1 => (b ls h1).bind fun ws h2 => if us.length = n ∧ ws.length = l then c (us ++ pick perm ws) h2 else .stuck
section
variable {x : Str} {p pos : Pos} {e : Expr} {es : List Expr} {kws : List Keyword} {ks : List Str} {n : Nat} {perm : List Nat} {ma mb : AM}
theorem call_end {pins : List (Addr × Obj)} {σ : St} {H1 H2 : Hp} {ρ1 ρ2 : List Addr} {h1 h2 : Hm} {s2 : Shared} {Q : VK} {us ws : List Value} {vs zs : List V} {ds es : List D} (F : FnG X.prog X.w X.K X.mg X.base k f fd ps m) (hmd : CallsBy md) (hr : Room k X.A) (hG : X.A.guards = some []) (tk : Takes X W) (hb : KB X.K fd ps n ks perm) (hlen : n + perm.length = ps.length) (hperm : ∀ i ∈ perm, i < ks.length)
    (I2 : L2.Inv X pins σ H2 s2) (r : Vals vs us) (rz : Vals zs ws) (r1 : Reps X.K X.mg H2 ρ2 ds vs) (r2 : Reps X.K X.mg H2 ρ2 es zs) (HA2 : HAbs X.K X.mg H2 ρ2 h2)
    (P2 : PostG X.K X.mg (RV X) (fun c d H' => W c d σ H') H2 ρ2 Q (if ds.length = n ∧ es.length = ks.length then md m (ds ++ pick perm es) h2 else .stuck)) : wpAny (model X.prog X.w) X.A (call (.ref f) us (ks.zip ws)) (EP X pins σ Q) X.xe s2 := by
  split at P2
  · rename_i hz
    have l1 : us.length = n := by rw [← r.length, ← r1.length]; exact hz.1
    have l2 : ws.length = ks.length := by rw [← rz.length, ← r2.length]; exact hz.2
    have lp : ∀ (pm : List Nat), (∀ i ∈ pm, i < ks.length) → (pick pm zs).length = pm.length := fun pm => by
      induction pm with
      | nil => intro _; rfl
      | cons i pm ih =>
        intro hi
        have hlz : i < zs.length := by rw [rz.length, l2]; exact hi i List.mem_cons_self
        unfold pick
        rw [List.filterMap_cons, List.getElem?_eq_getElem hlz]
        have := ih fun j hj => hi j (List.mem_cons_of_mem _ hj)
        unfold pick at this
        simp [this]
    refine runJ (vs := vs ++ pick perm zs) (bs := us ++ pick perm ws) F hmd hr hG tk I2 (hb s2 us ws I2.kIn l1 l2) (r.append (pick_vals rz perm)) ?_ (r1.append (pick_reps r2 perm)) HA2 P2
    rw [List.length_append, lp perm hperm, r.length, l1]; exact hlen
  · exact P2.elim
theorem j_call (F : FnG X.prog X.w X.K X.mg X.base k f fd ps m) (hmd : CallsBy md) (hr : Room k X.A) (hG : X.A.guards = some []) (tk : Takes X W) (hm : X.mg x = some (.ref f)) (hk : PySem.W.keepIn X.K (.ref f) = true) (hb : KB X.K fd ps n ks perm) (ha : JA X W (e :: es) ma) (hkw : JP X W kws mb)
    (hlen : n + perm.length = ps.length := by rfl) (hperm : ∀ i ∈ perm, i < ks.length := by decide)
    (hg : Gl X x := by rfl) (hall : (backToKw pos (keywordEach kws X.env)).all (·.1.isSome) = true := by rfl) (hks : (backToKw pos (keywordEach kws X.env)).filterMap (·.1) = ks := by rfl)
    (hdb : (x == ("__debug__" : Str)) = false := by decide +kernel) (he : starEach (e :: es) X.env = (false, eval e X.env) :: starEach es X.env := by rfl)
    (hpl : ((backTo pos (starEach (e :: es) X.env)).any (·.1) || (backToKw pos (keywordEach kws X.env)).any (·.1.isNone)) = false := by rfl) : J X W (.Call (.Name x p) (e :: es) kws pos) (eCall (md m) n ks.length perm ma mb) := by
  refine ⟨fun pins s σ H Q I q => ?_⟩
  obtain ⟨ρ, ls, h, LR, HA, P⟩ := q
  refine wpAny_Call_Name_kw (ld_glob I hg hm ?_ hdb)
  refine PySem.W.callWith_KW (h₀ := X.base) I.ok.mod.kin hk hall ?_ hpl he
  refine thn (PA.run ha pos pins s σ H (fun vs H1 => ∃ ds ρ1 h1, Reps X.K X.mg H1 ρ1 ds vs ∧ HAbs X.K X.mg H1 ρ1 h1 ∧ LRep X.K X.mg H1 ρ1 ls σ ∧ PostG X.K X.mg (RV X) (fun c d H' => W c d σ H') H1 ρ1 Q ((mb ls h1).bind fun ws h2 => if ds.length = n ∧ ws.length = ks.length then md m (ds ++ pick perm ws) h2 else .stuck)) I
    (tG_bind (R1 := RA X) LR HA P fun ds h1 vs H1 ρ1 e1 r1 HA1 LR1 P1 => ⟨ds, ρ1, h1, r1, HA1, LR1, P1⟩)) fun us s1 hq => ?_
  obtain ⟨vs, H1, I1, r, ds, ρ1, h1, r1, HA1, LR1, P1⟩ := hq
  refine thn (PK.run hkw pos pins s1 σ H1 (fun zs H2 => ∃ es ρ2 h2, Reps X.K X.mg H2 ρ2 es zs ∧ Reps X.K X.mg H2 ρ2 ds vs ∧ HAbs X.K X.mg H2 ρ2 h2 ∧ PostG X.K X.mg (RV X) (fun c d H' => W c d σ H') H2 ρ2 Q (if ds.length = n ∧ es.length = ks.length then md m (ds ++ pick perm es) h2 else .stuck)) I1
    (tG_bind (R1 := RA X) LR1 HA1 P1 fun es h2 zs H2 ρ2 e2 r2 HA2 LR2 P2 => ⟨es, ρ2, h2, r2, r1.ext e2, HA2, P2⟩)) fun ws s2 hq => ?_
  obtain ⟨zs, H2, I2, rz, es', ρ2, h2, r2, r1', HA2, P2⟩ := hq
  refine ⟨I2.kIn, ?_⟩
  rw [hks]
  exact call_end (H1 := H2) (ρ1 := ρ2) (h1 := h2) F hmd hr hG tk hb hlen hperm I2 r rz r1' r2 HA2 P2
/-- f(k = .., ..) -/
theorem j_callK (F : FnG X.prog X.w X.K X.mg X.base k f fd ps m) (hmd : CallsBy md) (hr : Room k X.A) (hG : X.A.guards = some []) (tk : Takes X W) (hm : X.mg x = some (.ref f)) (hk : PySem.W.keepIn X.K (.ref f) = true) (hb : KB X.K fd ps 0 ks perm) (hkw : JP X W kws mb)
    (hlen : 0 + perm.length = ps.length := by rfl) (hperm : ∀ i ∈ perm, i < ks.length := by decide)
    (hg : Gl X x := by rfl) (hall : (backToKw pos (keywordEach kws X.env)).all (·.1.isSome) = true := by rfl) (hks : (backToKw pos (keywordEach kws X.env)).filterMap (·.1) = ks := by rfl)
    (hdb : (x == ("__debug__" : Str)) = false := by decide +kernel) (hpl : ((backTo pos (starEach [] X.env)).any (·.1) || (backToKw pos (keywordEach kws X.env)).any (·.1.isNone)) = false := by rfl) : J X W (.Call (.Name x p) [] kws pos) (eCall (md m) 0 ks.length perm aNil mb) := by
  refine ⟨fun pins s σ H Q I q => ?_⟩
  obtain ⟨ρ, ls, h, LR, HA, P⟩ := q
  refine wpAny_Call_Name_kw (ld_glob I hg hm ?_ hdb)
  refine PySem.W.callWith_KW0 (h₀ := X.base) I.ok.mod.kin hk hall ?_ hpl
  have P1 : PostG X.K X.mg (RV X) (fun c d H' => W c d σ H') H ρ Q ((mb ls h).bind fun ws h2 => if ([] : List D).length = 0 ∧ ws.length = ks.length then md m ([] ++ pick perm ws) h2 else .stuck) := P
  refine thn (PK.run hkw pos pins s σ H (fun zs H2 => ∃ es ρ2 h2, Reps X.K X.mg H2 ρ2 es zs ∧ HAbs X.K X.mg H2 ρ2 h2 ∧ PostG X.K X.mg (RV X) (fun c d H' => W c d σ H') H2 ρ2 Q (if ([] : List D).length = 0 ∧ es.length = ks.length then md m ([] ++ pick perm es) h2 else .stuck)) I
    (tG_bind (R1 := RA X) LR HA P1 fun es h2 zs H2 ρ2 e2 r2 HA2 LR2 P2 => ⟨es, ρ2, h2, r2, HA2, P2⟩)) fun ws s2 hq => ?_
  obtain ⟨zs, H2, I2, rz, es', ρ2, h2, r2, HA2, P2⟩ := hq
  refine ⟨I2.kIn, ?_⟩
  rw [hks]
  exact call_end (us := []) (vs := []) (ds := []) (H1 := H2) (ρ1 := ρ2) (h1 := h2) F hmd hr hG tk hb hlen hperm I2 .nil rz .nil r2 HA2 P2
end
end
end MP

set_option Elab.async false
set_option linter.all false
set_option maxRecDepth 100000
set_option maxHeartbeats 2000000
set_option autoImplicit false
namespace MP
open PySem PySem.Spec PyProof.Rows L2
/-! ### the law's own call -/
theorem rl_ints {K : PySem.W.Frag} {mg : Str → Option Value} {H : Hp} {ρ : List Addr} : ∀ ns : List Int, Reps K mg H ρ (ns.map D.int) (ns.map V.int)
  | [] => .nil
  | _ :: ns => .cons .int (rl_ints ns)
theorem law_at {P : Program} {w : World} {K : PySem.W.Frag} {mg mb : Str → Option Value} {k : Nat} {fa a : Addr} {fd : FuncData} {x : Str} {m : List D → Hm → Out D} {s₁ : Shared} {vs : List Value} {ns : List Int} {H : Hp}
    (kx : K.In s₁.heap) (gl : s₁.heap.Ns mainGlobals mg) (bl : s₁.heap.Ns builtinsNs mb) (bb : ∀ x : Str, x ≠ "__name__" → mb x = bootBuiltins x) (lim : s₁.heap.NoLimit) (gn : s₁.gens = #[])
    (ha : s₁.heap.get? a = some { cls := .type "list", data := .seq vs.toArray }) (hr : Room k callerA)
    (F : ∀ base : Heap, K.In base → base.Ns mainGlobals mg → FnG P w K mg base k fa fd [x] m) (bind : ∀ (s : Shared) (u : Value), BindsTo s fd ⟨[u], []⟩ [(x, u)])
    (run : ∃ h', m [.rls (ns.map D.int)] [] = .ok (.bl true) h') (ro : RoAt K H a (ns.map V.int)) (ok : HOk P w H s₁.heap) (only : ∀ b u, H b = some u → b = a ∧ K.lookup a = none ∧ ∃ o xs, u = .frz o (.lst xs)) :
    codeAny (model P w) callerA (.call (.ref fa) ⟨[.ref a], []⟩) (fun r s' => r = .ok (.ret (.bool true)) ∧ OldK s₁.heap s'.heap ∧ s'.os = s₁.os ∧ AllBare s'.gens) s₁ := by
  have noDict : ∀ (b : Addr) (o : Obj) (es : Array DictEntry) (ep : Nat), s₁.heap.get? b = some o → o.data = .dict es ep → H b = none := by
    intro b o es ep e d
    cases q : H b with
    | none => rfl
    | some u =>
      obtain ⟨rfl, _⟩ := only b u q
      rw [ha] at e
      cases e
      have d' : Data.seq vs.toArray _ = Data.dict es ep := d
      cases d'
  have ns' : ∀ {b : Addr} {mm : Str → Option Value}, s₁.heap.Ns b mm → (hidT s₁.heap H).Ns b mm := fun ⟨o, es, ep, e, d, r⟩ => ⟨o, es, ep, hidT_get e (noDict _ o es ep e d), d, r⟩
  have kb : K.In (hidT s₁.heap H) := fun b o e => hidT_get (kx b o e) (by
    cases q : H b with
    | none => rfl
    | some u =>
      obtain ⟨rfl, z, _⟩ := only b u q
      rw [z] at e; cases e)
  have md : Mod K mg (hidT s₁.heap H) := ⟨kb, ns' gl, ⟨mb, ns' bl, bb⟩, by obtain ⟨mc, z1, z2⟩ := lim; exact ⟨mc, ns' z1, z2⟩⟩
  have e0 : Env0 P w K mg (hidT s₁.heap H) callerA [] s₁ H := ⟨rfl, md, fun b o e => of_hidT e, Nat.le_of_eq (hidT_size _ _), trivial, (fun b hb => absurd (show b ∈ ([] : List Addr) from hb) (List.not_mem_nil)), ok, .of_eq gn⟩
  obtain ⟨h', eq⟩ := run
  have sp : spM K mg [x].length m [.ref a] H (fun v _ => v = .bl true) (fun _ _ _ => False) := by
    refine ⟨rfl, [], [.rls (ns.map D.int)], [], .cons (.rls ro (rl_ints ns)) .nil, ⟨rfl, .nil, fun i o e => by simp at e⟩, ?_⟩
    rw [eq]
    exact fun v H' ρ' ex rv HA => by cases rv; rfl
  refine codeAny_mono ((F _ kb (ns' gl)).go callerA [] s₁ H ⟨[.ref a], []⟩ [.ref a] [.ref a] _ _ hr rfl e0 (bind s₁ (.ref a)) (.cons rfl .nil) sp) fun r s' hq => ?_
  match r, hq with
  | .error e, hq => exact (let ⟨_, _, _, _, _, _, _, _, _, _, _, _, z⟩ := hq; z : False).elim
  | .ok .next, hq => exact False.elim hq
  | .ok .brk, hq => exact False.elim hq
  | .ok .cont, hq => exact False.elim hq
  | .ok (.ret u), ⟨v, H', os, bare, un, ok', rv, (q : v = .bl true)⟩ =>
    subst q
    obtain rfl : u = Value.bool true := rv
    refine ⟨rfl, OldK.of_keep fun b o e => ?_, os, bare⟩
    cases q : H b with
    | none => exact un.keep b o e q (fun z => absurd (show b ∈ ([] : List Addr) from z) (List.not_mem_nil)) (fun z => absurd (show b ∈ ([] : List Addr) from z) (List.not_mem_nil))
    | some u =>
      obtain ⟨_, _, ob, xs, rfl⟩ := only b u q
      obtain ⟨e1, _⟩ := ok b _ q
      obtain ⟨e2, _⟩ := ok' b _ (un.frzs b ob _ q)
      rw [e] at e1; cases e1
      exact e2
/-- the goal that k_head leaves -/
theorem walkG {l : PySem.W.OpenLaw} {n k : Nat} {q : Program} {loose : List Str} {XP : (Str → Option Value) → Heap → Prop} {YP : World → Heap → Prop} {d : DefRec} {K : Params → PySem.W.Frag} {x : Str}
    (hn : l.most = some n) (hn2 : n ≤ sizeLine) (hdf : d.params.defaults = []) (hr : Room k callerA) (hY : ∀ (w : World) (h : Heap), YP w h → (K w.params).In h)
    (F : ∀ (w : World) (mg : Str → Option Value) (fa : Addr) (h : Heap), (K w.params).In h → h.Ns mainGlobals mg → XP mg h → mg d.name = some (.ref fa) →
      ∃ (fd : FuncData) (m : List D → Hm → Out D), (∀ (s : Shared) (u : Value), BindsTo s fd ⟨[u], []⟩ [(x, u)]) ∧ (∀ ns : List Int, ns.length ≤ n → ∃ h', m [.rls (ns.map D.int)] [] = .ok (.bl true) h') ∧
        ∀ base : Heap, (K w.params).In base → base.Ns mainGlobals mg → FnG l.prog w (K w.params) mg base k fa fd [x] m) :
    PySem.W.WalkO q loose XP YP l.row.toRowW d [] (fun f vs => PySem.call f vs) := by
  refine Att.attach_callB hn hdf fun w s₀ s₁ mg mb fa o pm cd doc a vs ns G Y ho hd hcd hmg hobj hints hlen hbits hg => ?_
  have kx := hY w _ Y
  obtain ⟨fd, m, hb, hm, hF⟩ := F w mg fa _ kx G.T.g G.X hmg
  have rv := vals_ints hints
  have hl : ns.length ≤ sizeLine := Nat.le_trans hlen hn2
  have lv : vs.length = ns.length := by rw [← rv.length, List.length_map]
  cases hk : (K w.params).lookup a with
  | some ob =>
    have e := kx a ob hk
    rw [hobj] at e
    cases e
    exact law_at (H := fun _ => none) kx G.T.g G.T.b G.T.builtins G.T.nolimit hg hobj hr hF hb (hm ns hlen) (.inr fun H' => .inr ⟨_, vs.toArray, _, hk, rfl, rfl, rfl, by rw [List.size_toArray, lv]; exact hl, by simpa using rv⟩) (fun b u z => by cases z) (fun b u z => by cases z)
  | none =>
    refine law_at (H := fun b => if b = a then some (.frz { cls := .type "list", data := .seq vs.toArray } (.lst (ns.map V.int))) else none) kx G.T.g G.T.b G.T.builtins G.T.nolimit hg hobj hr hF hb (hm ns hlen) (.inl ⟨_, if_pos rfl⟩) (fun b u z => ?_) (fun b u z => ?_)
    · by_cases hb : b = a
      · subst hb
        have z' := (if_pos rfl).symm.trans z
        cases z'
        exact ⟨hobj, by rw [List.length_map]; exact hl, vs, _, rv, hobj⟩
      · have z' := (if_neg hb).symm.trans z
        cases z'
    · by_cases hb : b = a
      · have z' := (if_pos hb).symm.trans z
        cases z'
        exact ⟨hb, hk, _, _, rfl⟩
      · have z' := (if_neg hb).symm.trans z
        cases z'
end MP

set_option Elab.async false
set_option linter.all false
set_option maxRecDepth 100000
set_option maxHeartbeats 2000000
set_option autoImplicit false
namespace MP
open PySem PySem.Spec PyProof.Rows L2
/-! ### a text's defs and constants, as they stand -/
def FunE (K : PySem.W.Frag) (mg : Str → Option Value) (x : Str) (st : Stmt) : Prop := ∃ f fd, mg x = some (.ref f) ∧ Fun K x x st f fd
def GlbE (K : PySem.W.Frag) (mg : Str → Option Value) (x : Str) (d : D) : Prop := ∃ v u, mg x = some u ∧ RelV v u ∧ ∀ H ρ, Rep K mg H ρ d v
def DefG (P : Program) (w : World) (K : PySem.W.Frag) (mg : Str → Option Value) (base : Heap) (x : Str) (st : Stmt) (k : Nat) (ps : List Str) (m : List D → Hm → Out D) : Prop :=
  ∃ f fd, mg x = some (.ref f) ∧ Fun K x x st f fd ∧ FnG P w K mg base k f fd ps m
section
variable {P : Program} {w : World} {K : PySem.W.Frag} {mg : Str → Option Value} {base : Heap}
theorem defG {x : Str} {st : Stmt} {N ps : List Str} {k : Nat} {mb : SM} (h : FunE K mg x st) (S : FnScope N ps (defScope st))
    (hb : ∀ {f : Addr} (cdv : Value) (A : Around) (outer : List Env) (s : Shared) (H : Hp) (E : XK), Room k (A.deeper (envOfC x (defScope st) s.heap.objs.size f cdv)) → (A.deeper (envOfC x (defScope st) s.heap.objs.size f cdv)).guards = some [] →
      Takes (cxOf (L2.CX P w) P w K mg base N x (defScope st) f cdv A outer s H E) (fun c d _ H => E c d H) →
      PassesOwn (model P w) (A.deeper (envOfC x (defScope st) s.heap.objs.size f cdv)) (envOfC x (defScope st) s.heap.objs.size f cdv) (cxOf (L2.CX P w) P w K mg base N x (defScope st) f cdv A outer s H E).xe →
      JSs (cxOf (L2.CX P w) P w K mg base N x (defScope st) f cdv A outer s H E) (fun c d _ H => E c d H) (defBody st) mb) : DefG P w K mg base x st (k + 1) ps (runB N.length mb) := by
  obtain ⟨f, fd, hm, F⟩ := h
  exact ⟨f, fd, hm, F, fnG_of F S fun cdv A outer s H E => hb cdv A outer s H E⟩
theorem defG0 {x : Str} {st : Stmt} {ps : List Str} {k : Nat} {m : List D → Hm → Out D} (h : FunE K mg x st) (hm : ∀ ds h, m ds h = .stuck) : DefG P w K mg base x st k ps m := by
  obtain ⟨f, fd, hg, F⟩ := h
  refine ⟨f, fd, hg, F, ⟨fun A outer s H args us vs Q E _ _ _ _ _ sp => ?_⟩⟩
  obtain ⟨_, ρ, ds, h, _, _, p⟩ := sp
  rw [hm] at p
  exact p.elim
end
section
variable {X : Cx} {W : WX}
theorem j_globE {x : Str} {d : D} {pos : Pos} (h : GlbE X.K X.mg x d) (hg : Gl X x := by rfl) (hd : (x == ("__debug__" : Str)) = false := by decide +kernel) : J X W (.Name x pos) (eC d) := by
  obtain ⟨v, u, hm, r, q⟩ := h
  exact j_glob hm r q hg hd
section
variable {j k : Nat} {st : Stmt} {ps : List Str} {m : List D → Hm → Out D} {md : (List D → Hm → Out D) → List D → Hm → Out D} {x : Str} {p pos : Pos} {e : Expr} {es : List Expr} {kws : List Keyword} {ks : List Str} {n : Nat} {perm : List Nat} {ma mb : AM}
theorem j_callD (D : DefG X.prog X.w X.K X.mg X.base x st j ps m) (hmd : CallsBy md) (hj : j ≤ k) (hr : Room k X.A) (hG : X.A.guards = some []) (tk : Takes X W) (kb : ∀ (f : Addr) (fd : FuncData), Fun X.K x x st f fd → KB X.K fd ps n ks perm) (ha : JA X W (e :: es) ma) (hkw : JP X W kws mb)
    (hlen : n + perm.length = ps.length := by rfl) (hperm : ∀ i ∈ perm, i < ks.length := by decide)
    (hg : Gl X x := by rfl) (hall : (backToKw pos (keywordEach kws X.env)).all (·.1.isSome) = true := by rfl) (hks : (backToKw pos (keywordEach kws X.env)).filterMap (·.1) = ks := by rfl)
    (hdb : (x == ("__debug__" : Str)) = false := by decide +kernel) (he : starEach (e :: es) X.env = (false, eval e X.env) :: starEach es X.env := by rfl)
    (hpl : ((backTo pos (starEach (e :: es) X.env)).any (·.1) || (backToKw pos (keywordEach kws X.env)).any (·.1.isNone)) = false := by rfl) : J X W (.Call (.Name x p) (e :: es) kws pos) (eCall (md m) n ks.length perm ma mb) := by
  obtain ⟨f, fd, hm, F, G⟩ := D
  exact j_call G hmd (hr.mono hj) hG tk hm F.kp (kb f fd F) ha hkw hlen hperm hg hall hks hdb he hpl
theorem j_callDK (D : DefG X.prog X.w X.K X.mg X.base x st j ps m) (hmd : CallsBy md) (hj : j ≤ k) (hr : Room k X.A) (hG : X.A.guards = some []) (tk : Takes X W) (kb : ∀ (f : Addr) (fd : FuncData), Fun X.K x x st f fd → KB X.K fd ps 0 ks perm) (hkw : JP X W kws mb)
    (hlen : 0 + perm.length = ps.length := by rfl) (hperm : ∀ i ∈ perm, i < ks.length := by decide)
    (hg : Gl X x := by rfl) (hall : (backToKw pos (keywordEach kws X.env)).all (·.1.isSome) = true := by rfl) (hks : (backToKw pos (keywordEach kws X.env)).filterMap (·.1) = ks := by rfl)
    (hdb : (x == ("__debug__" : Str)) = false := by decide +kernel) (hpl : ((backTo pos (starEach [] X.env)).any (·.1) || (backToKw pos (keywordEach kws X.env)).any (·.1.isNone)) = false := by rfl) : J X W (.Call (.Name x p) [] kws pos) (eCall (md m) 0 ks.length perm aNil mb) := by
  obtain ⟨f, fd, hm, F, G⟩ := D
  exact j_callK G hmd (hr.mono hj) hG tk hm F.kp (kb f fd F) hkw hlen hperm hg hall hks hdb hpl
end
/-! ### x[::-1], is of bools -/
def dRev : D → Hm → Out (List D)
  | .rls ds, h => .ok ds.reverse h
  | .loc n, h => (oko (getL h n) h).bind fun ds h => .ok ds.reverse h
  | _, _ => .stuck
def lRev (m : EM) : AM := fun ls h => (m ls h).bind dRev
theorem jl_rev {e : Expr} {m : EM} {k : Nat} {p1 p2 p3 pos : Pos} (a : J X W e m) : JL X W (.Subscript e (.Slice none none (some (.UnaryOp .USub (.Constant (.int 1) k p1) p2)) p3) pos) (lRev m) :=
  peW (pe_revL a) fun σ H Q ⟨ρ, ls, h, LR, HA, P⟩ => tG_bind0 (R2 := RL X H) LR HA P fun d h1 v H1 ρ1 e1 r1 HA1 LR1 P1 => by
    cases r1 with
    | @rls ds p vs t r =>
      refine ⟨p, vs, rfl, t.sq, fun q hq => ?_⟩
      obtain ⟨n0, nq⟩ := fresh_back e1 HA1 hq
      exact P1 (.ref q) _ ρ1 (e1.trans (.laid hq)) ⟨q, _, rfl, n0, nq, upd_same, r.reverse.ext (.laid hq)⟩ (HA1.laid hq)
    | @loc n p hn =>
      obtain ⟨ds, eds, P2⟩ := oko_bind (show PostG X.K X.mg (RL X H) (fun c d H' => W c d σ H') H ρ Q ((oko (getL h1 n) h1).bind fun ds h => .ok ds.reverse h) from P1)
      obtain ⟨vs, e3, r⟩ := getL_at HA1 eds hn
      refine ⟨p, vs, rfl, .of e3, fun q hq => ?_⟩
      obtain ⟨n0, nq⟩ := fresh_back e1 HA1 hq
      exact P2 (.ref q) _ ρ1 (e1.trans (.laid hq)) ⟨q, _, rfl, n0, nq, upd_same, r.reverse.ext (.laid hq)⟩ (HA1.laid hq)
    | _ => exact P1.elim
def dIsB (f : Bool → Bool) : D → D → Hm → Out D
  | .bl a, .bl b, h => .ok (.bl (f (decide (a = b)))) h
  | _, _, _ => .stuck
theorem op_dIsB {f : Bool → Bool} : OpD X W (dIsB f) (fun x y H Q => ∃ a b : Bool, x = .bl a ∧ y = .bl b ∧ Q (.bl (f (decide (a = b)))) H) := by
  intro x y v u H ρ h σ Q rx ry HA P
  cases rx with
  | bl => cases ry with
    | bl => exact ⟨_, _, rfl, rfl, P _ H ρ .refl .bl HA⟩
    | _ => exact P.elim
  | _ => exact P.elim
theorem j_isB {a b : Expr} {ma mb : EM} {pos : Pos} (ha : J X W a ma) (hb : J X W b mb) : J X W (.Compare a [.Is] [b] pos) (eBin (dIsB fun b => b) ma mb) := j_cmp op_isBl op_dIsB ha hb (nomark _)
theorem j_notB {a b : Expr} {ma mb : EM} {pos : Pos} (ha : J X W a ma) (hb : J X W b mb) : J X W (.Compare a [.IsNot] [b] pos) (eBin (dIsB fun b => !b) ma mb) := j_cmp op_notBl op_dIsB ha hb (nomark _)
theorem jt_isB {a b : Expr} {ma mb : EM} {pos : Pos} (ha : J X W a ma) (hb : J X W b mb) : JT X W (.Compare a [.Is] [b] pos) (bOf (eBin (dIsB fun b => b) ma mb)) := jt_cmp op_isBl op_dIsB ha hb (nomark _)
theorem jt_notB {a b : Expr} {ma mb : EM} {pos : Pos} (ha : J X W a ma) (hb : J X W b mb) : JT X W (.Compare a [.IsNot] [b] pos) (bOf (eBin (dIsB fun b => !b) ma mb)) := jt_cmp op_notBl op_dIsB ha hb (nomark _)
end
end MP

set_option Elab.async false
set_option linter.all false
set_option maxRecDepth 100000
set_option maxHeartbeats 2000000
set_option autoImplicit false
namespace MP
open PySem PySem.Spec PyProof.Rows L2
/-! ### what the top has written -/
theorem funE_mk {K : PySem.W.Frag} {h : Heap} {mg : Str → Option Value} {x : Str} {st : Stmt} {f : Addr} {oc : Value} {od an : Option Addr} {osl : Array (Option Value)} {kV doc pm cdv ct : Value} (X : K.In h) (G : h.Ns mainGlobals mg)
    (a : PySem.W.nsIn K mainGlobals x = some (some (.ref f))) (l : K.lookup f = some ⟨oc, od, .func (PySem.W.fnOf x x (defArgs st) (defBody st) (defScope st) .none kV doc pm an cdv ct), osl⟩)
    (c : PySem.W.codeIn K cdv x = true) (k : PySem.W.keepIn K (.ref f) = true) : FunE K mg x st := ⟨f, _, PySem.W.mg_of X G a, fun_mk l c k⟩
theorem globE_mk {K : PySem.W.Frag} {h : Heap} {mg : Str → Option Value} {x : Str} {d : D} {v : V} {u : Value} (X : K.In h) (G : h.Ns mainGlobals mg) (a : PySem.W.nsIn K mainGlobals x = some (some u)) (r : RelV v u) (q : ∀ H ρ, Rep K mg H ρ d v) : GlbE K mg x d :=
  ⟨v, u, PySem.W.mg_of X G a, r, q⟩
theorem globE_loose {K : PySem.W.Frag} {h : Heap} {mg : Str → Option Value} {p : Program} {lv : List (Str × PySem.W.WData)} {x : Str} {i : Int} (V : PySem.W.XL p lv mg h) (e : lv.lookup x = some (.int i)) : GlbE K mg x (.int i) := by
  obtain ⟨v, h1, h2⟩ := V.2.val _ (PySem.W.mem_lookup e)
  obtain ⟨t, rfl, -⟩ := PySem.W.readsW_int_inv h2
  exact ⟨.int i, _, h1, ⟨_, rfl⟩, fun _ _ => .int⟩
theorem walkF {P : Program} {w : World} {K : PySem.W.Frag} {mg : Str → Option Value} {k : Nat} {fa : Addr} {st : Stmt} {x y : Str} {m : List D → Hm → Out D} {C : (List D → Hm → Out D) → Prop} (T : FunE K mg x st) (hmg : mg x = some (.ref fa)) (hC : C m)
    (hb : ∀ (kV doc pm : Value) (an : Option Addr) (cdv ct : Value) (u : Value), bindArgs (PySem.W.fnOf x x (defArgs st) (defBody st) (defScope st) .none kV doc pm an cdv ct) ⟨[u], []⟩ = pure [(y, u)])
    (Dl : ∀ base : Heap, DefG P w K mg base x st k [y] m) :
    ∃ (fd : FuncData) (m : List D → Hm → Out D), (∀ (s : Shared) (u : Value), BindsTo s fd ⟨[u], []⟩ [(y, u)]) ∧ C m ∧ ∀ base : Heap, K.In base → base.Ns mainGlobals mg → FnG P w K mg base k fa fd [y] m := by
  obtain ⟨f, fd, hm, F⟩ := T
  cases hmg.symm.trans hm
  refine ⟨fd, m, fun s u => ?_, hC, fun base _ _ => ?_⟩
  · obtain ⟨oc, od, kV, doc, pm, an, cdv, ct, osl, rfl, lk, hcd⟩ := F.ex
    exact .of_eq (hb kV doc pm an cdv ct u)
  · obtain ⟨f', fd', hm', F', G⟩ := Dl base
    cases hm.symm.trans hm'
    obtain ⟨oc, od, kV, doc, pm, an, cdv, ct, osl, rfl, lk, hcd⟩ := F.ex
    obtain ⟨oc', od', kV', doc', pm', an', cdv', ct', osl', rfl, lk', hcd'⟩ := F'.ex
    have e := lk.symm.trans lk'
    injection e with e
    injection e with _ _ e _
    injection e with e
    rw [e]
    exact G
theorem globE_int {K : PySem.W.Frag} {h : Heap} {mg : Str → Option Value} {x : Str} {i : Int} {t : Nat} (X : K.In h) (G : h.Ns mainGlobals mg) (a : PySem.W.nsIn K mainGlobals x = some (some (.int i t))) : GlbE K mg x (.int i) :=
  globE_mk X G a (v := .int i) ⟨_, rfl⟩ fun _ _ => .int
theorem globE_str {K : PySem.W.Frag} {h : Heap} {mg : Str → Option Value} {x : Str} {i : Str} {t : Nat} (X : K.In h) (G : h.Ns mainGlobals mg) (a : PySem.W.nsIn K mainGlobals x = some (some (.str i t))) : GlbE K mg x (.str i) :=
  globE_mk X G a (v := .str i) ⟨_, rfl⟩ fun _ _ => .str
theorem globE_bl {K : PySem.W.Frag} {h : Heap} {mg : Str → Option Value} {x : Str} {i : Bool} (X : K.In h) (G : h.Ns mainGlobals mg) (a : PySem.W.nsIn K mainGlobals x = some (some (.bool i))) : GlbE K mg x (.bl i) :=
  globE_mk X G a (v := .bl i) rfl fun _ _ => .bl
theorem DefG.up {P : Program} {w : World} {K : PySem.W.Frag} {mg : Str → Option Value} {base : Heap} {x : Str} {st : Stmt} {j k : Nat} {ps : List Str} {m : List D → Hm → Out D} (h : DefG P w K mg base x st j ps m) (hj : j ≤ k) : DefG P w K mg base x st k ps m := by
  obtain ⟨f, fd, hm, F, G⟩ := h
  exact ⟨f, fd, hm, F, ⟨fun A outer s H args us vs Q E hr => G.go A outer s H args us vs Q E (hr.mono hj)⟩⟩
end MP

set_option Elab.async false
set_option linter.all false
set_option maxRecDepth 100000
set_option maxHeartbeats 2000000
set_option autoImplicit false
namespace MP
open PySem PySem.Spec PyProof.Rows L2
/-! ### str of anything -/
def dStrR : D → Hm → Out D
  | .int i, h => if i.natAbs.log2 < 1920 then .ok (.str (toString i)) h else .stuck
  | .str x, h => .ok (.str x) h
  | .tup ds, h => dRepr (.tup ds) h
  | .rls ds, h => dRepr (.rls ds) h
  | .loc n, h => dRepr (.loc n) h
  | _, _ => .stuck
section
variable {X : Cx} {W : WX}
theorem cr_strD (hG : X.A.guards = some []) (hu : X.A.units + 64 < cLine) : CallR X (.type "str") (fun xs H Q => ∃ a p, xs = [.ref a] ∧ Dp X.K H (.ref a) p ∧ reprOk p = true ∧ Q (.str p.shown) H) := by
  intro pins s σ H xs us Q I r h
  obtain ⟨a, p, rfl, dp, ok, q⟩ := h
  obtain ⟨u, rfl, ru⟩ := vals1 r
  obtain rfl : u = .ref a := ru
  unfold reprOk at ok
  simp only [Bool.and_eq_true, decide_eq_true_eq, Bool.not_eq_true'] at ok
  obtain ⟨⟨⟨o1, o2⟩, o3⟩, o4⟩ := ok
  have hsz : p.shown.length ≤ sizeLine := by
    rcases shown_le p o1 with z | z <;> omega
  obtain ⟨as, rd⟩ := dp.reads I p _ _ rfl
  exact str_of_reads rd o1 (PyData.noDict_hsm o2) hG (by omega) (fun _ _ e => e) (fun h' t tk hk => ⟨.str p.shown, H, I.kept hk, ⟨t, rfl⟩, q⟩) hsz
theorem j_strR {e : Expr} {m : EM} {p pos : Pos} (hG : X.A.guards = some []) (hu : X.A.units + 64 < cLine) (a : J X W e m) (hm : X.mg "str" = none) (hg : Gl X "str" := by rfl) (he : starEach [e] X.env = (false, eval e X.env) :: starEach [] X.env := by rfl) : J X W (.Call (.Name "str" p) [e] [] pos) (eU dStrR m) :=
  j_t1 ((call_str_int.or SkE.call_str_str).or (cr_strD hG hu)) (fun d v H ρ h σ Q r HA P => by
    have rp : ∀ (d : D) (a : Addr), Rep X.K X.mg H ρ d (.ref a) → PostG X.K X.mg (RV X) (fun c d H' => W c d σ H') H ρ Q (dRepr d h) → ∃ b p, [V.ref a] = [V.ref b] ∧ Dp X.K H (.ref b) p ∧ reprOk p = true ∧ Q (.str p.shown) H := by
      intro d a r P
      obtain ⟨p, ep, P2⟩ := oko_bind (show PostG X.K X.mg (RV X) (fun c d H' => W c d σ H') H ρ Q ((oko (pdF h 66 d) h).bind fun p h => if reprOk p = true then .ok (.str p.shown) h else .stuck) from P)
      split at P2
      · rename_i hz
        exact ⟨a, p, rfl, dp_of HA 66 d (.ref a) p r ep, hz, P2 _ H ρ .refl .str HA⟩
      · exact P2.elim
    cases r with
    | @int i =>
      have P4 : PostG X.K X.mg (RV X) (fun c d H' => W c d σ H') H ρ Q (if i.natAbs.log2 < 1920 then .ok (.str (toString i)) h else .stuck) := P
      split at P4
      · rename_i hz
        exact .inl (.inl ⟨_, rfl, hz, P4 _ H ρ .refl .str HA⟩)
      · exact P4.elim
    | str => exact .inl (.inr ⟨_, rfl, P _ H ρ .refl .str HA⟩)
    | tup t r => exact .inr (rp _ _ (.tup t r) P)
    | rls t r => exact .inr (rp _ _ (.rls t r) P)
    | loc hn => exact .inr (rp _ _ (.loc hn) P)
    | _ => exact P.elim) a hm (by decide +kernel) (by decide) (by decide) hg he
end
/-! ### texts: split by one sign -/
def mkS (l : List Nat) : Str := ⟨l.toArray⟩
theorem mkS_signs (l : List Nat) : (mkS l).cps.toList = l := rfl
theorem mkS_of (x : Str) : mkS x.cps.toList = x := rfl
theorem str_ext {x y : Str} (h : x.cps.toList = y.cps.toList) : x = y := Str.ext' (Array.toList_inj.mp h)
def splA (c : Nat) : List Nat → List Nat → List (List Nat)
  | acc, [] => [acc]
  | acc, d :: r => if d = c then acc :: splA c [] r else splA c (acc ++ [d]) r
open Builtin Builtin.Str StrLaws in
theorem occ_one_go (x : Str) (c : Nat) : ∀ (k a free : Nat) (acc : Array Nat), a + k = x.length + 1 → free ≤ a → acc.size ≤ a →
    (forIn (List.range' a k) (acc, free) (occBody x ⟨#[c]⟩ x.length (x.length + 1))).run.fst.toList = acc.toList ++ (List.range' a k).filter fun i => decide (x.cps.toList[i]? = some c)
  | 0, a, free, acc, h1, h2, h3 => by simp
  | k + 1, a, free, acc, h1, h2, h3 => by
    rw [List.range'_succ, List.forIn_cons, List.filter_cons]
    unfold occBody
    by_cases hc : x.cps.toList[a]? = some c
    · have h4 := (subAt_one x c a).mpr hc
      rw [if_pos ⟨⟨⟨by show acc.size < x.length + 1; omega, h2⟩, h4.1⟩, h4.2⟩, if_pos (decide_eq_true hc)]
      have e := occ_one_go x c k (a + 1) (a + 1) (acc.push a) (by omega) (Nat.le_refl _) (by simp; omega)
      show (forIn (List.range' (a + 1) k) (acc.push a, a + 1) (occBody x ⟨#[c]⟩ x.length (x.length + 1))).run.fst.toList = _
      rw [e]
      simp
    · have h4 : ¬ ((((acc, free).fst.size < x.length + 1 ∧ (acc, free).snd ≤ a) ∧ a + (⟨#[c]⟩ : Str).length ≤ x.length) ∧ subAt x ⟨#[c]⟩ a = true) := fun h => hc ((subAt_one x c a).mp ⟨h.1.2, h.2⟩)
      rw [if_neg h4, if_neg (by simpa using hc)]
      exact occ_one_go x c k (a + 1) free acc (by omega) (by omega) (by omega)
open Builtin Builtin.Str StrLaws in
theorem occ_one (x : Str) (c : Nat) : occurrences x ⟨#[c]⟩ 0 x.length (x.length + 1) = (List.range' 0 x.length).filter fun i => decide (x.cps.toList[i]? = some c) := by
  rw [occ_eq]
  have e := occ_one_go x c (x.length + 1) 0 0 #[] (by omega) (Nat.le_refl _) (by simp)
  rw [Nat.sub_zero, e]
  have hn : x.cps.toList.length = x.length := by simp [Str.length]
  rw [List.range'_concat, List.filter_append]
  have : x.cps.toList[x.length]? = none := List.getElem?_eq_none (by omega)
  simp only [List.filter_cons, List.filter_nil, Nat.zero_add, Nat.one_mul, this]
  simp
open Builtin Builtin.Str StrLaws in
theorem parts_one (x : Str) (c : Nat) : ∀ (rest pre acc : List Nat), x.cps.toList = pre ++ acc ++ rest →
    (partsFrom x 1 pre.length ((List.range' (pre.length + acc.length) rest.length).filter fun i => decide (x.cps.toList[i]? = some c))).map (·.cps.toList) = splA c acc rest
  | [], pre, acc, h => by
    have hn : x.cps.toList.length = x.length := by simp [Str.length]
    show [(strSub x pre.length x.length).cps.toList] = [acc]
    rw [strSub_toList, h]
    have : x.length = pre.length + acc.length := by rw [← hn, h]; simp
    rw [this, List.append_nil, List.drop_left, List.take_of_length_le (by omega)]
  | d :: r, pre, acc, h => by
    have hg : x.cps.toList[pre.length + acc.length]? = some d := by
      rw [h, ← List.length_append, List.getElem?_append_right (Nat.le_refl _)]
      simp
    show (partsFrom x 1 pre.length ((List.range' (pre.length + acc.length) (r.length + 1)).filter _)).map _ = _
    rw [List.range'_succ, List.filter_cons]
    by_cases hd : d = c
    · subst hd
      rw [if_pos (decide_eq_true hg)]
      have ih := parts_one x d r (pre ++ acc ++ [d]) [] (by rw [h]; simp)
      have e1 : (pre ++ acc ++ [d]).length = pre.length + acc.length + 1 := by simp; omega
      rw [e1] at ih
      simp only [List.length_nil, Nat.add_zero] at ih
      show (strSub x pre.length (pre.length + acc.length)).cps.toList :: (partsFrom x 1 (pre.length + acc.length + 1) _).map _ = _
      rw [ih, splA, if_pos rfl, strSub_toList, h, List.append_assoc, List.drop_left]
      congr 1
      rw [show pre.length + acc.length - pre.length = acc.length by omega, List.take_left']
      rfl
    · rw [if_neg (by rw [hg]; simpa using hd), splA, if_neg hd]
      have ih := parts_one x c r pre (acc ++ [d]) (by rw [h]; simp)
      simp only [List.length_append, List.length_singleton] at ih
      rw [Nat.add_assoc]
      exact ih
open Builtin Builtin.Str StrLaws in
theorem split_one (x : Str) (c : Nat) (hc : c < 256) : Txt.split x ⟨#[c]⟩ = (splA c [] x.cps.toList).map mkS := by
  have hn : x.cps.toList.length = x.length := by simp [Str.length]
  have key := parts_one x c x.cps.toList [] [] (by simp)
  simp only [List.length_nil, Nat.add_zero, hn] at key
  have kk : Str.strKind (⟨#[c]⟩ : Str) = 1 := by
    unfold Str.strKind
    rw [if_pos (by simpa using hc)]
  unfold Txt.split
  rw [kk]
  have k1 : 1 ≤ Str.strKind x := by
    unfold Str.strKind
    split
    · exact Nat.le_refl _
    · split <;> decide
  have back : ∀ l : List Str, (l.map (·.cps.toList)).map mkS = l := fun l => by
    rw [List.map_map]
    exact (List.map_congr_left (g := fun y => y) fun (y : Str) _ => mkS_of y).trans (List.map_id' l)
  have kf : decide (Str.strKind x < 1) = false := decide_eq_false (by omega)
  rw [kf, Bool.or_false]
  show (if decide (x.length < 1) = true then [x] else _) = _
  by_cases h0 : x.length < 1
  · rw [if_pos (decide_eq_true h0)]
    have : x.cps.toList = [] := List.length_eq_zero_iff.mp (by omega)
    rw [this]
    show [x] = [mkS []]
    rw [← this, mkS_of]
  · rw [if_neg (by simpa using h0), ← key, back, occ_one]
    split
    · rename_i he
      rw [List.isEmpty_iff.mp he]
      show [x] = [strSub x 0 x.length]
      rw [sub_whole]
    · rw [partsBetween_eq]
      rfl
theorem splA_free {c : Nat} : ∀ {r acc : List Nat}, c ∉ r → splA c acc r = [acc ++ r]
  | [], acc, _ => by rw [splA, List.append_nil]
  | d :: r, acc, h => by
    have hd : d ≠ c := fun z => by subst z; exact h (List.mem_cons_self ..)
    rw [splA, if_neg hd, splA_free (fun z => h (List.mem_cons_of_mem _ z)), List.append_assoc]
    rfl
theorem splA_cut {c : Nat} : ∀ {a acc r : List Nat}, c ∉ a → splA c acc (a ++ c :: r) = (acc ++ a) :: splA c [] r
  | [], acc, r, _ => by rw [List.nil_append, splA, if_pos rfl, List.append_nil]
  | d :: a, acc, r, h => by
    have hd : d ≠ c := fun z => by subst z; exact h (List.mem_cons_self ..)
    rw [List.cons_append, splA, if_neg hd, splA_cut (fun z => h (List.mem_cons_of_mem _ z)), List.append_assoc]
    rfl
end MP

set_option Elab.async false
set_option linter.all false
set_option maxRecDepth 100000
set_option maxHeartbeats 2000000
set_option autoImplicit false
namespace MP
open PySem PySem.Spec PyProof.Rows L2
/-! ### what a mirror comes to -/
def Ev {α : Type} (o : Out α) (Q : α → Hm → Prop) : Prop := match o with
  | .ok a h => Q a h
  | _ => False
def Sv (o : SOut) (N : Ls → Hm → Prop) (R : D → Hm → Prop) (C B : Ls → Hm → Prop) : Prop := match o with
  | .ok .nx ls h => N ls h
  | .ok (.rt d) _ h => R d h
  | .ok .ct ls h => C ls h
  | .ok .bk ls h => B ls h
  | _ => False
def srcP (a : List D → Prop) (b : Nat → Prop) : Src → Prop
  | .items ds => a ds
  | .loc n => b n
theorem ev_srcI {a : List D → Prop} {b : Nat → Prop} {ds : List D} : srcP a b (.items ds) = a ds := Eq.trans rfl rfl
theorem ev_srcN {a : List D → Prop} {b : Nat → Prop} {n : Nat} : srcP a b (.loc n) = b n := Eq.trans rfl rfl
def optP {α : Type} (p : α → Prop) : Option α → Prop
  | none => False
  | some a => p a
theorem ev_optS {α : Type} {p : α → Prop} {a : α} : optP p (some a) = p a := Eq.trans rfl rfl
def noB : Ls → Hm → Prop := fun _ _ => False
section
variable {α β : Type} {ls : Ls} {h : Hm} {Q : D → Hm → Prop} {QB : Bool → Hm → Prop} {QL : List D → Hm → Prop}
theorem ev_get {o : Out α} {Q : α → Hm → Prop} (e : Ev o Q) : ∃ a h, o = .ok a h ∧ Q a h := by
  cases o with
  | ok a h => exact ⟨a, h, rfl, e⟩
  | exc _ _ _ => exact e.elim
  | stuck => exact e.elim
theorem ev_mono {o : Out α} {Q Q' : α → Hm → Prop} (e : Ev o Q) (m : ∀ a h, Q a h → Q' a h) : Ev o Q' := by
  cases o with
  | ok a h => exact m a h e
  | exc _ _ _ => exact e.elim
  | stuck => exact e.elim
theorem ev_ok {a : α} {Q : α → Hm → Prop} : Ev (.ok a h) Q = Q a h := rfl
theorem ev_bind {o : Out α} {f : α → Hm → Out β} {Q : β → Hm → Prop} : Ev (o.bind f) Q = Ev o fun a h => Ev (f a h) Q := by cases o <;> rfl
theorem ev_oko {o : Option α} {Q : α → Hm → Prop} : Ev (oko o h) Q = ∃ a, o = some a ∧ Q a h := by
  cases o with
  | none => exact propext ⟨fun z => z.elim, fun ⟨_, z, _⟩ => by cases z⟩
  | some a => exact propext ⟨fun z => ⟨a, rfl, z⟩, fun ⟨_, z, q⟩ => by cases z; exact q⟩
theorem ev_okoS {a : α} {Q : α → Hm → Prop} : Ev (oko (some a) h) Q = Q a h := rfl
theorem ev_ite {c : Prop} [Decidable c] {a : Out α} {Q : α → Hm → Prop} : Ev (if c then a else .stuck) Q = (c ∧ Ev a Q) := by
  by_cases z : c
  · rw [if_pos z]; exact propext ⟨fun q => ⟨z, q⟩, fun q => q.2⟩
  · rw [if_neg z]; exact propext ⟨fun q => q.elim, fun q => z q.1⟩
theorem ev_if {c : Prop} [Decidable c] {a b : Out α} {Q : α → Hm → Prop} : Ev (if c then a else b) Q = if c then Ev a Q else Ev b Q := by split <;> rfl
theorem ev_nox {o : Out α} {Q : α → Hm → Prop} : Ev o.nox Q = Ev o Q := by cases o <;> rfl
theorem ev_eC {d : D} : Ev (eC d ls h) Q = Q d h := rfl
theorem ev_v0 {d : D} : Ev (eVar 0 (some d :: ls) h) Q = Q d h := rfl
theorem ev_vS {n : Nat} {x : Option D} : Ev (eVar (n + 1) (x :: ls) h) Q = Ev (eVar n ls h) Q := rfl
theorem ev_bin {g : D → D → Hm → Out D} {a b : EM} : Ev (eBin g a b ls h) Q = Ev (a ls h) fun x h1 => Ev (b ls h1) fun y h2 => Ev (g x y h2) Q := by
  unfold eBin; simp only [ev_bind]
theorem ev_aNil : Ev (aNil ls h) QL = QL [] h := rfl
theorem ev_aCons {m : EM} {r : AM} : Ev (aCons m r ls h) QL = Ev (m ls h) fun d h1 => Ev (r ls h1) fun ds h2 => QL (d :: ds) h2 := by
  unfold aCons; simp only [ev_bind, ev_ok]
theorem ev_tup {m : AM} : Ev (eTup m ls h) Q = Ev (m ls h) fun ds h1 => ds.length ≤ sizeLine ∧ Q (.tup ds) h1 := by
  unfold eTup; simp only [ev_bind, ev_ite, ev_ok]
theorem ev_disp {m : AM} : Ev (lDisp m ls h) QL = Ev (m ls h) fun ds h1 => ds.length ≤ sizeLine ∧ QL ds h1 := by
  unfold lDisp; simp only [ev_bind, ev_ite, ev_ok]
theorem ev_new {m : AM} : Ev (eNew m ls h) Q = Ev (m ls h) fun ds h1 => Q (.loc h1.length) (h1 ++ [.lst ds]) := by
  unfold eNew; simp only [ev_bind, ev_ok]
theorem ev_seq {m : EM} {QS : Bool × List D → Hm → Prop} : Ev (eSeq m ls h) QS = Ev (m ls h) fun d h1 => Ev (seqOf d h1) QS := by
  unfold eSeq; simp only [ev_bind]
theorem ev_seqT {ds : List D} {QS : Bool × List D → Hm → Prop} : Ev (seqOf (.tup ds) h) QS = QS (false, ds) h := rfl
theorem ev_seqR {ds : List D} {QS : Bool × List D → Hm → Prop} : Ev (seqOf (.rls ds) h) QS = QS (true, ds) h := rfl
theorem ev_seqL {m : AM} {QS : Bool × List D → Hm → Prop} : Ev (eSeqL m ls h) QS = Ev (m ls h) fun ds h1 => QS (true, ds) h1 := by
  unfold eSeqL; simp only [ev_bind, ev_ok]
theorem ev_bOf {m : EM} : Ev (bOf m ls h) QB = Ev (m ls h) fun d h1 => Ev (toB d h1) QB := by unfold bOf; simp only [ev_bind]
theorem ev_toB {b : Bool} : Ev (toB (.bl b) h) QB = QB b h := rfl
theorem ev_bTru {m : EM} : Ev (bTru m ls h) QB = Ev (m ls h) fun d h1 => Ev (dTru d h1) QB := by unfold bTru; simp only [ev_bind]
theorem ev_bYes : Ev (bYes ls h) QB = QB true h := rfl
theorem ev_bAnd {a b : BM} : Ev (bAnd a b ls h) QB = Ev (a ls h) fun c h1 => if c = true then Ev (b ls h1) QB else QB false h1 := by
  unfold bAnd; simp only [ev_bind, ev_if, ev_ok]
theorem ev_bOr {a b : BM} : Ev (bOr a b ls h) QB = Ev (a ls h) fun c h1 => if c = true then QB true h1 else Ev (b ls h1) QB := by
  unfold bOr; simp only [ev_bind, ev_if, ev_ok]
theorem ev_bNot {a : BM} : Ev (bNot a ls h) QB = Ev (a ls h) fun c h1 => QB (!c) h1 := by
  unfold bNot; simp only [ev_bind, ev_ok]
theorem ev_eAnd {a b : EM} : Ev (eAnd a b ls h) Q = Ev (a ls h) fun d h1 => Ev (dTru d h1) fun k h2 => if k = true then Ev (b ls h2) Q else Q d h2 := by
  unfold eAnd; simp only [ev_bind, ev_if, ev_ok]
theorem ev_eOr {a b : EM} : Ev (eOr a b ls h) Q = Ev (a ls h) fun d h1 => Ev (dTru d h1) fun k h2 => if k = true then Q d h2 else Ev (b ls h2) Q := by
  unfold eOr; simp only [ev_bind, ev_if, ev_ok]
theorem ev_eNot {a : EM} : Ev (eNot a ls h) Q = Ev (a ls h) fun d h1 => Ev (dTru d h1) fun k h2 => Q (.bl (!k)) h2 := by
  unfold eNot; simp only [ev_bind, ev_ok]
theorem ev_eIf {c : BM} {a b : EM} : Ev (eIf c a b ls h) Q = Ev (c ls h) fun k h1 => if k = true then Ev (a ls h1) Q else Ev (b ls h1) Q := by
  unfold eIf; simp only [ev_bind, ev_if]
theorem ev_chain {g g' : D → D → Hm → Out D} {a b c : EM} : Ev (eChain g g' a b c ls h) Q = Ev (a ls h) fun x h1 => Ev (b ls h1) fun y h2 => Ev (g x y h2) fun z h3 => Ev (toB z h3) fun k h4 => if k = true then Ev (c ls h4) fun w h5 => Ev (g' y w h5) Q else Q (.bl false) h4 := by
  unfold eChain; simp only [ev_bind, ev_if, ev_ok]
theorem ev_u {f : D → Hm → Out D} {m : EM} : Ev (eU f m ls h) Q = Ev (m ls h) fun d h1 => Ev (f d h1) Q := by unfold eU; simp only [ev_bind]
theorem ev_uq {f : Bool × List D → Hm → Out D} {m : Ls → Hm → Out (Bool × List D)} : Ev (eUQ f m ls h) Q = Ev (m ls h) fun d h1 => Ev (f d h1) Q := by unfold eUQ; simp only [ev_bind]
theorem ev_lOf {m : Ls → Hm → Out (Bool × List D)} : Ev (lOf m ls h) QL = Ev (m ls h) fun q h1 => QL q.2 h1 := by unfold lOf; simp only [ev_bind, ev_ok]
theorem ev_cat {m n : AM} : Ev (lCat m n ls h) QL = Ev (m ls h) fun xs h1 => Ev (n ls h1) fun ys h2 => xs.length + ys.length ≤ sizeLine ∧ QL (xs ++ ys) h2 := by
  unfold lCat; simp only [ev_bind, ev_ite, ev_ok]
theorem ev_call {c : List D → Hm → Out D} {n l : Nat} {perm : List Nat} {a b : AM} : Ev (eCall c n l perm a b ls h) Q = Ev (a ls h) fun us h1 => Ev (b ls h1) fun ws h2 => (us.length = n ∧ ws.length = l) ∧ Ev (c (us ++ pick perm ws) h2) Q := by
  unfold eCall; simp only [ev_bind, ev_ite]
theorem ev_put {ls' : Ls} {x : D} {n : Nat} {k : Int} {N : Ls → Hm → Prop} {R : D → Hm → Prop} {C B : Ls → Hm → Prop} {xs : List D} {j : Nat} (e : getL h n = some xs) (ej : ixN xs.length k = some j) : Sv (dPut ls x (.loc n) (.int k) h) N R C B = N ls (h.set n (.lst (xs.set j x))) := by
  unfold dPut; dsimp only; rw [e]; dsimp only; rw [ej]; rfl
/-! operators -/
theorem ev_addI {i j : Int} : Ev (dAdd (.int i) (.int j) h) Q = Q (.int (i + j)) h := rfl
theorem ev_addS {x y : Str} : Ev (dAdd (.str x) (.str y) h) Q = (x.length + y.length ≤ sizeLine ∧ Q (.str (x ++ y)) h) := by unfold dAdd; simp only [ev_ite, ev_ok]
theorem ev_addT {x y : List D} : Ev (dAdd (.tup x) (.tup y) h) Q = (x.length + y.length ≤ sizeLine ∧ Q (.tup (x ++ y)) h) := by unfold dAdd; simp only [ev_ite, ev_ok]
theorem ev_sub {i j : Int} : Ev (dSub (.int i) (.int j) h) Q = Q (.int (i - j)) h := rfl
theorem ev_mul {i j : Int} : Ev (dMul (.int i) (.int j) h) Q = (mulOk i j = true ∧ Q (.int (i * j)) h) := by unfold dMul; simp only [ev_ite, ev_ok]
theorem ev_fdiv {i j : Int} : Ev (dFdiv (.int i) (.int j) h) Q = ((0 < j ∧ j.natAbs.log2 < 9000) ∧ Q (.int (i / j)) h) := by unfold dFdiv; simp only [ev_ite, ev_ok]
theorem ev_mod {i j : Int} : Ev (dMod (.int i) (.int j) h) Q = (0 < j ∧ Q (.int (i % j)) h) := by unfold dMod; simp only [ev_ite, ev_ok]
theorem ev_pow {i j : Int} : Ev (dPow (.int i) (.int j) h) Q = ((0 ≤ j ∧ (Builtin.Int.intBits i : Int) * j ≤ 2 ^ 27) ∧ Q (.int (i ^ j.toNat)) h) := by unfold dPow; simp only [ev_ite, ev_ok]
def dNeg : D → Hm → Out D
  | .int i, h => .ok (.int (-i)) h
  | _, _ => .stuck
theorem ev_neg {m : EM} : Ev (eNeg m ls h) Q = Ev (m ls h) fun d h1 => Ev (dNeg d h1) Q := by
  unfold eNeg; rw [ev_bind]; congr 1
  funext d h1
  cases d <;> rfl
theorem ev_negI {i : Int} : Ev (dNeg (.int i) h) Q = Q (.int (-i)) h := rfl
theorem ev_cmp {p : Int → Int → Bool} {i j : Int} : Ev (dCmp p (.int i) (.int j) h) Q = Q (.bl (p i j)) h := rfl
theorem ev_eqI {f : Bool → Bool} {i j : Int} : Ev (dEqG f (.int i) (.int j) h) Q = Q (.bl (f (decide (i = j)))) h := rfl
theorem ev_eqS {f : Bool → Bool} {i j : Str} : Ev (dEqG f (.str i) (.str j) h) Q = Q (.bl (f (decide (i = j)))) h := rfl
theorem ev_eqB {f : Bool → Bool} {i j : Bool} : Ev (dEqG f (.bl i) (.bl j) h) Q = Q (.bl (f (decide (i = j)))) h := by
  cases i <;> cases j <;> rfl
theorem ev_inS {f : Bool → Bool} {x z : Str} : Ev (dInG f (.str x) (.str z) h) Q = (x.cps.size = 1 ∧ Q (.bl (f (decide (x.cps.toList.headD 0 ∈ z.cps.toList)))) h) := by unfold dInG; simp only [ev_ite, ev_ok]
theorem ev_isN {f : Bool → Bool} : Ev (dIsN f .non .non h) Q = Q (.bl (f true)) h := rfl
theorem ev_isI {f : Bool → Bool} {i : Int} : Ev (dIsN f (.int i) .non h) Q = Q (.bl (f false)) h := rfl
theorem ev_isB {f : Bool → Bool} {i : Bool} : Ev (dIsN f (.bl i) .non h) Q = Q (.bl (f false)) h := rfl
theorem ev_isS {f : Bool → Bool} {i : Str} : Ev (dIsN f (.str i) .non h) Q = Q (.bl (f false)) h := rfl
theorem ev_isT {f : Bool → Bool} {i : List D} : Ev (dIsN f (.tup i) .non h) Q = Q (.bl (f false)) h := rfl
theorem ev_isL {f : Bool → Bool} {i : Nat} : Ev (dIsN f (.loc i) .non h) Q = Q (.bl (f false)) h := rfl
theorem ev_truB {b : Bool} : Ev (dTru (.bl b) h) QB = QB b h := rfl
theorem ev_truN : Ev (dTru .non h) QB = QB false h := rfl
theorem ev_truI {i : Int} : Ev (dTru (.int i) h) QB = QB (i != 0) h := rfl
theorem ev_truT {ds : List D} : Ev (dTru (.tup ds) h) QB = QB (!ds.isEmpty) h := rfl
theorem ev_ixS {z : Str} {i : Int} : Ev (dIx (.str z) (.int i) h) Q = (z.length ≤ sizeLine ∧ ∃ c, atI z.cps.toList i = some c ∧ Q (.str ⟨#[c]⟩) h) := by
  unfold dIx; simp only [ev_ite, ev_bind, ev_oko, ev_ok]
theorem ev_ixT {ds : List D} {i : Int} : Ev (dIx (.tup ds) (.int i) h) Q = ∃ d, atI ds i = some d ∧ Q d h := by unfold dIx; simp only [ev_oko]
theorem ev_ixR {ds : List D} {i : Int} : Ev (dIx (.rls ds) (.int i) h) Q = ∃ d, atI ds i = some d ∧ Q d h := by unfold dIx; simp only [ev_oko]
theorem ev_ixL {n : Nat} {i : Int} : Ev (dIx (.loc n) (.int i) h) Q = ∃ ds, getL h n = some ds ∧ ∃ d, atI ds i = some d ∧ Q d h := by unfold dIx; simp only [ev_bind, ev_oko]
theorem ev_lenS {z : Str} : Ev (dLen (.str z) h) Q = (z.length ≤ sizeLine ∧ Q (.int z.length) h) := by unfold dLen; simp only [ev_ite, ev_ok]
theorem ev_lenT {ds : List D} : Ev (dLen (.tup ds) h) Q = Q (.int ds.length) h := rfl
theorem ev_lenR {ds : List D} : Ev (dLen (.rls ds) h) Q = Q (.int ds.length) h := rfl
theorem ev_lenL {n : Nat} : Ev (dLen (.loc n) h) Q = ∃ ds, getL h n = some ds ∧ Q (.int ds.length) h := by unfold dLen; simp only [ev_bind, ev_oko, ev_ok]
theorem ev_abs {i : Int} : Ev (dAbs (.int i) h) Q = Q (.int (if i < 0 then -i else i)) h := rfl
theorem ev_intI {i : Int} : Ev (dIntS (.int i) h) Q = Q (.int i) h := rfl
theorem ev_intB {b : Bool} : Ev (dIntS (.bl b) h) Q = Q (.int (if b then 1 else 0)) h := rfl
theorem ev_intS {x : Str} : Ev (dIntS (.str x) h) Q = (x.length ≤ 640 ∧ ∃ n, PySem.intText? x = some n ∧ Q (.int n) h) := by unfold dIntS; simp only [ev_ite, ev_bind, ev_oko, ev_ok]
theorem ev_strI {i : Int} : Ev (dStrR (.int i) h) Q = (i.natAbs.log2 < 1920 ∧ Q (.str (toString i)) h) := by unfold dStrR; simp only [ev_ite, ev_ok]
theorem ev_max {i j : Int} : Ev (dMax (.int i) (.int j) h) Q = Q (.int (if j > i then j else i)) h := rfl
theorem ev_min {i j : Int} : Ev (dMin (.int i) (.int j) h) Q = Q (.int (if j < i then j else i)) h := rfl
theorem ev_gcd {i j : Int} : Ev (dGcd (.int i) (.int j) h) Q = Q (.int ((Nat.gcd i.natAbs j.natAbs : Nat) : Int)) h := rfl
theorem ev_isi {d : D} {T : String} : Ev (dIsi d (.ty T) h) Q = ∃ t, dTy d = some t ∧ ∃ b, kitB t T = some b ∧ Q (.bl b) h := by
  unfold dIsi; simp only [ev_bind, ev_oko, ev_ok]
theorem ev_all {ds : List D} : Ev (qAll (true, ds) h) Q = ∃ bs, ds.mapM asBl = some bs ∧ Q (.bl (bs.all fun b => b)) h := by
  unfold qAll; rw [if_pos rfl]; simp only [ev_bind, ev_oko, ev_ok]; rfl
theorem ev_any {ds : List D} : Ev (qAny (true, ds) h) Q = ∃ bs, ds.mapM asBl = some bs ∧ Q (.bl (bs.any fun b => b)) h := by
  unfold qAny; rw [if_pos rfl]; simp only [ev_bind, ev_oko, ev_ok]; rfl
theorem ev_sum {ds : List D} : Ev (qSum (true, ds) h) Q = ∃ bs, ds.mapM asIn = some bs ∧ Q (.int bs.sum) h := by
  unfold qSum; rw [if_pos rfl]; simp only [ev_bind, ev_oko, ev_ok]
theorem ev_rg1 {m : EM} : Ev (lRg1 m ls h) QL = Ev (m ls h) fun d h1 => Ev (dRg1 d h1) QL := by unfold lRg1; simp only [ev_bind]
theorem ev_rg1I {j : Int} : Ev (dRg1 (.int j) h) QL = (rgOk 0 j ∧ QL (rng 0 (j - 0).toNat) h) := by unfold dRg1; simp only [ev_ite, ev_ok]
theorem ev_lSl {m : EM} {lo hi : OM} : Ev (lSl m lo hi ls h) QL = Ev (m ls h) fun d h1 => Ev (lo ls h1) fun l h2 => Ev (hi ls h2) fun u h3 => Ev (dSlL d l u h3) QL := by unfold lSl; simp only [ev_bind]
theorem ev_slR {ds : List D} {l u : Option Int} : Ev (dSlL (.rls ds) l u h) QL = QL (cutD ds l u) h := rfl
theorem ev_oNo {QO : Option Int → Hm → Prop} : Ev (oNo ls h) QO = QO none h := rfl
theorem ev_oIs {m : EM} {QO : Option Int → Hm → Prop} : Ev (oIs m ls h) QO = Ev (m ls h) fun d h1 => Ev (toI d h1) QO := by unfold oIs; simp only [ev_bind]
theorem ev_toI {i : Int} {QO : Option Int → Hm → Prop} : Ev (toI (.int i) h) QO = QO (some i) h := rfl
theorem ev_eSl {f : D → Option Int → Option Int → Hm → Out D} {m : EM} {lo hi : OM} : Ev (eSl f m lo hi ls h) Q = Ev (m ls h) fun d h1 => Ev (lo ls h1) fun l h2 => Ev (hi ls h2) fun u h3 => Ev (f d l u h3) Q := by unfold eSl; simp only [ev_bind]
theorem ev_slS {z : Str} {l u : Option Int} : Ev (dSl (.str z) l u h) Q = (z.length ≤ sizeLine ∧ Q (.str (cutS z l u)) h) := by unfold dSl; simp only [ev_ite, ev_ok]
theorem ev_split {m n : EM} : Ev (lSplit m n ls h) QL = Ev (m ls h) fun x h1 => Ev (onStr x h1) fun x h1 => Ev (n ls h1) fun y h2 => Ev (onStr y h2) fun y h2 => ((y.length == 0) = false ∧ x.length + 2 ≤ sizeLine) ∧ QL ((Txt.split x y).map .str) h2 := by
  unfold lSplit; simp only [ev_bind, ev_ite, ev_ok]
theorem ev_onStr {x : Str} {QX : Str → Hm → Prop} : Ev (onStr (.str x) h) QX = QX x h := rfl
theorem ev_join {m : EM} {n : Ls → Hm → Out (Bool × List D)} : Ev (eJoin m n ls h) Q = Ev (m ls h) fun x h1 => Ev (onStr x h1) fun x h1 => Ev (n ls h1) fun q h2 => ∃ ys, q.2.mapM asSt = some ys ∧ (ys.map (·.length)).sum + ys.length * x.length ≤ 16777216 ∧ Q (.str (Txt.join x ys)) h2 := by
  unfold eJoin; simp only [ev_bind, ev_ite, ev_ok, ev_oko]
theorem ev_mulS {x : Str} {i : Int} : Ev (dMulS (.str x) (.int i) h) Q = ((x.length ≤ 16 ∧ -(2 ^ 63 : Int) ≤ i ∧ i ≤ 1048576) ∧ Q (.str (Txt.mul x i)) h) := by unfold dMulS; simp only [ev_ite, ev_ok]
theorem ev_ext {m : EM} {n : AM} : Ev (eExt m n ls h) Q = Ev (m ls h) fun o h1 => Ev (onLoc o h1) fun k h1 => Ev (n ls h1) fun ys h2 => ∃ xs, getL h2 k = some xs ∧ xs.length + ys.length ≤ sizeLine ∧ Q .non (h2.set k (.lst (xs ++ ys))) := by
  unfold eExt; simp only [ev_bind, ev_ite, ev_ok, ev_oko]
theorem ev_onLoc {n : Nat} {QX : Nat → Hm → Prop} : Ev (onLoc (.loc n) h) QX = QX n h := rfl
theorem ev_mt {g : Nat → D → Hm → Out D} {m n : EM} : Ev (eMt g m n ls h) Q = Ev (m ls h) fun o h1 => Ev (onLoc o h1) fun k h1 => Ev (n ls h1) fun y h2 => Ev (g k y h2) Q := by
  unfold eMt; simp only [ev_bind]
theorem ev_app {n : Nat} {y : D} : Ev (dApp n y h) Q = ∃ xs, getL h n = some xs ∧ xs.length < sizeLine ∧ Q .non (h.set n (.lst (xs ++ [y]))) := by
  unfold dApp; simp only [ev_bind, ev_ite, ev_ok, ev_oko]
theorem ev_lRev {m : EM} : Ev (lRev m ls h) QL = Ev (m ls h) fun d h1 => Ev (dRev d h1) QL := by unfold lRev; simp only [ev_bind]
theorem ev_revL {n : Nat} : Ev (dRev (.loc n) h) QL = ∃ ds, getL h n = some ds ∧ QL ds.reverse h := by unfold dRev; simp only [ev_bind, ev_oko, ev_ok]
end
section
variable {ls : Ls} {h : Hm} {N C B : Ls → Hm → Prop} {R : D → Hm → Prop}
theorem sv_mono {o : SOut} {N' C' B' : Ls → Hm → Prop} {R' : D → Hm → Prop} (e : Sv o N R C B) (n : ∀ ls h, N ls h → N' ls h) (r : ∀ d h, R d h → R' d h) (c : ∀ ls h, C ls h → C' ls h) (b : ∀ ls h, B ls h → B' ls h) : Sv o N' R' C' B' := by
  cases o with
  | ok f ls h =>
    cases f with
    | nx => exact n _ _ e
    | rt d => exact r _ _ e
    | bk => exact b _ _ e
    | ct => exact c _ _ e
  | exc _ _ _ _ => exact e.elim
  | stuck => exact e.elim
theorem sv_sb {α : Type} {o : Out α} {f : α → Hm → SOut} : Sv (o.sb ls f) N R C B = Ev o fun a h => Sv (f a h) N R C B := by cases o <;> rfl
theorem sv_if0 {c : Prop} [Decidable c] {a b : SOut} : Sv (if c then a else b) N R C B = if c then Sv a N R C B else Sv b N R C B := by split <;> rfl
theorem sv_nx : Sv (sNx ls h) N R C B = N ls h := rfl
theorem sv_seq {a b : SM} : Sv (sSeq a b ls h) N R C B = Sv (a ls h) (fun ls1 h1 => Sv (b ls1 h1) N R C B) R C B := by
  unfold sSeq
  cases a ls h with
  | ok f ls1 h1 => cases f <;> rfl
  | exc _ _ _ _ => rfl
  | stuck => rfl
theorem sv_ret {m : EM} : Sv (sRet m ls h) N R C B = Ev (m ls h) R := by unfold sRet; rw [sv_sb]; rfl
theorem sv_retN : Sv (sRetN ls h) N R C B = R .non h := rfl
theorem sv_ex {m : EM} : Sv (sEx m ls h) N R C B = Ev (m ls h) fun _ h1 => N ls h1 := by unfold sEx; rw [sv_sb]; rfl
theorem sv_if {c : BM} {a b : SM} : Sv (sIf c a b ls h) N R C B = Ev (c ls h) fun k h1 => if k = true then Sv (a ls h1) N R C B else Sv (b ls h1) N R C B := by
  unfold sIf; rw [sv_sb]; simp only [sv_if0]
theorem sv_set {i : Nat} {m : EM} : Sv (sSet i m ls h) N R C B = Ev (m ls h) fun d h1 => N (ls.set i (some d)) h1 := by unfold sSet; rw [sv_sb]; rfl
theorem sv_par {i j : Nat} {m n : EM} : Sv (sPar i j m n ls h) N R C B = Ev (m ls h) fun d h1 => Ev (n ls h1) fun e h2 => N ((ls.set i (some d)).set j (some e)) h2 := by
  unfold sPar; simp only [sv_sb]; rfl
theorem sv_put {mo mi me : EM} : Sv (sPut mo mi me ls h) N R C B = Ev (me ls h) fun x h1 => Ev (mo ls h1) fun o h2 => Ev (mi ls h2) fun i h3 => Sv (dPut ls x o i h3) N R C B := by
  unfold sPut; simp only [sv_sb]
theorem ev_run {n : Nat} {mb : SM} {ds : List D} : Ev (runB n mb ds h) R = Sv (mb (startL n ds) h) (fun _ h => R .non h) R noB noB := by
  unfold runB
  cases mb (startL n ds) h with
  | ok f ls h1 => cases f <;> rfl
  | exc _ _ _ _ => rfl
  | stuck => rfl
theorem sv_loopK {nx : SM} {o : SOut} : Sv (loopK nx o) N R C B = Sv o (fun ls h => Sv (nx ls h) N R C B) R (fun ls h => Sv (nx ls h) N R C B) N := by
  cases o with
  | ok f ls h => cases f <;> rfl
  | exc _ _ _ _ => rfl
  | stuck => rfl
/-- a loop over given items, by its word -/
theorem sv_items {i : Nat} {b : SM} (I : Nat → Ls → Hm → Prop) : ∀ (ds : List D) (k : Nat) (ls : Ls) (h : Hm), (∀ j d ls h, ds[j]? = some d → I (k + j) ls h → Sv (b (ls.set i (some d)) h) (I (k + j + 1)) R (I (k + j + 1)) N) → I k ls h →
    (∀ ls h, I (k + ds.length) ls h → N ls h) → Sv (sItems (gN i) b ds ls h) N R C B
  | [], k, ls, h, _, h0, hE => hE ls h h0
  | d :: r, k, ls, h, hS, h0, hE => by
    show Sv (loopK (sItems (gN i) b r) (b (ls.set i (some d)) h)) N R C B
    rw [sv_loopK]
    have go : ∀ ls h, I (k + 1) ls h → Sv (sItems (gN i) b r ls h) N R C B := fun ls h h1 => by
      refine sv_items I r (k + 1) ls h (fun j d ls h e h2 => ?_) h1 (fun ls h h2 => hE ls h ?_)
      · have := hS (j + 1) d ls h e (by rw [show k + (j + 1) = k + 1 + j by omega]; exact h2)
        rw [show k + (j + 1) + 1 = k + 1 + j + 1 by omega] at this
        exact this
      · rw [List.length_cons, show k + (r.length + 1) = k + 1 + r.length by omega]; exact h2
    exact sv_mono (hS 0 d ls h rfl h0) go (fun _ _ z => z) go (fun _ _ z => z)
theorem sv_loc {n i : Nat} {b : SM} {ds : List D} (I : Nat → Ls → Hm → Prop) (keep : ∀ k ls h, I k ls h → getL h n = some ds) : ∀ (m k : Nat) (ls : Ls) (h : Hm), k + m = ds.length → (∀ j d ls h, ds[j]? = some d → I j ls h → Sv (b (ls.set i (some d)) h) (I (j + 1)) R (I (j + 1)) N) → I k ls h →
    (∀ ls h, I ds.length ls h → N ls h) → Sv (sLoc n (gN i) b m k ls h) N R C B
  | 0, k, ls, h, hk, hS, h0, hE => by
    unfold sLoc
    rw [keep k ls h h0]
    dsimp only
    rw [if_pos (by omega)]
    exact hE ls h (by rw [show ds.length = k by omega]; exact h0)
  | m + 1, k, ls, h, hk, hS, h0, hE => by
    unfold sLoc
    rw [keep k ls h h0]
    dsimp only
    rw [if_pos (by omega)]
    have hlt : k < ds.length := by omega
    rw [List.getElem?_eq_getElem hlt]
    show Sv (loopK (sLoc n (gN i) b m (k + 1)) (b (ls.set i (some ds[k])) h)) N R C B
    rw [sv_loopK]
    have go : ∀ ls h, I (k + 1) ls h → Sv (sLoc n (gN i) b m (k + 1) ls h) N R C B := fun ls h h1 => sv_loc I keep m (k + 1) ls h (by omega) hS h1 hE
    exact sv_mono (hS k _ ls h (List.getElem?_eq_getElem hlt) h0) go (fun _ _ z => z) go (fun _ _ z => z)
theorem sv_for {g : D → Ls → Option Ls} {m : Ls → Hm → Out Src} {b : SM} : Sv (sFor g m b ls h) N R C B = Ev (m ls h) fun s h1 => srcP (fun ds => Sv (sItems g b ds ls h1) N R C B) (fun n => optP (fun ds => Sv (sLoc n g b ds.length 0 ls h1) N R C B) (getL h1 n)) s := by
  unfold sFor
  rw [sv_sb]
  congr 1
  funext s h1
  cases s with
  | items ds => rfl
  | loc n => unfold srcP; dsimp only; cases getL h1 n <;> rfl
theorem ev_iNew {m : AM} {QS : Src → Hm → Prop} : Ev (iNew m ls h) QS = Ev (m ls h) fun ds h1 => QS (.items ds) h1 := by unfold iNew; simp only [ev_bind, ev_ok]
theorem ev_iVal {m : EM} {QS : Src → Hm → Prop} : Ev (iVal m ls h) QS = Ev (m ls h) fun d h1 => Ev (srcOf d h1) QS := by unfold iVal; simp only [ev_bind]
theorem ev_srcT {ds : List D} {QS : Src → Hm → Prop} : Ev (srcOf (.tup ds) h) QS = QS (.items ds) h := rfl
theorem ev_srcR {ds : List D} {QS : Src → Hm → Prop} : Ev (srcOf (.rls ds) h) QS = QS (.items ds) h := rfl
theorem ev_srcS {x : Str} {QS : Src → Hm → Prop} : Ev (srcOf (.str x) h) QS = QS (.items (signs x)) h := rfl
theorem ev_srcL {n : Nat} {QS : Src → Hm → Prop} : Ev (srcOf (.loc n) h) QS = ∃ ds, getL h n = some ds ∧ QS (.loc n) h := by
  unfold srcOf
  dsimp only
  cases e : getL h n with
  | none => exact propext ⟨fun z => False.elim z, fun ⟨_, z, _⟩ => by cases z⟩
  | some ds => exact propext ⟨fun z => ⟨ds, rfl, z⟩, fun ⟨_, _, z⟩ => z⟩
theorem ev_rng1 {m : EM} {QL : List D → Hm → Prop} : Ev (lRng1 m ls h) QL = Ev (m ls h) fun d h1 => Ev (rng1Of d h1) QL := by unfold lRng1; simp only [ev_bind]
theorem ev_rng1I {j : Int} {QL : List D → Hm → Prop} : Ev (rng1Of (.int j) h) QL = ((-(2 ^ 62) ≤ j ∧ j < 2 ^ 62) ∧ QL (rng 0 j.toNat) h) := by unfold rng1Of; simp only [ev_ite, ev_ok]
/-- a comprehension over given items -/
theorem ev_comp {i : Nat} {e : EM} {vs : List Nat} {QL : List D → Hm → Prop} (I : Nat → Hm → Prop) (Y : Nat → D → Prop) : ∀ (ds : List D) (k : Nat) (h : Hm), k + ds.length ≤ sizeLine → (∀ j d h, ds[j]? = some d → I (k + j) h → Ev (e ((wipeL ls vs).set i (some d)) h) fun y h2 => Y (k + j) y ∧ I (k + j + 1) h2) → I k h →
    (∀ ys h, ys.length = ds.length → (∀ j y, ys[j]? = some y → Y (k + j) y) → I (k + ds.length) h → QL ys h) → Ev (compD (gN i) bYes e vs ds k ls h) QL
  | [], k, h, _, _, h0, hE => hE [] h rfl (fun j y e => by simp at e) h0
  | d :: r, k, h, hz, hS, h0, hE => by
    show Ev ((bYes ((wipeL ls vs).set i (some d)) h).nox.bind fun b h1 => if b = true then (if k < sizeLine then (e ((wipeL ls vs).set i (some d)) h1).nox.bind fun y h2 => (compD (gN i) bYes e vs r (k + 1) ls h2).bind fun ys h3 => .ok (y :: ys) h3 else .stuck) else compD (gN i) bYes e vs r k ls h1) QL
    rw [ev_bind, ev_nox, ev_bYes, if_pos rfl, ev_ite, ev_bind, ev_nox]
    rw [List.length_cons] at hz
    refine ⟨by omega, ev_mono (hS 0 d h rfl h0) fun y h2 hy => ?_⟩
    rw [ev_bind]
    refine ev_comp I Y r (k + 1) h2 (by omega) (fun j d h e h2 => ?_) hy.2 fun ys h hl hY hI => ?_
    · have := hS (j + 1) d h e (by rw [show k + (j + 1) = k + 1 + j by omega]; exact h2)
      rw [show k + (j + 1) = k + 1 + j by omega] at this
      exact this
    · refine hE (y :: ys) h (by rw [List.length_cons, hl, List.length_cons]) (fun j z e => ?_) (by rw [List.length_cons, show k + (r.length + 1) = k + 1 + r.length by omega]; exact hI)
      cases j with
      | zero => cases e; exact hy.1
      | succ j => rw [show k + (j + 1) = k + 1 + j by omega]; exact hY j z e
theorem ev_compL {n i : Nat} {e : EM} {vs : List Nat} {ds : List D} {QL : List D → Hm → Prop} (I : Nat → Hm → Prop) (Y : Nat → D → Prop) (keep : ∀ k h, I k h → getL h n = some ds) (hz : ds.length ≤ sizeLine) : ∀ (m k : Nat) (h : Hm), k + m = ds.length → (∀ j d h, ds[j]? = some d → I j h → Ev (e ((wipeL ls vs).set i (some d)) h) fun y h2 => Y j y ∧ I (j + 1) h2) → I k h →
    (∀ ys h, ys.length = m → (∀ j y, ys[j]? = some y → Y (k + j) y) → I ds.length h → QL ys h) → Ev (compL n (gN i) bYes e vs m k k ls h) QL
  | 0, k, h, hk, hS, h0, hE => by
    unfold compL
    rw [keep k h h0]
    dsimp only
    rw [if_pos (by omega)]
    exact hE [] h rfl (fun j y e => by simp at e) (by rw [show ds.length = k by omega]; exact h0)
  | m + 1, k, h, hk, hS, h0, hE => by
    unfold compL
    rw [keep k h h0]
    dsimp only
    have hlt : k < ds.length := by omega
    rw [if_pos (by omega), List.getElem?_eq_getElem hlt]
    show Ev ((bYes ((wipeL ls vs).set i (some ds[k])) h).nox.bind fun b h1 => if b = true then (if k < sizeLine then (e ((wipeL ls vs).set i (some ds[k])) h1).nox.bind fun y h2 => (compL n (gN i) bYes e vs m (k + 1) (k + 1) ls h2).bind fun ys h3 => .ok (y :: ys) h3 else .stuck) else compL n (gN i) bYes e vs m (k + 1) k ls h1) QL
    rw [ev_bind, ev_nox, ev_bYes, if_pos rfl, ev_ite, ev_bind, ev_nox]
    refine ⟨by omega, ev_mono (hS k _ h (List.getElem?_eq_getElem hlt) h0) fun y h2 hy => ?_⟩
    rw [ev_bind]
    refine ev_compL I Y keep hz m (k + 1) h2 (by omega) hS hy.2 fun ys h hl hY hI => ?_
    refine hE (y :: ys) h (by rw [List.length_cons, hl]) (fun j z e => ?_) hI
    cases j with
    | zero => cases e; exact hy.1
    | succ j => rw [show k + (j + 1) = k + 1 + j by omega]; exact hY j z e
theorem ev_lComp {g : D → Ls → Option Ls} {mi : Ls → Hm → Out Src} {c : BM} {e : EM} {vs : List Nat} {QL : List D → Hm → Prop} : Ev (lComp g mi c e vs ls h) QL = Ev (mi ls h) fun s h1 => srcP (fun ds => Ev (compD g c e vs ds 0 ls h1) QL) (fun n => optP (fun ds => Ev (compL n g c e vs ds.length 0 0 ls h1) QL) (getL h1 n)) s := by
  unfold lComp
  rw [ev_bind]
  congr 1
  funext s h1
  cases s with
  | items ds => rfl
  | loc n => unfold srcP; dsimp only; cases getL h1 n <;> rfl
/-- each item by itself, the heap as it was -/
theorem ev_compF {i : Nat} {e : EM} {vs : List Nat} {QL : List D → Hm → Prop} (f : D → D) (ds : List D) (hz : ds.length ≤ sizeLine) (hS : ∀ d ∈ ds, Ev (e ((wipeL ls vs).set i (some d)) h) fun y h2 => y = f d ∧ h2 = h) (hE : QL (ds.map f) h) : Ev (compD (gN i) bYes e vs ds 0 ls h) QL := by
  refine ev_comp (fun _ h' => h' = h) (fun j y => (ds.map f)[j]? = some y) ds 0 h (by omega) (fun j d h' e1 e2 => ?_) rfl fun ys h' hl hY e2 => ?_
  · subst e2
    refine ev_mono (hS d (List.mem_of_getElem? e1)) fun y h2 hy => ⟨?_, hy.2⟩
    rw [Nat.zero_add, List.getElem?_map, e1, hy.1]; rfl
  · subst e2
    have : ys = ds.map f := List.ext_getElem? fun j => by
      by_cases hj : j < ys.length
      · have := hY j _ (List.getElem?_eq_getElem hj)
        rw [Nat.zero_add] at this
        rw [this, List.getElem?_eq_getElem hj]
      · rw [List.getElem?_eq_none (by omega), List.getElem?_eq_none (by rw [List.length_map]; omega)]
    rw [this]; exact hE
theorem ev_compFL {n i : Nat} {e : EM} {vs : List Nat} {QL : List D → Hm → Prop} (f : D → D) (ds : List D) (hn : getL h n = some ds) (hz : ds.length ≤ sizeLine) (hS : ∀ d ∈ ds, Ev (e ((wipeL ls vs).set i (some d)) h) fun y h2 => y = f d ∧ h2 = h) (hE : QL (ds.map f) h) : Ev (compL n (gN i) bYes e vs ds.length 0 0 ls h) QL := by
  refine ev_compL (fun _ h' => h' = h) (fun j y => (ds.map f)[j]? = some y) (fun _ _ e => by rw [e]; exact hn) hz ds.length 0 h (by omega) (fun j d h' e1 e2 => ?_) rfl fun ys h' hl hY e2 => ?_
  · subst e2
    refine ev_mono (hS d (List.mem_of_getElem? e1)) fun y h2 hy => ⟨?_, hy.2⟩
    rw [List.getElem?_map, e1, hy.1]; rfl
  · subst e2
    have : ys = ds.map f := List.ext_getElem? fun j => by
      by_cases hj : j < ys.length
      · have := hY j _ (List.getElem?_eq_getElem hj)
        rw [Nat.zero_add] at this
        rw [this, List.getElem?_eq_getElem hj]
      · rw [List.getElem?_eq_none (by omega), List.getElem?_eq_none (by rw [List.length_map]; omega)]
    rw [this]; exact hE
end
/-! ### calls -/
theorem cls_facts : ∀ {ds : List D} (k : Nat), cls ds = true → locs ds = [] ∧ flat ds = true ∧ reloc k ds = ds
  | [], _, _ => ⟨rfl, rfl, rfl⟩
  | d :: ds, k, h => by
    rw [cls, Bool.and_eq_true] at h
    obtain ⟨e1, e2, e3⟩ := cls_facts k h.2
    cases d with
    | loc n => exact absurd h.1 (by unfold D.cl; exact Bool.false_ne_true)
    | _ =>
      refine ⟨by simpa [locs] using e1, ?_, by simpa [reloc] using e3⟩
      simp only [flat, e2, Bool.and_true]
      exact h.1
theorem lm_closed {m : List D → Hm → Out D} {ds : List D} {h : Hm} {Q : D → Hm → Prop} (hc : cls ds = true) (e : Ev (m ds []) fun d _ => d.cl = true ∧ Q d h) : Ev (lcall m ds h) Q := by
  obtain ⟨e1, e2, e3⟩ := cls_facts 0 hc
  obtain ⟨d, h1, e4, e5, e6⟩ := ev_get e
  unfold lcall
  rw [e1, e2, e3]
  show Ev (if ([] : List Nat).Nodup ∧ true = true ∧ ([] : Hm).all MO.cl = true then back [] h (m ds []) else .stuck) Q
  rw [if_pos ⟨List.nodup_nil, rfl, rfl⟩, e4]
  unfold back
  dsimp only
  rw [if_pos ⟨Nat.zero_le _, rfl⟩]
  cases d with
  | loc n => exact absurd e5 (by unfold D.cl; exact Bool.false_ne_true)
  | _ => unfold backOk; dsimp only; rw [if_pos e5]; exact e6
theorem lm_list {m : List D → Hm → Out D} {ds : List D} {h : Hm} {Q : D → Hm → Prop} (hc : cls ds = true) (e : Ev (m ds []) fun d h1 => ∃ j o, d = .loc j ∧ h1[j]? = some o ∧ o.cl = true ∧ Q (.loc h.length) (h ++ [o])) : Ev (lcall m ds h) Q := by
  obtain ⟨e1, e2, e3⟩ := cls_facts 0 hc
  obtain ⟨d, h1, e4, j, o, rfl, e5, e6, e7⟩ := ev_get e
  unfold lcall
  rw [e1, e2, e3]
  show Ev (if ([] : List Nat).Nodup ∧ true = true ∧ ([] : Hm).all MO.cl = true then back [] h (m ds []) else .stuck) Q
  rw [if_pos ⟨List.nodup_nil, rfl, rfl⟩, e4]
  unfold back
  dsimp only
  rw [if_pos ⟨Nat.zero_le _, rfl⟩]
  unfold backOk; dsimp only
  rw [if_neg (by simp), e5]
  show Ev (if o.cl = true then .ok (.loc h.length) (h ++ [o]) else .stuck) Q
  rw [if_pos e6]
  exact e7
/-- one list is handed, and may be written -/
theorem lm_one {m : List D → Hm → Out D} {ds : List D} {n : Nat} {P : MO} {h : Hm} {Q : D → Hm → Prop} (hc : cls ds = true) (hn : h[n]? = some P) (hP : P.cl = true) (e : Ev (m (.loc 0 :: ds) [P]) fun d h1 => ∃ P' r, h1 = P' :: r ∧ P'.cl = true ∧ d.cl = true ∧ Q d (h.set n P')) : Ev (lcall m (.loc n :: ds) h) Q := by
  obtain ⟨e1, e2, e3⟩ := cls_facts 1 hc
  obtain ⟨d, h1, e4, P', r, rfl, e5, e6, e7⟩ := ev_get e
  have f1 : locs (.loc n :: ds) = [n] := by rw [locs, e1]
  have f2 : flat (.loc n :: ds) = true := by rw [flat]; exact e2
  have f3 : reloc 0 (.loc n :: ds) = .loc 0 :: ds := by rw [reloc, e3]
  unfold lcall
  rw [f1, f2, f3]
  have f4 : (([n].mapM fun n => h[n]?) : Option Hm) = some [P] := by
    rw [List.mapM_cons, hn]; rfl
  rw [f4]
  show Ev (if ([n] : List Nat).Nodup ∧ true = true ∧ ([P] : Hm).all MO.cl = true then back [n] h (m (.loc 0 :: ds) [P]) else .stuck) Q
  rw [if_pos ⟨by simp, rfl, by simp [hP]⟩, e4]
  unfold back
  dsimp only
  rw [if_pos ⟨by simp, by simp [e5]⟩]
  have f5 : putAll h [n] (List.take [n].length (P' :: r)) = h.set n P' := rfl
  rw [f5]
  cases d with
  | loc n => exact absurd e6 (by unfold D.cl; exact Bool.false_ne_true)
  | _ => unfold backOk; dsimp only; rw [if_pos e6]; exact e7
end MP

set_option Elab.async false
set_option linter.all false
set_option maxRecDepth 100000
set_option maxHeartbeats 2000000
set_option autoImplicit false
namespace MP
open PySem PySem.Spec PyProof.Rows L2
theorem getL0 {xs : List D} {h : Hm} : getL (.lst xs :: h) 0 = some xs := rfl
theorem getLS {o : MO} {h : Hm} {n : Nat} : getL (o :: h) (n + 1) = getL h n := rfl
theorem if_true_b {α : Sort _} {p q : α} : (if true = true then p else q) = p := if_pos rfl
theorem if_false_b {α : Sort _} {p q : α} : (if false = true then p else q) = q := if_neg Bool.false_ne_true
section
variable {α : Type} {xs : List α}
theorem atI_n (n : Nat) : atI xs (n : Int) = xs[n]? := by
  unfold atI ixN
  rw [if_pos (by omega)]
  split
  · rfl
  · rw [List.getElem?_eq_none (by omega)]; rfl
theorem atI_0 : atI xs 0 = xs[0]? := atI_n 0
theorem atI_1 : atI xs 1 = xs[1]? := atI_n 1
theorem atI_2 : atI xs 2 = xs[2]? := atI_n 2
theorem atI_3 : atI xs 3 = xs[3]? := atI_n 3
theorem atI_4 : atI xs 4 = xs[4]? := atI_n 4
theorem atI_5 : atI xs 5 = xs[5]? := atI_n 5
theorem atI_6 : atI xs 6 = xs[6]? := atI_n 6
theorem atI_7 : atI xs 7 = xs[7]? := atI_n 7
theorem atI_i {i : Int} (h0 : 0 ≤ i) (h1 : i < xs.length) : ∃ d, atI xs i = some d ∧ d ∈ xs := by
  obtain ⟨n, rfl⟩ := Int.eq_ofNat_of_zero_le h0
  have hn : n < xs.length := by omega
  rw [show ((n : Nat) : Int) = (n : Int) from rfl, atI_n, List.getElem?_eq_getElem hn]
  exact ⟨_, rfl, List.getElem_mem hn⟩
theorem ixN_n {n m : Nat} (h : n < m) : ixN m (n : Int) = some n := by
  unfold ixN
  rw [if_pos (by omega), if_pos (by omega)]
  rfl
theorem ixN_0 {n : Nat} : ixN (n + 1) 0 = some 0 := ixN_n (n := 0) (by omega)
theorem ixN_1 {n : Nat} : ixN (n + 2) 1 = some 1 := ixN_n (n := 1) (by omega)
theorem ixN_2 {n : Nat} : ixN (n + 3) 2 = some 2 := ixN_n (n := 2) (by omega)
theorem ixN_3 {n : Nat} : ixN (n + 4) 3 = some 3 := ixN_n (n := 3) (by omega)
end
theorem sv_dput {ls : Ls} {x : D} {n : Nat} {k : Int} {h : Hm} {N C B : Ls → Hm → Prop} {R : D → Hm → Prop} : Sv (dPut ls x (.loc n) (.int k) h) N R C B = ∃ xs, getL h n = some xs ∧ ∃ j, ixN xs.length k = some j ∧ N ls (h.set n (.lst (xs.set j x))) := by
  unfold dPut
  dsimp only
  cases e : getL h n with
  | none => exact propext ⟨fun z => False.elim z, fun ⟨_, z, _⟩ => by cases z⟩
  | some xs =>
    dsimp only
    cases e2 : ixN xs.length k with
    | none => exact propext ⟨fun z => False.elim z, fun ⟨_, z, j, z2, _⟩ => by cases z; rw [e2] at z2; cases z2⟩
    | some j => exact propext ⟨fun z => ⟨xs, rfl, j, e2, z⟩, fun ⟨_, z, j', z2, q⟩ => by cases z; rw [e2] at z2; cases z2; exact q⟩
theorem log2_lt {n k : Nat} (h : n < 2 ^ k) : n.log2 < k + 1 := by
  by_cases h0 : n = 0
  · subst h0; simp
  · have := (Nat.log2_lt h0).mpr h; omega
theorem mulOk_of {i j : Int} {a b : Nat} (h1 : i.natAbs < 2 ^ a) (h2 : j.natAbs < 2 ^ b) (h : a + b < 999998) : mulOk i j = true := by
  unfold mulOk
  have := log2_lt h1
  have := log2_lt h2
  exact decide_eq_true (by omega)
theorem nabs_lt {i b : Int} (h1 : -b < i) (h2 : i < b) : i.natAbs < b.toNat := by omega
theorem mulOk_lt {i j : Int} (h1 : -(2 ^ 200) < i) (h2 : i < 2 ^ 200) (h3 : -(2 ^ 200) < j) (h4 : j < 2 ^ 200) : mulOk i j = true :=
  mulOk_of (a := 200) (b := 200) (by have := nabs_lt h1 h2; exact this) (by have := nabs_lt h3 h4; exact this) (by decide)
theorem bits_of {i : Int} {k : Nat} (h1 : i.natAbs < 2 ^ k) : Builtin.Int.intBits i ≤ k + 1 := by
  have := log2_lt h1
  unfold Builtin.Int.intBits
  split <;> omega
end MP
namespace MP
open PySem PySem.Spec PyProof.Rows L2
theorem mapM_in : ∀ l : List Int, (l.map D.int).mapM asIn = some l
  | [] => rfl
  | x :: l => by rw [List.map_cons, List.mapM_cons, mapM_in l]; rfl
theorem mapM_bl : ∀ l : List Bool, (l.map D.bl).mapM asBl = some l
  | [] => rfl
  | x :: l => by rw [List.map_cons, List.mapM_cons, mapM_bl l]; rfl
theorem mapM_st : ∀ l : List Str, (l.map D.str).mapM asSt = some l
  | [] => rfl
  | x :: l => by rw [List.map_cons, List.mapM_cons, mapM_st l]; rfl
theorem cutD_map {α : Type} (f : α → D) (l : List α) (lo hi : Option Int) : ∃ l' : List α, cutD (l.map f) lo hi = l'.map f ∧ l'.length ≤ l.length := by
  unfold cutD
  rw [← List.map_drop, ← List.map_take]
  exact ⟨_, rfl, by rw [List.length_take, List.length_drop]; omega⟩
end MP
namespace MP
open PySem PySem.Spec PyProof.Rows L2
theorem cls_ints : ∀ l : List Int, cls (l.map D.int) = true
  | [] => rfl
  | _ :: l => by rw [List.map_cons, cls, cls_ints l]; rfl
theorem cl_rng (a : Int) (n : Nat) : (MO.lst (rng a n)).cl = true := by
  unfold rng
  have : (List.range n).map (fun i => D.int (a + (i : Nat))) = ((List.range n).map fun i => (a + ((i : Nat) : Int))).map D.int := by rw [List.map_map]; rfl
  rw [this]
  exact cls_ints _
end MP
namespace MP
theorem pick_nil {α : Type} {ws : List α} : pick [] ws = [] := rfl
theorem pick_one {α : Type} {x : α} {ws : List α} : pick [0] (x :: ws) = [x] := rfl
end MP
namespace MP
open PySem PySem.Spec PyProof.Rows L2
theorem rng_get {lo : Int} {n j : Nat} {d : D} (h : (rng lo n)[j]? = some d) : j < n ∧ d = .int (lo + j) := by
  have h1 := (List.getElem?_eq_some_iff.mp h).1
  unfold rng at h h1
  rw [List.length_map, List.length_range] at h1
  rw [List.getElem?_map, List.getElem?_range h1] at h
  cases h
  exact ⟨h1, rfl⟩
theorem all_true {ys : List D} (h : ∀ (j : Nat) (y : D), ys[j]? = some y → y = D.bl true) : ∃ bs, ys.mapM asBl = some bs ∧ (bs.all fun b => b) = true := by
  have e : ys = (List.replicate ys.length true).map D.bl := List.ext_getElem? fun j => by
    by_cases hj : j < ys.length
    · rw [List.getElem?_eq_getElem hj, h j _ (List.getElem?_eq_getElem hj), List.getElem?_map, List.getElem?_replicate, if_pos hj]; rfl
    · rw [List.getElem?_eq_none (by omega), List.getElem?_eq_none (by simp; omega)]
  rw [e]
  exact ⟨_, mapM_bl _, by simp⟩
end MP
namespace MP
open PySem PySem.Spec PyProof.Rows L2
section
variable {ls : Ls} {h : Hm}
theorem ev_in1 {f : Bool → Bool} {c : Nat} {z : Str} {Q : D → Hm → Prop} : Ev (dInG f (.str ⟨#[c]⟩) (.str z) h) Q = Q (.bl (f (decide (c ∈ z.cps.toList)))) h := by
  rw [ev_inS]
  exact propext ⟨fun z => z.2, fun z => ⟨rfl, z⟩⟩
theorem ev_compSg {i : Nat} {e : EM} {vs : List Nat} (p : Nat → Bool) (x : Str) (hz : x.length ≤ sizeLine) (hS : ∀ c ∈ x.cps.toList, Ev (e ((wipeL ls vs).set i (some (.str ⟨#[c]⟩))) h) fun y h2 => y = .bl (p c) ∧ h2 = h) :
    Ev (compD (gN i) bYes e vs (signs x) 0 ls h) fun ys h1 => ys = (x.cps.toList.map p).map D.bl ∧ h1 = h := by
  have hl : (signs x).length = x.length := by unfold signs; simp [Str.length]
  refine ev_comp (fun _ h' => h' = h) (fun j y => ((x.cps.toList.map p).map D.bl)[j]? = some y) _ 0 h (by omega) (fun j d h' e1 e2 => ?_) rfl fun ys h' hl' hY e2 => ?_
  · subst e2
    unfold signs at e1
    rw [List.getElem?_map] at e1
    cases e3 : x.cps.toList[j]? with
    | none => rw [e3] at e1; cases e1
    | some c =>
      rw [e3] at e1
      cases e1
      refine ev_mono (hS c (List.mem_of_getElem? e3)) fun y h2 hy => ⟨?_, hy.2⟩
      rw [Nat.zero_add, List.getElem?_map, List.getElem?_map, e3, hy.1]; rfl
  · subst e2
    refine ⟨List.ext_getElem? fun j => ?_, rfl⟩
    have hn : x.cps.toList.length = x.length := by simp [Str.length]
    by_cases hj : j < ys.length
    · have := hY j _ (List.getElem?_eq_getElem hj)
      rw [Nat.zero_add] at this
      rw [this, List.getElem?_eq_getElem hj]
    · rw [List.getElem?_eq_none (by omega), List.getElem?_eq_none (by rw [List.length_map, List.length_map]; omega)]
end
end MP
namespace MP
open PySem PySem.Spec PyProof.Rows L2
theorem kit_ss : kitB "str" "str" = some true := by decide +kernel
theorem kit_is : kitB "int" "str" = some false := by decide +kernel
theorem kit_ns : kitB "NoneType" "str" = some false := by decide +kernel
theorem kit_ts : kitB "tuple" "str" = some false := by decide +kernel
theorem kit_ls : kitB "list" "str" = some false := by decide +kernel
theorem kit_bs : kitB "bool" "str" = some false := by decide +kernel
theorem kit_st : kitB "str" "tuple" = some false := by decide +kernel
theorem kit_it : kitB "int" "tuple" = some false := by decide +kernel
theorem kit_nt : kitB "NoneType" "tuple" = some false := by decide +kernel
theorem kit_tt : kitB "tuple" "tuple" = some true := by decide +kernel
theorem kit_lt : kitB "list" "tuple" = some false := by decide +kernel
theorem kit_bt : kitB "bool" "tuple" = some false := by decide +kernel
theorem kit_sl : kitB "str" "list" = some false := by decide +kernel
theorem kit_il : kitB "int" "list" = some false := by decide +kernel
theorem kit_nl : kitB "NoneType" "list" = some false := by decide +kernel
theorem kit_tl : kitB "tuple" "list" = some false := by decide +kernel
theorem kit_ll : kitB "list" "list" = some true := by decide +kernel
theorem kit_bl : kitB "bool" "list" = some false := by decide +kernel
theorem kit_si : kitB "str" "int" = some false := by decide +kernel
theorem kit_ii : kitB "int" "int" = some true := by decide +kernel
theorem kit_ni : kitB "NoneType" "int" = some false := by decide +kernel
theorem kit_ti : kitB "tuple" "int" = some false := by decide +kernel
theorem kit_li : kitB "list" "int" = some false := by decide +kernel
theorem kit_bi : kitB "bool" "int" = some true := by decide +kernel
theorem kit_sb : kitB "str" "bool" = some false := by decide +kernel
theorem kit_ib : kitB "int" "bool" = some false := by decide +kernel
theorem kit_nb : kitB "NoneType" "bool" = some false := by decide +kernel
theorem kit_tb : kitB "tuple" "bool" = some false := by decide +kernel
theorem kit_lb : kitB "list" "bool" = some false := by decide +kernel
theorem kit_bb : kitB "bool" "bool" = some true := by decide +kernel
end MP
namespace MP
theorem sv_cut {ls : Ls} {h : Hm} {N C B : Ls → Hm → Prop} {R : D → Hm → Prop} {a b : SM} (M : Ls → Hm → Prop) (h1 : Sv (a ls h) M R C B) (h2 : ∀ ls h, M ls h → Sv (b ls h) N R C B) : Sv (sSeq a b ls h) N R C B := by
  rw [sv_seq]
  exact sv_mono h1 h2 (fun _ _ z => z) (fun _ _ z => z) (fun _ _ z => z)
end MP
namespace MP
open PySem PySem.Spec PyProof.Rows L2
theorem join_len0 {ys : List Str} : (Txt.join "" ys).length = (ys.map (·.length)).sum := by
  unfold Txt.join
  rw [size_glued]
  show _ + _ * 0 = _
  omega
end MP
namespace MP
section
variable {h : Hm} {Q : D → Hm → Prop}
theorem ev_deI {i j : Int} : Ev (dEq (.int i) (.int j) h) Q = Q (.bl (decide (i = j))) h := Eq.trans rfl rfl
theorem ev_deS {i j : PySem.Str} : Ev (dEq (.str i) (.str j) h) Q = Q (.bl (decide (i = j))) h := Eq.trans rfl rfl
theorem ev_deB {i j : Bool} : Ev (dEq (.bl i) (.bl j) h) Q = Q (.bl (decide (i = j))) h := ev_eqB
theorem ev_dnI {i j : Int} : Ev (dNe (.int i) (.int j) h) Q = Q (.bl (!decide (i = j))) h := Eq.trans rfl rfl
theorem ev_dnS {i j : PySem.Str} : Ev (dNe (.str i) (.str j) h) Q = Q (.bl (!decide (i = j))) h := Eq.trans rfl rfl
theorem ev_dnB {i j : Bool} : Ev (dNe (.bl i) (.bl j) h) Q = Q (.bl (!decide (i = j))) h := ev_eqB
end
end MP
namespace MP
theorem dTy_n : dTy .non = some "NoneType" := Eq.trans rfl rfl
theorem dTy_b {b : Bool} : dTy (.bl b) = some "bool" := Eq.trans rfl rfl
theorem dTy_i {i : Int} : dTy (.int i) = some "int" := Eq.trans rfl rfl
theorem dTy_s {x : PySem.Str} : dTy (.str x) = some "str" := Eq.trans rfl rfl
theorem dTy_t {ds : List D} : dTy (.tup ds) = some "tuple" := Eq.trans rfl rfl
theorem dTy_r {ds : List D} : dTy (.rls ds) = some "list" := Eq.trans rfl rfl
theorem dTy_l {n : Nat} : dTy (.loc n) = some "list" := Eq.trans rfl rfl
end MP

set_option Elab.async false
set_option linter.all false
set_option maxRecDepth 100000
set_option maxHeartbeats 2000000
set_option autoImplicit false
namespace MP
open PySem PySem.Spec PyProof.Rows PySem.W PySem.NumText
/-! ### whole numbers as text -/
def dig (n : Nat) : List Nat := (Nat.toDigits 10 n).map Char.toNat
theorem dig_lt {n : Nat} (h : n < 10) : dig n = [48 + n] := by
  unfold dig
  rw [Nat.toDigits_of_lt_base h]
  have : ∀ d : Nat, d < 10 → (Nat.digitChar d).toNat = 48 + d := by decide
  show [(Nat.digitChar n).toNat] = _
  rw [this n h]
theorem dig_ge {n : Nat} (h : 10 ≤ n) : dig n = dig (n / 10) ++ [48 + n % 10] := by
  have hm : n % 10 < 10 := Nat.mod_lt n (by decide)
  rw [← dig_lt hm]
  unfold dig
  rw [← List.map_append, Nat.toDigits_append_toDigits (by decide) (by omega) hm, Nat.div_add_mod]
theorem dig_all (n : Nat) : AllDigits (dig n) := by
  induction n using Nat.strongRecOn with
  | _ n ih =>
    by_cases h : n < 10
    · rw [dig_lt h]
      intro c hc
      have := List.mem_singleton.mp hc
      omega
    · rw [dig_ge (by omega)]
      intro c hc
      rcases List.mem_append.mp hc with hc | hc
      · exact ih (n / 10) (by omega) c hc
      · have := List.mem_singleton.mp hc
        omega
theorem dig_ne (n : Nat) : dig n ≠ [] := by
  by_cases h : n < 10
  · rw [dig_lt h]; nofun
  · rw [dig_ge (by omega)]; simp
theorem dig_val (n : Nat) : digitsVal (dig n) = n := KIN.val_back n
theorem dig_len : ∀ (k n : Nat), n < 10 ^ k → (dig n).length ≤ max 1 k
  | 0, n, h => by
    have : n = 0 := by simpa using h
    subst this
    rw [dig_lt (by decide)]; decide
  | k + 1, n, h => by
    by_cases hn : n < 10
    · rw [dig_lt hn, List.length_singleton]; omega
    · rw [dig_ge (by omega), List.length_append, List.length_singleton]
      rw [Nat.pow_succ] at h
      have hk : 0 < k := by
        rcases Nat.eq_zero_or_pos k with z | z
        · subst z; simp at h; omega
        · exact z
      have := dig_len k (n / 10) (by omega)
      omega
theorem dig_head (n : Nat) (h : n ≠ 0) : ∃ c r, dig n = c :: r ∧ 49 ≤ c ∧ c ≤ 57 := by
  induction n using Nat.strongRecOn with
  | _ n ih =>
    by_cases hn : n < 10
    · rw [dig_lt hn]; exact ⟨_, _, rfl, by omega, by omega⟩
    · rw [dig_ge (by omega)]
      obtain ⟨c, r, e, h1, h2⟩ := ih (n / 10) (by omega) (by omega)
      rw [e]
      exact ⟨c, r ++ [48 + n % 10], rfl, h1, h2⟩
def itx (t : Int) : List Nat := if t < 0 then 45 :: dig t.natAbs else dig t.natAbs
theorem itx_str (t : Int) : ((toString t : String) : Str).cps.toList = itx t := by
  unfold itx
  split
  · rename_i h
    obtain ⟨n, rfl⟩ : ∃ n : Nat, t = -((n : Nat) : Int) := ⟨t.natAbs, by omega⟩
    have hn : 0 < n := by omega
    obtain ⟨m, rfl⟩ : ∃ m, n = m + 1 := ⟨n - 1, by omega⟩
    rw [signs_ofString]
    show ("-" ++ Nat.repr (m + 1)).toList.map Char.toNat = _
    rw [String.toList_append, List.map_append, Nat.toList_repr]
    rfl
  · rename_i h
    obtain ⟨n, rfl⟩ := Int.eq_ofNat_of_zero_le (show 0 ≤ t by omega)
    exact KIN.signs_num n
theorem str_itx (t : Int) : ((toString t : String) : Str) = mkS (itx t) := str_ext (itx_str t)
theorem mkS_app (a b : List Nat) : mkS a ++ mkS b = mkS (a ++ b) := by
  apply str_ext
  rw [cps_toList_append]; rfl
theorem mkS_len (a : List Nat) : (mkS a).length = a.length := by show a.toArray.size = _; simp
theorem gcd_step (a b : Int) : Int.gcd b (a % b) = Int.gcd a b := by
  have e : a = a % b + b * (a / b) := (Int.emod_add_mul_ediv a b).symm
  have := Int.gcd_add_mul_left_right (m := b) (n := a % b) (k := a / b)
  rw [← e] at this
  rw [Int.gcd_comm a b]
  exact this.symm
/-! ### reading whole numbers -/
def figs (x : List Nat) : List Nat := if x.take 1 = [45] then x.drop 1 else x
def isFig (c : Nat) : Bool := decide (48 ≤ c) && decide (c ≤ 57)
def rdI (x : List Nat) : Option Int :=
  if (decide (1 ≤ (figs x).length) && decide ((figs x).length ≤ 300) && (figs x).all isFig) = true then
    if (figs x).headD 0 = 48 ∧ (1 < (figs x).length ∨ x ≠ figs x) then none
    else some (if x = figs x then (digitsVal (figs x) : Int) else -(digitsVal (figs x) : Int))
  else none
theorem isFig_all {l : List Nat} : l.all isFig = true ↔ AllDigits l := by
  unfold AllDigits
  rw [List.all_eq_true]
  refine ⟨fun h c hc => ?_, fun h c hc => ?_⟩
  · have := h c hc
    unfold isFig at this
    simp only [Bool.and_eq_true, decide_eq_true_eq] at this
    exact this
  · unfold isFig
    simp only [Bool.and_eq_true, decide_eq_true_eq]
    exact h c hc
theorem figs_itx (t : Int) : figs (itx t) = dig t.natAbs := by
  unfold figs itx
  split
  · rw [if_pos (show List.take 1 (45 :: dig t.natAbs) = [45] from rfl)]; rfl
  · rename_i h
    obtain ⟨c, r, e⟩ : ∃ c r, dig t.natAbs = c :: r := by
      cases e : dig t.natAbs with
      | nil => exact absurd e (dig_ne _)
      | cons c r => exact ⟨c, r, rfl⟩
    have hc := dig_all t.natAbs c (by rw [e]; exact List.mem_cons_self ..)
    rw [e, if_neg]
    intro z
    injection z with z _
    omega
theorem rdI_itx {t : Int} (h : t.natAbs < 10 ^ 300) : rdI (itx t) = some t := by
  have hf := figs_itx t
  have hl := dig_len 300 _ h
  have h1 : 1 ≤ (dig t.natAbs).length := by
    have := dig_ne t.natAbs
    cases e : dig t.natAbs with
    | nil => exact absurd e this
    | cons c r => simp
  unfold rdI
  rw [hf, if_pos (by simp only [Bool.and_eq_true, decide_eq_true_eq]; exact ⟨⟨h1, by omega⟩, isFig_all.mpr (dig_all _)⟩)]
  have hx : itx t = dig t.natAbs ↔ ¬ t < 0 := by
    unfold itx
    split
    · rename_i h
      refine ⟨fun z => ?_, fun z => absurd h z⟩
      have := congrArg List.length z
      simp at this
    · rename_i h
      exact ⟨fun _ => h, fun _ => rfl⟩
  rw [if_neg, dig_val]
  · by_cases h0 : t < 0
    · rw [if_neg (fun z => hx.mp z h0)]; congr 1; omega
    · rw [if_pos (hx.mpr h0)]; congr 1; omega
  · rintro ⟨z1, z2⟩
    by_cases h0 : t = 0
    · subst h0
      rcases z2 with z2 | z2
      · revert z2; decide
      · exact z2 (hx.mpr (by decide))
    · obtain ⟨c, r, e, h3, h4⟩ := dig_head t.natAbs (by omega)
      rw [e] at z1
      have : c = 48 := z1
      omega
end MP
namespace MP
open PySem PySem.Spec PyProof.Rows PySem.W PySem.NumText L2
theorem cutS_take (x : Str) (k : Nat) : cutS x none (some (k : Int)) = mkS (x.cps.toList.take k) := by
  have hn : x.cps.toList.length = x.length := by simp [Str.length]
  unfold cutS mkS
  rw [HT.sIx_none, HT.sIx_nat, List.drop_zero, Nat.sub_zero]
  congr 2
  by_cases h : k ≤ x.length
  · rw [Nat.min_eq_left h]
  · rw [Nat.min_eq_right (by omega), List.take_of_length_le (by omega), List.take_of_length_le (by omega)]
theorem cutS_drop (x : Str) (k : Nat) : cutS x (some (k : Int)) none = mkS (x.cps.toList.drop k) := by
  have hn : x.cps.toList.length = x.length := by simp [Str.length]
  unfold cutS mkS
  rw [HT.sIx_none, HT.sIx_nat]
  congr 1
  by_cases h : k ≤ x.length
  · rw [Nat.min_eq_left h, List.take_of_length_le (by rw [List.length_drop]; omega)]
  · rw [Nat.min_eq_right (by omega), List.drop_of_length_le (by omega), List.drop_of_length_le (by omega)]
    simp
theorem mkS_inj {a b : List Nat} : mkS a = mkS b ↔ a = b := ⟨fun h => congrArg (fun s : Str => s.cps.toList) h, fun h => by rw [h]⟩
theorem figs_len (x : List Nat) : (figs x).length ≤ x.length := by
  unfold figs
  split
  · simp
  · exact Nat.le_refl _
theorem figs_of (x : List Nat) : x = figs x ∨ x = 45 :: figs x := by
  unfold figs
  split
  · rename_i h
    right
    cases x with
    | nil => cases h
    | cons c r =>
      have : [c] = [45] := h
      cases this
      rfl
  · exact .inl rfl
theorem isFig_mem : ∀ c : Nat, decide (c ∈ (Str.ofString "0123456789").cps.toList) = isFig c := by
  intro c
  have e : (Str.ofString "0123456789").cps.toList = [48, 49, 50, 51, 52, 53, 54, 55, 56, 57] := by decide +kernel
  rw [e]
  unfold isFig
  rw [← Bool.decide_and]
  apply decide_eq_decide.mpr
  simp only [List.mem_cons, List.not_mem_nil, or_false]
  omega
def oI : Option Int → D
  | none => .non
  | some n => .int n
/-- what int(text) answers, where the figures are such -/
theorem int_rd {x : Str} (hl : (figs x.cps.toList).length ≤ 300) (h1 : 1 ≤ (figs x.cps.toList).length) (ha : AllDigits (figs x.cps.toList)) :
    x.length ≤ 640 ∧ PySem.intText? x = some (if x.cps.toList = figs x.cps.toList then (digitsVal (figs x.cps.toList) : Int) else -(digitsVal (figs x.cps.toList) : Int)) := by
  have hn : x.cps.toList.length = x.length := by simp [Str.length]
  have hne : figs x.cps.toList ≠ [] := fun z => by rw [z] at h1; simp at h1
  rcases figs_of x.cps.toList with e | e
  · rw [if_pos e]
    have e2 : x.cps.toList.length = (figs x.cps.toList).length := congrArg List.length e
    refine ⟨by omega, ?_⟩
    rw [← e] at ha hne ⊢
    exact intText_digits ha hne (by omega)
  · rw [if_neg (fun z => by have := congrArg List.length (e.symm.trans z); simp at this)]
    have e2 : x.cps.toList.length = (figs x.cps.toList).length + 1 := congrArg List.length e
    exact ⟨by omega, intText_neg e ha hne (by omega)⟩
end MP
namespace MP
open PySem PySem.Spec PyProof.Rows PySem.W PySem.NumText L2
theorem splA_len {c : Nat} : ∀ {r acc : List Nat}, ∀ p ∈ splA c acc r, p.length ≤ acc.length + r.length
  | [], acc, p, h => by
    rw [splA] at h
    have := List.mem_singleton.mp h
    subst this
    exact Nat.le_add_right _ _
  | d :: r, acc, p, h => by
    rw [splA] at h
    rw [List.length_cons]
    split at h
    · rcases List.mem_cons.mp h with h | h
      · subst h; omega
      · have := splA_len p h
        simp at this; omega
    · have := splA_len p h
      simp at this; omega
theorem splA_num {c : Nat} : ∀ {r acc : List Nat}, (splA c acc r).length ≤ r.length + 1
  | [], acc => by rw [splA]; exact Nat.le_refl _
  | d :: r, acc => by
    rw [splA, List.length_cons]
    split
    · have := @splA_num c r []
      rw [List.length_cons]; omega
    · have := @splA_num c r (acc ++ [d])
      omega
def pI : Option Int → PyData
  | none => .none
  | some i => .int i
theorem in_one {a : Option Int} {n : Nat} {h : Hm} {Q : D → Hm → Prop} (hn : getL h n = some [oI a]) : Ev (dIn .non (.loc n) h) Q = Q (.bl a.isNone) h := by
  have e : pdF h 65 (.loc n) = some (.list [pI a]) := by
    unfold pdF
    dsimp only
    rw [hn]
    cases a <;> rfl
  unfold dIn dInG
  dsimp only
  rw [e]
  cases a <;> rfl
theorem in_two {a b : Option Int} {n : Nat} {h : Hm} {Q : D → Hm → Prop} (hn : getL h n = some [oI a, oI b]) : Ev (dIn .non (.loc n) h) Q = Q (.bl (a.isNone || b.isNone)) h := by
  have e : pdF h 65 (.loc n) = some (.list [pI a, pI b]) := by
    unfold pdF
    dsimp only
    rw [hn]
    cases a <;> cases b <;> rfl
  unfold dIn dInG
  dsimp only
  rw [e]
  cases a <;> cases b <;> rfl
def rdG : List (Option Int) → Option (Int × Int)
  | [a] => a.map fun a => (a, 1)
  | [a, b] => a.bind fun a => b.bind fun b => if 1 < b ∧ Int.gcd a b = 1 then some (a, b) else none
  | _ => none
def rdF (x : List Nat) : Option (Int × Int) := rdG ((splA 47 [] x).map rdI)
def oF : Option (Int × Int) → D
  | none => .non
  | some (a, b) => .tup [.int a, .int b]
end MP
namespace MP
theorem sv_okN {ls : Ls} {h : Hm} {N C B : Ls → Hm → Prop} {R : D → Hm → Prop} : Sv (.ok .nx ls h) N R C B = N ls h := Eq.trans rfl rfl
end MP
namespace MP
open PySem PySem.Spec PyProof.Rows L2
/-- two lists of truths -/
theorem pd_bls : ∀ (k : Nat) (h : Hm) (bs : List Bool), (bs.map D.bl).mapM (pdF h (k + 1)) = some (bs.map PyData.bool)
  | _, _, [] => rfl
  | k, h, b :: bs => by rw [List.map_cons, List.mapM_cons, pd_bls k h bs]; rfl
end MP
namespace MP
open PySem PySem.Spec PyProof.Rows L2
theorem eq_bls {n m : Nat} {h : Hm} {bs : List Bool} {Q : D → Hm → Prop} (h1 : getL h n = some (bs.map D.bl)) (h2 : getL h m = some (bs.map D.bl)) (s1 : SeqAt.shaped (.list (bs.map PyData.bool)) = true) (s2 : PyData.eqv (.list (bs.map PyData.bool)) (.list (bs.map PyData.bool)) = true) (q : Q (.bl true) h) : Ev (dEq (.loc n) (.loc m) h) Q := by
  have e : ∀ k, getL h k = some (bs.map D.bl) → pdF h 66 (.loc k) = some (.list (bs.map PyData.bool)) := fun k hk => by
    unfold pdF
    dsimp only
    rw [hk]
    show ((bs.map D.bl).mapM (pdF h (64 + 1))).map PyData.list = _
    rw [pd_bls]; rfl
  unfold dEq dEqG
  dsimp only
  rw [e n h1, e m h2]
  dsimp only
  rw [if_pos ⟨s1, s1⟩, s2]
  exact q
end MP

set_option Elab.async false
set_option linter.all false
set_option maxRecDepth 100000
set_option maxHeartbeats 4000000
namespace K00
open PySem PySem.Spec PyProof.Rows L2 MP
def topS (i : Nat) : Stmt := PySem.Challenge.pw_trialslaidout_k00_levels_and_fractions.main.body.getD i (.Pass ⟨0, 0, 0, 0⟩)
abbrev s_law_cells : Stmt := topS 21
abbrev N_law_cells : List Str := ["script", "most"]
theorem sc_law_cells : FnScope ["script", "most"] ["script", "most"] (defScope s_law_cells) := ⟨rfl, rfl, rfl, by decide +kernel, rfl, by decide +kernel, by decide +kernel⟩
abbrev s_law_pot : Stmt := topS 19
abbrev N_law_pot : List Str := ["script", "place", "cell", "own", "small"]
theorem sc_law_pot : FnScope ["script", "place", "cell", "own", "small"] ["script", "place"] (defScope s_law_pot) := ⟨rfl, rfl, rfl, by decide +kernel, rfl, by decide +kernel, by decide +kernel⟩
abbrev s_law_common : Stmt := topS 22
abbrev N_law_common : List Str := ["one", "other"]
theorem sc_law_common : FnScope ["one", "other"] ["one", "other"] (defScope s_law_common) := ⟨rfl, rfl, rfl, by decide +kernel, rfl, by decide +kernel, by decide +kernel⟩
abbrev s_law_reduced : Stmt := topS 23
abbrev N_law_reduced : List Str := ["top", "low", "by"]
theorem sc_law_reduced : FnScope ["top", "low", "by"] ["top", "low"] (defScope s_law_reduced) := ⟨rfl, rfl, rfl, by decide +kernel, rfl, by decide +kernel, by decide +kernel⟩
abbrev s_law_take : Stmt := topS 20
abbrev N_law_take : List Str := ["pot", "upto", "prime", "blend", "digit"]
theorem sc_law_take : FnScope ["pot", "upto", "prime", "blend", "digit"] ["pot", "upto"] (defScope s_law_take) := ⟨rfl, rfl, rfl, by decide +kernel, rfl, by decide +kernel, by decide +kernel⟩
abbrev s_read_integer : Stmt := topS 10
abbrev N_read_integer : List Str := ["text", "figures", "sign"]
theorem sc_read_integer : FnScope ["text", "figures", "sign"] ["text"] (defScope s_read_integer) := ⟨rfl, rfl, rfl, by decide +kernel, rfl, by decide +kernel, by decide +kernel⟩
abbrev s_common : Stmt := topS 13
abbrev N_common : List Str := ["one", "other"]
theorem sc_common : FnScope ["one", "other"] ["one", "other"] (defScope s_common) := ⟨rfl, rfl, rfl, by decide +kernel, rfl, by decide +kernel, by decide +kernel⟩
abbrev s_is_integer : Stmt := topS 9
abbrev N_is_integer : List Str := ["value"]
theorem sc_is_integer : FnScope ["value"] ["value"] (defScope s_is_integer) := ⟨rfl, rfl, rfl, by decide +kernel, rfl, by decide +kernel, by decide +kernel⟩
abbrev s_is_fraction : Stmt := topS 14
abbrev N_is_fraction : List Str := ["value", "part"]
theorem sc_is_fraction : FnScope ["value", "part"] ["value"] (defScope s_is_fraction) := ⟨rfl, rfl, rfl, by decide +kernel, rfl, by decide +kernel, by decide +kernel⟩
abbrev s_read_fraction : Stmt := topS 17
abbrev N_read_fraction : List Str := ["text", "parts", "numbers", "found", "part"]
theorem sc_read_fraction : FnScope ["text", "parts", "numbers", "found", "part"] ["text"] (defScope s_read_fraction) := ⟨rfl, rfl, rfl, by decide +kernel, rfl, by decide +kernel, by decide +kernel⟩
abbrev s_integer_text : Stmt := topS 15
abbrev N_integer_text : List Str := ["one", "parts", "rest"]
theorem sc_integer_text : FnScope ["one", "parts", "rest"] ["one"] (defScope s_integer_text) := ⟨rfl, rfl, rfl, by decide +kernel, rfl, by decide +kernel, by decide +kernel⟩
abbrev s_fraction_text : Stmt := topS 16
abbrev N_fraction_text : List Str := ["one"]
theorem sc_fraction_text : FnScope ["one"] ["one"] (defScope s_fraction_text) := ⟨rfl, rfl, rfl, by decide +kernel, rfl, by decide +kernel, by decide +kernel⟩
abbrev s_law_is_number_right : Stmt := topS 26
abbrev N_law_is_number_right : List Str := ["pot", "figures", "lap", "top", "low", "one", "text", "odd", "value", "values", "due"]
theorem sc_law_is_number_right : FnScope ["pot", "figures", "lap", "top", "low", "one", "text", "odd", "value", "values", "due"] ["pot"] (defScope s_law_is_number_right) := ⟨rfl, rfl, rfl, by decide +kernel, rfl, by decide +kernel, by decide +kernel⟩
abbrev s_law_word : Stmt := topS 24
abbrev N_law_word : List Str := ["pot", "signs", "lap"]
theorem sc_law_word : FnScope ["pot", "signs", "lap"] ["pot"] (defScope s_law_word) := ⟨rfl, rfl, rfl, by decide +kernel, rfl, by decide +kernel, by decide +kernel⟩
abbrev s_is_level : Stmt := topS 11
abbrev N_is_level : List Str := ["value", "sign"]
theorem sc_is_level : FnScope ["value", "sign"] ["value"] (defScope s_is_level) := ⟨rfl, rfl, rfl, by decide +kernel, rfl, by decide +kernel, by decide +kernel⟩
abbrev s_is_name : Stmt := topS 12
abbrev N_is_name : List Str := ["value"]
theorem sc_is_name : FnScope ["value"] ["value"] (defScope s_is_name) := ⟨rfl, rfl, rfl, by decide +kernel, rfl, by decide +kernel, by decide +kernel⟩
abbrev s_law_is_word_right : Stmt := topS 25
abbrev N_law_is_word_right : List Str := ["value", "small", "is_fine", "sign"]
theorem sc_law_is_word_right : FnScope ["value", "small", "is_fine", "sign"] ["value"] (defScope s_law_is_word_right) := ⟨rfl, rfl, rfl, by decide +kernel, rfl, by decide +kernel, by decide +kernel⟩
abbrev s_law_right : Stmt := topS 27
abbrev N_law_right : List Str := ["pot", "values", "lap", "value"]
theorem sc_law_right : FnScope ["pot", "values", "lap", "value"] ["pot"] (defScope s_law_right) := ⟨rfl, rfl, rfl, by decide +kernel, rfl, by decide +kernel, by decide +kernel⟩
abbrev s_law : Stmt := topS 28
abbrev N_law : List Str := ["script", "place", "pot", "lap"]
theorem sc_law : FnScope ["script", "place", "pot", "lap"] ["script"] (defScope s_law) := ⟨rfl, rfl, rfl, by decide +kernel, rfl, by decide +kernel, by decide +kernel⟩
def c_FIGURES : D := (.str "0123456789")
def c_SMALL : D := (.str "abcdefghijklmnopqrstuvwxyz")
def c_MOST_SIGNS : D := (.int 8)
def c_MOST_FIGURES : D := (.int 300)
def c_PART : D := (.int 10000000000000000000000000000000000000000000000000000000000000000000000000000000000000000000000000000000000000000000000000000000000000000000000000000000000000000000000000000000000000000000000000000000000000000000000000000000000000000000000000000000000000000000000000000000000000000000000000000000000000000000000000000000000000000000000000000000000000000000000000000000000000000000000000000000000000000000000000000000000000000000000000000000000000000000000000000000000000000000000000000000000000000000000000000000000000000000000000000000000000000000000000000000000000000000000000000000000000000000000000000000000000000000000000000000000000000000000000000000000000000000000000000000000000000000000000000000000000000000000000000000000000000000000000000000000000000000000000000000000000000000000000000000000000000000000000000000000000000000000000000000000000000000000000000000000000000000000000000000000000000000000000000000000000000000000000000000000000000000000000000000000000000000000000000000000000000000000000000000000000000000000000000000000000000000000000000000000000000000000000000000000000000000000000000000000000000000000000000000000000000000000000000000000000000000000000000000000000000000000000000000000000000000000000000000000000000000000000000000000000000000000000000000000000000000000000000000000000000000000000000000000000000000000000000000000000000000000000000000000000000000000000000000000000000000000000000000000000000000000000000000000000000000000000000000000000000000000000000000000000000000000000000000000000000000000000000000000000000000000000000000000000000000000000000000000000000000000000000000000000000000000000000000000000000000000000000000000000000000000000000000000000000000000000000000000000000000000000000000000000000000000000000000000000000000000000000000000000000000000000000000000000000000000000000000000000000000000000000000000000000000000000000000000000000000000000000000000000000000000000000000000000000000000000000000000000000000000000000000000000000000000000000000000000000000000000000000000000000000000000000000000000000000000000000000000000000000000000000000000000000000000000000000000000000000000000000000000000000000000000000000000000000000000000000000000000000000000000000000000000000000000000000000000000000000000000000000000000000000000000000000000000000000000000000000000000000000000000000000000000000000000000000000000000000000000000000000000000000000000000000000000000000000000000000000000000000000000000000000000000000000000000000000000000000000000000000000000000000000000000000000000000000000000000000000000000000000000000000000000000000000000000000000000000000000000000000000000000000000000000000000000000000000000000000000000000000000000000000000000000000000000000000000000000000000000000000000000000000000000000000000000000000000000000000000000000000000000000000000000000000000000000000000000000000000000000000000000000000000000000000000000000000000000000000000000000000000000000000000000000000000000000000000000000000000000000000000000000000000000000000000000000000000000000000000000000000000000000000000000000000000000000000000000000000000000000000000000000000000000000000000000000000000000000000000000000000000000000000000000000000000000000000000000000000000000000000000000000000000000000000000000000000000000000000000000000000000000000000000000000000000000000000000000000000000000000000000000000000000000000000000000000000000000000000000000000000000000000000000000000000000000000000000000000000000000000000000000000000000000000000000000000000000000000000000000000000000000000000000000000000000000000000000000000000000000000000000000000000000000000000000000000000000000000000000000000000000000000000000000000000000000000000000000000000000000000000000000000000000000000000000000000000000000000000000000000000000000000000000000000000000000000000000000000000000000000000000000000000000000000000000000000000000000000000000000000000000000000000000000000000000000000000000000000000000000000000000000000000000000000000000000000000000000000000000000000000)
def c_MINUS : D := (.str "-")
def c_STROKE : D := (.str "/")
structure Txt (K : PySem.W.Frag) (mg : Str → Option Value) : Prop where
  n_abs : mg "abs" = none
  n_all : mg "all" = none
  n_bool : mg "bool" = none
  n_int : mg "int" = none
  n_isinstance : mg "isinstance" = none
  n_len : mg "len" = none
  n_list : mg "list" = none
  n_max : mg "max" = none
  n_min : mg "min" = none
  n_range : mg "range" = none
  n_repr : mg "repr" = none
  n_str : mg "str" = none
  n_sum : mg "sum" = none
  n_tuple : mg "tuple" = none
  c_FIGURES : GlbE K mg "FIGURES" c_FIGURES
  c_SMALL : GlbE K mg "SMALL" c_SMALL
  c_MOST_SIGNS : GlbE K mg "MOST_SIGNS" c_MOST_SIGNS
  c_MOST_FIGURES : GlbE K mg "MOST_FIGURES" c_MOST_FIGURES
  c_PART : GlbE K mg "PART" c_PART
  c_MINUS : GlbE K mg "MINUS" c_MINUS
  c_STROKE : GlbE K mg "STROKE" c_STROKE
  g_gcd : mg "gcd" = some (.builtin "math.gcd")
  f_law_cells : FunE K mg "_law_cells" s_law_cells
  f_law_pot : FunE K mg "_law_pot" s_law_pot
  f_law_common : FunE K mg "_law_common" s_law_common
  f_law_reduced : FunE K mg "_law_reduced" s_law_reduced
  f_law_take : FunE K mg "_law_take" s_law_take
  f_read_integer : FunE K mg "read_integer" s_read_integer
  f_common : FunE K mg "common" s_common
  f_is_integer : FunE K mg "is_integer" s_is_integer
  f_is_fraction : FunE K mg "is_fraction" s_is_fraction
  f_read_fraction : FunE K mg "read_fraction" s_read_fraction
  f_integer_text : FunE K mg "integer_text" s_integer_text
  f_fraction_text : FunE K mg "fraction_text" s_fraction_text
  f_law_is_number_right : FunE K mg "_law_is_number_right" s_law_is_number_right
  f_law_word : FunE K mg "_law_word" s_law_word
  f_is_level : FunE K mg "is_level" s_is_level
  f_is_name : FunE K mg "is_name" s_is_name
  f_law_is_word_right : FunE K mg "_law_is_word_right" s_law_is_word_right
  f_law_right : FunE K mg "_law_right" s_law_right
  f_law : FunE K mg "law" s_law
theorem kb_law_common_2 {K : PySem.W.Frag} {f : Addr} {fd : FuncData} (F : Fun K "_law_common" "_law_common" s_law_common f fd) : KB K fd ["one", "other"] 2 [] [] :=
  kb_of F fun _ _ _ _ _ _ us ws h1 h2 => match us, ws, h1, h2 with | [_, _], [], _, _ => rfl
theorem kb_is_integer_1 {K : PySem.W.Frag} {f : Addr} {fd : FuncData} (F : Fun K "is_integer" "is_integer" s_is_integer f fd) : KB K fd ["value"] 1 [] [] :=
  kb_of F fun _ _ _ _ _ _ us ws h1 h2 => match us, ws, h1, h2 with | [_], [], _, _ => rfl
theorem kb_common_2 {K : PySem.W.Frag} {f : Addr} {fd : FuncData} (F : Fun K "common" "common" s_common f fd) : KB K fd ["one", "other"] 2 [] [] :=
  kb_of F fun _ _ _ _ _ _ us ws h1 h2 => match us, ws, h1, h2 with | [_, _], [], _, _ => rfl
theorem kb_read_integer_1 {K : PySem.W.Frag} {f : Addr} {fd : FuncData} (F : Fun K "read_integer" "read_integer" s_read_integer f fd) : KB K fd ["text"] 1 [] [] :=
  kb_of F fun _ _ _ _ _ _ us ws h1 h2 => match us, ws, h1, h2 with | [_], [], _, _ => rfl
theorem kb_is_fraction_1 {K : PySem.W.Frag} {f : Addr} {fd : FuncData} (F : Fun K "is_fraction" "is_fraction" s_is_fraction f fd) : KB K fd ["value"] 1 [] [] :=
  kb_of F fun _ _ _ _ _ _ us ws h1 h2 => match us, ws, h1, h2 with | [_], [], _, _ => rfl
theorem kb_integer_text_1 {K : PySem.W.Frag} {f : Addr} {fd : FuncData} (F : Fun K "integer_text" "integer_text" s_integer_text f fd) : KB K fd ["one"] 1 [] [] :=
  kb_of F fun _ _ _ _ _ _ us ws h1 h2 => match us, ws, h1, h2 with | [_], [], _, _ => rfl
theorem kb_law_take_2 {K : PySem.W.Frag} {f : Addr} {fd : FuncData} (F : Fun K "_law_take" "_law_take" s_law_take f fd) : KB K fd ["pot", "upto"] 2 [] [] :=
  kb_of F fun _ _ _ _ _ _ us ws h1 h2 => match us, ws, h1, h2 with | [_, _], [], _, _ => rfl
theorem kb_law_reduced_2 {K : PySem.W.Frag} {f : Addr} {fd : FuncData} (F : Fun K "_law_reduced" "_law_reduced" s_law_reduced f fd) : KB K fd ["top", "low"] 2 [] [] :=
  kb_of F fun _ _ _ _ _ _ us ws h1 h2 => match us, ws, h1, h2 with | [_, _], [], _, _ => rfl
theorem kb_fraction_text_0_one {K : PySem.W.Frag} {f : Addr} {fd : FuncData} (F : Fun K "fraction_text" "fraction_text" s_fraction_text f fd) : KB K fd ["one"] 0 ["one"] [0] :=
  kb_of F fun _ _ _ _ _ _ us ws h1 h2 => match us, ws, h1, h2 with | [], [_], _, _ => rfl
theorem kb_read_fraction_0_text {K : PySem.W.Frag} {f : Addr} {fd : FuncData} (F : Fun K "read_fraction" "read_fraction" s_read_fraction f fd) : KB K fd ["text"] 0 ["text"] [0] :=
  kb_of F fun _ _ _ _ _ _ us ws h1 h2 => match us, ws, h1, h2 with | [], [_], _, _ => rfl
theorem kb_read_fraction_1 {K : PySem.W.Frag} {f : Addr} {fd : FuncData} (F : Fun K "read_fraction" "read_fraction" s_read_fraction f fd) : KB K fd ["text"] 1 [] [] :=
  kb_of F fun _ _ _ _ _ _ us ws h1 h2 => match us, ws, h1, h2 with | [_], [], _, _ => rfl
theorem kb_is_fraction_0_value {K : PySem.W.Frag} {f : Addr} {fd : FuncData} (F : Fun K "is_fraction" "is_fraction" s_is_fraction f fd) : KB K fd ["value"] 0 ["value"] [0] :=
  kb_of F fun _ _ _ _ _ _ us ws h1 h2 => match us, ws, h1, h2 with | [], [_], _, _ => rfl
theorem kb_is_level_1 {K : PySem.W.Frag} {f : Addr} {fd : FuncData} (F : Fun K "is_level" "is_level" s_is_level f fd) : KB K fd ["value"] 1 [] [] :=
  kb_of F fun _ _ _ _ _ _ us ws h1 h2 => match us, ws, h1, h2 with | [_], [], _, _ => rfl
theorem kb_is_level_0_value {K : PySem.W.Frag} {f : Addr} {fd : FuncData} (F : Fun K "is_level" "is_level" s_is_level f fd) : KB K fd ["value"] 0 ["value"] [0] :=
  kb_of F fun _ _ _ _ _ _ us ws h1 h2 => match us, ws, h1, h2 with | [], [_], _, _ => rfl
theorem kb_is_name_0_value {K : PySem.W.Frag} {f : Addr} {fd : FuncData} (F : Fun K "is_name" "is_name" s_is_name f fd) : KB K fd ["value"] 0 ["value"] [0] :=
  kb_of F fun _ _ _ _ _ _ us ws h1 h2 => match us, ws, h1, h2 with | [], [_], _, _ => rfl
theorem kb_law_word_1 {K : PySem.W.Frag} {f : Addr} {fd : FuncData} (F : Fun K "_law_word" "_law_word" s_law_word f fd) : KB K fd ["pot"] 1 [] [] :=
  kb_of F fun _ _ _ _ _ _ us ws h1 h2 => match us, ws, h1, h2 with | [_], [], _, _ => rfl
theorem kb_law_is_word_right_1 {K : PySem.W.Frag} {f : Addr} {fd : FuncData} (F : Fun K "_law_is_word_right" "_law_is_word_right" s_law_is_word_right f fd) : KB K fd ["value"] 1 [] [] :=
  kb_of F fun _ _ _ _ _ _ us ws h1 h2 => match us, ws, h1, h2 with | [_], [], _, _ => rfl
theorem kb_law_is_number_right_1 {K : PySem.W.Frag} {f : Addr} {fd : FuncData} (F : Fun K "_law_is_number_right" "_law_is_number_right" s_law_is_number_right f fd) : KB K fd ["pot"] 1 [] [] :=
  kb_of F fun _ _ _ _ _ _ us ws h1 h2 => match us, ws, h1, h2 with | [_], [], _, _ => rfl
theorem kb_law_cells_2 {K : PySem.W.Frag} {f : Addr} {fd : FuncData} (F : Fun K "_law_cells" "_law_cells" s_law_cells f fd) : KB K fd ["script", "most"] 2 [] [] :=
  kb_of F fun _ _ _ _ _ _ us ws h1 h2 => match us, ws, h1, h2 with | [_, _], [], _, _ => rfl
theorem kb_law_pot_2 {K : PySem.W.Frag} {f : Addr} {fd : FuncData} (F : Fun K "_law_pot" "_law_pot" s_law_pot f fd) : KB K fd ["script", "place"] 2 [] [] :=
  kb_of F fun _ _ _ _ _ _ us ws h1 h2 => match us, ws, h1, h2 with | [_, _], [], _, _ => rfl
theorem kb_law_right_1 {K : PySem.W.Frag} {f : Addr} {fd : FuncData} (F : Fun K "_law_right" "_law_right" s_law_right f fd) : KB K fd ["pot"] 1 [] [] :=
  kb_of F fun _ _ _ _ _ _ us ws h1 h2 => match us, ws, h1, h2 with | [_], [], _, _ => rfl
/-! ### the mirror -/
def b_law_cells : SM :=
    (sRet (eNew (lRg1 (eBin dMax (eC (.int 1)) (eBin dMin (eVar 1) (eU dLen (eVar 0)))))))
def m_law_cells : List D → Hm → Out D := runB 2 b_law_cells
def b_law_pot : SM :=
    (sSeq (sSet 2 (eIf (bOf (eBin dLt (eVar 1) (eU dLen (eVar 0)))) (eBin dIx (eVar 0) (eVar 1)) (eBin dAdd (eBin dAdd (eBin dMod (eUQ qSum (eSeqL (lSl (eVar 0) oNo (oIs (eC (.int 1)))))) (eC (.int 1000003))) (eBin dMul (eC (.int 41979)) (eVar 1))) (eC (.int 12257)))))
    (sSeq (sSet 3 (eBin dMul (eBin dMod (eU dIntS (eU dAbs (eVar 2))) (eBin dPow (eBin dPow (eC (.int 10)) (eC (.int 60))) (eC (.int 5)))) (eU dIntS (eBin dGe (eU dAbs (eVar 2)) (eBin dPow (eC (.int 10)) (eC (.int 18)))))))
    (sSeq (sSet 4 (eBin dMod (eU dIntS (eVar 2)) (eC (.int 2305843009213693951))))
    (sRet (eNew (lDisp (aCons (eVar 3) (aCons (eBin dMod (eU dIntS (eBin dAdd (eBin dAdd (eBin dMul (eVar 4) (eC (.int 134481))) (eBin dMul (eBin dMul (eC (.int 30515)) (eVar 1)) (eVar 1))) (eC (.int 15371)))) (eC (.int 2305843009213693921))) (aCons (eC (.int 0)) aNil)))))))))
def m_law_pot : List D → Hm → Out D := runB 5 b_law_pot
def b_law_common : SM :=
    (sSeq (sWh (bOf (eBin dNe (eVar 1) (eC (.int 0)))) (sPar 0 1 (eVar 1) (eBin dMod (eVar 0) (eVar 1))) 1000000)
    (sRet (eU dAbs (eVar 0))))
def m_law_common : List D → Hm → Out D := runB 2 b_law_common
def b_law_reduced : SM :=
    (sSeq (sSet 2 (eCall (lcall m_law_common) 2 0 [] (aCons (eVar 0) (aCons (eVar 1) aNil)) aNil))
    (sRet (eIf (bOf (eBin dGt (eVar 1) (eC (.int 0)))) (eTup (aCons (eU dIntS (eBin dFdiv (eVar 0) (eVar 2))) (aCons (eU dIntS (eBin dFdiv (eVar 1) (eVar 2))) aNil))) (eTup (aCons (eU dIntS (eBin dFdiv (eNeg (eVar 0)) (eVar 2))) (aCons (eU dIntS (eBin dFdiv (eNeg (eVar 1)) (eVar 2))) aNil))))))
def m_law_reduced : List D → Hm → Out D := runB 3 b_law_reduced
def b_law_take : SM :=
    (sSeq (sIf (bOf (eBin dGt (eBin dIx (eVar 0) (eC (.int 0))) (eC (.int 0)))) (sSeq (sSet 4 (eBin dMod (eU dIntS (eBin dIx (eVar 0) (eC (.int 0)))) (eVar 1)))
    (sSeq (sPut (eVar 0) (eC (.int 0)) (eBin dFdiv (eBin dIx (eVar 0) (eC (.int 0))) (eVar 1)))
    (sRet (eVar 4)))) sNx)
    (sSeq (sPut (eVar 0) (eC (.int 2)) (eBin dAdd (eBin dIx (eVar 0) (eC (.int 2))) (eC (.int 1))))
    (sSeq (sSet 2 (eBin dIx (eNew (lDisp (aCons (eC (.int 2147483647)) (aCons (eC (.int 2147483629)) (aCons (eC (.int 2147483587)) (aCons (eC (.int 2147483579)) (aCons (eC (.int 2147483563)) aNil))))))) (eBin dMod (eU dIntS (eBin dIx (eVar 0) (eC (.int 2)))) (eC (.int 5)))))
    (sSeq (sSet 3 (eBin dMod (eU dIntS (eBin dPow (eU dIntS (eBin dAdd (eBin dAdd (eBin dIx (eVar 0) (eC (.int 1))) (eBin dMul (eBin dMul (eC (.int 129545)) (eBin dIx (eVar 0) (eC (.int 2)))) (eBin dIx (eVar 0) (eC (.int 2))))) (eC (.int 7933)))) (eC (.int 3)))) (eVar 2)))
    (sSeq (sSet 3 (eBin dMod (eU dIntS (eBin dMul (eVar 3) (eBin dAdd (eBin dMod (eU dIntS (eVar 3)) (eC (.int 36315))) (eBin dMul (eC (.int 4427)) (eBin dIx (eVar 0) (eC (.int 2))))))) (eC (.int 2305843009213693907))))
    (sRet (eBin dMod (eU dIntS (eBin dFdiv (eVar 3) (eC (.int 11857)))) (eVar 1))))))))
def m_law_take : List D → Hm → Out D := runB 5 b_law_take
def b_read_integer : SM :=
    (sSeq (sSet 1 (eIf (bOf (eBin dEq (eSl dSl (eVar 0) oNo (oIs (eC (.int 1)))) (eC c_MINUS))) (eSl dSl (eVar 0) (oIs (eC (.int 1))) oNo) (eVar 0)))
    (sSeq (sIf (bOr (bNot (bOf (eChain dLe dLe (eC (.int 1)) (eU dLen (eVar 1)) (eC c_MOST_FIGURES)))) (bNot (bTru (eUQ qAll (eSeqL (lComp (gN 2) (iVal (eVar 1)) bYes (eBin dIn (eVar 2) (eC c_FIGURES)) [2])))))) (sRet (eC .non)) sNx)
    (sSeq (sIf (bAnd (bOf (eBin dEq (eBin dIx (eVar 1) (eC (.int 0))) (eC (.str "0")))) (bOr (bOf (eBin dGt (eU dLen (eVar 1)) (eC (.int 1)))) (bOf (eBin dNe (eVar 0) (eVar 1))))) (sRet (eC .non)) sNx)
    (sRet (eU dIntS (eVar 0))))))
def m_read_integer : List D → Hm → Out D := runB 3 b_read_integer
def b_common : SM :=
    (sRet (eBin dGcd (eVar 0) (eVar 1)))
def m_common : List D → Hm → Out D := runB 2 b_common
def b_is_integer : SM :=
    (sRet (eAnd (eBin dIsi (eVar 0) (eC (.ty "int"))) (eNot (eBin dIsi (eVar 0) (eC (.ty "bool"))))))
def m_is_integer : List D → Hm → Out D := runB 1 b_is_integer
def b_is_fraction : SM :=
    (sSeq (sIf (bOr (bNot (bTru (eBin dIsi (eVar 0) (eC (.ty "tuple"))))) (bOr (bOf (eBin dNe (eU dLen (eVar 0)) (eC (.int 2)))) (bNot (bTru (eUQ qAll (eSeqL (lComp (gN 1) (iVal (eVar 0)) bYes (eCall (lcall m_is_integer) 1 0 [] (aCons (eVar 1) aNil) aNil) [1]))))))) (sRet (eC (.bl false))) sNx)
    (sRet (eAnd (eBin dGe (eBin dIx (eVar 0) (eC (.int 1))) (eC (.int 1))) (eBin dEq (eCall (lcall m_common) 2 0 [] (aCons (eBin dIx (eVar 0) (eC (.int 0))) (aCons (eBin dIx (eVar 0) (eC (.int 1))) aNil)) aNil) (eC (.int 1))))))
def m_is_fraction : List D → Hm → Out D := runB 2 b_is_fraction
def b_read_fraction : SM :=
    (sSeq (sSet 1 (eIf (bTru (eBin dIsi (eVar 0) (eC (.ty "str")))) (eNew (lSplit (eVar 0) (eC c_STROKE))) (eNew (lDisp aNil))))
    (sSeq (sSet 2 (eNew (lComp (gN 4) (iVal (eVar 1)) bYes (eCall (lcall m_read_integer) 1 0 [] (aCons (eVar 4) aNil) aNil) [4])))
    (sSeq (sIf (bOr (bNot (bOf (eChain dLe dLe (eC (.int 1)) (eU dLen (eVar 1)) (eC (.int 2))))) (bOf (eBin dIn (eC .non) (eVar 2)))) (sRet (eC .non)) sNx)
    (sSeq (sIf (bOf (eBin dEq (eU dLen (eVar 1)) (eC (.int 1)))) (sRet (eTup (aCons (eBin dIx (eVar 2) (eC (.int 0))) (aCons (eC (.int 1)) aNil)))) sNx)
    (sSeq (sSet 3 (eTup (aCons (eBin dIx (eVar 2) (eC (.int 0))) (aCons (eBin dIx (eVar 2) (eC (.int 1))) aNil))))
    (sRet (eIf (bAnd (bOf (eBin dGt (eBin dIx (eVar 2) (eC (.int 1))) (eC (.int 1)))) (bTru (eCall (lcall m_is_fraction) 1 0 [] (aCons (eVar 3) aNil) aNil))) (eVar 3) (eC .non))))))))
def m_read_fraction : List D → Hm → Out D := runB 5 b_read_fraction
def b_integer_text (self : List D → Hm → Out D) : SM :=
    (sSeq (sIf (bOf (eBin dLt (eVar 0) (eC (.int 0)))) (sRet (eBin dAdd (eC c_MINUS) (eCall (lcall self) 1 0 [] (aCons (eBin dSub (eC (.int 0)) (eVar 0)) aNil) aNil))) sNx)
    (sSeq (sPar 1 2 (eNew (lDisp aNil)) (eVar 0))
    (sSeq (sWh (bOf (eBin dGe (eVar 2) (eC c_PART))) (sSeq (sEx (eMt dApp (eVar 1) (eSl dSl (eU dStrR (eBin dAdd (eBin dMod (eVar 2) (eC c_PART)) (eC c_PART))) (oIs (eC (.int 1))) oNo)))
    (sSet 2 (eBin dFdiv (eVar 2) (eC c_PART)))) 1000000)
    (sRet (eBin dAdd (eU dStrR (eVar 2)) (eJoin (eC (.str "")) (eSeqL (lRev (eVar 1)))))))))
def m_integer_text : Nat → List D → Hm → Out D
  | 0 => fun _ _ => .stuck
  | n + 1 => runB 3 (b_integer_text (m_integer_text n))
def b_fraction_text : SM :=
    (sRet (eIf (bOf (eBin dEq (eBin dIx (eVar 0) (eC (.int 1))) (eC (.int 1)))) (eCall (lcall (m_integer_text 3)) 1 0 [] (aCons (eBin dIx (eVar 0) (eC (.int 0))) aNil) aNil) (eBin dAdd (eBin dAdd (eCall (lcall (m_integer_text 3)) 1 0 [] (aCons (eBin dIx (eVar 0) (eC (.int 0))) aNil) aNil) (eC c_STROKE)) (eCall (lcall (m_integer_text 3)) 1 0 [] (aCons (eBin dIx (eVar 0) (eC (.int 1))) aNil) aNil))))
def m_fraction_text : List D → Hm → Out D := runB 1 b_fraction_text
def b_law_is_number_right : SM :=
    (sSeq (sSet 1 (eBin dPow (eC (.int 10)) (eC (.int 60))))
    (sSeq (sFor (gN 2) (iNew (lRng1 (eCall (lcall m_law_take) 2 0 [] (aCons (eVar 0) (aCons (eC (.int 5)) aNil)) aNil))) (sSet 1 (eBin dMul (eVar 1) (eBin dPow (eC (.int 10)) (eC (.int 48))))))
    (sSeq (sPar 3 4 (eU dIntS (eBin dSub (eCall (lcall m_law_take) 2 0 [] (aCons (eVar 0) (aCons (eC (.int 2000)) aNil)) aNil) (eC (.int 1000)))) (eU dIntS (eBin dAdd (eC (.int 1)) (eCall (lcall m_law_take) 2 0 [] (aCons (eVar 0) (aCons (eC (.int 900)) aNil)) aNil))))
    (sSeq (sSet 5 (eCall (lcall m_law_reduced) 2 0 [] (aCons (eIf (bOf (eBin dEq (eCall (lcall m_law_take) 2 0 [] (aCons (eVar 0) (aCons (eC (.int 3)) aNil)) aNil) (eC (.int 0)))) (eBin dAdd (eBin dMul (eVar 3) (eVar 1)) (eC (.int 1))) (eVar 3)) (aCons (eVar 4) aNil)) aNil))
    (sSeq (sSet 6 (eIf (bOf (eBin dEq (eBin dIx (eVar 5) (eC (.int 1))) (eC (.int 1)))) (eU dStrR (eBin dIx (eVar 5) (eC (.int 0)))) (eBin dAdd (eBin dAdd (eU dStrR (eBin dIx (eVar 5) (eC (.int 0)))) (eC (.str "/"))) (eU dStrR (eBin dIx (eVar 5) (eC (.int 1)))))))
    (sSeq (sIf (bOr (bOf (eBin dNe (eCall (lcall m_fraction_text) 0 1 [0] aNil (aCons (eVar 5) aNil)) (eVar 6))) (bOf (eBin dNe (eU dRepr (eCall (lcall m_read_fraction) 0 1 [0] aNil (aCons (eVar 6) aNil))) (eU dRepr (eVar 5))))) (sRet (eC (.bl false))) sNx)
    (sSeq (sSet 7 (eNew (lDisp (aCons (eBin dAdd (eVar 6) (eC (.str "/1"))) (aCons (eBin dAdd (eC (.str "+")) (eVar 6)) (aCons (eBin dAdd (eC (.str " ")) (eVar 6)) (aCons (eBin dAdd (eVar 6) (eC (.str "/0"))) (aCons (eBin dAdd (eC (.str "0")) (eVar 6)) (aCons (eC (.str "-0")) (aCons (eC (.str "2/4")) (aCons (eC (.str "1/-2")) (aCons (eC (.str "")) (aCons (eC (.str "/")) (aCons (eVar 5) (aCons (eC .non) (aCons (eC (.int 5)) aNil))))))))))))))))
    (sSeq (sEx (eExt (eVar 7) (lDisp (aCons (eBin dMulS (eC (.str "7")) (eC (.int 301))) (aCons (eBin dAdd (eC (.str "1/")) (eBin dMulS (eC (.str "9")) (eC (.int 301)))) aNil)))))
    (sSeq (sSet 8 (eBin dIx (eVar 7) (eCall (lcall m_law_take) 2 0 [] (aCons (eVar 0) (aCons (eU dLen (eVar 7)) aNil)) aNil)))
    (sSeq (sIf (bOf (eBin (dIsN fun b => !b) (eCall (lcall m_read_fraction) 1 0 [] (aCons (eVar 8) aNil) aNil) (eC .non))) (sRet (eC (.bl false))) sNx)
    (sSeq (sSet 9 (eNew (lDisp (aCons (eVar 5) (aCons (eTup (aCons (eBin dMul (eBin dIx (eVar 5) (eC (.int 0))) (eC (.int 2))) (aCons (eBin dMul (eBin dIx (eVar 5) (eC (.int 1))) (eC (.int 2))) aNil))) (aCons (eNew (lOf (eSeq (eVar 5)))) (aCons (eBin dAdd (eVar 5) (eTup (aCons (eC (.int 1)) aNil))) (aCons (eTup (aCons (eBin dIx (eVar 5) (eC (.int 0))) (aCons (eC (.int 0)) aNil))) (aCons (eTup (aCons (eBin dIx (eVar 5) (eC (.int 0))) (aCons (eNeg (eBin dIx (eVar 5) (eC (.int 1)))) aNil))) aNil)))))))))
    (sSeq (sEx (eExt (eVar 9) (lDisp (aCons (eTup (aCons (eC (.bl true)) (aCons (eC (.int 1)) aNil))) (aCons (eTup (aCons (eC (.int 1)) (aCons (eC (.bl true)) aNil))) aNil)))))
    (sSeq (sEx (eExt (eVar 9) (lDisp (aCons (eU dStrR (eVar 5)) (aCons (eC .non) (aCons (eBin dIx (eVar 5) (eC (.int 0))) (aCons (eTup (aCons (eC (.int 0)) (aCons (eC (.int 2)) aNil))) (aCons (eTup (aCons (eC (.int 0)) (aCons (eC (.int 1)) aNil))) aNil))))))))
    (sSeq (sSet 10 (eNew (lDisp (aCons (eC (.bl true)) (aCons (eC (.bl false)) (aCons (eC (.bl false)) (aCons (eC (.bl false)) (aCons (eC (.bl false)) (aCons (eC (.bl false)) (aCons (eC (.bl false)) (aCons (eC (.bl false)) (aCons (eC (.bl false)) (aCons (eC (.bl false)) (aCons (eC (.bl false)) (aCons (eC (.bl false)) (aCons (eC (.bl true)) aNil))))))))))))))))
    (sRet (eBin dEq (eNew (lComp (gN 8) (iVal (eVar 9)) bYes (eCall (lcall m_is_fraction) 0 1 [0] aNil (aCons (eVar 8) aNil)) [8])) (eVar 10)))))))))))))))))
def m_law_is_number_right : List D → Hm → Out D := runB 11 b_law_is_number_right
def b_law_word : SM :=
    (sSeq (sSet 1 (eC (.str "abz019_A- ")))
    (sRet (eJoin (eC (.str "")) (eSeqL (lComp (gN 2) (iNew (lRng1 (eCall (lcall m_law_take) 2 0 [] (aCons (eVar 0) (aCons (eC (.int 11)) aNil)) aNil))) bYes (eBin dIx (eVar 1) (eCall (lcall m_law_take) 2 0 [] (aCons (eVar 0) (aCons (eIf (bOf (eBin dEq (eCall (lcall m_law_take) 2 0 [] (aCons (eVar 0) (aCons (eC (.int 6)) aNil)) aNil) (eC (.int 0)))) (eC (.int 10)) (eC (.int 6))) aNil)) aNil)) [2])))))
def m_law_word : List D → Hm → Out D := runB 3 b_law_word
def b_is_level : SM :=
    (sSeq (sIf (bOr (bNot (bTru (eBin dIsi (eVar 0) (eC (.ty "str"))))) (bNot (bOf (eChain dLe dLe (eC (.int 1)) (eU dLen (eVar 0)) (eC c_MOST_SIGNS))))) (sRet (eC (.bl false))) sNx)
    (sRet (eUQ qAll (eSeqL (lComp (gN 1) (iVal (eVar 0)) bYes (eOr (eBin dIn (eVar 1) (eC c_SMALL)) (eBin dIn (eVar 1) (eC c_FIGURES))) [1])))))
def m_is_level : List D → Hm → Out D := runB 2 b_is_level
def b_is_name : SM :=
    (sRet (eAnd (eCall (lcall m_is_level) 1 0 [] (aCons (eVar 0) aNil) aNil) (eBin dIn (eBin dIx (eVar 0) (eC (.int 0))) (eC c_SMALL))))
def m_is_name : List D → Hm → Out D := runB 1 b_is_name
def b_law_is_word_right : SM :=
    (sSeq (sSet 1 (eC (.str "abcdefghijklmnopqrstuvwxyz")))
    (sSeq (sSet 2 (eAnd (eBin dIsi (eVar 0) (eC (.ty "str"))) (eChain dLe dLe (eC (.int 1)) (eU dLen (eVar 0)) (eC (.int 8)))))
    (sSeq (sSet 2 (eAnd (eVar 2) (eUQ qAll (eSeqL (lComp (gN 3) (iVal (eVar 0)) bYes (eBin dIn (eVar 3) (eBin dAdd (eVar 1) (eC (.str "0123456789")))) [3])))))
    (sSeq (sIf (bOf (eBin dNe (eCall (lcall m_is_level) 0 1 [0] aNil (aCons (eVar 0) aNil)) (eVar 2))) (sRet (eC (.bl false))) sNx)
    (sRet (eBin dEq (eCall (lcall m_is_name) 0 1 [0] aNil (aCons (eVar 0) aNil)) (eAnd (eVar 2) (eBin dIn (eBin dIx (eVar 0) (eC (.int 0))) (eVar 1)))))))))
def m_law_is_word_right : List D → Hm → Out D := runB 4 b_law_is_word_right
def b_law_right : SM :=
    (sSeq (sSet 1 (eNew (lCat (lComp (gN 2) (iNew (lRng1 (eC (.int 8)))) bYes (eCall (lcall m_law_word) 1 0 [] (aCons (eVar 0) aNil) aNil) [2]) (lDisp (aCons (eC .non) (aCons (eC (.int 5)) (aCons (eTup (aCons (eC (.str "a")) aNil)) (aCons (eC (.str "abcdefgh")) (aCons (eC (.str "abcdefghi")) (aCons (eC (.str "a")) (aCons (eC (.str "1")) (aCons (eC (.str "")) aNil))))))))))))
    (sRet (eAnd (eUQ qAll (eSeqL (lComp (gN 3) (iVal (eVar 1)) bYes (eCall (lcall m_law_is_word_right) 1 0 [] (aCons (eVar 3) aNil) aNil) [3]))) (eCall (lcall m_law_is_number_right) 1 0 [] (aCons (eVar 0) aNil) aNil))))
def m_law_right : List D → Hm → Out D := runB 4 b_law_right
def b_law : SM :=
    (sSeq (sFor (gN 1) (iVal (eCall (lcall m_law_cells) 2 0 [] (aCons (eVar 0) (aCons (eC (.int 3)) aNil)) aNil)) (sSeq (sSet 2 (eCall (lcall m_law_pot) 2 0 [] (aCons (eVar 0) (aCons (eVar 1) aNil)) aNil))
    (sIf (bNot (bTru (eUQ qAll (eSeqL (lComp (gN 3) (iNew (lRng1 (eC (.int 4)))) bYes (eCall (lcall m_law_right) 1 0 [] (aCons (eVar 2) aNil) aNil) [3]))))) (sRet (eC (.bl false))) sNx)))
    (sRet (eC (.bl true))))
def m_law : List D → Hm → Out D := runB 4 b_law
/-! ### the derivations -/
section
variable {P : Program} {w : World} {K : PySem.W.Frag} {mg : Str → Option Value} {base : Heap}
theorem D_law_cells (T : Txt K mg) : DefG P w K mg base "_law_cells" s_law_cells 1 ["script", "most"] m_law_cells :=
  defG T.f_law_cells sc_law_cells fun cdv A outer s H E hr hg tk po =>
      (jss_one (js_ret (j_new (jl_listR1 rfl (j_max2 rfl j_int (j_min2 rfl (j_var 1 (pv 1)) (j_len (j_var 0 (pv 0)) T.n_len) T.n_min) T.n_max) T.n_list T.n_range))))
theorem D_law_pot (T : Txt K mg) : DefG P w K mg base "_law_pot" s_law_pot 1 ["script", "place"] m_law_pot :=
  defG T.f_law_pot sc_law_pot fun cdv A outer s H E hr hg tk po =>
      (jss_cons (js_set (i := 2) sc_law_pot.nd (j_if (jt_cmp op_lt op_dCmp (j_var 1 (pv 1)) (j_len (j_var 0 (pv 0)) T.n_len) (nomark _)) (j_ix (j_var 0 (pv 0)) (j_var 1 (pv 1))) (j_add (j_add (j_mod (j_sum rfl (jq_ofL (jl_sl (j_var 0 (pv 0)) jo_no (jo_is j_int))) T.n_sum) j_int) (j_mul j_int (j_var 1 (pv 1)))) j_int)))
      (jss_cons (js_set (i := 3) sc_law_pot.nd (j_mul (j_mod (j_intS (j_abs (j_var 2 (pv 2)) T.n_abs) T.n_int) (j_pow (j_pow j_int j_int) j_int)) (j_intS (j_cmp op_ge op_dCmp (j_abs (j_var 2 (pv 2)) T.n_abs) (j_pow j_int j_int) (nomark _)) T.n_int)))
      (jss_cons (js_set (i := 4) sc_law_pot.nd (j_mod (j_intS (j_var 2 (pv 2)) T.n_int) j_int))
      (jss_one (js_ret (j_new (jl_disp (ja_cons (j_var 3 (pv 3)) (ja_cons (j_mod (j_intS (j_add (j_add (j_mul (j_var 4 (pv 4)) j_int) (j_mul (j_mul j_int (j_var 1 (pv 1))) (j_var 1 (pv 1)))) j_int) T.n_int) j_int) (ja_cons j_int ja_nil))))))))))
theorem D_law_common (T : Txt K mg) : DefG P w K mg base "_law_common" s_law_common 1 ["one", "other"] m_law_common :=
  defG T.f_law_common sc_law_common fun cdv A outer s H E hr hg tk po =>
      (jss_cons (js_while 1000000 po (jt_ne hr.units (j_var 1 (pv 1)) j_int) (jss_one (js_par (i := 0) (j := 1) rfl sc_law_common.nd (j_var 1 (pv 1)) (j_mod (j_var 0 (pv 0)) (j_var 1 (pv 1))))))
      (jss_one (js_ret (j_abs (j_var 0 (pv 0)) T.n_abs))))
theorem D_law_reduced (T : Txt K mg) (D_law_common : DefG P w K mg base "_law_common" s_law_common 1 ["one", "other"] m_law_common) : DefG P w K mg base "_law_reduced" s_law_reduced 2 ["top", "low"] m_law_reduced :=
  defG T.f_law_reduced sc_law_reduced fun cdv A outer s H E hr hg tk po =>
      (jss_cons (js_set (i := 2) sc_law_reduced.nd (j_callD D_law_common by_lcall (by decide) hr hg tk (fun _ _ F => kb_law_common_2 F) (ja_cons (j_var 0 (pv 0)) (ja_cons (j_var 1 (pv 1)) ja_nil)) jp_nil))
      (jss_one (js_ret (j_if (jt_cmp op_gt op_dCmp (j_var 1 (pv 1)) j_int (nomark _)) (j_tup (ja_cons (j_intS (j_fdiv (j_var 0 (pv 0)) (j_var 2 (pv 2))) T.n_int) (ja_cons (j_intS (j_fdiv (j_var 1 (pv 1)) (j_var 2 (pv 2))) T.n_int) ja_nil))) (j_tup (ja_cons (j_intS (j_fdiv (j_neg (j_var 0 (pv 0))) (j_var 2 (pv 2))) T.n_int) (ja_cons (j_intS (j_fdiv (j_neg (j_var 1 (pv 1))) (j_var 2 (pv 2))) T.n_int) ja_nil)))))))
theorem D_law_take (T : Txt K mg) : DefG P w K mg base "_law_take" s_law_take 1 ["pot", "upto"] m_law_take :=
  defG T.f_law_take sc_law_take fun cdv A outer s H E hr hg tk po =>
      (jss_cons (js_if (jt_cmp op_gt op_dCmp (j_ix (j_var 0 (pv 0)) j_int) j_int (nomark _)) (jss_cons (js_set (i := 4) sc_law_take.nd (j_mod (j_intS (j_ix (j_var 0 (pv 0)) j_int) T.n_int) (j_var 1 (pv 1))))
      (jss_cons (js_put (j_fdiv (j_ix (j_var 0 (pv 0)) j_int) (j_var 1 (pv 1))) (j_var 0 (pv 0)) j_int)
      (jss_one (js_ret (j_var 4 (pv 4)))))) jss_nil)
      (jss_cons (js_put (j_add (j_ix (j_var 0 (pv 0)) j_int) j_int) (j_var 0 (pv 0)) j_int)
      (jss_cons (js_set (i := 2) sc_law_take.nd (j_ix (j_new (jl_disp (ja_cons j_int (ja_cons j_int (ja_cons j_int (ja_cons j_int (ja_cons j_int ja_nil))))))) (j_mod (j_intS (j_ix (j_var 0 (pv 0)) j_int) T.n_int) j_int)))
      (jss_cons (js_set (i := 3) sc_law_take.nd (j_mod (j_intS (j_pow (j_intS (j_add (j_add (j_ix (j_var 0 (pv 0)) j_int) (j_mul (j_mul j_int (j_ix (j_var 0 (pv 0)) j_int)) (j_ix (j_var 0 (pv 0)) j_int))) j_int) T.n_int) j_int) T.n_int) (j_var 2 (pv 2))))
      (jss_cons (js_set (i := 3) sc_law_take.nd (j_mod (j_intS (j_mul (j_var 3 (pv 3)) (j_add (j_mod (j_intS (j_var 3 (pv 3)) T.n_int) j_int) (j_mul j_int (j_ix (j_var 0 (pv 0)) j_int)))) T.n_int) j_int))
      (jss_one (js_ret (j_mod (j_intS (j_fdiv (j_var 3 (pv 3)) j_int) T.n_int) (j_var 1 (pv 1))))))))))
theorem D_read_integer (T : Txt K mg) : DefG P w K mg base "read_integer" s_read_integer 1 ["text"] m_read_integer :=
  defG T.f_read_integer sc_read_integer fun cdv A outer s H E hr hg tk po =>
      (jss_cons (js_set (i := 1) sc_read_integer.nd (j_if (jt_eq hr.units (j_sl (j_var 0 (pv 0)) jo_no (jo_is j_int)) (j_globE T.c_MINUS)) (j_sl (j_var 0 (pv 0)) (jo_is j_int) jo_no) (j_var 0 (pv 0))))
      (jss_cons (js_if (jt_w (jw_or (jt_not (jt_chain pure_dCmp noexc_dCmp op_le op_dCmp op_le op_dCmp j_int (j_len (j_var 1 (pv 1)) T.n_len) (j_globE T.c_MOST_FIGURES))) (jw_or1 (jt_not (jt_tru (j_all rfl (jq_ofL (jl_comp (own := [("sign", 2)]) rfl sc_read_integer.nd (ji_val (j_var 1 (pv 1))) (blkOk_by (N := N_read_integer) (sc := defScope s_read_integer) (by decide +kernel)) (fun _ _ _ _ _ => (jg_name sc_read_integer.nd)) (fun _ _ _ _ _ => jts_nil) (fun _ _ _ _ _ => (j_in (in_hu hr) (j_var 2 (pv 2)) (j_globE T.c_FIGURES))) (by decide))) T.n_all)))))) (jss_one (js_ret j_non)) jss_nil)
      (jss_cons (js_if (jt_w (jw_and (jt_eq hr.units (j_ix (j_var 1 (pv 1)) j_int) j_str) (jw_and1 (jt_w (jw_or (jt_cmp op_gt op_dCmp (j_len (j_var 1 (pv 1)) T.n_len) j_int (nomark _)) (jw_or1 (jt_ne hr.units (j_var 0 (pv 0)) (j_var 1 (pv 1))))))))) (jss_one (js_ret j_non)) jss_nil)
      (jss_one (js_ret (j_intS (j_var 0 (pv 0)) T.n_int))))))
theorem D_common (T : Txt K mg) : DefG P w K mg base "common" s_common 1 ["one", "other"] m_common :=
  defG T.f_common sc_common fun cdv A outer s H E hr hg tk po =>
      (jss_one (js_ret (j_gcd (j_var 0 (pv 0)) (j_var 1 (pv 1)) T.g_gcd)))
theorem D_is_integer (T : Txt K mg) : DefG P w K mg base "is_integer" s_is_integer 1 ["value"] m_is_integer :=
  defG T.f_is_integer sc_is_integer fun cdv A outer s H E hr hg tk po =>
      (jss_one (js_ret (j_and (j_isi (j_var 0 (pv 0)) (j_tyInt T.n_int) T.n_isinstance) (j_one (j_not (j_isi (j_var 0 (pv 0)) (j_tyBool T.n_bool) T.n_isinstance))))))
theorem D_is_fraction (T : Txt K mg) (D_common : DefG P w K mg base "common" s_common 1 ["one", "other"] m_common) (D_is_integer : DefG P w K mg base "is_integer" s_is_integer 1 ["value"] m_is_integer) : DefG P w K mg base "is_fraction" s_is_fraction 2 ["value"] m_is_fraction :=
  defG T.f_is_fraction sc_is_fraction fun cdv A outer s H E hr hg tk po =>
      (jss_cons (js_if (jt_w (jw_or (jt_not (jt_tru (j_isi (j_var 0 (pv 0)) (j_tyTup T.n_tuple) T.n_isinstance))) (jw_or (jt_ne hr.units (j_len (j_var 0 (pv 0)) T.n_len) j_int) (jw_or1 (jt_not (jt_tru (j_all rfl (jq_ofL (jl_comp (own := [("part", 1)]) rfl sc_is_fraction.nd (ji_val (j_var 0 (pv 0))) (blkOk_by (N := N_is_fraction) (sc := defScope s_is_fraction) (by decide +kernel)) (fun _ _ _ _ _ => (jg_name sc_is_fraction.nd)) (fun _ _ _ _ _ => jts_nil) (fun _ _ _ _ _ => (j_callD D_is_integer by_lcall (by decide) hr hg takes0 (fun _ _ F => kb_is_integer_1 F) (ja_cons (j_var 1 (pv 1)) ja_nil) jp_nil)) (by decide))) T.n_all))))))) (jss_one (js_ret j_bl)) jss_nil)
      (jss_one (js_ret (j_and (j_cmp op_ge op_dCmp (j_ix (j_var 0 (pv 0)) j_int) j_int (nomark _)) (j_one (j_eq hr.units (j_callD D_common by_lcall (by decide) hr hg tk (fun _ _ F => kb_common_2 F) (ja_cons (j_ix (j_var 0 (pv 0)) j_int) (ja_cons (j_ix (j_var 0 (pv 0)) j_int) ja_nil)) jp_nil) j_int))))))
theorem D_read_fraction (T : Txt K mg) (D_read_integer : DefG P w K mg base "read_integer" s_read_integer 1 ["text"] m_read_integer) (D_is_fraction : DefG P w K mg base "is_fraction" s_is_fraction 2 ["value"] m_is_fraction) : DefG P w K mg base "read_fraction" s_read_fraction 3 ["text"] m_read_fraction :=
  defG T.f_read_fraction sc_read_fraction fun cdv A outer s H E hr hg tk po =>
      (jss_cons (js_set (i := 1) sc_read_fraction.nd (j_if (jt_tru (j_isi (j_var 0 (pv 0)) (j_tyStr T.n_str) T.n_isinstance)) (j_new (jl_split (j_var 0 (pv 0)) (j_globE T.c_STROKE))) (j_new (jl_disp ja_nil))))
      (jss_cons (js_setC (i := 2) (own := [("part", 4)]) rfl sc_read_fraction.nd (ji_val (j_var 1 (pv 1))) (blkOk_by (N := N_read_fraction) (sc := defScope s_read_fraction) (by decide +kernel)) (fun _ _ _ _ _ => (jg_name sc_read_fraction.nd)) (fun _ _ _ _ _ => jts_nil) (fun _ _ _ _ _ => (j_callD D_read_integer by_lcall (by decide) hr hg takes0 (fun _ _ F => kb_read_integer_1 F) (ja_cons (j_var 4 (pv 4)) ja_nil) jp_nil)) (by decide) (sw_true rfl rfl rfl (by decide +kernel)))
      (jss_cons (js_if (jt_w (jw_or (jt_not (jt_chain pure_dCmp noexc_dCmp op_le op_dCmp op_le op_dCmp j_int (j_len (j_var 1 (pv 1)) T.n_len) j_int)) (jw_or1 (jt_in (in_hu hr) j_non (j_var 2 (pv 2)))))) (jss_one (js_ret j_non)) jss_nil)
      (jss_cons (js_if (jt_eq hr.units (j_len (j_var 1 (pv 1)) T.n_len) j_int) (jss_one (js_ret (j_tup (ja_cons (j_ix (j_var 2 (pv 2)) j_int) (ja_cons j_int ja_nil))))) jss_nil)
      (jss_cons (js_set (i := 3) sc_read_fraction.nd (j_tup (ja_cons (j_ix (j_var 2 (pv 2)) j_int) (ja_cons (j_ix (j_var 2 (pv 2)) j_int) ja_nil))))
      (jss_one (js_ret (j_if (jt_w (jw_and (jt_cmp op_gt op_dCmp (j_ix (j_var 2 (pv 2)) j_int) j_int (nomark _)) (jw_and1 (jt_tru (j_callD D_is_fraction by_lcall (by decide) hr hg tk (fun _ _ F => kb_is_fraction_1 F) (ja_cons (j_var 3 (pv 3)) ja_nil) jp_nil))))) (j_var 3 (pv 3)) j_non))))))))
theorem D_integer_text (T : Txt K mg) : ∀ n, DefG P w K mg base "integer_text" s_integer_text (0 + n) ["one"] (m_integer_text n)
  | 0 => defG0 T.f_integer_text (fun _ _ => rfl)
  | n + 1 => by
    have Dself := D_integer_text T  n
    exact defG T.f_integer_text sc_integer_text fun cdv A outer s H E hr hg tk po =>
      (jss_cons (js_if (jt_cmp op_lt op_dCmp (j_var 0 (pv 0)) j_int (nomark _)) (jss_one (js_ret (j_add (j_globE T.c_MINUS) (j_callD Dself by_lcall (Nat.le_refl _) hr hg tk (fun _ _ F => kb_integer_text_1 F) (ja_cons (j_sub j_int (j_var 0 (pv 0))) ja_nil) jp_nil)))) jss_nil)
      (jss_cons (js_par (i := 1) (j := 2) rfl sc_integer_text.nd (j_new (jl_disp ja_nil)) (j_var 0 (pv 0)))
      (jss_cons (js_while 1000000 po (jt_cmp op_ge op_dCmp (j_var 2 (pv 2)) (j_globE T.c_PART) (nomark _)) (jss_cons (js_expr (j_append (j_var 1 (pv 1)) (j_sl (j_strR hg hr.units (j_add (j_mod (j_var 2 (pv 2)) (j_globE T.c_PART)) (j_globE T.c_PART)) T.n_str) (jo_is j_int) jo_no)))
      (jss_one (js_set (i := 2) sc_integer_text.nd (j_fdiv (j_var 2 (pv 2)) (j_globE T.c_PART))))))
      (jss_one (js_ret (j_add (j_strR hg hr.units (j_var 2 (pv 2)) T.n_str) (j_join j_str (jq_ofL (jl_rev (j_var 1 (pv 1)))))))))))
theorem D_fraction_text (T : Txt K mg) (D_integer_text : DefG P w K mg base "integer_text" s_integer_text 4 ["one"] (m_integer_text 3)) : DefG P w K mg base "fraction_text" s_fraction_text 5 ["one"] m_fraction_text :=
  defG T.f_fraction_text sc_fraction_text fun cdv A outer s H E hr hg tk po =>
      (jss_one (js_ret (j_if (jt_eq hr.units (j_ix (j_var 0 (pv 0)) j_int) j_int) (j_callD D_integer_text by_lcall (by decide) hr hg tk (fun _ _ F => kb_integer_text_1 F) (ja_cons (j_ix (j_var 0 (pv 0)) j_int) ja_nil) jp_nil) (j_add (j_add (j_callD D_integer_text by_lcall (by decide) hr hg tk (fun _ _ F => kb_integer_text_1 F) (ja_cons (j_ix (j_var 0 (pv 0)) j_int) ja_nil) jp_nil) (j_globE T.c_STROKE)) (j_callD D_integer_text by_lcall (by decide) hr hg tk (fun _ _ F => kb_integer_text_1 F) (ja_cons (j_ix (j_var 0 (pv 0)) j_int) ja_nil) jp_nil)))))
theorem D_law_is_number_right (T : Txt K mg) (D_law_reduced : DefG P w K mg base "_law_reduced" s_law_reduced 2 ["top", "low"] m_law_reduced) (D_law_take : DefG P w K mg base "_law_take" s_law_take 1 ["pot", "upto"] m_law_take) (D_is_fraction : DefG P w K mg base "is_fraction" s_is_fraction 2 ["value"] m_is_fraction) (D_read_fraction : DefG P w K mg base "read_fraction" s_read_fraction 3 ["text"] m_read_fraction) (D_fraction_text : DefG P w K mg base "fraction_text" s_fraction_text 5 ["one"] m_fraction_text) : DefG P w K mg base "_law_is_number_right" s_law_is_number_right 6 ["pot"] m_law_is_number_right :=
  defG T.f_law_is_number_right sc_law_is_number_right fun cdv A outer s H E hr hg tk po =>
      (jss_cons (js_set (i := 1) sc_law_is_number_right.nd (j_pow j_int j_int))
      (jss_cons (js_for po rfl (ji_range1 (j_callD D_law_take by_lcall (by decide) hr hg tk (fun _ _ F => kb_law_take_2 F) (ja_cons (j_var 0 (pv 0)) (ja_cons j_int ja_nil)) jp_nil) T.n_range) (jg_name sc_law_is_number_right.nd) (jss_one (js_set (i := 1) sc_law_is_number_right.nd (j_mul (j_var 1 (pv 1)) (j_pow j_int j_int)))))
      (jss_cons (js_par (i := 3) (j := 4) rfl sc_law_is_number_right.nd (j_intS (j_sub (j_callD D_law_take by_lcall (by decide) hr hg tk (fun _ _ F => kb_law_take_2 F) (ja_cons (j_var 0 (pv 0)) (ja_cons j_int ja_nil)) jp_nil) j_int) T.n_int) (j_intS (j_add j_int (j_callD D_law_take by_lcall (by decide) hr hg tk (fun _ _ F => kb_law_take_2 F) (ja_cons (j_var 0 (pv 0)) (ja_cons j_int ja_nil)) jp_nil)) T.n_int))
      (jss_cons (js_set (i := 5) sc_law_is_number_right.nd (j_callD D_law_reduced by_lcall (by decide) hr hg tk (fun _ _ F => kb_law_reduced_2 F) (ja_cons (j_if (jt_eq hr.units (j_callD D_law_take by_lcall (by decide) hr hg tk (fun _ _ F => kb_law_take_2 F) (ja_cons (j_var 0 (pv 0)) (ja_cons j_int ja_nil)) jp_nil) j_int) (j_add (j_mul (j_var 3 (pv 3)) (j_var 1 (pv 1))) j_int) (j_var 3 (pv 3))) (ja_cons (j_var 4 (pv 4)) ja_nil)) jp_nil))
      (jss_cons (js_set (i := 6) sc_law_is_number_right.nd (j_if (jt_eq hr.units (j_ix (j_var 5 (pv 5)) j_int) j_int) (j_strR hg hr.units (j_ix (j_var 5 (pv 5)) j_int) T.n_str) (j_add (j_add (j_strR hg hr.units (j_ix (j_var 5 (pv 5)) j_int) T.n_str) j_str) (j_strR hg hr.units (j_ix (j_var 5 (pv 5)) j_int) T.n_str))))
      (jss_cons (js_if (jt_w (jw_or (jt_ne hr.units (j_callDK D_fraction_text by_lcall (by decide) hr hg tk (fun _ _ F => kb_fraction_text_0_one F) (jp_cons (j_var 5 (pv 5)) jp_nil)) (j_var 6 (pv 6))) (jw_or1 (jt_ne hr.units (j_repr hg hr.units (j_callDK D_read_fraction by_lcall (by decide) hr hg tk (fun _ _ F => kb_read_fraction_0_text F) (jp_cons (j_var 6 (pv 6)) jp_nil)) T.n_repr) (j_repr hg hr.units (j_var 5 (pv 5)) T.n_repr))))) (jss_one (js_ret j_bl)) jss_nil)
      (jss_cons (js_set (i := 7) sc_law_is_number_right.nd (j_new (jl_disp (ja_cons (j_add (j_var 6 (pv 6)) j_str) (ja_cons (j_add j_str (j_var 6 (pv 6))) (ja_cons (j_add j_str (j_var 6 (pv 6))) (ja_cons (j_add (j_var 6 (pv 6)) j_str) (ja_cons (j_add j_str (j_var 6 (pv 6))) (ja_cons j_str (ja_cons j_str (ja_cons j_str (ja_cons j_str (ja_cons j_str (ja_cons (j_var 5 (pv 5)) (ja_cons j_non (ja_cons j_int ja_nil))))))))))))))))
      (jss_cons (js_expr (j_extend (j_var 7 (pv 7)) (jk_new (jl_disp (ja_cons (j_mulS j_str j_int) (ja_cons (j_add j_str (j_mulS j_str j_int)) ja_nil))))))
      (jss_cons (js_set (i := 8) sc_law_is_number_right.nd (j_ix (j_var 7 (pv 7)) (j_callD D_law_take by_lcall (by decide) hr hg tk (fun _ _ F => kb_law_take_2 F) (ja_cons (j_var 0 (pv 0)) (ja_cons (j_len (j_var 7 (pv 7)) T.n_len) ja_nil)) jp_nil)))
      (jss_cons (js_if (jt_notN (j_callD D_read_fraction by_lcall (by decide) hr hg tk (fun _ _ F => kb_read_fraction_1 F) (ja_cons (j_var 8 (pv 8)) ja_nil) jp_nil) j_non) (jss_one (js_ret j_bl)) jss_nil)
      (jss_cons (js_set (i := 9) sc_law_is_number_right.nd (j_new (jl_disp (ja_cons (j_var 5 (pv 5)) (ja_cons (j_tup (ja_cons (j_mul (j_ix (j_var 5 (pv 5)) j_int) j_int) (ja_cons (j_mul (j_ix (j_var 5 (pv 5)) j_int) j_int) ja_nil))) (ja_cons (j_new (jl_listOf (jq_of (j_var 5 (pv 5))) T.n_list)) (ja_cons (j_add (j_var 5 (pv 5)) (j_tup (ja_cons j_int ja_nil))) (ja_cons (j_tup (ja_cons (j_ix (j_var 5 (pv 5)) j_int) (ja_cons j_int ja_nil))) (ja_cons (j_tup (ja_cons (j_ix (j_var 5 (pv 5)) j_int) (ja_cons (j_neg (j_ix (j_var 5 (pv 5)) j_int)) ja_nil))) ja_nil)))))))))
      (jss_cons (js_expr (j_extend (j_var 9 (pv 9)) (jk_new (jl_disp (ja_cons (j_tup (ja_cons j_bl (ja_cons j_int ja_nil))) (ja_cons (j_tup (ja_cons j_int (ja_cons j_bl ja_nil))) ja_nil))))))
      (jss_cons (js_expr (j_extend (j_var 9 (pv 9)) (jk_new (jl_disp (ja_cons (j_strR hg hr.units (j_var 5 (pv 5)) T.n_str) (ja_cons j_non (ja_cons (j_ix (j_var 5 (pv 5)) j_int) (ja_cons (j_tup (ja_cons j_int (ja_cons j_int ja_nil))) (ja_cons (j_tup (ja_cons j_int (ja_cons j_int ja_nil))) ja_nil)))))))))
      (jss_cons (js_set (i := 10) sc_law_is_number_right.nd (j_new (jl_disp (ja_cons j_bl (ja_cons j_bl (ja_cons j_bl (ja_cons j_bl (ja_cons j_bl (ja_cons j_bl (ja_cons j_bl (ja_cons j_bl (ja_cons j_bl (ja_cons j_bl (ja_cons j_bl (ja_cons j_bl (ja_cons j_bl ja_nil))))))))))))))))
      (jss_one (js_ret (j_eq hr.units (j_new (jl_comp (own := [("value", 8)]) rfl sc_law_is_number_right.nd (ji_val (j_var 9 (pv 9))) (blkOk_by (N := N_law_is_number_right) (sc := defScope s_law_is_number_right) (by decide +kernel)) (fun _ _ _ _ _ => (jg_name sc_law_is_number_right.nd)) (fun _ _ _ _ _ => jts_nil) (fun _ _ _ _ _ => (j_callDK D_is_fraction by_lcall (by decide) hr hg takes0 (fun _ _ F => kb_is_fraction_0_value F) (jp_cons (j_var 8 (pv 8)) jp_nil))) (by decide))) (j_var 10 (pv 10)))))))))))))))))))
theorem D_law_word (T : Txt K mg) (D_law_take : DefG P w K mg base "_law_take" s_law_take 1 ["pot", "upto"] m_law_take) : DefG P w K mg base "_law_word" s_law_word 2 ["pot"] m_law_word :=
  defG T.f_law_word sc_law_word fun cdv A outer s H E hr hg tk po =>
      (jss_cons (js_set (i := 1) sc_law_word.nd j_str)
      (jss_one (js_ret (j_join j_str (jq_ofL (jl_comp (own := [("lap", 2)]) rfl sc_law_word.nd (ji_range1 (j_callD D_law_take by_lcall (by decide) hr hg tk (fun _ _ F => kb_law_take_2 F) (ja_cons (j_var 0 (pv 0)) (ja_cons j_int ja_nil)) jp_nil) T.n_range) (blkOk_by (N := N_law_word) (sc := defScope s_law_word) (by decide +kernel)) (fun _ _ _ _ _ => (jg_name sc_law_word.nd)) (fun _ _ _ _ _ => jts_nil) (fun _ _ _ _ _ => (j_ix (j_var 1 (pv 1)) (j_callD D_law_take by_lcall (by decide) hr hg takes0 (fun _ _ F => kb_law_take_2 F) (ja_cons (j_var 0 (pv 0)) (ja_cons (j_if (jt_eq hr.units (j_callD D_law_take by_lcall (by decide) hr hg takes0 (fun _ _ F => kb_law_take_2 F) (ja_cons (j_var 0 (pv 0)) (ja_cons j_int ja_nil)) jp_nil) j_int) j_int j_int) ja_nil)) jp_nil))) (by decide)))))))
theorem D_is_level (T : Txt K mg) : DefG P w K mg base "is_level" s_is_level 1 ["value"] m_is_level :=
  defG T.f_is_level sc_is_level fun cdv A outer s H E hr hg tk po =>
      (jss_cons (js_if (jt_w (jw_or (jt_not (jt_tru (j_isi (j_var 0 (pv 0)) (j_tyStr T.n_str) T.n_isinstance))) (jw_or1 (jt_not (jt_chain pure_dCmp noexc_dCmp op_le op_dCmp op_le op_dCmp j_int (j_len (j_var 0 (pv 0)) T.n_len) (j_globE T.c_MOST_SIGNS)))))) (jss_one (js_ret j_bl)) jss_nil)
      (jss_one (js_ret (j_all rfl (jq_ofL (jl_comp (own := [("sign", 1)]) rfl sc_is_level.nd (ji_val (j_var 0 (pv 0))) (blkOk_by (N := N_is_level) (sc := defScope s_is_level) (by decide +kernel)) (fun _ _ _ _ _ => (jg_name sc_is_level.nd)) (fun _ _ _ _ _ => jts_nil) (fun _ _ _ _ _ => (j_or (j_in (in_hu hr) (j_var 1 (pv 1)) (j_globE T.c_SMALL)) (j_one (j_in (in_hu hr) (j_var 1 (pv 1)) (j_globE T.c_FIGURES))))) (by decide))) T.n_all))))
theorem D_is_name (T : Txt K mg) (D_is_level : DefG P w K mg base "is_level" s_is_level 1 ["value"] m_is_level) : DefG P w K mg base "is_name" s_is_name 2 ["value"] m_is_name :=
  defG T.f_is_name sc_is_name fun cdv A outer s H E hr hg tk po =>
      (jss_one (js_ret (j_and (j_callD D_is_level by_lcall (by decide) hr hg tk (fun _ _ F => kb_is_level_1 F) (ja_cons (j_var 0 (pv 0)) ja_nil) jp_nil) (j_one (j_in (in_hu hr) (j_ix (j_var 0 (pv 0)) j_int) (j_globE T.c_SMALL))))))
theorem D_law_is_word_right (T : Txt K mg) (D_is_level : DefG P w K mg base "is_level" s_is_level 1 ["value"] m_is_level) (D_is_name : DefG P w K mg base "is_name" s_is_name 2 ["value"] m_is_name) : DefG P w K mg base "_law_is_word_right" s_law_is_word_right 3 ["value"] m_law_is_word_right :=
  defG T.f_law_is_word_right sc_law_is_word_right fun cdv A outer s H E hr hg tk po =>
      (jss_cons (js_set (i := 1) sc_law_is_word_right.nd j_str)
      (jss_cons (js_set (i := 2) sc_law_is_word_right.nd (j_and (j_isi (j_var 0 (pv 0)) (j_tyStr T.n_str) T.n_isinstance) (j_one (j_chain pure_dCmp noexc_dCmp op_le op_dCmp op_le op_dCmp j_int (j_len (j_var 0 (pv 0)) T.n_len) j_int))))
      (jss_cons (js_set (i := 2) sc_law_is_word_right.nd (j_and (j_var 2 (pv 2)) (j_one (j_all rfl (jq_ofL (jl_comp (own := [("sign", 3)]) rfl sc_law_is_word_right.nd (ji_val (j_var 0 (pv 0))) (blkOk_by (N := N_law_is_word_right) (sc := defScope s_law_is_word_right) (by decide +kernel)) (fun _ _ _ _ _ => (jg_name sc_law_is_word_right.nd)) (fun _ _ _ _ _ => jts_nil) (fun _ _ _ _ _ => (j_in (in_hu hr) (j_var 3 (pv 3)) (j_add (j_var 1 (pv 1)) j_str))) (by decide))) T.n_all))))
      (jss_cons (js_if (jt_ne hr.units (j_callDK D_is_level by_lcall (by decide) hr hg tk (fun _ _ F => kb_is_level_0_value F) (jp_cons (j_var 0 (pv 0)) jp_nil)) (j_var 2 (pv 2))) (jss_one (js_ret j_bl)) jss_nil)
      (jss_one (js_ret (j_eq hr.units (j_callDK D_is_name by_lcall (by decide) hr hg tk (fun _ _ F => kb_is_name_0_value F) (jp_cons (j_var 0 (pv 0)) jp_nil)) (j_and (j_var 2 (pv 2)) (j_one (j_in (in_hu hr) (j_ix (j_var 0 (pv 0)) j_int) (j_var 1 (pv 1))))))))))))
theorem D_law_right (T : Txt K mg) (D_law_is_number_right : DefG P w K mg base "_law_is_number_right" s_law_is_number_right 6 ["pot"] m_law_is_number_right) (D_law_word : DefG P w K mg base "_law_word" s_law_word 2 ["pot"] m_law_word) (D_law_is_word_right : DefG P w K mg base "_law_is_word_right" s_law_is_word_right 3 ["value"] m_law_is_word_right) : DefG P w K mg base "_law_right" s_law_right 7 ["pot"] m_law_right :=
  defG T.f_law_right sc_law_right fun cdv A outer s H E hr hg tk po =>
      (jss_cons (js_set (i := 1) sc_law_right.nd (j_new (jl_cat (jl_comp (own := [("lap", 2)]) rfl sc_law_right.nd (ji_range1 j_int T.n_range) (blkOk_by (N := N_law_right) (sc := defScope s_law_right) (by decide +kernel)) (fun _ _ _ _ _ => (jg_name sc_law_right.nd)) (fun _ _ _ _ _ => jts_nil) (fun _ _ _ _ _ => (j_callD D_law_word by_lcall (by decide) hr hg takes0 (fun _ _ F => kb_law_word_1 F) (ja_cons (j_var 0 (pv 0)) ja_nil) jp_nil)) (by decide)) (jk_new (jl_disp (ja_cons j_non (ja_cons j_int (ja_cons (j_tup (ja_cons j_str ja_nil)) (ja_cons j_str (ja_cons j_str (ja_cons j_str (ja_cons j_str (ja_cons j_str ja_nil)))))))))))))
      (jss_one (js_ret (j_and (j_all rfl (jq_ofL (jl_comp (own := [("value", 3)]) rfl sc_law_right.nd (ji_val (j_var 1 (pv 1))) (blkOk_by (N := N_law_right) (sc := defScope s_law_right) (by decide +kernel)) (fun _ _ _ _ _ => (jg_name sc_law_right.nd)) (fun _ _ _ _ _ => jts_nil) (fun _ _ _ _ _ => (j_callD D_law_is_word_right by_lcall (by decide) hr hg takes0 (fun _ _ F => kb_law_is_word_right_1 F) (ja_cons (j_var 3 (pv 3)) ja_nil) jp_nil)) (by decide))) T.n_all) (j_one (j_callD D_law_is_number_right by_lcall (by decide) hr hg tk (fun _ _ F => kb_law_is_number_right_1 F) (ja_cons (j_var 0 (pv 0)) ja_nil) jp_nil))))))
theorem D_law (T : Txt K mg) (D_law_cells : DefG P w K mg base "_law_cells" s_law_cells 1 ["script", "most"] m_law_cells) (D_law_pot : DefG P w K mg base "_law_pot" s_law_pot 1 ["script", "place"] m_law_pot) (D_law_right : DefG P w K mg base "_law_right" s_law_right 7 ["pot"] m_law_right) : DefG P w K mg base "law" s_law 8 ["script"] m_law :=
  defG T.f_law sc_law fun cdv A outer s H E hr hg tk po =>
      (jss_cons (js_for po rfl (ji_val (j_callD D_law_cells by_lcall (by decide) hr hg tk (fun _ _ F => kb_law_cells_2 F) (ja_cons (j_var 0 (pv 0)) (ja_cons j_int ja_nil)) jp_nil)) (jg_name sc_law.nd) (jss_cons (js_set (i := 2) sc_law.nd (j_callD D_law_pot by_lcall (by decide) hr hg tk (fun _ _ F => kb_law_pot_2 F) (ja_cons (j_var 0 (pv 0)) (ja_cons (j_var 1 (pv 1)) ja_nil)) jp_nil))
      (jss_one (js_if (jt_not (jt_tru (j_all rfl (jq_ofL (jl_comp (own := [("lap", 3)]) rfl sc_law.nd (ji_range1 j_int T.n_range) (blkOk_by (N := N_law) (sc := defScope s_law) (by decide +kernel)) (fun _ _ _ _ _ => (jg_name sc_law.nd)) (fun _ _ _ _ _ => jts_nil) (fun _ _ _ _ _ => (j_callD D_law_right by_lcall (by decide) hr hg takes0 (fun _ _ F => kb_law_right_1 F) (ja_cons (j_var 2 (pv 2)) ja_nil) jp_nil)) (by decide))) T.n_all))) (jss_one (js_ret j_bl)) jss_nil))))
      (jss_one (js_ret j_bl)))
end
end K00

set_option Elab.async false
set_option linter.all false
set_option maxRecDepth 100000
set_option maxHeartbeats 4000000
set_option exponentiation.threshold 4000
namespace K00
open PySem PySem.Spec PyProof.Rows L2 MP
def IsPot (n : Nat) (P : MO) : Prop := ∃ a b c : Int, P = .lst [.int a, .int b, .int c] ∧ 0 ≤ a ∧ 0 ≤ b ∧ b < 2 ^ 61 ∧ 0 ≤ c ∧ c ≤ n
theorem IsPot.cl {n : Nat} {P : MO} (h : IsPot n P) : P.cl = true := by
  obtain ⟨a, b, c, rfl, _⟩ := h
  rfl
theorem take_ok {a b c u : Int} (ha : 0 ≤ a) (hb : 0 ≤ b) (hb2: b < 2^61) (hc : 0 ≤ c) (hc2 : c < 2^20) (hu : 0 < u) (hu2 : u < 2^32) :
    Ev (m_law_take [.loc 0, .int u] [.lst [.int a, .int b, .int c]]) fun d h => ∃ k a' c', d = .int k ∧ h = .lst [.int a', .int b, .int c'] :: h.tail ∧ 0 ≤ k ∧ k < u ∧ 0 ≤ a' ∧ a' ≤ a ∧ c ≤ c' ∧ c' ≤ c + 1 := by
  unfold m_law_take b_law_take
  simp -implicitDefEqProofs only [↓ev_srcI, ↓ev_srcN, ↓ev_optS, ↓ev_ok, ↓ev_bind, ↓ev_eC, ↓ev_v0, ↓ev_vS, ↓ev_bin, ↓ev_aNil, ↓ev_aCons, ↓ev_tup, ↓ev_disp, ↓ev_new, ↓ev_seq, ↓ev_seqT, ↓ev_seqR, ↓ev_seqL, ↓ev_bOf, ↓ev_toB, ↓ev_bTru, ↓ev_bYes, ↓ev_bAnd, ↓ev_bOr, ↓ev_bNot, ↓ev_eAnd, ↓ev_eOr, ↓ev_eNot, ↓ev_eIf, ↓ev_chain, ↓ev_u, ↓ev_uq, ↓ev_lOf, ↓ev_cat, ↓ev_call, ↓ev_addI, ↓ev_addS, ↓ev_addT, ↓ev_sub, ↓ev_mul, ↓ev_fdiv, ↓ev_mod, ↓ev_pow, ↓ev_neg, ↓ev_negI, ↓ev_cmp, ↓ev_eqI, ↓ev_eqS, ↓ev_eqB, ↓ev_isN, ↓ev_isI, ↓ev_isB, ↓ev_isS, ↓ev_isT, ↓ev_isL, ↓ev_truB, ↓ev_truN, ↓ev_truI, ↓ev_truT, ↓ev_ixS, ↓ev_ixT, ↓ev_ixR, ↓ev_ixL, ↓ev_lenS, ↓ev_lenT, ↓ev_lenR, ↓ev_lenL, ↓ev_abs, ↓ev_intI, ↓ev_intB, ↓ev_intS, ↓ev_strI, ↓ev_max, ↓ev_min, ↓ev_gcd, ↓ev_isi, ↓ev_all, ↓ev_any, ↓ev_sum, ↓ev_rg1, ↓ev_rg1I, ↓ev_lSl, ↓ev_slR, ↓ev_oNo, ↓ev_oIs, ↓ev_toI, ↓ev_eSl, ↓ev_slS, ↓ev_split, ↓ev_onStr, ↓ev_join, ↓ev_mulS, ↓ev_ext, ↓ev_onLoc, ↓ev_mt, ↓ev_app, ↓ev_lRev, ↓ev_revL, ↓sv_nx, ↓sv_seq, ↓sv_ret, ↓sv_retN, ↓sv_ex, ↓sv_if, ↓sv_set, ↓sv_par, ↓sv_put, ↓ev_run, ↓sv_loopK, ↓sv_for, ↓ev_iNew, ↓ev_iVal, ↓ev_srcT, ↓ev_srcR, ↓ev_srcS, ↓ev_srcL, ↓ev_rng1, ↓ev_rng1I, ↓ev_lComp, ↓sv_dput, ↓ev_in1, ↓ev_deI, ↓ev_deS, ↓ev_deB, ↓ev_dnI, ↓ev_dnS, ↓ev_dnB, ↓sv_okN, startL, List.map_cons, List.map_nil, List.length_cons, List.length_nil, Nat.reduceAdd, Nat.reduceSub, List.replicate, List.cons_append, List.nil_append, List.set_cons_zero, List.set_cons_succ, getL0, getLS, pick_nil, pick_one, true_and, and_self, List.append_nil, atI_0, atI_1, atI_2, atI_3, atI_4, ixN_0, ixN_1, ixN_2, ixN_3, List.getElem?_cons_zero, List.getElem?_cons_succ, Option.some.injEq, exists_eq_left', ite_true, ite_false, Bool.false_eq_true, if_true_b, if_false_b]
  by_cases hp : 0 < a
  · rw [if_pos (decide_eq_true hp)]
    have hl : u.natAbs.log2 < 9000 := by
      have := log2_lt (n := u.natAbs) (k := 32) (by have := nabs_lt (i := u) (b := 2 ^ 32) (by omega) hu2; exact this)
      omega
    refine ⟨hu, ⟨hu, hl⟩, a % u, a / u, c, rfl, rfl, Int.emod_nonneg _ (by omega), Int.emod_lt_of_pos _ hu, Int.ediv_nonneg ha (by omega), Int.ediv_le_self _ ha, by omega, by omega⟩
  · rw [if_neg (by simpa using hp)]
    obtain ⟨d, hd, hm⟩ := atI_i (xs := [D.int 2147483647, .int 2147483629, .int 2147483587, .int 2147483579, .int 2147483563]) (i := (c + 1) % 5) (by omega) (by simp; omega)
    obtain ⟨p, rfl, hp0, hp1⟩ : ∃ p : Int, d = .int p ∧ 0 < p ∧ p < 2 ^ 31 := by
      simp only [List.mem_cons, List.not_mem_nil, or_false] at hm
      rcases hm with rfl | rfl | rfl | rfl | rfl <;> exact ⟨_, rfl, by decide, by decide⟩
    have hcc : (c + 1) * (c + 1) ≤ 2 ^ 20 * 2 ^ 20 := Int.mul_le_mul (by omega) (by omega) (by omega) (by decide)
    have hcc0 : 0 ≤ (c + 1) * (c + 1) := Int.mul_nonneg (by omega) (by omega)
    have hx : 0 ≤ b + 129545 * (c + 1) * (c + 1) + 7933 ∧ b + 129545 * (c + 1) * (c + 1) + 7933 < 2 ^ 62 := by
      rw [Int.mul_assoc]; omega
    have hbit := bits_of (i := b + 129545 * (c + 1) * (c + 1) + 7933) (k := 62) (by have := nabs_lt (i := b + 129545 * (c + 1) * (c + 1) + 7933) (b := 2 ^ 62) (by omega) hx.2; exact this)
    refine ⟨by decide, by decide, .int p, hd, mulOk_lt (by omega) (by omega) (by omega) (by omega), mulOk_lt (by omega) (by omega) (by omega) (by omega), ⟨by decide, by omega⟩, ?_⟩
    generalize (b + 129545 * (c + 1) * (c + 1) + 7933) ^ Int.toNat 3 = z
    simp -implicitDefEqProofs only [↓ev_srcI, ↓ev_srcN, ↓ev_optS, ↓ev_ok, ↓ev_bind, ↓ev_eC, ↓ev_v0, ↓ev_vS, ↓ev_bin, ↓ev_aNil, ↓ev_aCons, ↓ev_tup, ↓ev_disp, ↓ev_new, ↓ev_seq, ↓ev_seqT, ↓ev_seqR, ↓ev_seqL, ↓ev_bOf, ↓ev_toB, ↓ev_bTru, ↓ev_bYes, ↓ev_bAnd, ↓ev_bOr, ↓ev_bNot, ↓ev_eAnd, ↓ev_eOr, ↓ev_eNot, ↓ev_eIf, ↓ev_chain, ↓ev_u, ↓ev_uq, ↓ev_lOf, ↓ev_cat, ↓ev_call, ↓ev_addI, ↓ev_addS, ↓ev_addT, ↓ev_sub, ↓ev_mul, ↓ev_fdiv, ↓ev_mod, ↓ev_pow, ↓ev_neg, ↓ev_negI, ↓ev_cmp, ↓ev_eqI, ↓ev_eqS, ↓ev_eqB, ↓ev_isN, ↓ev_isI, ↓ev_isB, ↓ev_isS, ↓ev_isT, ↓ev_isL, ↓ev_truB, ↓ev_truN, ↓ev_truI, ↓ev_truT, ↓ev_ixS, ↓ev_ixT, ↓ev_ixR, ↓ev_ixL, ↓ev_lenS, ↓ev_lenT, ↓ev_lenR, ↓ev_lenL, ↓ev_abs, ↓ev_intI, ↓ev_intB, ↓ev_intS, ↓ev_strI, ↓ev_max, ↓ev_min, ↓ev_gcd, ↓ev_isi, ↓ev_all, ↓ev_any, ↓ev_sum, ↓ev_rg1, ↓ev_rg1I, ↓ev_lSl, ↓ev_slR, ↓ev_oNo, ↓ev_oIs, ↓ev_toI, ↓ev_eSl, ↓ev_slS, ↓ev_split, ↓ev_onStr, ↓ev_join, ↓ev_mulS, ↓ev_ext, ↓ev_onLoc, ↓ev_mt, ↓ev_app, ↓ev_lRev, ↓ev_revL, ↓sv_nx, ↓sv_seq, ↓sv_ret, ↓sv_retN, ↓sv_ex, ↓sv_if, ↓sv_set, ↓sv_par, ↓sv_put, ↓ev_run, ↓sv_loopK, ↓sv_for, ↓ev_iNew, ↓ev_iVal, ↓ev_srcT, ↓ev_srcR, ↓ev_srcS, ↓ev_srcL, ↓ev_rng1, ↓ev_rng1I, ↓ev_lComp, ↓sv_dput, ↓ev_in1, ↓ev_deI, ↓ev_deS, ↓ev_deB, ↓ev_dnI, ↓ev_dnS, ↓ev_dnB, ↓sv_okN, startL, List.map_cons, List.map_nil, List.length_cons, List.length_nil, Nat.reduceAdd, Nat.reduceSub, List.replicate, List.cons_append, List.nil_append, List.set_cons_zero, List.set_cons_succ, getL0, getLS, pick_nil, pick_one, true_and, and_self, List.append_nil, atI_0, atI_1, atI_2, atI_3, atI_4, ixN_0, ixN_1, ixN_2, ixN_3, List.getElem?_cons_zero, List.getElem?_cons_succ, Option.some.injEq, exists_eq_left', ite_true, ite_false, Bool.false_eq_true, if_true_b, if_false_b]
    have h1 := Int.emod_nonneg z (Int.ne_of_gt hp0)
    have h2 := Int.emod_lt_of_pos z hp0
    generalize z % p = y at h1 h2
    have h3 := Int.emod_nonneg y (show (36315 : Int) ≠ 0 by decide)
    have h4 := Int.emod_lt_of_pos y (show (0 : Int) < 36315 by decide)
    refine ⟨hp0, by decide, mulOk_lt (by omega) (by omega) (by omega) (by omega), mulOk_lt (by omega) (by omega) (by omega) (by omega), by decide, ⟨by decide, by decide⟩, hu, _, _, _, rfl, rfl, Int.emod_nonneg _ (by omega), Int.emod_lt_of_pos _ hu, ha, by omega, by omega, by omega⟩
theorem take {n m : Nat} {P : MO} {h : Hm} {u : Int} {Q : D → Hm → Prop} (hP : h[m]? = some P) (p : IsPot n P) (hn : n < 2 ^ 20) (hu : 0 < u) (hu2 : u < 2 ^ 32) (hQ : ∀ k P', 0 ≤ k → k < u → IsPot (n + 1) P' → Q (.int k) (h.set m P')) : Ev (lcall m_law_take [.loc m, .int u] h) Q := by
  obtain ⟨a, b, c, rfl, ha, hb, hb2, hc, hc2⟩ := p
  refine lm_one rfl hP rfl (ev_mono (take_ok ha hb hb2 hc (by omega) hu hu2) fun d h1 z => ?_)
  obtain ⟨k, a', c', rfl, eh, h1, h2, h3, h4, h5, h6⟩ := z
  exact ⟨_, _, eh, rfl, rfl, hQ k _ h1 h2 ⟨a', b, c', rfl, h3, hb, hb2, by omega, by omega⟩⟩
theorem pot_ok (ns : List Int) (place : Nat) (hp : place < 3) : Ev (m_law_pot [.rls (ns.map .int), .int place] []) fun d h => ∃ P, d = .loc 0 ∧ h = [P] ∧ IsPot 0 P := by
  unfold m_law_pot b_law_pot
  rw [ev_run, sv_seq]
  refine sv_mono (N := fun ls h => ∃ x : Int, ls = [some (.rls (ns.map .int)), some (.int place), some (.int x), none, none] ∧ h = []) ?_ ?_ (fun _ _ z => z) (fun _ _ z => z) (fun _ _ z => z)
  · simp -implicitDefEqProofs only [↓ev_srcI, ↓ev_srcN, ↓ev_optS, ↓ev_ok, ↓ev_bind, ↓ev_eC, ↓ev_v0, ↓ev_vS, ↓ev_bin, ↓ev_aNil, ↓ev_aCons, ↓ev_tup, ↓ev_disp, ↓ev_new, ↓ev_seq, ↓ev_seqT, ↓ev_seqR, ↓ev_seqL, ↓ev_bOf, ↓ev_toB, ↓ev_bTru, ↓ev_bYes, ↓ev_bAnd, ↓ev_bOr, ↓ev_bNot, ↓ev_eAnd, ↓ev_eOr, ↓ev_eNot, ↓ev_eIf, ↓ev_chain, ↓ev_u, ↓ev_uq, ↓ev_lOf, ↓ev_cat, ↓ev_call, ↓ev_addI, ↓ev_addS, ↓ev_addT, ↓ev_sub, ↓ev_mul, ↓ev_fdiv, ↓ev_mod, ↓ev_pow, ↓ev_neg, ↓ev_negI, ↓ev_cmp, ↓ev_eqI, ↓ev_eqS, ↓ev_eqB, ↓ev_isN, ↓ev_isI, ↓ev_isB, ↓ev_isS, ↓ev_isT, ↓ev_isL, ↓ev_truB, ↓ev_truN, ↓ev_truI, ↓ev_truT, ↓ev_ixS, ↓ev_ixT, ↓ev_ixR, ↓ev_ixL, ↓ev_lenS, ↓ev_lenT, ↓ev_lenR, ↓ev_lenL, ↓ev_abs, ↓ev_intI, ↓ev_intB, ↓ev_intS, ↓ev_strI, ↓ev_max, ↓ev_min, ↓ev_gcd, ↓ev_isi, ↓ev_all, ↓ev_any, ↓ev_sum, ↓ev_rg1, ↓ev_rg1I, ↓ev_lSl, ↓ev_slR, ↓ev_oNo, ↓ev_oIs, ↓ev_toI, ↓ev_eSl, ↓ev_slS, ↓ev_split, ↓ev_onStr, ↓ev_join, ↓ev_mulS, ↓ev_ext, ↓ev_onLoc, ↓ev_mt, ↓ev_app, ↓ev_lRev, ↓ev_revL, ↓sv_nx, ↓sv_seq, ↓sv_ret, ↓sv_retN, ↓sv_ex, ↓sv_if, ↓sv_set, ↓sv_par, ↓sv_put, ↓ev_run, ↓sv_loopK, ↓sv_for, ↓ev_iNew, ↓ev_iVal, ↓ev_srcT, ↓ev_srcR, ↓ev_srcS, ↓ev_srcL, ↓ev_rng1, ↓ev_rng1I, ↓ev_lComp, ↓sv_dput, ↓ev_in1, ↓ev_deI, ↓ev_deS, ↓ev_deB, ↓ev_dnI, ↓ev_dnS, ↓ev_dnB, ↓sv_okN, startL, List.map_cons, List.map_nil, List.length_cons, List.length_nil, Nat.reduceAdd, Nat.reduceSub, List.replicate, List.cons_append, List.nil_append, List.set_cons_zero, List.set_cons_succ, getL0, getLS, pick_nil, pick_one, true_and, and_self, List.append_nil, atI_0, atI_1, atI_2, atI_3, atI_4, ixN_0, ixN_1, ixN_2, ixN_3, List.getElem?_cons_zero, List.getElem?_cons_succ, Option.some.injEq, exists_eq_left', ite_true, ite_false, Bool.false_eq_true, if_true_b, if_false_b]
    split
    · rename_i hl
      have hl' : place < ns.length := by simpa using hl
      exact ⟨.int ns[place], by rw [atI_n, List.getElem?_map, List.getElem?_eq_getElem hl']; rfl, _, rfl, trivial⟩
    · obtain ⟨l', e, _⟩ := cutD_map D.int ns none (some 1)
      exact ⟨l', by rw [e, mapM_in], by decide, mulOk_lt (by omega) (by omega) (by omega) (by omega), _, rfl, trivial⟩
  · rintro _ _ ⟨x, rfl, rfl⟩
    simp -implicitDefEqProofs only [↓ev_srcI, ↓ev_srcN, ↓ev_optS, ↓ev_ok, ↓ev_bind, ↓ev_eC, ↓ev_v0, ↓ev_vS, ↓ev_bin, ↓ev_aNil, ↓ev_aCons, ↓ev_tup, ↓ev_disp, ↓ev_new, ↓ev_seq, ↓ev_seqT, ↓ev_seqR, ↓ev_seqL, ↓ev_bOf, ↓ev_toB, ↓ev_bTru, ↓ev_bYes, ↓ev_bAnd, ↓ev_bOr, ↓ev_bNot, ↓ev_eAnd, ↓ev_eOr, ↓ev_eNot, ↓ev_eIf, ↓ev_chain, ↓ev_u, ↓ev_uq, ↓ev_lOf, ↓ev_cat, ↓ev_call, ↓ev_addI, ↓ev_addS, ↓ev_addT, ↓ev_sub, ↓ev_mul, ↓ev_fdiv, ↓ev_mod, ↓ev_pow, ↓ev_neg, ↓ev_negI, ↓ev_cmp, ↓ev_eqI, ↓ev_eqS, ↓ev_eqB, ↓ev_isN, ↓ev_isI, ↓ev_isB, ↓ev_isS, ↓ev_isT, ↓ev_isL, ↓ev_truB, ↓ev_truN, ↓ev_truI, ↓ev_truT, ↓ev_ixS, ↓ev_ixT, ↓ev_ixR, ↓ev_ixL, ↓ev_lenS, ↓ev_lenT, ↓ev_lenR, ↓ev_lenL, ↓ev_abs, ↓ev_intI, ↓ev_intB, ↓ev_intS, ↓ev_strI, ↓ev_max, ↓ev_min, ↓ev_gcd, ↓ev_isi, ↓ev_all, ↓ev_any, ↓ev_sum, ↓ev_rg1, ↓ev_rg1I, ↓ev_lSl, ↓ev_slR, ↓ev_oNo, ↓ev_oIs, ↓ev_toI, ↓ev_eSl, ↓ev_slS, ↓ev_split, ↓ev_onStr, ↓ev_join, ↓ev_mulS, ↓ev_ext, ↓ev_onLoc, ↓ev_mt, ↓ev_app, ↓ev_lRev, ↓ev_revL, ↓sv_nx, ↓sv_seq, ↓sv_ret, ↓sv_retN, ↓sv_ex, ↓sv_if, ↓sv_set, ↓sv_par, ↓sv_put, ↓ev_run, ↓sv_loopK, ↓sv_for, ↓ev_iNew, ↓ev_iVal, ↓ev_srcT, ↓ev_srcR, ↓ev_srcS, ↓ev_srcL, ↓ev_rng1, ↓ev_rng1I, ↓ev_lComp, ↓sv_dput, ↓ev_in1, ↓ev_deI, ↓ev_deS, ↓ev_deB, ↓ev_dnI, ↓ev_dnS, ↓ev_dnB, ↓sv_okN, startL, List.map_cons, List.map_nil, List.length_cons, List.length_nil, Nat.reduceAdd, Nat.reduceSub, List.replicate, List.cons_append, List.nil_append, List.set_cons_zero, List.set_cons_succ, getL0, getLS, pick_nil, pick_one, true_and, and_self, List.append_nil, atI_0, atI_1, atI_2, atI_3, atI_4, ixN_0, ixN_1, ixN_2, ixN_3, List.getElem?_cons_zero, List.getElem?_cons_succ, Option.some.injEq, exists_eq_left', ite_true, ite_false, Bool.false_eq_true, if_true_b, if_false_b]
    have e60 : (10 : Int) ^ Int.toNat 60 = 10 ^ 60 := rfl
    have e300 : (((10 : Int) ^ Int.toNat 60) ^ Int.toNat 5) = 10 ^ 300 := by decide +kernel
    rw [e300]
    have hx : 0 ≤ (if x < 0 then -x else x) := by split <;> omega
    generalize (if x < 0 then -x else x) = y at hx
    have h1 := Int.emod_nonneg y (show (10 : Int) ^ 300 ≠ 0 by decide +kernel)
    have h2 := Int.emod_lt_of_pos y (show (0 : Int) < 10 ^ 300 by decide +kernel)
    have h3 : (10 : Int) ^ 300 < 2 ^ 1000 := by decide +kernel
    generalize y % 10 ^ 300 = z at h1 h2
    have hk : (if decide (10 ^ Int.toNat 18 ≤ y) = true then (1 : Int) else 0) = 0 ∨ (if decide (10 ^ Int.toNat 18 ≤ y) = true then (1 : Int) else 0) = 1 := by split <;> simp
    generalize (if decide (10 ^ Int.toNat 18 ≤ y) = true then (1 : Int) else 0) = k at hk
    have hm1 : 0 ≤ x % 2305843009213693951 := Int.emod_nonneg x (by decide)
    have hm2 : x % 2305843009213693951 < 2305843009213693951 := Int.emod_lt_of_pos x (by decide)
    have hpl : (place : Int) < 3 := by omega
    refine ⟨by decide +kernel, by decide +kernel, by decide +kernel, by decide +kernel, mulOk_of (a := 1000) (b := 2) (by have := nabs_lt (i := z) (b := 2 ^ 1000) (by omega) (by omega); exact this) (by rcases hk with rfl | rfl <;> decide) (by decide), by decide,
      mulOk_lt (by omega) (by omega) (by omega) (by omega), mulOk_lt (by omega) (by omega) (by omega) (by omega), mulOk_lt (by omega) (by omega) (by omega) (by omega), by decide, by decide, _, rfl, _, _, _, rfl, ?_, Int.emod_nonneg _ (by decide), ?_, by decide, by decide⟩
    · rcases hk with rfl | rfl
      · omega
      · omega
    · have := Int.emod_lt_of_pos (x % 2305843009213693951 * 134481 + 30515 * (place : Int) * (place : Int) + 15371) (show (0 : Int) < 2305843009213693921 by decide)
      omega
theorem cells_ok (ds : List D) : Ev (m_law_cells [.rls ds, .int 3] []) fun d h => ∃ k : Nat, d = .loc 0 ∧ h = [.lst (rng 0 k)] ∧ 1 ≤ k ∧ k ≤ 3 := by
  unfold m_law_cells b_law_cells
  simp -implicitDefEqProofs only [↓ev_srcI, ↓ev_srcN, ↓ev_optS, ↓ev_ok, ↓ev_bind, ↓ev_eC, ↓ev_v0, ↓ev_vS, ↓ev_bin, ↓ev_aNil, ↓ev_aCons, ↓ev_tup, ↓ev_disp, ↓ev_new, ↓ev_seq, ↓ev_seqT, ↓ev_seqR, ↓ev_seqL, ↓ev_bOf, ↓ev_toB, ↓ev_bTru, ↓ev_bYes, ↓ev_bAnd, ↓ev_bOr, ↓ev_bNot, ↓ev_eAnd, ↓ev_eOr, ↓ev_eNot, ↓ev_eIf, ↓ev_chain, ↓ev_u, ↓ev_uq, ↓ev_lOf, ↓ev_cat, ↓ev_call, ↓ev_addI, ↓ev_addS, ↓ev_addT, ↓ev_sub, ↓ev_mul, ↓ev_fdiv, ↓ev_mod, ↓ev_pow, ↓ev_neg, ↓ev_negI, ↓ev_cmp, ↓ev_eqI, ↓ev_eqS, ↓ev_eqB, ↓ev_isN, ↓ev_isI, ↓ev_isB, ↓ev_isS, ↓ev_isT, ↓ev_isL, ↓ev_truB, ↓ev_truN, ↓ev_truI, ↓ev_truT, ↓ev_ixS, ↓ev_ixT, ↓ev_ixR, ↓ev_ixL, ↓ev_lenS, ↓ev_lenT, ↓ev_lenR, ↓ev_lenL, ↓ev_abs, ↓ev_intI, ↓ev_intB, ↓ev_intS, ↓ev_strI, ↓ev_max, ↓ev_min, ↓ev_gcd, ↓ev_isi, ↓ev_all, ↓ev_any, ↓ev_sum, ↓ev_rg1, ↓ev_rg1I, ↓ev_lSl, ↓ev_slR, ↓ev_oNo, ↓ev_oIs, ↓ev_toI, ↓ev_eSl, ↓ev_slS, ↓ev_split, ↓ev_onStr, ↓ev_join, ↓ev_mulS, ↓ev_ext, ↓ev_onLoc, ↓ev_mt, ↓ev_app, ↓ev_lRev, ↓ev_revL, ↓sv_nx, ↓sv_seq, ↓sv_ret, ↓sv_retN, ↓sv_ex, ↓sv_if, ↓sv_set, ↓sv_par, ↓sv_put, ↓ev_run, ↓sv_loopK, ↓sv_for, ↓ev_iNew, ↓ev_iVal, ↓ev_srcT, ↓ev_srcR, ↓ev_srcS, ↓ev_srcL, ↓ev_rng1, ↓ev_rng1I, ↓ev_lComp, ↓sv_dput, ↓ev_in1, ↓ev_deI, ↓ev_deS, ↓ev_deB, ↓ev_dnI, ↓ev_dnS, ↓ev_dnB, ↓sv_okN, startL, List.map_cons, List.map_nil, List.length_cons, List.length_nil, Nat.reduceAdd, Nat.reduceSub, List.replicate, List.cons_append, List.nil_append, List.set_cons_zero, List.set_cons_succ, getL0, getLS, pick_nil, pick_one, true_and, and_self, List.append_nil, atI_0, atI_1, atI_2, atI_3, atI_4, ixN_0, ixN_1, ixN_2, ixN_3, List.getElem?_cons_zero, List.getElem?_cons_succ, Option.some.injEq, exists_eq_left', ite_true, ite_false, Bool.false_eq_true, if_true_b, if_false_b]
  have h : ∀ n : Nat, ∃ k : Nat, (if (if (n : Int) < 3 then (n : Int) else 3) > 1 then (if (n : Int) < 3 then (n : Int) else 3) else 1) = (k : Int) ∧ 1 ≤ k ∧ k ≤ 3 := fun n => by
    by_cases h1 : (n : Int) < 3
    · by_cases h2 : 1 < n
      · exact ⟨n, by rw [if_pos h1, if_pos (by omega)], by omega, by omega⟩
      · exact ⟨1, by rw [if_pos h1, if_neg (by omega)]; rfl, by omega, by omega⟩
    · exact ⟨3, by rw [if_neg h1]; rfl, by omega, by omega⟩
  obtain ⟨k, e, h1, h2⟩ := h ds.length
  rw [e]
  refine ⟨⟨by decide, by decide, by omega, by omega, by omega⟩, k, ?_, h1, h2⟩
  rw [show ((k : Int) - 0).toNat = k by omega]
theorem law_ok' (right_ok : ∀ (n : Nat) (P : MO), n ≤ 8000 → IsPot n P → Ev (m_law_right [.loc 0] [P]) fun d h => ∃ P' r, h = P' :: r ∧ IsPot (n + 1000) P' ∧ d = .bl true) (ns : List Int) : ∃ h', m_law [.rls (ns.map D.int)] [] = .ok (.bl true) h' := by
  have key : Ev (m_law [.rls (ns.map D.int)] []) fun d h => d = .bl true := by
    unfold m_law b_law
    simp -implicitDefEqProofs only [↓ev_srcI, ↓ev_srcN, ↓ev_optS, ↓ev_ok, ↓ev_bind, ↓ev_eC, ↓ev_v0, ↓ev_vS, ↓ev_bin, ↓ev_aNil, ↓ev_aCons, ↓ev_tup, ↓ev_disp, ↓ev_new, ↓ev_seq, ↓ev_seqT, ↓ev_seqR, ↓ev_seqL, ↓ev_bOf, ↓ev_toB, ↓ev_bTru, ↓ev_bYes, ↓ev_bAnd, ↓ev_bOr, ↓ev_bNot, ↓ev_eAnd, ↓ev_eOr, ↓ev_eNot, ↓ev_eIf, ↓ev_chain, ↓ev_u, ↓ev_uq, ↓ev_lOf, ↓ev_cat, ↓ev_call, ↓ev_addI, ↓ev_addS, ↓ev_addT, ↓ev_sub, ↓ev_mul, ↓ev_fdiv, ↓ev_mod, ↓ev_pow, ↓ev_neg, ↓ev_negI, ↓ev_cmp, ↓ev_eqI, ↓ev_eqS, ↓ev_eqB, ↓ev_isN, ↓ev_isI, ↓ev_isB, ↓ev_isS, ↓ev_isT, ↓ev_isL, ↓ev_truB, ↓ev_truN, ↓ev_truI, ↓ev_truT, ↓ev_ixS, ↓ev_ixT, ↓ev_ixR, ↓ev_ixL, ↓ev_lenS, ↓ev_lenT, ↓ev_lenR, ↓ev_lenL, ↓ev_abs, ↓ev_intI, ↓ev_intB, ↓ev_intS, ↓ev_strI, ↓ev_max, ↓ev_min, ↓ev_gcd, ↓ev_isi, ↓ev_all, ↓ev_any, ↓ev_sum, ↓ev_rg1, ↓ev_rg1I, ↓ev_lSl, ↓ev_slR, ↓ev_oNo, ↓ev_oIs, ↓ev_toI, ↓ev_eSl, ↓ev_slS, ↓ev_split, ↓ev_onStr, ↓ev_join, ↓ev_mulS, ↓ev_ext, ↓ev_onLoc, ↓ev_mt, ↓ev_app, ↓ev_lRev, ↓ev_revL, ↓sv_nx, ↓sv_seq, ↓sv_ret, ↓sv_retN, ↓sv_ex, ↓sv_if, ↓sv_set, ↓sv_par, ↓sv_put, ↓ev_run, ↓sv_loopK, ↓sv_for, ↓ev_iNew, ↓ev_iVal, ↓ev_srcT, ↓ev_srcR, ↓ev_srcS, ↓ev_srcL, ↓ev_rng1, ↓ev_rng1I, ↓ev_lComp, ↓sv_dput, ↓ev_in1, ↓ev_deI, ↓ev_deS, ↓ev_deB, ↓ev_dnI, ↓ev_dnS, ↓ev_dnB, ↓sv_okN, startL, List.map_cons, List.map_nil, List.length_cons, List.length_nil, Nat.reduceAdd, Nat.reduceSub, List.replicate, List.cons_append, List.nil_append, List.set_cons_zero, List.set_cons_succ, getL0, getLS, pick_nil, pick_one, true_and, and_self, List.append_nil, atI_0, atI_1, atI_2, atI_3, atI_4, ixN_0, ixN_1, ixN_2, ixN_3, List.getElem?_cons_zero, List.getElem?_cons_succ, Option.some.injEq, exists_eq_left', ite_true, ite_false, Bool.false_eq_true, if_true_b, if_false_b]
    refine lm_list (by simp [cls, D.cl, cls_ints]) (ev_mono (cells_ok _) ?_)
    rintro _ _ ⟨k, rfl, rfl, h1, h2⟩
    refine ⟨0, _, rfl, rfl, cl_rng _ _, ?_⟩
    simp -implicitDefEqProofs only [↓ev_srcI, ↓ev_srcN, ↓ev_optS, ↓ev_ok, ↓ev_bind, ↓ev_eC, ↓ev_v0, ↓ev_vS, ↓ev_bin, ↓ev_aNil, ↓ev_aCons, ↓ev_tup, ↓ev_disp, ↓ev_new, ↓ev_seq, ↓ev_seqT, ↓ev_seqR, ↓ev_seqL, ↓ev_bOf, ↓ev_toB, ↓ev_bTru, ↓ev_bYes, ↓ev_bAnd, ↓ev_bOr, ↓ev_bNot, ↓ev_eAnd, ↓ev_eOr, ↓ev_eNot, ↓ev_eIf, ↓ev_chain, ↓ev_u, ↓ev_uq, ↓ev_lOf, ↓ev_cat, ↓ev_call, ↓ev_addI, ↓ev_addS, ↓ev_addT, ↓ev_sub, ↓ev_mul, ↓ev_fdiv, ↓ev_mod, ↓ev_pow, ↓ev_neg, ↓ev_negI, ↓ev_cmp, ↓ev_eqI, ↓ev_eqS, ↓ev_eqB, ↓ev_isN, ↓ev_isI, ↓ev_isB, ↓ev_isS, ↓ev_isT, ↓ev_isL, ↓ev_truB, ↓ev_truN, ↓ev_truI, ↓ev_truT, ↓ev_ixS, ↓ev_ixT, ↓ev_ixR, ↓ev_ixL, ↓ev_lenS, ↓ev_lenT, ↓ev_lenR, ↓ev_lenL, ↓ev_abs, ↓ev_intI, ↓ev_intB, ↓ev_intS, ↓ev_strI, ↓ev_max, ↓ev_min, ↓ev_gcd, ↓ev_isi, ↓ev_all, ↓ev_any, ↓ev_sum, ↓ev_rg1, ↓ev_rg1I, ↓ev_lSl, ↓ev_slR, ↓ev_oNo, ↓ev_oIs, ↓ev_toI, ↓ev_eSl, ↓ev_slS, ↓ev_split, ↓ev_onStr, ↓ev_join, ↓ev_mulS, ↓ev_ext, ↓ev_onLoc, ↓ev_mt, ↓ev_app, ↓ev_lRev, ↓ev_revL, ↓sv_nx, ↓sv_seq, ↓sv_ret, ↓sv_retN, ↓sv_ex, ↓sv_if, ↓sv_set, ↓sv_par, ↓sv_put, ↓ev_run, ↓sv_loopK, ↓sv_for, ↓ev_iNew, ↓ev_iVal, ↓ev_srcT, ↓ev_srcR, ↓ev_srcS, ↓ev_srcL, ↓ev_rng1, ↓ev_rng1I, ↓ev_lComp, ↓sv_dput, ↓ev_in1, ↓ev_deI, ↓ev_deS, ↓ev_deB, ↓ev_dnI, ↓ev_dnS, ↓ev_dnB, ↓sv_okN, startL, List.map_cons, List.map_nil, List.length_cons, List.length_nil, Nat.reduceAdd, Nat.reduceSub, List.replicate, List.cons_append, List.nil_append, List.set_cons_zero, List.set_cons_succ, getL0, getLS, pick_nil, pick_one, true_and, and_self, List.append_nil, atI_0, atI_1, atI_2, atI_3, atI_4, ixN_0, ixN_1, ixN_2, ixN_3, List.getElem?_cons_zero, List.getElem?_cons_succ, Option.some.injEq, exists_eq_left', ite_true, ite_false, Bool.false_eq_true, if_true_b, if_false_b]
    refine sv_loc (ds := rng 0 k) (fun _ ls h => ∃ x y z t, ls = [some (.rls (ns.map D.int)), x, y, z] ∧ h = .lst (rng 0 k) :: t) (fun _ _ _ ⟨_, _, _, _, _, e⟩ => by rw [e]; rfl) _ 0 _ _ (by simp) ?_ ⟨_, _, _, _, rfl, rfl⟩ ?_
    · rintro j d ls h hd ⟨x, y, z, t, rfl, rfl⟩
      obtain ⟨hj, rfl⟩ := rng_get hd
      rw [Int.zero_add]
      simp -implicitDefEqProofs only [↓ev_srcI, ↓ev_srcN, ↓ev_optS, ↓ev_ok, ↓ev_bind, ↓ev_eC, ↓ev_v0, ↓ev_vS, ↓ev_bin, ↓ev_aNil, ↓ev_aCons, ↓ev_tup, ↓ev_disp, ↓ev_new, ↓ev_seq, ↓ev_seqT, ↓ev_seqR, ↓ev_seqL, ↓ev_bOf, ↓ev_toB, ↓ev_bTru, ↓ev_bYes, ↓ev_bAnd, ↓ev_bOr, ↓ev_bNot, ↓ev_eAnd, ↓ev_eOr, ↓ev_eNot, ↓ev_eIf, ↓ev_chain, ↓ev_u, ↓ev_uq, ↓ev_lOf, ↓ev_cat, ↓ev_call, ↓ev_addI, ↓ev_addS, ↓ev_addT, ↓ev_sub, ↓ev_mul, ↓ev_fdiv, ↓ev_mod, ↓ev_pow, ↓ev_neg, ↓ev_negI, ↓ev_cmp, ↓ev_eqI, ↓ev_eqS, ↓ev_eqB, ↓ev_isN, ↓ev_isI, ↓ev_isB, ↓ev_isS, ↓ev_isT, ↓ev_isL, ↓ev_truB, ↓ev_truN, ↓ev_truI, ↓ev_truT, ↓ev_ixS, ↓ev_ixT, ↓ev_ixR, ↓ev_ixL, ↓ev_lenS, ↓ev_lenT, ↓ev_lenR, ↓ev_lenL, ↓ev_abs, ↓ev_intI, ↓ev_intB, ↓ev_intS, ↓ev_strI, ↓ev_max, ↓ev_min, ↓ev_gcd, ↓ev_isi, ↓ev_all, ↓ev_any, ↓ev_sum, ↓ev_rg1, ↓ev_rg1I, ↓ev_lSl, ↓ev_slR, ↓ev_oNo, ↓ev_oIs, ↓ev_toI, ↓ev_eSl, ↓ev_slS, ↓ev_split, ↓ev_onStr, ↓ev_join, ↓ev_mulS, ↓ev_ext, ↓ev_onLoc, ↓ev_mt, ↓ev_app, ↓ev_lRev, ↓ev_revL, ↓sv_nx, ↓sv_seq, ↓sv_ret, ↓sv_retN, ↓sv_ex, ↓sv_if, ↓sv_set, ↓sv_par, ↓sv_put, ↓ev_run, ↓sv_loopK, ↓sv_for, ↓ev_iNew, ↓ev_iVal, ↓ev_srcT, ↓ev_srcR, ↓ev_srcS, ↓ev_srcL, ↓ev_rng1, ↓ev_rng1I, ↓ev_lComp, ↓sv_dput, ↓ev_in1, ↓ev_deI, ↓ev_deS, ↓ev_deB, ↓ev_dnI, ↓ev_dnS, ↓ev_dnB, ↓sv_okN, startL, List.map_cons, List.map_nil, List.length_cons, List.length_nil, Nat.reduceAdd, Nat.reduceSub, List.replicate, List.cons_append, List.nil_append, List.set_cons_zero, List.set_cons_succ, getL0, getLS, pick_nil, pick_one, true_and, and_self, List.append_nil, atI_0, atI_1, atI_2, atI_3, atI_4, ixN_0, ixN_1, ixN_2, ixN_3, List.getElem?_cons_zero, List.getElem?_cons_succ, Option.some.injEq, exists_eq_left', ite_true, ite_false, Bool.false_eq_true, if_true_b, if_false_b]
      refine lm_list (by simp [cls, D.cl, cls_ints]) (ev_mono (pot_ok ns j (by omega)) ?_)
      rintro _ _ ⟨P, rfl, rfl, p⟩
      refine ⟨0, P, rfl, rfl, p.cl, ?_⟩
      simp -implicitDefEqProofs only [↓ev_srcI, ↓ev_srcN, ↓ev_optS, ↓ev_ok, ↓ev_bind, ↓ev_eC, ↓ev_v0, ↓ev_vS, ↓ev_bin, ↓ev_aNil, ↓ev_aCons, ↓ev_tup, ↓ev_disp, ↓ev_new, ↓ev_seq, ↓ev_seqT, ↓ev_seqR, ↓ev_seqL, ↓ev_bOf, ↓ev_toB, ↓ev_bTru, ↓ev_bYes, ↓ev_bAnd, ↓ev_bOr, ↓ev_bNot, ↓ev_eAnd, ↓ev_eOr, ↓ev_eNot, ↓ev_eIf, ↓ev_chain, ↓ev_u, ↓ev_uq, ↓ev_lOf, ↓ev_cat, ↓ev_call, ↓ev_addI, ↓ev_addS, ↓ev_addT, ↓ev_sub, ↓ev_mul, ↓ev_fdiv, ↓ev_mod, ↓ev_pow, ↓ev_neg, ↓ev_negI, ↓ev_cmp, ↓ev_eqI, ↓ev_eqS, ↓ev_eqB, ↓ev_isN, ↓ev_isI, ↓ev_isB, ↓ev_isS, ↓ev_isT, ↓ev_isL, ↓ev_truB, ↓ev_truN, ↓ev_truI, ↓ev_truT, ↓ev_ixS, ↓ev_ixT, ↓ev_ixR, ↓ev_ixL, ↓ev_lenS, ↓ev_lenT, ↓ev_lenR, ↓ev_lenL, ↓ev_abs, ↓ev_intI, ↓ev_intB, ↓ev_intS, ↓ev_strI, ↓ev_max, ↓ev_min, ↓ev_gcd, ↓ev_isi, ↓ev_all, ↓ev_any, ↓ev_sum, ↓ev_rg1, ↓ev_rg1I, ↓ev_lSl, ↓ev_slR, ↓ev_oNo, ↓ev_oIs, ↓ev_toI, ↓ev_eSl, ↓ev_slS, ↓ev_split, ↓ev_onStr, ↓ev_join, ↓ev_mulS, ↓ev_ext, ↓ev_onLoc, ↓ev_mt, ↓ev_app, ↓ev_lRev, ↓ev_revL, ↓sv_nx, ↓sv_seq, ↓sv_ret, ↓sv_retN, ↓sv_ex, ↓sv_if, ↓sv_set, ↓sv_par, ↓sv_put, ↓ev_run, ↓sv_loopK, ↓sv_for, ↓ev_iNew, ↓ev_iVal, ↓ev_srcT, ↓ev_srcR, ↓ev_srcS, ↓ev_srcL, ↓ev_rng1, ↓ev_rng1I, ↓ev_lComp, ↓sv_dput, ↓ev_in1, ↓ev_deI, ↓ev_deS, ↓ev_deB, ↓ev_dnI, ↓ev_dnS, ↓ev_dnB, ↓sv_okN, startL, List.map_cons, List.map_nil, List.length_cons, List.length_nil, Nat.reduceAdd, Nat.reduceSub, List.replicate, List.cons_append, List.nil_append, List.set_cons_zero, List.set_cons_succ, getL0, getLS, pick_nil, pick_one, true_and, and_self, List.append_nil, atI_0, atI_1, atI_2, atI_3, atI_4, ixN_0, ixN_1, ixN_2, ixN_3, List.getElem?_cons_zero, List.getElem?_cons_succ, Option.some.injEq, exists_eq_left', ite_true, ite_false, Bool.false_eq_true, if_true_b, if_false_b]
      refine ⟨by decide, ev_comp (fun i h' => ∃ P, IsPot (1000 * i) P ∧ h' = .lst (rng 0 k) :: t ++ [P]) (fun _ y => y = .bl true) _ 0 _ (by simp [rng]; decide) ?_ ⟨P, p, rfl⟩ ?_⟩
      · rintro i d h hd ⟨P, p, rfl⟩
        obtain ⟨hi, _⟩ := rng_get hd
        have hi : i < 4 := hi
        simp -implicitDefEqProofs only [↓ev_srcI, ↓ev_srcN, ↓ev_optS, ↓ev_ok, ↓ev_bind, ↓ev_eC, ↓ev_v0, ↓ev_vS, ↓ev_bin, ↓ev_aNil, ↓ev_aCons, ↓ev_tup, ↓ev_disp, ↓ev_new, ↓ev_seq, ↓ev_seqT, ↓ev_seqR, ↓ev_seqL, ↓ev_bOf, ↓ev_toB, ↓ev_bTru, ↓ev_bYes, ↓ev_bAnd, ↓ev_bOr, ↓ev_bNot, ↓ev_eAnd, ↓ev_eOr, ↓ev_eNot, ↓ev_eIf, ↓ev_chain, ↓ev_u, ↓ev_uq, ↓ev_lOf, ↓ev_cat, ↓ev_call, ↓ev_addI, ↓ev_addS, ↓ev_addT, ↓ev_sub, ↓ev_mul, ↓ev_fdiv, ↓ev_mod, ↓ev_pow, ↓ev_neg, ↓ev_negI, ↓ev_cmp, ↓ev_eqI, ↓ev_eqS, ↓ev_eqB, ↓ev_isN, ↓ev_isI, ↓ev_isB, ↓ev_isS, ↓ev_isT, ↓ev_isL, ↓ev_truB, ↓ev_truN, ↓ev_truI, ↓ev_truT, ↓ev_ixS, ↓ev_ixT, ↓ev_ixR, ↓ev_ixL, ↓ev_lenS, ↓ev_lenT, ↓ev_lenR, ↓ev_lenL, ↓ev_abs, ↓ev_intI, ↓ev_intB, ↓ev_intS, ↓ev_strI, ↓ev_max, ↓ev_min, ↓ev_gcd, ↓ev_isi, ↓ev_all, ↓ev_any, ↓ev_sum, ↓ev_rg1, ↓ev_rg1I, ↓ev_lSl, ↓ev_slR, ↓ev_oNo, ↓ev_oIs, ↓ev_toI, ↓ev_eSl, ↓ev_slS, ↓ev_split, ↓ev_onStr, ↓ev_join, ↓ev_mulS, ↓ev_ext, ↓ev_onLoc, ↓ev_mt, ↓ev_app, ↓ev_lRev, ↓ev_revL, ↓sv_nx, ↓sv_seq, ↓sv_ret, ↓sv_retN, ↓sv_ex, ↓sv_if, ↓sv_set, ↓sv_par, ↓sv_put, ↓ev_run, ↓sv_loopK, ↓sv_for, ↓ev_iNew, ↓ev_iVal, ↓ev_srcT, ↓ev_srcR, ↓ev_srcS, ↓ev_srcL, ↓ev_rng1, ↓ev_rng1I, ↓ev_lComp, ↓sv_dput, ↓ev_in1, ↓ev_deI, ↓ev_deS, ↓ev_deB, ↓ev_dnI, ↓ev_dnS, ↓ev_dnB, ↓sv_okN, startL, List.map_cons, List.map_nil, List.length_cons, List.length_nil, Nat.reduceAdd, Nat.reduceSub, List.replicate, List.cons_append, List.nil_append, List.set_cons_zero, List.set_cons_succ, getL0, getLS, pick_nil, pick_one, true_and, and_self, List.append_nil, atI_0, atI_1, atI_2, atI_3, atI_4, ixN_0, ixN_1, ixN_2, ixN_3, List.getElem?_cons_zero, List.getElem?_cons_succ, Option.some.injEq, exists_eq_left', ite_true, ite_false, Bool.false_eq_true, if_true_b, if_false_b, wipeL, Nat.zero_add]
        refine lm_one rfl (P := P) (by simp) p.cl (ev_mono (right_ok (1000 * i) P (by omega) (by simpa using p)) ?_)
        rintro _ _ ⟨P', r, rfl, p', rfl⟩
        refine ⟨P', r, rfl, p'.cl, rfl, rfl, P', p', ?_⟩
        simp
      · rintro ys h hl hY ⟨P, p, rfl⟩
        obtain ⟨bs, e1, e2⟩ := all_true hY
        refine ⟨bs, e1, ?_⟩
        rw [e2, Bool.not_true, if_neg Bool.false_ne_true]
        exact ⟨_, _, _, _, rfl, rfl⟩
    · rintro ls h ⟨x, y, z, t, rfl, rfl⟩
      simp -implicitDefEqProofs only [↓ev_srcI, ↓ev_srcN, ↓ev_optS, ↓ev_ok, ↓ev_bind, ↓ev_eC, ↓ev_v0, ↓ev_vS, ↓ev_bin, ↓ev_aNil, ↓ev_aCons, ↓ev_tup, ↓ev_disp, ↓ev_new, ↓ev_seq, ↓ev_seqT, ↓ev_seqR, ↓ev_seqL, ↓ev_bOf, ↓ev_toB, ↓ev_bTru, ↓ev_bYes, ↓ev_bAnd, ↓ev_bOr, ↓ev_bNot, ↓ev_eAnd, ↓ev_eOr, ↓ev_eNot, ↓ev_eIf, ↓ev_chain, ↓ev_u, ↓ev_uq, ↓ev_lOf, ↓ev_cat, ↓ev_call, ↓ev_addI, ↓ev_addS, ↓ev_addT, ↓ev_sub, ↓ev_mul, ↓ev_fdiv, ↓ev_mod, ↓ev_pow, ↓ev_neg, ↓ev_negI, ↓ev_cmp, ↓ev_eqI, ↓ev_eqS, ↓ev_eqB, ↓ev_isN, ↓ev_isI, ↓ev_isB, ↓ev_isS, ↓ev_isT, ↓ev_isL, ↓ev_truB, ↓ev_truN, ↓ev_truI, ↓ev_truT, ↓ev_ixS, ↓ev_ixT, ↓ev_ixR, ↓ev_ixL, ↓ev_lenS, ↓ev_lenT, ↓ev_lenR, ↓ev_lenL, ↓ev_abs, ↓ev_intI, ↓ev_intB, ↓ev_intS, ↓ev_strI, ↓ev_max, ↓ev_min, ↓ev_gcd, ↓ev_isi, ↓ev_all, ↓ev_any, ↓ev_sum, ↓ev_rg1, ↓ev_rg1I, ↓ev_lSl, ↓ev_slR, ↓ev_oNo, ↓ev_oIs, ↓ev_toI, ↓ev_eSl, ↓ev_slS, ↓ev_split, ↓ev_onStr, ↓ev_join, ↓ev_mulS, ↓ev_ext, ↓ev_onLoc, ↓ev_mt, ↓ev_app, ↓ev_lRev, ↓ev_revL, ↓sv_nx, ↓sv_seq, ↓sv_ret, ↓sv_retN, ↓sv_ex, ↓sv_if, ↓sv_set, ↓sv_par, ↓sv_put, ↓ev_run, ↓sv_loopK, ↓sv_for, ↓ev_iNew, ↓ev_iVal, ↓ev_srcT, ↓ev_srcR, ↓ev_srcS, ↓ev_srcL, ↓ev_rng1, ↓ev_rng1I, ↓ev_lComp, ↓sv_dput, ↓ev_in1, ↓ev_deI, ↓ev_deS, ↓ev_deB, ↓ev_dnI, ↓ev_dnS, ↓ev_dnB, ↓sv_okN, startL, List.map_cons, List.map_nil, List.length_cons, List.length_nil, Nat.reduceAdd, Nat.reduceSub, List.replicate, List.cons_append, List.nil_append, List.set_cons_zero, List.set_cons_succ, getL0, getLS, pick_nil, pick_one, true_and, and_self, List.append_nil, atI_0, atI_1, atI_2, atI_3, atI_4, ixN_0, ixN_1, ixN_2, ixN_3, List.getElem?_cons_zero, List.getElem?_cons_succ, Option.some.injEq, exists_eq_left', ite_true, ite_false, Bool.false_eq_true, if_true_b, if_false_b]
  obtain ⟨d, h, e, rfl⟩ := ev_get key
  exact ⟨h, e⟩
end K00

set_option Elab.async false
set_option linter.all false
set_option maxRecDepth 100000
set_option maxHeartbeats 4000000
set_option exponentiation.threshold 4000
namespace K00
open PySem PySem.Spec PyProof.Rows L2 MP
def SM : List Nat := (Str.ofString "abcdefghijklmnopqrstuvwxyz").cps.toList
def FG : List Nat := (Str.ofString "0123456789").cps.toList
def lv (x : Str) : Bool := (decide (1 ≤ x.length) && decide (x.length ≤ 8)) && x.cps.toList.all fun c => decide (c ∈ SM) || decide (c ∈ FG)
theorem lv_pos {x : Str} (h : lv x = true) : ∃ c r, x.cps.toList = c :: r := by
  cases e : x.cps.toList with
  | nil =>
    have hn : x.cps.toList.length = x.length := by simp [Str.length]
    rw [e] at hn
    unfold lv at h
    simp only [Bool.and_eq_true, decide_eq_true_eq] at h
    have := h.1.1
    simp at hn
    omega
  | cons c r => exact ⟨c, r, rfl⟩
theorem is_level_ok {x : Str} (hz : x.length ≤ sizeLine) : Ev (m_is_level [.str x] []) fun d _ => d = .bl (lv x) := by
  unfold m_is_level b_is_level
  simp -implicitDefEqProofs only [↓ev_srcI, ↓ev_srcN, ↓ev_optS, ↓ev_ok, ↓ev_bind, ↓ev_eC, ↓ev_v0, ↓ev_vS, ↓ev_bin, ↓ev_aNil, ↓ev_aCons, ↓ev_tup, ↓ev_disp, ↓ev_new, ↓ev_seq, ↓ev_seqT, ↓ev_seqR, ↓ev_seqL, ↓ev_bOf, ↓ev_toB, ↓ev_bTru, ↓ev_bYes, ↓ev_bAnd, ↓ev_bOr, ↓ev_bNot, ↓ev_eAnd, ↓ev_eOr, ↓ev_eNot, ↓ev_eIf, ↓ev_chain, ↓ev_u, ↓ev_uq, ↓ev_lOf, ↓ev_cat, ↓ev_call, ↓ev_addI, ↓ev_addS, ↓ev_addT, ↓ev_sub, ↓ev_mul, ↓ev_fdiv, ↓ev_mod, ↓ev_pow, ↓ev_neg, ↓ev_negI, ↓ev_cmp, ↓ev_eqI, ↓ev_eqS, ↓ev_eqB, ↓ev_isN, ↓ev_isI, ↓ev_isB, ↓ev_isS, ↓ev_isT, ↓ev_isL, ↓ev_truB, ↓ev_truN, ↓ev_truI, ↓ev_truT, ↓ev_ixS, ↓ev_ixT, ↓ev_ixR, ↓ev_ixL, ↓ev_lenS, ↓ev_lenT, ↓ev_lenR, ↓ev_lenL, ↓ev_abs, ↓ev_intI, ↓ev_intB, ↓ev_intS, ↓ev_strI, ↓ev_max, ↓ev_min, ↓ev_gcd, ↓ev_isi, ↓ev_all, ↓ev_any, ↓ev_sum, ↓ev_rg1, ↓ev_rg1I, ↓ev_lSl, ↓ev_slR, ↓ev_oNo, ↓ev_oIs, ↓ev_toI, ↓ev_eSl, ↓ev_slS, ↓ev_split, ↓ev_onStr, ↓ev_join, ↓ev_mulS, ↓ev_ext, ↓ev_onLoc, ↓ev_mt, ↓ev_app, ↓ev_lRev, ↓ev_revL, ↓sv_nx, ↓sv_seq, ↓sv_ret, ↓sv_retN, ↓sv_ex, ↓sv_if, ↓sv_set, ↓sv_par, ↓sv_put, ↓ev_run, ↓sv_loopK, ↓sv_for, ↓ev_iNew, ↓ev_iVal, ↓ev_srcT, ↓ev_srcR, ↓ev_srcS, ↓ev_srcL, ↓ev_rng1, ↓ev_rng1I, ↓ev_lComp, ↓sv_dput, ↓ev_in1, ↓ev_deI, ↓ev_deS, ↓ev_deB, ↓ev_dnI, ↓ev_dnS, ↓ev_dnB, ↓sv_okN, startL, List.map_cons, List.map_nil, List.length_cons, List.length_nil, Nat.reduceAdd, Nat.reduceSub, List.replicate, List.cons_append, List.nil_append, List.set_cons_zero, List.set_cons_succ, getL0, getLS, pick_nil, pick_one, true_and, and_self, List.append_nil, atI_0, atI_1, atI_2, atI_3, atI_4, ixN_0, ixN_1, ixN_2, ixN_3, List.getElem?_cons_zero, List.getElem?_cons_succ, Option.some.injEq, exists_eq_left', ite_true, ite_false, Bool.false_eq_true, if_true_b, if_false_b, dTy_n, dTy_b, dTy_i, dTy_s, dTy_t, dTy_r, dTy_l, decide_true, decide_false, Bool.not_true, Bool.not_false, decide_eq_true_eq, Bool.not_eq_true', decide_eq_false_iff_not, wipeL, Nat.zero_add, kit_ss, kit_is, kit_ns, kit_ts, kit_ls, kit_bs, kit_st, kit_it, kit_nt, kit_tt, kit_lt, kit_bt, kit_sl, kit_il, kit_nl, kit_tl, kit_ll, kit_bl, kit_si, kit_ii, kit_ni, kit_ti, kit_li, kit_bi, kit_sb, kit_ib, kit_nb, kit_tb, kit_lb, kit_bb]
  refine ⟨hz, ?_⟩
  by_cases h1 : 1 ≤ x.length
  · by_cases h2 : x.length ≤ 8
    · rw [if_pos (by omega)]
      unfold c_MOST_SIGNS
      simp -implicitDefEqProofs only [↓ev_srcI, ↓ev_srcN, ↓ev_optS, ↓ev_ok, ↓ev_bind, ↓ev_eC, ↓ev_v0, ↓ev_vS, ↓ev_bin, ↓ev_aNil, ↓ev_aCons, ↓ev_tup, ↓ev_disp, ↓ev_new, ↓ev_seq, ↓ev_seqT, ↓ev_seqR, ↓ev_seqL, ↓ev_bOf, ↓ev_toB, ↓ev_bTru, ↓ev_bYes, ↓ev_bAnd, ↓ev_bOr, ↓ev_bNot, ↓ev_eAnd, ↓ev_eOr, ↓ev_eNot, ↓ev_eIf, ↓ev_chain, ↓ev_u, ↓ev_uq, ↓ev_lOf, ↓ev_cat, ↓ev_call, ↓ev_addI, ↓ev_addS, ↓ev_addT, ↓ev_sub, ↓ev_mul, ↓ev_fdiv, ↓ev_mod, ↓ev_pow, ↓ev_neg, ↓ev_negI, ↓ev_cmp, ↓ev_eqI, ↓ev_eqS, ↓ev_eqB, ↓ev_isN, ↓ev_isI, ↓ev_isB, ↓ev_isS, ↓ev_isT, ↓ev_isL, ↓ev_truB, ↓ev_truN, ↓ev_truI, ↓ev_truT, ↓ev_ixS, ↓ev_ixT, ↓ev_ixR, ↓ev_ixL, ↓ev_lenS, ↓ev_lenT, ↓ev_lenR, ↓ev_lenL, ↓ev_abs, ↓ev_intI, ↓ev_intB, ↓ev_intS, ↓ev_strI, ↓ev_max, ↓ev_min, ↓ev_gcd, ↓ev_isi, ↓ev_all, ↓ev_any, ↓ev_sum, ↓ev_rg1, ↓ev_rg1I, ↓ev_lSl, ↓ev_slR, ↓ev_oNo, ↓ev_oIs, ↓ev_toI, ↓ev_eSl, ↓ev_slS, ↓ev_split, ↓ev_onStr, ↓ev_join, ↓ev_mulS, ↓ev_ext, ↓ev_onLoc, ↓ev_mt, ↓ev_app, ↓ev_lRev, ↓ev_revL, ↓sv_nx, ↓sv_seq, ↓sv_ret, ↓sv_retN, ↓sv_ex, ↓sv_if, ↓sv_set, ↓sv_par, ↓sv_put, ↓ev_run, ↓sv_loopK, ↓sv_for, ↓ev_iNew, ↓ev_iVal, ↓ev_srcT, ↓ev_srcR, ↓ev_srcS, ↓ev_srcL, ↓ev_rng1, ↓ev_rng1I, ↓ev_lComp, ↓sv_dput, ↓ev_in1, ↓ev_deI, ↓ev_deS, ↓ev_deB, ↓ev_dnI, ↓ev_dnS, ↓ev_dnB, ↓sv_okN, startL, List.map_cons, List.map_nil, List.length_cons, List.length_nil, Nat.reduceAdd, Nat.reduceSub, List.replicate, List.cons_append, List.nil_append, List.set_cons_zero, List.set_cons_succ, getL0, getLS, pick_nil, pick_one, true_and, and_self, List.append_nil, atI_0, atI_1, atI_2, atI_3, atI_4, ixN_0, ixN_1, ixN_2, ixN_3, List.getElem?_cons_zero, List.getElem?_cons_succ, Option.some.injEq, exists_eq_left', ite_true, ite_false, Bool.false_eq_true, if_true_b, if_false_b, dTy_n, dTy_b, dTy_i, dTy_s, dTy_t, dTy_r, dTy_l, decide_true, decide_false, Bool.not_true, Bool.not_false, decide_eq_true_eq, Bool.not_eq_true', decide_eq_false_iff_not, wipeL, Nat.zero_add, kit_ss, kit_is, kit_ns, kit_ts, kit_ls, kit_bs, kit_st, kit_it, kit_nt, kit_tt, kit_lt, kit_bt, kit_sl, kit_il, kit_nl, kit_tl, kit_ll, kit_bl, kit_si, kit_ii, kit_ni, kit_ti, kit_li, kit_bi, kit_sb, kit_ib, kit_nb, kit_tb, kit_lb, kit_bb]
      rw [if_neg (by omega)]
      refine ev_mono (ev_compSg (fun c => decide (c ∈ SM) || decide (c ∈ FG)) x hz fun c hc => ?_) ?_
      · simp -implicitDefEqProofs only [↓ev_srcI, ↓ev_srcN, ↓ev_optS, ↓ev_ok, ↓ev_bind, ↓ev_eC, ↓ev_v0, ↓ev_vS, ↓ev_bin, ↓ev_aNil, ↓ev_aCons, ↓ev_tup, ↓ev_disp, ↓ev_new, ↓ev_seq, ↓ev_seqT, ↓ev_seqR, ↓ev_seqL, ↓ev_bOf, ↓ev_toB, ↓ev_bTru, ↓ev_bYes, ↓ev_bAnd, ↓ev_bOr, ↓ev_bNot, ↓ev_eAnd, ↓ev_eOr, ↓ev_eNot, ↓ev_eIf, ↓ev_chain, ↓ev_u, ↓ev_uq, ↓ev_lOf, ↓ev_cat, ↓ev_call, ↓ev_addI, ↓ev_addS, ↓ev_addT, ↓ev_sub, ↓ev_mul, ↓ev_fdiv, ↓ev_mod, ↓ev_pow, ↓ev_neg, ↓ev_negI, ↓ev_cmp, ↓ev_eqI, ↓ev_eqS, ↓ev_eqB, ↓ev_isN, ↓ev_isI, ↓ev_isB, ↓ev_isS, ↓ev_isT, ↓ev_isL, ↓ev_truB, ↓ev_truN, ↓ev_truI, ↓ev_truT, ↓ev_ixS, ↓ev_ixT, ↓ev_ixR, ↓ev_ixL, ↓ev_lenS, ↓ev_lenT, ↓ev_lenR, ↓ev_lenL, ↓ev_abs, ↓ev_intI, ↓ev_intB, ↓ev_intS, ↓ev_strI, ↓ev_max, ↓ev_min, ↓ev_gcd, ↓ev_isi, ↓ev_all, ↓ev_any, ↓ev_sum, ↓ev_rg1, ↓ev_rg1I, ↓ev_lSl, ↓ev_slR, ↓ev_oNo, ↓ev_oIs, ↓ev_toI, ↓ev_eSl, ↓ev_slS, ↓ev_split, ↓ev_onStr, ↓ev_join, ↓ev_mulS, ↓ev_ext, ↓ev_onLoc, ↓ev_mt, ↓ev_app, ↓ev_lRev, ↓ev_revL, ↓sv_nx, ↓sv_seq, ↓sv_ret, ↓sv_retN, ↓sv_ex, ↓sv_if, ↓sv_set, ↓sv_par, ↓sv_put, ↓ev_run, ↓sv_loopK, ↓sv_for, ↓ev_iNew, ↓ev_iVal, ↓ev_srcT, ↓ev_srcR, ↓ev_srcS, ↓ev_srcL, ↓ev_rng1, ↓ev_rng1I, ↓ev_lComp, ↓sv_dput, ↓ev_in1, ↓ev_deI, ↓ev_deS, ↓ev_deB, ↓ev_dnI, ↓ev_dnS, ↓ev_dnB, ↓sv_okN, startL, List.map_cons, List.map_nil, List.length_cons, List.length_nil, Nat.reduceAdd, Nat.reduceSub, List.replicate, List.cons_append, List.nil_append, List.set_cons_zero, List.set_cons_succ, getL0, getLS, pick_nil, pick_one, true_and, and_self, List.append_nil, atI_0, atI_1, atI_2, atI_3, atI_4, ixN_0, ixN_1, ixN_2, ixN_3, List.getElem?_cons_zero, List.getElem?_cons_succ, Option.some.injEq, exists_eq_left', ite_true, ite_false, Bool.false_eq_true, if_true_b, if_false_b, dTy_n, dTy_b, dTy_i, dTy_s, dTy_t, dTy_r, dTy_l, decide_true, decide_false, Bool.not_true, Bool.not_false, decide_eq_true_eq, Bool.not_eq_true', decide_eq_false_iff_not, wipeL, Nat.zero_add, kit_ss, kit_is, kit_ns, kit_ts, kit_ls, kit_bs, kit_st, kit_it, kit_nt, kit_tt, kit_lt, kit_bt, kit_sl, kit_il, kit_nl, kit_tl, kit_ll, kit_bl, kit_si, kit_ii, kit_ni, kit_ti, kit_li, kit_bi, kit_sb, kit_ib, kit_nb, kit_tb, kit_lb, kit_bb, c_SMALL, c_FIGURES]
        show if c ∈ SM then D.bl (decide (c ∈ SM)) = _ ∧ _ else D.bl (decide (c ∈ FG)) = _ ∧ _
        by_cases h3 : c ∈ SM
        · rw [if_pos h3]
          refine ⟨?_, trivial⟩
          rw [decide_eq_true h3]; rfl
        · rw [if_neg h3]
          refine ⟨?_, trivial⟩
          rw [decide_eq_false h3]; rfl
      · rintro _ _ ⟨rfl, rfl⟩
        refine ⟨_, mapM_bl _, ?_⟩
        unfold lv
        rw [decide_eq_true h1, decide_eq_true h2, List.all_map]; rfl
    · rw [if_pos (by omega)]
      unfold c_MOST_SIGNS
      simp -implicitDefEqProofs only [↓ev_srcI, ↓ev_srcN, ↓ev_optS, ↓ev_ok, ↓ev_bind, ↓ev_eC, ↓ev_v0, ↓ev_vS, ↓ev_bin, ↓ev_aNil, ↓ev_aCons, ↓ev_tup, ↓ev_disp, ↓ev_new, ↓ev_seq, ↓ev_seqT, ↓ev_seqR, ↓ev_seqL, ↓ev_bOf, ↓ev_toB, ↓ev_bTru, ↓ev_bYes, ↓ev_bAnd, ↓ev_bOr, ↓ev_bNot, ↓ev_eAnd, ↓ev_eOr, ↓ev_eNot, ↓ev_eIf, ↓ev_chain, ↓ev_u, ↓ev_uq, ↓ev_lOf, ↓ev_cat, ↓ev_call, ↓ev_addI, ↓ev_addS, ↓ev_addT, ↓ev_sub, ↓ev_mul, ↓ev_fdiv, ↓ev_mod, ↓ev_pow, ↓ev_neg, ↓ev_negI, ↓ev_cmp, ↓ev_eqI, ↓ev_eqS, ↓ev_eqB, ↓ev_isN, ↓ev_isI, ↓ev_isB, ↓ev_isS, ↓ev_isT, ↓ev_isL, ↓ev_truB, ↓ev_truN, ↓ev_truI, ↓ev_truT, ↓ev_ixS, ↓ev_ixT, ↓ev_ixR, ↓ev_ixL, ↓ev_lenS, ↓ev_lenT, ↓ev_lenR, ↓ev_lenL, ↓ev_abs, ↓ev_intI, ↓ev_intB, ↓ev_intS, ↓ev_strI, ↓ev_max, ↓ev_min, ↓ev_gcd, ↓ev_isi, ↓ev_all, ↓ev_any, ↓ev_sum, ↓ev_rg1, ↓ev_rg1I, ↓ev_lSl, ↓ev_slR, ↓ev_oNo, ↓ev_oIs, ↓ev_toI, ↓ev_eSl, ↓ev_slS, ↓ev_split, ↓ev_onStr, ↓ev_join, ↓ev_mulS, ↓ev_ext, ↓ev_onLoc, ↓ev_mt, ↓ev_app, ↓ev_lRev, ↓ev_revL, ↓sv_nx, ↓sv_seq, ↓sv_ret, ↓sv_retN, ↓sv_ex, ↓sv_if, ↓sv_set, ↓sv_par, ↓sv_put, ↓ev_run, ↓sv_loopK, ↓sv_for, ↓ev_iNew, ↓ev_iVal, ↓ev_srcT, ↓ev_srcR, ↓ev_srcS, ↓ev_srcL, ↓ev_rng1, ↓ev_rng1I, ↓ev_lComp, ↓sv_dput, ↓ev_in1, ↓ev_deI, ↓ev_deS, ↓ev_deB, ↓ev_dnI, ↓ev_dnS, ↓ev_dnB, ↓sv_okN, startL, List.map_cons, List.map_nil, List.length_cons, List.length_nil, Nat.reduceAdd, Nat.reduceSub, List.replicate, List.cons_append, List.nil_append, List.set_cons_zero, List.set_cons_succ, getL0, getLS, pick_nil, pick_one, true_and, and_self, List.append_nil, atI_0, atI_1, atI_2, atI_3, atI_4, ixN_0, ixN_1, ixN_2, ixN_3, List.getElem?_cons_zero, List.getElem?_cons_succ, Option.some.injEq, exists_eq_left', ite_true, ite_false, Bool.false_eq_true, if_true_b, if_false_b, dTy_n, dTy_b, dTy_i, dTy_s, dTy_t, dTy_r, dTy_l, decide_true, decide_false, Bool.not_true, Bool.not_false, decide_eq_true_eq, Bool.not_eq_true', decide_eq_false_iff_not, wipeL, Nat.zero_add, kit_ss, kit_is, kit_ns, kit_ts, kit_ls, kit_bs, kit_st, kit_it, kit_nt, kit_tt, kit_lt, kit_bt, kit_sl, kit_il, kit_nl, kit_tl, kit_ll, kit_bl, kit_si, kit_ii, kit_ni, kit_ti, kit_li, kit_bi, kit_sb, kit_ib, kit_nb, kit_tb, kit_lb, kit_bb]
      rw [if_pos (by omega)]
      unfold lv
      rw [decide_eq_false h2, Bool.and_false, Bool.false_and]
  · rw [if_neg (by omega)]
    unfold lv
    rw [decide_eq_false h1, Bool.false_and, Bool.false_and]
theorem is_name_ok {x : Str} (hz : x.length ≤ sizeLine) : Ev (m_is_name [.str x] []) fun d _ => d = .bl (lv x && decide (x.cps.toList.headD 0 ∈ SM)) := by
  unfold m_is_name b_is_name
  simp -implicitDefEqProofs only [↓ev_srcI, ↓ev_srcN, ↓ev_optS, ↓ev_ok, ↓ev_bind, ↓ev_eC, ↓ev_v0, ↓ev_vS, ↓ev_bin, ↓ev_aNil, ↓ev_aCons, ↓ev_tup, ↓ev_disp, ↓ev_new, ↓ev_seq, ↓ev_seqT, ↓ev_seqR, ↓ev_seqL, ↓ev_bOf, ↓ev_toB, ↓ev_bTru, ↓ev_bYes, ↓ev_bAnd, ↓ev_bOr, ↓ev_bNot, ↓ev_eAnd, ↓ev_eOr, ↓ev_eNot, ↓ev_eIf, ↓ev_chain, ↓ev_u, ↓ev_uq, ↓ev_lOf, ↓ev_cat, ↓ev_call, ↓ev_addI, ↓ev_addS, ↓ev_addT, ↓ev_sub, ↓ev_mul, ↓ev_fdiv, ↓ev_mod, ↓ev_pow, ↓ev_neg, ↓ev_negI, ↓ev_cmp, ↓ev_eqI, ↓ev_eqS, ↓ev_eqB, ↓ev_isN, ↓ev_isI, ↓ev_isB, ↓ev_isS, ↓ev_isT, ↓ev_isL, ↓ev_truB, ↓ev_truN, ↓ev_truI, ↓ev_truT, ↓ev_ixS, ↓ev_ixT, ↓ev_ixR, ↓ev_ixL, ↓ev_lenS, ↓ev_lenT, ↓ev_lenR, ↓ev_lenL, ↓ev_abs, ↓ev_intI, ↓ev_intB, ↓ev_intS, ↓ev_strI, ↓ev_max, ↓ev_min, ↓ev_gcd, ↓ev_isi, ↓ev_all, ↓ev_any, ↓ev_sum, ↓ev_rg1, ↓ev_rg1I, ↓ev_lSl, ↓ev_slR, ↓ev_oNo, ↓ev_oIs, ↓ev_toI, ↓ev_eSl, ↓ev_slS, ↓ev_split, ↓ev_onStr, ↓ev_join, ↓ev_mulS, ↓ev_ext, ↓ev_onLoc, ↓ev_mt, ↓ev_app, ↓ev_lRev, ↓ev_revL, ↓sv_nx, ↓sv_seq, ↓sv_ret, ↓sv_retN, ↓sv_ex, ↓sv_if, ↓sv_set, ↓sv_par, ↓sv_put, ↓ev_run, ↓sv_loopK, ↓sv_for, ↓ev_iNew, ↓ev_iVal, ↓ev_srcT, ↓ev_srcR, ↓ev_srcS, ↓ev_srcL, ↓ev_rng1, ↓ev_rng1I, ↓ev_lComp, ↓sv_dput, ↓ev_in1, ↓ev_deI, ↓ev_deS, ↓ev_deB, ↓ev_dnI, ↓ev_dnS, ↓ev_dnB, ↓sv_okN, startL, List.map_cons, List.map_nil, List.length_cons, List.length_nil, Nat.reduceAdd, Nat.reduceSub, List.replicate, List.cons_append, List.nil_append, List.set_cons_zero, List.set_cons_succ, getL0, getLS, pick_nil, pick_one, true_and, and_self, List.append_nil, atI_0, atI_1, atI_2, atI_3, atI_4, ixN_0, ixN_1, ixN_2, ixN_3, List.getElem?_cons_zero, List.getElem?_cons_succ, Option.some.injEq, exists_eq_left', ite_true, ite_false, Bool.false_eq_true, if_true_b, if_false_b, dTy_n, dTy_b, dTy_i, dTy_s, dTy_t, dTy_r, dTy_l, decide_true, decide_false, Bool.not_true, Bool.not_false, decide_eq_true_eq, Bool.not_eq_true', decide_eq_false_iff_not, wipeL, Nat.zero_add, kit_ss, kit_is, kit_ns, kit_ts, kit_ls, kit_bs, kit_st, kit_it, kit_nt, kit_tt, kit_lt, kit_bt, kit_sl, kit_il, kit_nl, kit_tl, kit_ll, kit_bl, kit_si, kit_ii, kit_ni, kit_ti, kit_li, kit_bi, kit_sb, kit_ib, kit_nb, kit_tb, kit_lb, kit_bb]
  refine lm_closed rfl (ev_mono (is_level_ok hz) ?_)
  rintro _ _ rfl
  refine ⟨rfl, ?_⟩
  simp -implicitDefEqProofs only [↓ev_srcI, ↓ev_srcN, ↓ev_optS, ↓ev_ok, ↓ev_bind, ↓ev_eC, ↓ev_v0, ↓ev_vS, ↓ev_bin, ↓ev_aNil, ↓ev_aCons, ↓ev_tup, ↓ev_disp, ↓ev_new, ↓ev_seq, ↓ev_seqT, ↓ev_seqR, ↓ev_seqL, ↓ev_bOf, ↓ev_toB, ↓ev_bTru, ↓ev_bYes, ↓ev_bAnd, ↓ev_bOr, ↓ev_bNot, ↓ev_eAnd, ↓ev_eOr, ↓ev_eNot, ↓ev_eIf, ↓ev_chain, ↓ev_u, ↓ev_uq, ↓ev_lOf, ↓ev_cat, ↓ev_call, ↓ev_addI, ↓ev_addS, ↓ev_addT, ↓ev_sub, ↓ev_mul, ↓ev_fdiv, ↓ev_mod, ↓ev_pow, ↓ev_neg, ↓ev_negI, ↓ev_cmp, ↓ev_eqI, ↓ev_eqS, ↓ev_eqB, ↓ev_isN, ↓ev_isI, ↓ev_isB, ↓ev_isS, ↓ev_isT, ↓ev_isL, ↓ev_truB, ↓ev_truN, ↓ev_truI, ↓ev_truT, ↓ev_ixS, ↓ev_ixT, ↓ev_ixR, ↓ev_ixL, ↓ev_lenS, ↓ev_lenT, ↓ev_lenR, ↓ev_lenL, ↓ev_abs, ↓ev_intI, ↓ev_intB, ↓ev_intS, ↓ev_strI, ↓ev_max, ↓ev_min, ↓ev_gcd, ↓ev_isi, ↓ev_all, ↓ev_any, ↓ev_sum, ↓ev_rg1, ↓ev_rg1I, ↓ev_lSl, ↓ev_slR, ↓ev_oNo, ↓ev_oIs, ↓ev_toI, ↓ev_eSl, ↓ev_slS, ↓ev_split, ↓ev_onStr, ↓ev_join, ↓ev_mulS, ↓ev_ext, ↓ev_onLoc, ↓ev_mt, ↓ev_app, ↓ev_lRev, ↓ev_revL, ↓sv_nx, ↓sv_seq, ↓sv_ret, ↓sv_retN, ↓sv_ex, ↓sv_if, ↓sv_set, ↓sv_par, ↓sv_put, ↓ev_run, ↓sv_loopK, ↓sv_for, ↓ev_iNew, ↓ev_iVal, ↓ev_srcT, ↓ev_srcR, ↓ev_srcS, ↓ev_srcL, ↓ev_rng1, ↓ev_rng1I, ↓ev_lComp, ↓sv_dput, ↓ev_in1, ↓ev_deI, ↓ev_deS, ↓ev_deB, ↓ev_dnI, ↓ev_dnS, ↓ev_dnB, ↓sv_okN, startL, List.map_cons, List.map_nil, List.length_cons, List.length_nil, Nat.reduceAdd, Nat.reduceSub, List.replicate, List.cons_append, List.nil_append, List.set_cons_zero, List.set_cons_succ, getL0, getLS, pick_nil, pick_one, true_and, and_self, List.append_nil, atI_0, atI_1, atI_2, atI_3, atI_4, ixN_0, ixN_1, ixN_2, ixN_3, List.getElem?_cons_zero, List.getElem?_cons_succ, Option.some.injEq, exists_eq_left', ite_true, ite_false, Bool.false_eq_true, if_true_b, if_false_b, dTy_n, dTy_b, dTy_i, dTy_s, dTy_t, dTy_r, dTy_l, decide_true, decide_false, Bool.not_true, Bool.not_false, decide_eq_true_eq, Bool.not_eq_true', decide_eq_false_iff_not, wipeL, Nat.zero_add, kit_ss, kit_is, kit_ns, kit_ts, kit_ls, kit_bs, kit_st, kit_it, kit_nt, kit_tt, kit_lt, kit_bt, kit_sl, kit_il, kit_nl, kit_tl, kit_ll, kit_bl, kit_si, kit_ii, kit_ni, kit_ti, kit_li, kit_bi, kit_sb, kit_ib, kit_nb, kit_tb, kit_lb, kit_bb]
  by_cases h : lv x = true
  · rw [if_pos h]
    obtain ⟨c, r, e⟩ := lv_pos h
    refine ⟨hz, c, by rw [e]; rfl, ?_⟩
    unfold c_SMALL
    rw [h, e]; rfl
  · rw [if_neg h]
    rw [Bool.not_eq_true] at h
    rw [h]; rfl
theorem word_right {x : Str} (hz : x.length ≤ 1000) : Ev (m_law_is_word_right [.str x] []) fun d _ => d = .bl true := by
  have hz' : x.length ≤ sizeLine := Nat.le_trans hz (by decide)
  have hap : (("abcdefghijklmnopqrstuvwxyz" : Str) ++ ("0123456789" : Str)).cps.toList = SM ++ FG := by decide +kernel
  unfold m_law_is_word_right b_law_is_word_right
  rw [ev_run]
  refine sv_cut (fun ls h => ls = [some (.str x), some (.str "abcdefghijklmnopqrstuvwxyz"), none, none] ∧ h = []) (by simp -implicitDefEqProofs only [↓ev_srcI, ↓ev_srcN, ↓ev_optS, ↓ev_ok, ↓ev_bind, ↓ev_eC, ↓ev_v0, ↓ev_vS, ↓ev_bin, ↓ev_aNil, ↓ev_aCons, ↓ev_tup, ↓ev_disp, ↓ev_new, ↓ev_seq, ↓ev_seqT, ↓ev_seqR, ↓ev_seqL, ↓ev_bOf, ↓ev_toB, ↓ev_bTru, ↓ev_bYes, ↓ev_bAnd, ↓ev_bOr, ↓ev_bNot, ↓ev_eAnd, ↓ev_eOr, ↓ev_eNot, ↓ev_eIf, ↓ev_chain, ↓ev_u, ↓ev_uq, ↓ev_lOf, ↓ev_cat, ↓ev_call, ↓ev_addI, ↓ev_addS, ↓ev_addT, ↓ev_sub, ↓ev_mul, ↓ev_fdiv, ↓ev_mod, ↓ev_pow, ↓ev_neg, ↓ev_negI, ↓ev_cmp, ↓ev_eqI, ↓ev_eqS, ↓ev_eqB, ↓ev_isN, ↓ev_isI, ↓ev_isB, ↓ev_isS, ↓ev_isT, ↓ev_isL, ↓ev_truB, ↓ev_truN, ↓ev_truI, ↓ev_truT, ↓ev_ixS, ↓ev_ixT, ↓ev_ixR, ↓ev_ixL, ↓ev_lenS, ↓ev_lenT, ↓ev_lenR, ↓ev_lenL, ↓ev_abs, ↓ev_intI, ↓ev_intB, ↓ev_intS, ↓ev_strI, ↓ev_max, ↓ev_min, ↓ev_gcd, ↓ev_isi, ↓ev_all, ↓ev_any, ↓ev_sum, ↓ev_rg1, ↓ev_rg1I, ↓ev_lSl, ↓ev_slR, ↓ev_oNo, ↓ev_oIs, ↓ev_toI, ↓ev_eSl, ↓ev_slS, ↓ev_split, ↓ev_onStr, ↓ev_join, ↓ev_mulS, ↓ev_ext, ↓ev_onLoc, ↓ev_mt, ↓ev_app, ↓ev_lRev, ↓ev_revL, ↓sv_nx, ↓sv_seq, ↓sv_ret, ↓sv_retN, ↓sv_ex, ↓sv_if, ↓sv_set, ↓sv_par, ↓sv_put, ↓ev_run, ↓sv_loopK, ↓sv_for, ↓ev_iNew, ↓ev_iVal, ↓ev_srcT, ↓ev_srcR, ↓ev_srcS, ↓ev_srcL, ↓ev_rng1, ↓ev_rng1I, ↓ev_lComp, ↓sv_dput, ↓ev_in1, ↓ev_deI, ↓ev_deS, ↓ev_deB, ↓ev_dnI, ↓ev_dnS, ↓ev_dnB, ↓sv_okN, startL, List.map_cons, List.map_nil, List.length_cons, List.length_nil, Nat.reduceAdd, Nat.reduceSub, List.replicate, List.cons_append, List.nil_append, List.set_cons_zero, List.set_cons_succ, getL0, getLS, pick_nil, pick_one, true_and, and_self, List.append_nil, atI_0, atI_1, atI_2, atI_3, atI_4, ixN_0, ixN_1, ixN_2, ixN_3, List.getElem?_cons_zero, List.getElem?_cons_succ, Option.some.injEq, exists_eq_left', ite_true, ite_false, Bool.false_eq_true, if_true_b, if_false_b, dTy_n, dTy_b, dTy_i, dTy_s, dTy_t, dTy_r, dTy_l, decide_true, decide_false, Bool.not_true, Bool.not_false, decide_eq_true_eq, Bool.not_eq_true', decide_eq_false_iff_not, wipeL, Nat.zero_add, kit_ss, kit_is, kit_ns, kit_ts, kit_ls, kit_bs, kit_st, kit_it, kit_nt, kit_tt, kit_lt, kit_bt, kit_sl, kit_il, kit_nl, kit_tl, kit_ll, kit_bl, kit_si, kit_ii, kit_ni, kit_ti, kit_li, kit_bi, kit_sb, kit_ib, kit_nb, kit_tb, kit_lb, kit_bb]) ?_
  rintro _ _ ⟨rfl, rfl⟩
  refine sv_cut (fun ls h => ls = [some (.str x), some (.str "abcdefghijklmnopqrstuvwxyz"), some (.bl (decide (1 ≤ x.length) && decide (x.length ≤ 8))), none] ∧ h = []) ?_ ?_
  · simp -implicitDefEqProofs only [↓ev_srcI, ↓ev_srcN, ↓ev_optS, ↓ev_ok, ↓ev_bind, ↓ev_eC, ↓ev_v0, ↓ev_vS, ↓ev_bin, ↓ev_aNil, ↓ev_aCons, ↓ev_tup, ↓ev_disp, ↓ev_new, ↓ev_seq, ↓ev_seqT, ↓ev_seqR, ↓ev_seqL, ↓ev_bOf, ↓ev_toB, ↓ev_bTru, ↓ev_bYes, ↓ev_bAnd, ↓ev_bOr, ↓ev_bNot, ↓ev_eAnd, ↓ev_eOr, ↓ev_eNot, ↓ev_eIf, ↓ev_chain, ↓ev_u, ↓ev_uq, ↓ev_lOf, ↓ev_cat, ↓ev_call, ↓ev_addI, ↓ev_addS, ↓ev_addT, ↓ev_sub, ↓ev_mul, ↓ev_fdiv, ↓ev_mod, ↓ev_pow, ↓ev_neg, ↓ev_negI, ↓ev_cmp, ↓ev_eqI, ↓ev_eqS, ↓ev_eqB, ↓ev_isN, ↓ev_isI, ↓ev_isB, ↓ev_isS, ↓ev_isT, ↓ev_isL, ↓ev_truB, ↓ev_truN, ↓ev_truI, ↓ev_truT, ↓ev_ixS, ↓ev_ixT, ↓ev_ixR, ↓ev_ixL, ↓ev_lenS, ↓ev_lenT, ↓ev_lenR, ↓ev_lenL, ↓ev_abs, ↓ev_intI, ↓ev_intB, ↓ev_intS, ↓ev_strI, ↓ev_max, ↓ev_min, ↓ev_gcd, ↓ev_isi, ↓ev_all, ↓ev_any, ↓ev_sum, ↓ev_rg1, ↓ev_rg1I, ↓ev_lSl, ↓ev_slR, ↓ev_oNo, ↓ev_oIs, ↓ev_toI, ↓ev_eSl, ↓ev_slS, ↓ev_split, ↓ev_onStr, ↓ev_join, ↓ev_mulS, ↓ev_ext, ↓ev_onLoc, ↓ev_mt, ↓ev_app, ↓ev_lRev, ↓ev_revL, ↓sv_nx, ↓sv_seq, ↓sv_ret, ↓sv_retN, ↓sv_ex, ↓sv_if, ↓sv_set, ↓sv_par, ↓sv_put, ↓ev_run, ↓sv_loopK, ↓sv_for, ↓ev_iNew, ↓ev_iVal, ↓ev_srcT, ↓ev_srcR, ↓ev_srcS, ↓ev_srcL, ↓ev_rng1, ↓ev_rng1I, ↓ev_lComp, ↓sv_dput, ↓ev_in1, ↓ev_deI, ↓ev_deS, ↓ev_deB, ↓ev_dnI, ↓ev_dnS, ↓ev_dnB, ↓sv_okN, startL, List.map_cons, List.map_nil, List.length_cons, List.length_nil, Nat.reduceAdd, Nat.reduceSub, List.replicate, List.cons_append, List.nil_append, List.set_cons_zero, List.set_cons_succ, getL0, getLS, pick_nil, pick_one, true_and, and_self, List.append_nil, atI_0, atI_1, atI_2, atI_3, atI_4, ixN_0, ixN_1, ixN_2, ixN_3, List.getElem?_cons_zero, List.getElem?_cons_succ, Option.some.injEq, exists_eq_left', ite_true, ite_false, Bool.false_eq_true, if_true_b, if_false_b, dTy_n, dTy_b, dTy_i, dTy_s, dTy_t, dTy_r, dTy_l, decide_true, decide_false, Bool.not_true, Bool.not_false, decide_eq_true_eq, Bool.not_eq_true', decide_eq_false_iff_not, wipeL, Nat.zero_add, kit_ss, kit_is, kit_ns, kit_ts, kit_ls, kit_bs, kit_st, kit_it, kit_nt, kit_tt, kit_lt, kit_bt, kit_sl, kit_il, kit_nl, kit_tl, kit_ll, kit_bl, kit_si, kit_ii, kit_ni, kit_ti, kit_li, kit_bi, kit_sb, kit_ib, kit_nb, kit_tb, kit_lb, kit_bb]
    refine ⟨hz', ?_⟩
    by_cases h1 : 1 ≤ x.length
    · rw [if_pos (by omega), decide_eq_true h1, Bool.true_and]
      refine ⟨?_, trivial⟩
      have : decide ((x.length : Int) ≤ 8) = decide (x.length ≤ 8) := decide_eq_decide.mpr (by omega)
      rw [this]
    · rw [if_neg (by omega), decide_eq_false h1, Bool.false_and]
      exact ⟨rfl, trivial⟩
  rintro _ _ ⟨rfl, rfl⟩
  refine sv_cut (fun ls h => ls = [some (.str x), some (.str "abcdefghijklmnopqrstuvwxyz"), some (.bl (lv x)), none] ∧ h = []) ?_ ?_
  · simp -implicitDefEqProofs only [↓ev_srcI, ↓ev_srcN, ↓ev_optS, ↓ev_ok, ↓ev_bind, ↓ev_eC, ↓ev_v0, ↓ev_vS, ↓ev_bin, ↓ev_aNil, ↓ev_aCons, ↓ev_tup, ↓ev_disp, ↓ev_new, ↓ev_seq, ↓ev_seqT, ↓ev_seqR, ↓ev_seqL, ↓ev_bOf, ↓ev_toB, ↓ev_bTru, ↓ev_bYes, ↓ev_bAnd, ↓ev_bOr, ↓ev_bNot, ↓ev_eAnd, ↓ev_eOr, ↓ev_eNot, ↓ev_eIf, ↓ev_chain, ↓ev_u, ↓ev_uq, ↓ev_lOf, ↓ev_cat, ↓ev_call, ↓ev_addI, ↓ev_addS, ↓ev_addT, ↓ev_sub, ↓ev_mul, ↓ev_fdiv, ↓ev_mod, ↓ev_pow, ↓ev_neg, ↓ev_negI, ↓ev_cmp, ↓ev_eqI, ↓ev_eqS, ↓ev_eqB, ↓ev_isN, ↓ev_isI, ↓ev_isB, ↓ev_isS, ↓ev_isT, ↓ev_isL, ↓ev_truB, ↓ev_truN, ↓ev_truI, ↓ev_truT, ↓ev_ixS, ↓ev_ixT, ↓ev_ixR, ↓ev_ixL, ↓ev_lenS, ↓ev_lenT, ↓ev_lenR, ↓ev_lenL, ↓ev_abs, ↓ev_intI, ↓ev_intB, ↓ev_intS, ↓ev_strI, ↓ev_max, ↓ev_min, ↓ev_gcd, ↓ev_isi, ↓ev_all, ↓ev_any, ↓ev_sum, ↓ev_rg1, ↓ev_rg1I, ↓ev_lSl, ↓ev_slR, ↓ev_oNo, ↓ev_oIs, ↓ev_toI, ↓ev_eSl, ↓ev_slS, ↓ev_split, ↓ev_onStr, ↓ev_join, ↓ev_mulS, ↓ev_ext, ↓ev_onLoc, ↓ev_mt, ↓ev_app, ↓ev_lRev, ↓ev_revL, ↓sv_nx, ↓sv_seq, ↓sv_ret, ↓sv_retN, ↓sv_ex, ↓sv_if, ↓sv_set, ↓sv_par, ↓sv_put, ↓ev_run, ↓sv_loopK, ↓sv_for, ↓ev_iNew, ↓ev_iVal, ↓ev_srcT, ↓ev_srcR, ↓ev_srcS, ↓ev_srcL, ↓ev_rng1, ↓ev_rng1I, ↓ev_lComp, ↓sv_dput, ↓ev_in1, ↓ev_deI, ↓ev_deS, ↓ev_deB, ↓ev_dnI, ↓ev_dnS, ↓ev_dnB, ↓sv_okN, startL, List.map_cons, List.map_nil, List.length_cons, List.length_nil, Nat.reduceAdd, Nat.reduceSub, List.replicate, List.cons_append, List.nil_append, List.set_cons_zero, List.set_cons_succ, getL0, getLS, pick_nil, pick_one, true_and, and_self, List.append_nil, atI_0, atI_1, atI_2, atI_3, atI_4, ixN_0, ixN_1, ixN_2, ixN_3, List.getElem?_cons_zero, List.getElem?_cons_succ, Option.some.injEq, exists_eq_left', ite_true, ite_false, Bool.false_eq_true, if_true_b, if_false_b, dTy_n, dTy_b, dTy_i, dTy_s, dTy_t, dTy_r, dTy_l, decide_true, decide_false, Bool.not_true, Bool.not_false, decide_eq_true_eq, Bool.not_eq_true', decide_eq_false_iff_not, wipeL, Nat.zero_add, kit_ss, kit_is, kit_ns, kit_ts, kit_ls, kit_bs, kit_st, kit_it, kit_nt, kit_tt, kit_lt, kit_bt, kit_sl, kit_il, kit_nl, kit_tl, kit_ll, kit_bl, kit_si, kit_ii, kit_ni, kit_ti, kit_li, kit_bi, kit_sb, kit_ib, kit_nb, kit_tb, kit_lb, kit_bb]
    by_cases h1 : (decide (1 ≤ x.length) && decide (x.length ≤ 8)) = true
    · rw [if_pos h1]
      refine ev_mono (ev_compSg (fun c => decide (c ∈ SM) || decide (c ∈ FG)) x hz' fun c hc => ?_) ?_
      · simp -implicitDefEqProofs only [↓ev_srcI, ↓ev_srcN, ↓ev_optS, ↓ev_ok, ↓ev_bind, ↓ev_eC, ↓ev_v0, ↓ev_vS, ↓ev_bin, ↓ev_aNil, ↓ev_aCons, ↓ev_tup, ↓ev_disp, ↓ev_new, ↓ev_seq, ↓ev_seqT, ↓ev_seqR, ↓ev_seqL, ↓ev_bOf, ↓ev_toB, ↓ev_bTru, ↓ev_bYes, ↓ev_bAnd, ↓ev_bOr, ↓ev_bNot, ↓ev_eAnd, ↓ev_eOr, ↓ev_eNot, ↓ev_eIf, ↓ev_chain, ↓ev_u, ↓ev_uq, ↓ev_lOf, ↓ev_cat, ↓ev_call, ↓ev_addI, ↓ev_addS, ↓ev_addT, ↓ev_sub, ↓ev_mul, ↓ev_fdiv, ↓ev_mod, ↓ev_pow, ↓ev_neg, ↓ev_negI, ↓ev_cmp, ↓ev_eqI, ↓ev_eqS, ↓ev_eqB, ↓ev_isN, ↓ev_isI, ↓ev_isB, ↓ev_isS, ↓ev_isT, ↓ev_isL, ↓ev_truB, ↓ev_truN, ↓ev_truI, ↓ev_truT, ↓ev_ixS, ↓ev_ixT, ↓ev_ixR, ↓ev_ixL, ↓ev_lenS, ↓ev_lenT, ↓ev_lenR, ↓ev_lenL, ↓ev_abs, ↓ev_intI, ↓ev_intB, ↓ev_intS, ↓ev_strI, ↓ev_max, ↓ev_min, ↓ev_gcd, ↓ev_isi, ↓ev_all, ↓ev_any, ↓ev_sum, ↓ev_rg1, ↓ev_rg1I, ↓ev_lSl, ↓ev_slR, ↓ev_oNo, ↓ev_oIs, ↓ev_toI, ↓ev_eSl, ↓ev_slS, ↓ev_split, ↓ev_onStr, ↓ev_join, ↓ev_mulS, ↓ev_ext, ↓ev_onLoc, ↓ev_mt, ↓ev_app, ↓ev_lRev, ↓ev_revL, ↓sv_nx, ↓sv_seq, ↓sv_ret, ↓sv_retN, ↓sv_ex, ↓sv_if, ↓sv_set, ↓sv_par, ↓sv_put, ↓ev_run, ↓sv_loopK, ↓sv_for, ↓ev_iNew, ↓ev_iVal, ↓ev_srcT, ↓ev_srcR, ↓ev_srcS, ↓ev_srcL, ↓ev_rng1, ↓ev_rng1I, ↓ev_lComp, ↓sv_dput, ↓ev_in1, ↓ev_deI, ↓ev_deS, ↓ev_deB, ↓ev_dnI, ↓ev_dnS, ↓ev_dnB, ↓sv_okN, startL, List.map_cons, List.map_nil, List.length_cons, List.length_nil, Nat.reduceAdd, Nat.reduceSub, List.replicate, List.cons_append, List.nil_append, List.set_cons_zero, List.set_cons_succ, getL0, getLS, pick_nil, pick_one, true_and, and_self, List.append_nil, atI_0, atI_1, atI_2, atI_3, atI_4, ixN_0, ixN_1, ixN_2, ixN_3, List.getElem?_cons_zero, List.getElem?_cons_succ, Option.some.injEq, exists_eq_left', ite_true, ite_false, Bool.false_eq_true, if_true_b, if_false_b, dTy_n, dTy_b, dTy_i, dTy_s, dTy_t, dTy_r, dTy_l, decide_true, decide_false, Bool.not_true, Bool.not_false, decide_eq_true_eq, Bool.not_eq_true', decide_eq_false_iff_not, wipeL, Nat.zero_add, kit_ss, kit_is, kit_ns, kit_ts, kit_ls, kit_bs, kit_st, kit_it, kit_nt, kit_tt, kit_lt, kit_bt, kit_sl, kit_il, kit_nl, kit_tl, kit_ll, kit_bl, kit_si, kit_ii, kit_ni, kit_ti, kit_li, kit_bi, kit_sb, kit_ib, kit_nb, kit_tb, kit_lb, kit_bb]
        refine ⟨by decide, ?_, trivial⟩
        rw [hap]
        refine congrArg D.bl ?_
        rw [← Bool.decide_or]
        exact decide_eq_decide.mpr List.mem_append
      · rintro _ _ ⟨rfl, rfl⟩
        refine ⟨_, mapM_bl _, ?_, rfl⟩
        unfold lv
        rw [h1, List.all_map]; rfl
    · rw [if_neg h1]
      rw [Bool.not_eq_true] at h1
      unfold lv
      rw [h1, Bool.false_and]
      exact ⟨rfl, trivial⟩
  rintro _ _ ⟨rfl, rfl⟩
  simp -implicitDefEqProofs only [↓ev_srcI, ↓ev_srcN, ↓ev_optS, ↓ev_ok, ↓ev_bind, ↓ev_eC, ↓ev_v0, ↓ev_vS, ↓ev_bin, ↓ev_aNil, ↓ev_aCons, ↓ev_tup, ↓ev_disp, ↓ev_new, ↓ev_seq, ↓ev_seqT, ↓ev_seqR, ↓ev_seqL, ↓ev_bOf, ↓ev_toB, ↓ev_bTru, ↓ev_bYes, ↓ev_bAnd, ↓ev_bOr, ↓ev_bNot, ↓ev_eAnd, ↓ev_eOr, ↓ev_eNot, ↓ev_eIf, ↓ev_chain, ↓ev_u, ↓ev_uq, ↓ev_lOf, ↓ev_cat, ↓ev_call, ↓ev_addI, ↓ev_addS, ↓ev_addT, ↓ev_sub, ↓ev_mul, ↓ev_fdiv, ↓ev_mod, ↓ev_pow, ↓ev_neg, ↓ev_negI, ↓ev_cmp, ↓ev_eqI, ↓ev_eqS, ↓ev_eqB, ↓ev_isN, ↓ev_isI, ↓ev_isB, ↓ev_isS, ↓ev_isT, ↓ev_isL, ↓ev_truB, ↓ev_truN, ↓ev_truI, ↓ev_truT, ↓ev_ixS, ↓ev_ixT, ↓ev_ixR, ↓ev_ixL, ↓ev_lenS, ↓ev_lenT, ↓ev_lenR, ↓ev_lenL, ↓ev_abs, ↓ev_intI, ↓ev_intB, ↓ev_intS, ↓ev_strI, ↓ev_max, ↓ev_min, ↓ev_gcd, ↓ev_isi, ↓ev_all, ↓ev_any, ↓ev_sum, ↓ev_rg1, ↓ev_rg1I, ↓ev_lSl, ↓ev_slR, ↓ev_oNo, ↓ev_oIs, ↓ev_toI, ↓ev_eSl, ↓ev_slS, ↓ev_split, ↓ev_onStr, ↓ev_join, ↓ev_mulS, ↓ev_ext, ↓ev_onLoc, ↓ev_mt, ↓ev_app, ↓ev_lRev, ↓ev_revL, ↓sv_nx, ↓sv_seq, ↓sv_ret, ↓sv_retN, ↓sv_ex, ↓sv_if, ↓sv_set, ↓sv_par, ↓sv_put, ↓ev_run, ↓sv_loopK, ↓sv_for, ↓ev_iNew, ↓ev_iVal, ↓ev_srcT, ↓ev_srcR, ↓ev_srcS, ↓ev_srcL, ↓ev_rng1, ↓ev_rng1I, ↓ev_lComp, ↓sv_dput, ↓ev_in1, ↓ev_deI, ↓ev_deS, ↓ev_deB, ↓ev_dnI, ↓ev_dnS, ↓ev_dnB, ↓sv_okN, startL, List.map_cons, List.map_nil, List.length_cons, List.length_nil, Nat.reduceAdd, Nat.reduceSub, List.replicate, List.cons_append, List.nil_append, List.set_cons_zero, List.set_cons_succ, getL0, getLS, pick_nil, pick_one, true_and, and_self, List.append_nil, atI_0, atI_1, atI_2, atI_3, atI_4, ixN_0, ixN_1, ixN_2, ixN_3, List.getElem?_cons_zero, List.getElem?_cons_succ, Option.some.injEq, exists_eq_left', ite_true, ite_false, Bool.false_eq_true, if_true_b, if_false_b, dTy_n, dTy_b, dTy_i, dTy_s, dTy_t, dTy_r, dTy_l, decide_true, decide_false, Bool.not_true, Bool.not_false, decide_eq_true_eq, Bool.not_eq_true', decide_eq_false_iff_not, wipeL, Nat.zero_add, kit_ss, kit_is, kit_ns, kit_ts, kit_ls, kit_bs, kit_st, kit_it, kit_nt, kit_tt, kit_lt, kit_bt, kit_sl, kit_il, kit_nl, kit_tl, kit_ll, kit_bl, kit_si, kit_ii, kit_ni, kit_ti, kit_li, kit_bi, kit_sb, kit_ib, kit_nb, kit_tb, kit_lb, kit_bb]
  refine lm_closed rfl (ev_mono (is_level_ok hz') ?_)
  rintro _ _ rfl
  refine ⟨rfl, ?_⟩
  simp -implicitDefEqProofs only [↓ev_srcI, ↓ev_srcN, ↓ev_optS, ↓ev_ok, ↓ev_bind, ↓ev_eC, ↓ev_v0, ↓ev_vS, ↓ev_bin, ↓ev_aNil, ↓ev_aCons, ↓ev_tup, ↓ev_disp, ↓ev_new, ↓ev_seq, ↓ev_seqT, ↓ev_seqR, ↓ev_seqL, ↓ev_bOf, ↓ev_toB, ↓ev_bTru, ↓ev_bYes, ↓ev_bAnd, ↓ev_bOr, ↓ev_bNot, ↓ev_eAnd, ↓ev_eOr, ↓ev_eNot, ↓ev_eIf, ↓ev_chain, ↓ev_u, ↓ev_uq, ↓ev_lOf, ↓ev_cat, ↓ev_call, ↓ev_addI, ↓ev_addS, ↓ev_addT, ↓ev_sub, ↓ev_mul, ↓ev_fdiv, ↓ev_mod, ↓ev_pow, ↓ev_neg, ↓ev_negI, ↓ev_cmp, ↓ev_eqI, ↓ev_eqS, ↓ev_eqB, ↓ev_isN, ↓ev_isI, ↓ev_isB, ↓ev_isS, ↓ev_isT, ↓ev_isL, ↓ev_truB, ↓ev_truN, ↓ev_truI, ↓ev_truT, ↓ev_ixS, ↓ev_ixT, ↓ev_ixR, ↓ev_ixL, ↓ev_lenS, ↓ev_lenT, ↓ev_lenR, ↓ev_lenL, ↓ev_abs, ↓ev_intI, ↓ev_intB, ↓ev_intS, ↓ev_strI, ↓ev_max, ↓ev_min, ↓ev_gcd, ↓ev_isi, ↓ev_all, ↓ev_any, ↓ev_sum, ↓ev_rg1, ↓ev_rg1I, ↓ev_lSl, ↓ev_slR, ↓ev_oNo, ↓ev_oIs, ↓ev_toI, ↓ev_eSl, ↓ev_slS, ↓ev_split, ↓ev_onStr, ↓ev_join, ↓ev_mulS, ↓ev_ext, ↓ev_onLoc, ↓ev_mt, ↓ev_app, ↓ev_lRev, ↓ev_revL, ↓sv_nx, ↓sv_seq, ↓sv_ret, ↓sv_retN, ↓sv_ex, ↓sv_if, ↓sv_set, ↓sv_par, ↓sv_put, ↓ev_run, ↓sv_loopK, ↓sv_for, ↓ev_iNew, ↓ev_iVal, ↓ev_srcT, ↓ev_srcR, ↓ev_srcS, ↓ev_srcL, ↓ev_rng1, ↓ev_rng1I, ↓ev_lComp, ↓sv_dput, ↓ev_in1, ↓ev_deI, ↓ev_deS, ↓ev_deB, ↓ev_dnI, ↓ev_dnS, ↓ev_dnB, ↓sv_okN, startL, List.map_cons, List.map_nil, List.length_cons, List.length_nil, Nat.reduceAdd, Nat.reduceSub, List.replicate, List.cons_append, List.nil_append, List.set_cons_zero, List.set_cons_succ, getL0, getLS, pick_nil, pick_one, true_and, and_self, List.append_nil, atI_0, atI_1, atI_2, atI_3, atI_4, ixN_0, ixN_1, ixN_2, ixN_3, List.getElem?_cons_zero, List.getElem?_cons_succ, Option.some.injEq, exists_eq_left', ite_true, ite_false, Bool.false_eq_true, if_true_b, if_false_b, dTy_n, dTy_b, dTy_i, dTy_s, dTy_t, dTy_r, dTy_l, decide_true, decide_false, Bool.not_true, Bool.not_false, decide_eq_true_eq, Bool.not_eq_true', decide_eq_false_iff_not, wipeL, Nat.zero_add, kit_ss, kit_is, kit_ns, kit_ts, kit_ls, kit_bs, kit_st, kit_it, kit_nt, kit_tt, kit_lt, kit_bt, kit_sl, kit_il, kit_nl, kit_tl, kit_ll, kit_bl, kit_si, kit_ii, kit_ni, kit_ti, kit_li, kit_bi, kit_sb, kit_ib, kit_nb, kit_tb, kit_lb, kit_bb]
  refine lm_closed rfl (ev_mono (is_name_ok hz') ?_)
  rintro _ _ rfl
  refine ⟨rfl, ?_⟩
  by_cases h : lv x = true
  · rw [if_pos h]
    obtain ⟨c, r, e⟩ := lv_pos h
    refine ⟨hz', c, by rw [e]; rfl, ?_⟩
    simp -implicitDefEqProofs only [↓ev_srcI, ↓ev_srcN, ↓ev_optS, ↓ev_ok, ↓ev_bind, ↓ev_eC, ↓ev_v0, ↓ev_vS, ↓ev_bin, ↓ev_aNil, ↓ev_aCons, ↓ev_tup, ↓ev_disp, ↓ev_new, ↓ev_seq, ↓ev_seqT, ↓ev_seqR, ↓ev_seqL, ↓ev_bOf, ↓ev_toB, ↓ev_bTru, ↓ev_bYes, ↓ev_bAnd, ↓ev_bOr, ↓ev_bNot, ↓ev_eAnd, ↓ev_eOr, ↓ev_eNot, ↓ev_eIf, ↓ev_chain, ↓ev_u, ↓ev_uq, ↓ev_lOf, ↓ev_cat, ↓ev_call, ↓ev_addI, ↓ev_addS, ↓ev_addT, ↓ev_sub, ↓ev_mul, ↓ev_fdiv, ↓ev_mod, ↓ev_pow, ↓ev_neg, ↓ev_negI, ↓ev_cmp, ↓ev_eqI, ↓ev_eqS, ↓ev_eqB, ↓ev_isN, ↓ev_isI, ↓ev_isB, ↓ev_isS, ↓ev_isT, ↓ev_isL, ↓ev_truB, ↓ev_truN, ↓ev_truI, ↓ev_truT, ↓ev_ixS, ↓ev_ixT, ↓ev_ixR, ↓ev_ixL, ↓ev_lenS, ↓ev_lenT, ↓ev_lenR, ↓ev_lenL, ↓ev_abs, ↓ev_intI, ↓ev_intB, ↓ev_intS, ↓ev_strI, ↓ev_max, ↓ev_min, ↓ev_gcd, ↓ev_isi, ↓ev_all, ↓ev_any, ↓ev_sum, ↓ev_rg1, ↓ev_rg1I, ↓ev_lSl, ↓ev_slR, ↓ev_oNo, ↓ev_oIs, ↓ev_toI, ↓ev_eSl, ↓ev_slS, ↓ev_split, ↓ev_onStr, ↓ev_join, ↓ev_mulS, ↓ev_ext, ↓ev_onLoc, ↓ev_mt, ↓ev_app, ↓ev_lRev, ↓ev_revL, ↓sv_nx, ↓sv_seq, ↓sv_ret, ↓sv_retN, ↓sv_ex, ↓sv_if, ↓sv_set, ↓sv_par, ↓sv_put, ↓ev_run, ↓sv_loopK, ↓sv_for, ↓ev_iNew, ↓ev_iVal, ↓ev_srcT, ↓ev_srcR, ↓ev_srcS, ↓ev_srcL, ↓ev_rng1, ↓ev_rng1I, ↓ev_lComp, ↓sv_dput, ↓ev_in1, ↓ev_deI, ↓ev_deS, ↓ev_deB, ↓ev_dnI, ↓ev_dnS, ↓ev_dnB, ↓sv_okN, startL, List.map_cons, List.map_nil, List.length_cons, List.length_nil, Nat.reduceAdd, Nat.reduceSub, List.replicate, List.cons_append, List.nil_append, List.set_cons_zero, List.set_cons_succ, getL0, getLS, pick_nil, pick_one, true_and, and_self, List.append_nil, atI_0, atI_1, atI_2, atI_3, atI_4, ixN_0, ixN_1, ixN_2, ixN_3, List.getElem?_cons_zero, List.getElem?_cons_succ, Option.some.injEq, exists_eq_left', ite_true, ite_false, Bool.false_eq_true, if_true_b, if_false_b, dTy_n, dTy_b, dTy_i, dTy_s, dTy_t, dTy_r, dTy_l, decide_true, decide_false, Bool.not_true, Bool.not_false, decide_eq_true_eq, Bool.not_eq_true', decide_eq_false_iff_not, wipeL, Nat.zero_add, kit_ss, kit_is, kit_ns, kit_ts, kit_ls, kit_bs, kit_st, kit_it, kit_nt, kit_tt, kit_lt, kit_bt, kit_sl, kit_il, kit_nl, kit_tl, kit_ll, kit_bl, kit_si, kit_ii, kit_ni, kit_ti, kit_li, kit_bi, kit_sb, kit_ib, kit_nb, kit_tb, kit_lb, kit_bb]
    rw [h, e]
    exact congrArg D.bl (decide_eq_true rfl)
  · rw [if_neg h]
    rw [Bool.not_eq_true] at h
    simp -implicitDefEqProofs only [↓ev_srcI, ↓ev_srcN, ↓ev_optS, ↓ev_ok, ↓ev_bind, ↓ev_eC, ↓ev_v0, ↓ev_vS, ↓ev_bin, ↓ev_aNil, ↓ev_aCons, ↓ev_tup, ↓ev_disp, ↓ev_new, ↓ev_seq, ↓ev_seqT, ↓ev_seqR, ↓ev_seqL, ↓ev_bOf, ↓ev_toB, ↓ev_bTru, ↓ev_bYes, ↓ev_bAnd, ↓ev_bOr, ↓ev_bNot, ↓ev_eAnd, ↓ev_eOr, ↓ev_eNot, ↓ev_eIf, ↓ev_chain, ↓ev_u, ↓ev_uq, ↓ev_lOf, ↓ev_cat, ↓ev_call, ↓ev_addI, ↓ev_addS, ↓ev_addT, ↓ev_sub, ↓ev_mul, ↓ev_fdiv, ↓ev_mod, ↓ev_pow, ↓ev_neg, ↓ev_negI, ↓ev_cmp, ↓ev_eqI, ↓ev_eqS, ↓ev_eqB, ↓ev_isN, ↓ev_isI, ↓ev_isB, ↓ev_isS, ↓ev_isT, ↓ev_isL, ↓ev_truB, ↓ev_truN, ↓ev_truI, ↓ev_truT, ↓ev_ixS, ↓ev_ixT, ↓ev_ixR, ↓ev_ixL, ↓ev_lenS, ↓ev_lenT, ↓ev_lenR, ↓ev_lenL, ↓ev_abs, ↓ev_intI, ↓ev_intB, ↓ev_intS, ↓ev_strI, ↓ev_max, ↓ev_min, ↓ev_gcd, ↓ev_isi, ↓ev_all, ↓ev_any, ↓ev_sum, ↓ev_rg1, ↓ev_rg1I, ↓ev_lSl, ↓ev_slR, ↓ev_oNo, ↓ev_oIs, ↓ev_toI, ↓ev_eSl, ↓ev_slS, ↓ev_split, ↓ev_onStr, ↓ev_join, ↓ev_mulS, ↓ev_ext, ↓ev_onLoc, ↓ev_mt, ↓ev_app, ↓ev_lRev, ↓ev_revL, ↓sv_nx, ↓sv_seq, ↓sv_ret, ↓sv_retN, ↓sv_ex, ↓sv_if, ↓sv_set, ↓sv_par, ↓sv_put, ↓ev_run, ↓sv_loopK, ↓sv_for, ↓ev_iNew, ↓ev_iVal, ↓ev_srcT, ↓ev_srcR, ↓ev_srcS, ↓ev_srcL, ↓ev_rng1, ↓ev_rng1I, ↓ev_lComp, ↓sv_dput, ↓ev_in1, ↓ev_deI, ↓ev_deS, ↓ev_deB, ↓ev_dnI, ↓ev_dnS, ↓ev_dnB, ↓sv_okN, startL, List.map_cons, List.map_nil, List.length_cons, List.length_nil, Nat.reduceAdd, Nat.reduceSub, List.replicate, List.cons_append, List.nil_append, List.set_cons_zero, List.set_cons_succ, getL0, getLS, pick_nil, pick_one, true_and, and_self, List.append_nil, atI_0, atI_1, atI_2, atI_3, atI_4, ixN_0, ixN_1, ixN_2, ixN_3, List.getElem?_cons_zero, List.getElem?_cons_succ, Option.some.injEq, exists_eq_left', ite_true, ite_false, Bool.false_eq_true, if_true_b, if_false_b, dTy_n, dTy_b, dTy_i, dTy_s, dTy_t, dTy_r, dTy_l, decide_true, decide_false, Bool.not_true, Bool.not_false, decide_eq_true_eq, Bool.not_eq_true', decide_eq_false_iff_not, wipeL, Nat.zero_add, kit_ss, kit_is, kit_ns, kit_ts, kit_ls, kit_bs, kit_st, kit_it, kit_nt, kit_tt, kit_lt, kit_bt, kit_sl, kit_il, kit_nl, kit_tl, kit_ll, kit_bl, kit_si, kit_ii, kit_ni, kit_ti, kit_li, kit_bi, kit_sb, kit_ib, kit_nb, kit_tb, kit_lb, kit_bb]
    rw [h]; rfl
theorem word_right_o {d : D} {t : String} (hc : d.cl = true) (h1 : dTy d = some t) (h2 : kitB t "str" = some false) : Ev (m_law_is_word_right [d] []) fun d _ => d = .bl true := by
  have lvl : Ev (m_is_level [d] []) fun d _ => d = .bl false := by
    unfold m_is_level b_is_level
    simp -implicitDefEqProofs only [↓ev_srcI, ↓ev_srcN, ↓ev_optS, ↓ev_ok, ↓ev_bind, ↓ev_eC, ↓ev_v0, ↓ev_vS, ↓ev_bin, ↓ev_aNil, ↓ev_aCons, ↓ev_tup, ↓ev_disp, ↓ev_new, ↓ev_seq, ↓ev_seqT, ↓ev_seqR, ↓ev_seqL, ↓ev_bOf, ↓ev_toB, ↓ev_bTru, ↓ev_bYes, ↓ev_bAnd, ↓ev_bOr, ↓ev_bNot, ↓ev_eAnd, ↓ev_eOr, ↓ev_eNot, ↓ev_eIf, ↓ev_chain, ↓ev_u, ↓ev_uq, ↓ev_lOf, ↓ev_cat, ↓ev_call, ↓ev_addI, ↓ev_addS, ↓ev_addT, ↓ev_sub, ↓ev_mul, ↓ev_fdiv, ↓ev_mod, ↓ev_pow, ↓ev_neg, ↓ev_negI, ↓ev_cmp, ↓ev_eqI, ↓ev_eqS, ↓ev_eqB, ↓ev_isN, ↓ev_isI, ↓ev_isB, ↓ev_isS, ↓ev_isT, ↓ev_isL, ↓ev_truB, ↓ev_truN, ↓ev_truI, ↓ev_truT, ↓ev_ixS, ↓ev_ixT, ↓ev_ixR, ↓ev_ixL, ↓ev_lenS, ↓ev_lenT, ↓ev_lenR, ↓ev_lenL, ↓ev_abs, ↓ev_intI, ↓ev_intB, ↓ev_intS, ↓ev_strI, ↓ev_max, ↓ev_min, ↓ev_gcd, ↓ev_isi, ↓ev_all, ↓ev_any, ↓ev_sum, ↓ev_rg1, ↓ev_rg1I, ↓ev_lSl, ↓ev_slR, ↓ev_oNo, ↓ev_oIs, ↓ev_toI, ↓ev_eSl, ↓ev_slS, ↓ev_split, ↓ev_onStr, ↓ev_join, ↓ev_mulS, ↓ev_ext, ↓ev_onLoc, ↓ev_mt, ↓ev_app, ↓ev_lRev, ↓ev_revL, ↓sv_nx, ↓sv_seq, ↓sv_ret, ↓sv_retN, ↓sv_ex, ↓sv_if, ↓sv_set, ↓sv_par, ↓sv_put, ↓ev_run, ↓sv_loopK, ↓sv_for, ↓ev_iNew, ↓ev_iVal, ↓ev_srcT, ↓ev_srcR, ↓ev_srcS, ↓ev_srcL, ↓ev_rng1, ↓ev_rng1I, ↓ev_lComp, ↓sv_dput, ↓ev_in1, ↓ev_deI, ↓ev_deS, ↓ev_deB, ↓ev_dnI, ↓ev_dnS, ↓ev_dnB, ↓sv_okN, startL, List.map_cons, List.map_nil, List.length_cons, List.length_nil, Nat.reduceAdd, Nat.reduceSub, List.replicate, List.cons_append, List.nil_append, List.set_cons_zero, List.set_cons_succ, getL0, getLS, pick_nil, pick_one, true_and, and_self, List.append_nil, atI_0, atI_1, atI_2, atI_3, atI_4, ixN_0, ixN_1, ixN_2, ixN_3, List.getElem?_cons_zero, List.getElem?_cons_succ, Option.some.injEq, exists_eq_left', ite_true, ite_false, Bool.false_eq_true, if_true_b, if_false_b, dTy_n, dTy_b, dTy_i, dTy_s, dTy_t, dTy_r, dTy_l, decide_true, decide_false, Bool.not_true, Bool.not_false, decide_eq_true_eq, Bool.not_eq_true', decide_eq_false_iff_not, wipeL, Nat.zero_add, kit_ss, kit_is, kit_ns, kit_ts, kit_ls, kit_bs, kit_st, kit_it, kit_nt, kit_tt, kit_lt, kit_bt, kit_sl, kit_il, kit_nl, kit_tl, kit_ll, kit_bl, kit_si, kit_ii, kit_ni, kit_ti, kit_li, kit_bi, kit_sb, kit_ib, kit_nb, kit_tb, kit_lb, kit_bb]
    exact ⟨_, h1, _, h2, by simp -implicitDefEqProofs only [↓ev_srcI, ↓ev_srcN, ↓ev_optS, ↓ev_ok, ↓ev_bind, ↓ev_eC, ↓ev_v0, ↓ev_vS, ↓ev_bin, ↓ev_aNil, ↓ev_aCons, ↓ev_tup, ↓ev_disp, ↓ev_new, ↓ev_seq, ↓ev_seqT, ↓ev_seqR, ↓ev_seqL, ↓ev_bOf, ↓ev_toB, ↓ev_bTru, ↓ev_bYes, ↓ev_bAnd, ↓ev_bOr, ↓ev_bNot, ↓ev_eAnd, ↓ev_eOr, ↓ev_eNot, ↓ev_eIf, ↓ev_chain, ↓ev_u, ↓ev_uq, ↓ev_lOf, ↓ev_cat, ↓ev_call, ↓ev_addI, ↓ev_addS, ↓ev_addT, ↓ev_sub, ↓ev_mul, ↓ev_fdiv, ↓ev_mod, ↓ev_pow, ↓ev_neg, ↓ev_negI, ↓ev_cmp, ↓ev_eqI, ↓ev_eqS, ↓ev_eqB, ↓ev_isN, ↓ev_isI, ↓ev_isB, ↓ev_isS, ↓ev_isT, ↓ev_isL, ↓ev_truB, ↓ev_truN, ↓ev_truI, ↓ev_truT, ↓ev_ixS, ↓ev_ixT, ↓ev_ixR, ↓ev_ixL, ↓ev_lenS, ↓ev_lenT, ↓ev_lenR, ↓ev_lenL, ↓ev_abs, ↓ev_intI, ↓ev_intB, ↓ev_intS, ↓ev_strI, ↓ev_max, ↓ev_min, ↓ev_gcd, ↓ev_isi, ↓ev_all, ↓ev_any, ↓ev_sum, ↓ev_rg1, ↓ev_rg1I, ↓ev_lSl, ↓ev_slR, ↓ev_oNo, ↓ev_oIs, ↓ev_toI, ↓ev_eSl, ↓ev_slS, ↓ev_split, ↓ev_onStr, ↓ev_join, ↓ev_mulS, ↓ev_ext, ↓ev_onLoc, ↓ev_mt, ↓ev_app, ↓ev_lRev, ↓ev_revL, ↓sv_nx, ↓sv_seq, ↓sv_ret, ↓sv_retN, ↓sv_ex, ↓sv_if, ↓sv_set, ↓sv_par, ↓sv_put, ↓ev_run, ↓sv_loopK, ↓sv_for, ↓ev_iNew, ↓ev_iVal, ↓ev_srcT, ↓ev_srcR, ↓ev_srcS, ↓ev_srcL, ↓ev_rng1, ↓ev_rng1I, ↓ev_lComp, ↓sv_dput, ↓ev_in1, ↓ev_deI, ↓ev_deS, ↓ev_deB, ↓ev_dnI, ↓ev_dnS, ↓ev_dnB, ↓sv_okN, startL, List.map_cons, List.map_nil, List.length_cons, List.length_nil, Nat.reduceAdd, Nat.reduceSub, List.replicate, List.cons_append, List.nil_append, List.set_cons_zero, List.set_cons_succ, getL0, getLS, pick_nil, pick_one, true_and, and_self, List.append_nil, atI_0, atI_1, atI_2, atI_3, atI_4, ixN_0, ixN_1, ixN_2, ixN_3, List.getElem?_cons_zero, List.getElem?_cons_succ, Option.some.injEq, exists_eq_left', ite_true, ite_false, Bool.false_eq_true, if_true_b, if_false_b, dTy_n, dTy_b, dTy_i, dTy_s, dTy_t, dTy_r, dTy_l, decide_true, decide_false, Bool.not_true, Bool.not_false, decide_eq_true_eq, Bool.not_eq_true', decide_eq_false_iff_not, wipeL, Nat.zero_add, kit_ss, kit_is, kit_ns, kit_ts, kit_ls, kit_bs, kit_st, kit_it, kit_nt, kit_tt, kit_lt, kit_bt, kit_sl, kit_il, kit_nl, kit_tl, kit_ll, kit_bl, kit_si, kit_ii, kit_ni, kit_ti, kit_li, kit_bi, kit_sb, kit_ib, kit_nb, kit_tb, kit_lb, kit_bb]⟩
  have nam : Ev (m_is_name [d] []) fun d _ => d = .bl false := by
    unfold m_is_name b_is_name
    simp -implicitDefEqProofs only [↓ev_srcI, ↓ev_srcN, ↓ev_optS, ↓ev_ok, ↓ev_bind, ↓ev_eC, ↓ev_v0, ↓ev_vS, ↓ev_bin, ↓ev_aNil, ↓ev_aCons, ↓ev_tup, ↓ev_disp, ↓ev_new, ↓ev_seq, ↓ev_seqT, ↓ev_seqR, ↓ev_seqL, ↓ev_bOf, ↓ev_toB, ↓ev_bTru, ↓ev_bYes, ↓ev_bAnd, ↓ev_bOr, ↓ev_bNot, ↓ev_eAnd, ↓ev_eOr, ↓ev_eNot, ↓ev_eIf, ↓ev_chain, ↓ev_u, ↓ev_uq, ↓ev_lOf, ↓ev_cat, ↓ev_call, ↓ev_addI, ↓ev_addS, ↓ev_addT, ↓ev_sub, ↓ev_mul, ↓ev_fdiv, ↓ev_mod, ↓ev_pow, ↓ev_neg, ↓ev_negI, ↓ev_cmp, ↓ev_eqI, ↓ev_eqS, ↓ev_eqB, ↓ev_isN, ↓ev_isI, ↓ev_isB, ↓ev_isS, ↓ev_isT, ↓ev_isL, ↓ev_truB, ↓ev_truN, ↓ev_truI, ↓ev_truT, ↓ev_ixS, ↓ev_ixT, ↓ev_ixR, ↓ev_ixL, ↓ev_lenS, ↓ev_lenT, ↓ev_lenR, ↓ev_lenL, ↓ev_abs, ↓ev_intI, ↓ev_intB, ↓ev_intS, ↓ev_strI, ↓ev_max, ↓ev_min, ↓ev_gcd, ↓ev_isi, ↓ev_all, ↓ev_any, ↓ev_sum, ↓ev_rg1, ↓ev_rg1I, ↓ev_lSl, ↓ev_slR, ↓ev_oNo, ↓ev_oIs, ↓ev_toI, ↓ev_eSl, ↓ev_slS, ↓ev_split, ↓ev_onStr, ↓ev_join, ↓ev_mulS, ↓ev_ext, ↓ev_onLoc, ↓ev_mt, ↓ev_app, ↓ev_lRev, ↓ev_revL, ↓sv_nx, ↓sv_seq, ↓sv_ret, ↓sv_retN, ↓sv_ex, ↓sv_if, ↓sv_set, ↓sv_par, ↓sv_put, ↓ev_run, ↓sv_loopK, ↓sv_for, ↓ev_iNew, ↓ev_iVal, ↓ev_srcT, ↓ev_srcR, ↓ev_srcS, ↓ev_srcL, ↓ev_rng1, ↓ev_rng1I, ↓ev_lComp, ↓sv_dput, ↓ev_in1, ↓ev_deI, ↓ev_deS, ↓ev_deB, ↓ev_dnI, ↓ev_dnS, ↓ev_dnB, ↓sv_okN, startL, List.map_cons, List.map_nil, List.length_cons, List.length_nil, Nat.reduceAdd, Nat.reduceSub, List.replicate, List.cons_append, List.nil_append, List.set_cons_zero, List.set_cons_succ, getL0, getLS, pick_nil, pick_one, true_and, and_self, List.append_nil, atI_0, atI_1, atI_2, atI_3, atI_4, ixN_0, ixN_1, ixN_2, ixN_3, List.getElem?_cons_zero, List.getElem?_cons_succ, Option.some.injEq, exists_eq_left', ite_true, ite_false, Bool.false_eq_true, if_true_b, if_false_b, dTy_n, dTy_b, dTy_i, dTy_s, dTy_t, dTy_r, dTy_l, decide_true, decide_false, Bool.not_true, Bool.not_false, decide_eq_true_eq, Bool.not_eq_true', decide_eq_false_iff_not, wipeL, Nat.zero_add, kit_ss, kit_is, kit_ns, kit_ts, kit_ls, kit_bs, kit_st, kit_it, kit_nt, kit_tt, kit_lt, kit_bt, kit_sl, kit_il, kit_nl, kit_tl, kit_ll, kit_bl, kit_si, kit_ii, kit_ni, kit_ti, kit_li, kit_bi, kit_sb, kit_ib, kit_nb, kit_tb, kit_lb, kit_bb]
    refine lm_closed (by simp [cls, hc]) (ev_mono lvl ?_)
    rintro _ _ rfl
    refine ⟨rfl, ?_⟩
    simp -implicitDefEqProofs only [↓ev_srcI, ↓ev_srcN, ↓ev_optS, ↓ev_ok, ↓ev_bind, ↓ev_eC, ↓ev_v0, ↓ev_vS, ↓ev_bin, ↓ev_aNil, ↓ev_aCons, ↓ev_tup, ↓ev_disp, ↓ev_new, ↓ev_seq, ↓ev_seqT, ↓ev_seqR, ↓ev_seqL, ↓ev_bOf, ↓ev_toB, ↓ev_bTru, ↓ev_bYes, ↓ev_bAnd, ↓ev_bOr, ↓ev_bNot, ↓ev_eAnd, ↓ev_eOr, ↓ev_eNot, ↓ev_eIf, ↓ev_chain, ↓ev_u, ↓ev_uq, ↓ev_lOf, ↓ev_cat, ↓ev_call, ↓ev_addI, ↓ev_addS, ↓ev_addT, ↓ev_sub, ↓ev_mul, ↓ev_fdiv, ↓ev_mod, ↓ev_pow, ↓ev_neg, ↓ev_negI, ↓ev_cmp, ↓ev_eqI, ↓ev_eqS, ↓ev_eqB, ↓ev_isN, ↓ev_isI, ↓ev_isB, ↓ev_isS, ↓ev_isT, ↓ev_isL, ↓ev_truB, ↓ev_truN, ↓ev_truI, ↓ev_truT, ↓ev_ixS, ↓ev_ixT, ↓ev_ixR, ↓ev_ixL, ↓ev_lenS, ↓ev_lenT, ↓ev_lenR, ↓ev_lenL, ↓ev_abs, ↓ev_intI, ↓ev_intB, ↓ev_intS, ↓ev_strI, ↓ev_max, ↓ev_min, ↓ev_gcd, ↓ev_isi, ↓ev_all, ↓ev_any, ↓ev_sum, ↓ev_rg1, ↓ev_rg1I, ↓ev_lSl, ↓ev_slR, ↓ev_oNo, ↓ev_oIs, ↓ev_toI, ↓ev_eSl, ↓ev_slS, ↓ev_split, ↓ev_onStr, ↓ev_join, ↓ev_mulS, ↓ev_ext, ↓ev_onLoc, ↓ev_mt, ↓ev_app, ↓ev_lRev, ↓ev_revL, ↓sv_nx, ↓sv_seq, ↓sv_ret, ↓sv_retN, ↓sv_ex, ↓sv_if, ↓sv_set, ↓sv_par, ↓sv_put, ↓ev_run, ↓sv_loopK, ↓sv_for, ↓ev_iNew, ↓ev_iVal, ↓ev_srcT, ↓ev_srcR, ↓ev_srcS, ↓ev_srcL, ↓ev_rng1, ↓ev_rng1I, ↓ev_lComp, ↓sv_dput, ↓ev_in1, ↓ev_deI, ↓ev_deS, ↓ev_deB, ↓ev_dnI, ↓ev_dnS, ↓ev_dnB, ↓sv_okN, startL, List.map_cons, List.map_nil, List.length_cons, List.length_nil, Nat.reduceAdd, Nat.reduceSub, List.replicate, List.cons_append, List.nil_append, List.set_cons_zero, List.set_cons_succ, getL0, getLS, pick_nil, pick_one, true_and, and_self, List.append_nil, atI_0, atI_1, atI_2, atI_3, atI_4, ixN_0, ixN_1, ixN_2, ixN_3, List.getElem?_cons_zero, List.getElem?_cons_succ, Option.some.injEq, exists_eq_left', ite_true, ite_false, Bool.false_eq_true, if_true_b, if_false_b, dTy_n, dTy_b, dTy_i, dTy_s, dTy_t, dTy_r, dTy_l, decide_true, decide_false, Bool.not_true, Bool.not_false, decide_eq_true_eq, Bool.not_eq_true', decide_eq_false_iff_not, wipeL, Nat.zero_add, kit_ss, kit_is, kit_ns, kit_ts, kit_ls, kit_bs, kit_st, kit_it, kit_nt, kit_tt, kit_lt, kit_bt, kit_sl, kit_il, kit_nl, kit_tl, kit_ll, kit_bl, kit_si, kit_ii, kit_ni, kit_ti, kit_li, kit_bi, kit_sb, kit_ib, kit_nb, kit_tb, kit_lb, kit_bb]
  unfold m_law_is_word_right b_law_is_word_right
  simp -implicitDefEqProofs only [↓ev_srcI, ↓ev_srcN, ↓ev_optS, ↓ev_ok, ↓ev_bind, ↓ev_eC, ↓ev_v0, ↓ev_vS, ↓ev_bin, ↓ev_aNil, ↓ev_aCons, ↓ev_tup, ↓ev_disp, ↓ev_new, ↓ev_seq, ↓ev_seqT, ↓ev_seqR, ↓ev_seqL, ↓ev_bOf, ↓ev_toB, ↓ev_bTru, ↓ev_bYes, ↓ev_bAnd, ↓ev_bOr, ↓ev_bNot, ↓ev_eAnd, ↓ev_eOr, ↓ev_eNot, ↓ev_eIf, ↓ev_chain, ↓ev_u, ↓ev_uq, ↓ev_lOf, ↓ev_cat, ↓ev_call, ↓ev_addI, ↓ev_addS, ↓ev_addT, ↓ev_sub, ↓ev_mul, ↓ev_fdiv, ↓ev_mod, ↓ev_pow, ↓ev_neg, ↓ev_negI, ↓ev_cmp, ↓ev_eqI, ↓ev_eqS, ↓ev_eqB, ↓ev_isN, ↓ev_isI, ↓ev_isB, ↓ev_isS, ↓ev_isT, ↓ev_isL, ↓ev_truB, ↓ev_truN, ↓ev_truI, ↓ev_truT, ↓ev_ixS, ↓ev_ixT, ↓ev_ixR, ↓ev_ixL, ↓ev_lenS, ↓ev_lenT, ↓ev_lenR, ↓ev_lenL, ↓ev_abs, ↓ev_intI, ↓ev_intB, ↓ev_intS, ↓ev_strI, ↓ev_max, ↓ev_min, ↓ev_gcd, ↓ev_isi, ↓ev_all, ↓ev_any, ↓ev_sum, ↓ev_rg1, ↓ev_rg1I, ↓ev_lSl, ↓ev_slR, ↓ev_oNo, ↓ev_oIs, ↓ev_toI, ↓ev_eSl, ↓ev_slS, ↓ev_split, ↓ev_onStr, ↓ev_join, ↓ev_mulS, ↓ev_ext, ↓ev_onLoc, ↓ev_mt, ↓ev_app, ↓ev_lRev, ↓ev_revL, ↓sv_nx, ↓sv_seq, ↓sv_ret, ↓sv_retN, ↓sv_ex, ↓sv_if, ↓sv_set, ↓sv_par, ↓sv_put, ↓ev_run, ↓sv_loopK, ↓sv_for, ↓ev_iNew, ↓ev_iVal, ↓ev_srcT, ↓ev_srcR, ↓ev_srcS, ↓ev_srcL, ↓ev_rng1, ↓ev_rng1I, ↓ev_lComp, ↓sv_dput, ↓ev_in1, ↓ev_deI, ↓ev_deS, ↓ev_deB, ↓ev_dnI, ↓ev_dnS, ↓ev_dnB, ↓sv_okN, startL, List.map_cons, List.map_nil, List.length_cons, List.length_nil, Nat.reduceAdd, Nat.reduceSub, List.replicate, List.cons_append, List.nil_append, List.set_cons_zero, List.set_cons_succ, getL0, getLS, pick_nil, pick_one, true_and, and_self, List.append_nil, atI_0, atI_1, atI_2, atI_3, atI_4, ixN_0, ixN_1, ixN_2, ixN_3, List.getElem?_cons_zero, List.getElem?_cons_succ, Option.some.injEq, exists_eq_left', ite_true, ite_false, Bool.false_eq_true, if_true_b, if_false_b, dTy_n, dTy_b, dTy_i, dTy_s, dTy_t, dTy_r, dTy_l, decide_true, decide_false, Bool.not_true, Bool.not_false, decide_eq_true_eq, Bool.not_eq_true', decide_eq_false_iff_not, wipeL, Nat.zero_add, kit_ss, kit_is, kit_ns, kit_ts, kit_ls, kit_bs, kit_st, kit_it, kit_nt, kit_tt, kit_lt, kit_bt, kit_sl, kit_il, kit_nl, kit_tl, kit_ll, kit_bl, kit_si, kit_ii, kit_ni, kit_ti, kit_li, kit_bi, kit_sb, kit_ib, kit_nb, kit_tb, kit_lb, kit_bb]
  refine ⟨_, h1, _, h2, ?_⟩
  simp -implicitDefEqProofs only [↓ev_srcI, ↓ev_srcN, ↓ev_optS, ↓ev_ok, ↓ev_bind, ↓ev_eC, ↓ev_v0, ↓ev_vS, ↓ev_bin, ↓ev_aNil, ↓ev_aCons, ↓ev_tup, ↓ev_disp, ↓ev_new, ↓ev_seq, ↓ev_seqT, ↓ev_seqR, ↓ev_seqL, ↓ev_bOf, ↓ev_toB, ↓ev_bTru, ↓ev_bYes, ↓ev_bAnd, ↓ev_bOr, ↓ev_bNot, ↓ev_eAnd, ↓ev_eOr, ↓ev_eNot, ↓ev_eIf, ↓ev_chain, ↓ev_u, ↓ev_uq, ↓ev_lOf, ↓ev_cat, ↓ev_call, ↓ev_addI, ↓ev_addS, ↓ev_addT, ↓ev_sub, ↓ev_mul, ↓ev_fdiv, ↓ev_mod, ↓ev_pow, ↓ev_neg, ↓ev_negI, ↓ev_cmp, ↓ev_eqI, ↓ev_eqS, ↓ev_eqB, ↓ev_isN, ↓ev_isI, ↓ev_isB, ↓ev_isS, ↓ev_isT, ↓ev_isL, ↓ev_truB, ↓ev_truN, ↓ev_truI, ↓ev_truT, ↓ev_ixS, ↓ev_ixT, ↓ev_ixR, ↓ev_ixL, ↓ev_lenS, ↓ev_lenT, ↓ev_lenR, ↓ev_lenL, ↓ev_abs, ↓ev_intI, ↓ev_intB, ↓ev_intS, ↓ev_strI, ↓ev_max, ↓ev_min, ↓ev_gcd, ↓ev_isi, ↓ev_all, ↓ev_any, ↓ev_sum, ↓ev_rg1, ↓ev_rg1I, ↓ev_lSl, ↓ev_slR, ↓ev_oNo, ↓ev_oIs, ↓ev_toI, ↓ev_eSl, ↓ev_slS, ↓ev_split, ↓ev_onStr, ↓ev_join, ↓ev_mulS, ↓ev_ext, ↓ev_onLoc, ↓ev_mt, ↓ev_app, ↓ev_lRev, ↓ev_revL, ↓sv_nx, ↓sv_seq, ↓sv_ret, ↓sv_retN, ↓sv_ex, ↓sv_if, ↓sv_set, ↓sv_par, ↓sv_put, ↓ev_run, ↓sv_loopK, ↓sv_for, ↓ev_iNew, ↓ev_iVal, ↓ev_srcT, ↓ev_srcR, ↓ev_srcS, ↓ev_srcL, ↓ev_rng1, ↓ev_rng1I, ↓ev_lComp, ↓sv_dput, ↓ev_in1, ↓ev_deI, ↓ev_deS, ↓ev_deB, ↓ev_dnI, ↓ev_dnS, ↓ev_dnB, ↓sv_okN, startL, List.map_cons, List.map_nil, List.length_cons, List.length_nil, Nat.reduceAdd, Nat.reduceSub, List.replicate, List.cons_append, List.nil_append, List.set_cons_zero, List.set_cons_succ, getL0, getLS, pick_nil, pick_one, true_and, and_self, List.append_nil, atI_0, atI_1, atI_2, atI_3, atI_4, ixN_0, ixN_1, ixN_2, ixN_3, List.getElem?_cons_zero, List.getElem?_cons_succ, Option.some.injEq, exists_eq_left', ite_true, ite_false, Bool.false_eq_true, if_true_b, if_false_b, dTy_n, dTy_b, dTy_i, dTy_s, dTy_t, dTy_r, dTy_l, decide_true, decide_false, Bool.not_true, Bool.not_false, decide_eq_true_eq, Bool.not_eq_true', decide_eq_false_iff_not, wipeL, Nat.zero_add, kit_ss, kit_is, kit_ns, kit_ts, kit_ls, kit_bs, kit_st, kit_it, kit_nt, kit_tt, kit_lt, kit_bt, kit_sl, kit_il, kit_nl, kit_tl, kit_ll, kit_bl, kit_si, kit_ii, kit_ni, kit_ti, kit_li, kit_bi, kit_sb, kit_ib, kit_nb, kit_tb, kit_lb, kit_bb]
  refine lm_closed (by simp [cls, hc]) (ev_mono lvl ?_)
  rintro _ _ rfl
  refine ⟨rfl, ?_⟩
  simp -implicitDefEqProofs only [↓ev_srcI, ↓ev_srcN, ↓ev_optS, ↓ev_ok, ↓ev_bind, ↓ev_eC, ↓ev_v0, ↓ev_vS, ↓ev_bin, ↓ev_aNil, ↓ev_aCons, ↓ev_tup, ↓ev_disp, ↓ev_new, ↓ev_seq, ↓ev_seqT, ↓ev_seqR, ↓ev_seqL, ↓ev_bOf, ↓ev_toB, ↓ev_bTru, ↓ev_bYes, ↓ev_bAnd, ↓ev_bOr, ↓ev_bNot, ↓ev_eAnd, ↓ev_eOr, ↓ev_eNot, ↓ev_eIf, ↓ev_chain, ↓ev_u, ↓ev_uq, ↓ev_lOf, ↓ev_cat, ↓ev_call, ↓ev_addI, ↓ev_addS, ↓ev_addT, ↓ev_sub, ↓ev_mul, ↓ev_fdiv, ↓ev_mod, ↓ev_pow, ↓ev_neg, ↓ev_negI, ↓ev_cmp, ↓ev_eqI, ↓ev_eqS, ↓ev_eqB, ↓ev_isN, ↓ev_isI, ↓ev_isB, ↓ev_isS, ↓ev_isT, ↓ev_isL, ↓ev_truB, ↓ev_truN, ↓ev_truI, ↓ev_truT, ↓ev_ixS, ↓ev_ixT, ↓ev_ixR, ↓ev_ixL, ↓ev_lenS, ↓ev_lenT, ↓ev_lenR, ↓ev_lenL, ↓ev_abs, ↓ev_intI, ↓ev_intB, ↓ev_intS, ↓ev_strI, ↓ev_max, ↓ev_min, ↓ev_gcd, ↓ev_isi, ↓ev_all, ↓ev_any, ↓ev_sum, ↓ev_rg1, ↓ev_rg1I, ↓ev_lSl, ↓ev_slR, ↓ev_oNo, ↓ev_oIs, ↓ev_toI, ↓ev_eSl, ↓ev_slS, ↓ev_split, ↓ev_onStr, ↓ev_join, ↓ev_mulS, ↓ev_ext, ↓ev_onLoc, ↓ev_mt, ↓ev_app, ↓ev_lRev, ↓ev_revL, ↓sv_nx, ↓sv_seq, ↓sv_ret, ↓sv_retN, ↓sv_ex, ↓sv_if, ↓sv_set, ↓sv_par, ↓sv_put, ↓ev_run, ↓sv_loopK, ↓sv_for, ↓ev_iNew, ↓ev_iVal, ↓ev_srcT, ↓ev_srcR, ↓ev_srcS, ↓ev_srcL, ↓ev_rng1, ↓ev_rng1I, ↓ev_lComp, ↓sv_dput, ↓ev_in1, ↓ev_deI, ↓ev_deS, ↓ev_deB, ↓ev_dnI, ↓ev_dnS, ↓ev_dnB, ↓sv_okN, startL, List.map_cons, List.map_nil, List.length_cons, List.length_nil, Nat.reduceAdd, Nat.reduceSub, List.replicate, List.cons_append, List.nil_append, List.set_cons_zero, List.set_cons_succ, getL0, getLS, pick_nil, pick_one, true_and, and_self, List.append_nil, atI_0, atI_1, atI_2, atI_3, atI_4, ixN_0, ixN_1, ixN_2, ixN_3, List.getElem?_cons_zero, List.getElem?_cons_succ, Option.some.injEq, exists_eq_left', ite_true, ite_false, Bool.false_eq_true, if_true_b, if_false_b, dTy_n, dTy_b, dTy_i, dTy_s, dTy_t, dTy_r, dTy_l, decide_true, decide_false, Bool.not_true, Bool.not_false, decide_eq_true_eq, Bool.not_eq_true', decide_eq_false_iff_not, wipeL, Nat.zero_add, kit_ss, kit_is, kit_ns, kit_ts, kit_ls, kit_bs, kit_st, kit_it, kit_nt, kit_tt, kit_lt, kit_bt, kit_sl, kit_il, kit_nl, kit_tl, kit_ll, kit_bl, kit_si, kit_ii, kit_ni, kit_ti, kit_li, kit_bi, kit_sb, kit_ib, kit_nb, kit_tb, kit_lb, kit_bb]
  refine lm_closed (by simp [cls, hc]) (ev_mono nam ?_)
  rintro _ _ rfl
  refine ⟨rfl, ?_⟩
  simp -implicitDefEqProofs only [↓ev_srcI, ↓ev_srcN, ↓ev_optS, ↓ev_ok, ↓ev_bind, ↓ev_eC, ↓ev_v0, ↓ev_vS, ↓ev_bin, ↓ev_aNil, ↓ev_aCons, ↓ev_tup, ↓ev_disp, ↓ev_new, ↓ev_seq, ↓ev_seqT, ↓ev_seqR, ↓ev_seqL, ↓ev_bOf, ↓ev_toB, ↓ev_bTru, ↓ev_bYes, ↓ev_bAnd, ↓ev_bOr, ↓ev_bNot, ↓ev_eAnd, ↓ev_eOr, ↓ev_eNot, ↓ev_eIf, ↓ev_chain, ↓ev_u, ↓ev_uq, ↓ev_lOf, ↓ev_cat, ↓ev_call, ↓ev_addI, ↓ev_addS, ↓ev_addT, ↓ev_sub, ↓ev_mul, ↓ev_fdiv, ↓ev_mod, ↓ev_pow, ↓ev_neg, ↓ev_negI, ↓ev_cmp, ↓ev_eqI, ↓ev_eqS, ↓ev_eqB, ↓ev_isN, ↓ev_isI, ↓ev_isB, ↓ev_isS, ↓ev_isT, ↓ev_isL, ↓ev_truB, ↓ev_truN, ↓ev_truI, ↓ev_truT, ↓ev_ixS, ↓ev_ixT, ↓ev_ixR, ↓ev_ixL, ↓ev_lenS, ↓ev_lenT, ↓ev_lenR, ↓ev_lenL, ↓ev_abs, ↓ev_intI, ↓ev_intB, ↓ev_intS, ↓ev_strI, ↓ev_max, ↓ev_min, ↓ev_gcd, ↓ev_isi, ↓ev_all, ↓ev_any, ↓ev_sum, ↓ev_rg1, ↓ev_rg1I, ↓ev_lSl, ↓ev_slR, ↓ev_oNo, ↓ev_oIs, ↓ev_toI, ↓ev_eSl, ↓ev_slS, ↓ev_split, ↓ev_onStr, ↓ev_join, ↓ev_mulS, ↓ev_ext, ↓ev_onLoc, ↓ev_mt, ↓ev_app, ↓ev_lRev, ↓ev_revL, ↓sv_nx, ↓sv_seq, ↓sv_ret, ↓sv_retN, ↓sv_ex, ↓sv_if, ↓sv_set, ↓sv_par, ↓sv_put, ↓ev_run, ↓sv_loopK, ↓sv_for, ↓ev_iNew, ↓ev_iVal, ↓ev_srcT, ↓ev_srcR, ↓ev_srcS, ↓ev_srcL, ↓ev_rng1, ↓ev_rng1I, ↓ev_lComp, ↓sv_dput, ↓ev_in1, ↓ev_deI, ↓ev_deS, ↓ev_deB, ↓ev_dnI, ↓ev_dnS, ↓ev_dnB, ↓sv_okN, startL, List.map_cons, List.map_nil, List.length_cons, List.length_nil, Nat.reduceAdd, Nat.reduceSub, List.replicate, List.cons_append, List.nil_append, List.set_cons_zero, List.set_cons_succ, getL0, getLS, pick_nil, pick_one, true_and, and_self, List.append_nil, atI_0, atI_1, atI_2, atI_3, atI_4, ixN_0, ixN_1, ixN_2, ixN_3, List.getElem?_cons_zero, List.getElem?_cons_succ, Option.some.injEq, exists_eq_left', ite_true, ite_false, Bool.false_eq_true, if_true_b, if_false_b, dTy_n, dTy_b, dTy_i, dTy_s, dTy_t, dTy_r, dTy_l, decide_true, decide_false, Bool.not_true, Bool.not_false, decide_eq_true_eq, Bool.not_eq_true', decide_eq_false_iff_not, wipeL, Nat.zero_add, kit_ss, kit_is, kit_ns, kit_ts, kit_ls, kit_bs, kit_st, kit_it, kit_nt, kit_tt, kit_lt, kit_bt, kit_sl, kit_il, kit_nl, kit_tl, kit_ll, kit_bl, kit_si, kit_ii, kit_ni, kit_ti, kit_li, kit_bi, kit_sb, kit_ib, kit_nb, kit_tb, kit_lb, kit_bb]
theorem word_ok {n : Nat} {P : MO} (hn : n ≤ 100000) (p : IsPot n P) : Ev (m_law_word [.loc 0] [P]) fun d h => ∃ x P', d = .str x ∧ h = [P'] ∧ x.length ≤ 10 ∧ IsPot (n + 24) P' := by
  unfold m_law_word b_law_word
  simp -implicitDefEqProofs only [↓ev_srcI, ↓ev_srcN, ↓ev_optS, ↓ev_ok, ↓ev_bind, ↓ev_eC, ↓ev_v0, ↓ev_vS, ↓ev_bin, ↓ev_aNil, ↓ev_aCons, ↓ev_tup, ↓ev_disp, ↓ev_new, ↓ev_seq, ↓ev_seqT, ↓ev_seqR, ↓ev_seqL, ↓ev_bOf, ↓ev_toB, ↓ev_bTru, ↓ev_bYes, ↓ev_bAnd, ↓ev_bOr, ↓ev_bNot, ↓ev_eAnd, ↓ev_eOr, ↓ev_eNot, ↓ev_eIf, ↓ev_chain, ↓ev_u, ↓ev_uq, ↓ev_lOf, ↓ev_cat, ↓ev_call, ↓ev_addI, ↓ev_addS, ↓ev_addT, ↓ev_sub, ↓ev_mul, ↓ev_fdiv, ↓ev_mod, ↓ev_pow, ↓ev_neg, ↓ev_negI, ↓ev_cmp, ↓ev_eqI, ↓ev_eqS, ↓ev_eqB, ↓ev_isN, ↓ev_isI, ↓ev_isB, ↓ev_isS, ↓ev_isT, ↓ev_isL, ↓ev_truB, ↓ev_truN, ↓ev_truI, ↓ev_truT, ↓ev_ixS, ↓ev_ixT, ↓ev_ixR, ↓ev_ixL, ↓ev_lenS, ↓ev_lenT, ↓ev_lenR, ↓ev_lenL, ↓ev_abs, ↓ev_intI, ↓ev_intB, ↓ev_intS, ↓ev_strI, ↓ev_max, ↓ev_min, ↓ev_gcd, ↓ev_isi, ↓ev_all, ↓ev_any, ↓ev_sum, ↓ev_rg1, ↓ev_rg1I, ↓ev_lSl, ↓ev_slR, ↓ev_oNo, ↓ev_oIs, ↓ev_toI, ↓ev_eSl, ↓ev_slS, ↓ev_split, ↓ev_onStr, ↓ev_join, ↓ev_mulS, ↓ev_ext, ↓ev_onLoc, ↓ev_mt, ↓ev_app, ↓ev_lRev, ↓ev_revL, ↓sv_nx, ↓sv_seq, ↓sv_ret, ↓sv_retN, ↓sv_ex, ↓sv_if, ↓sv_set, ↓sv_par, ↓sv_put, ↓ev_run, ↓sv_loopK, ↓sv_for, ↓ev_iNew, ↓ev_iVal, ↓ev_srcT, ↓ev_srcR, ↓ev_srcS, ↓ev_srcL, ↓ev_rng1, ↓ev_rng1I, ↓ev_lComp, ↓sv_dput, ↓ev_in1, ↓ev_deI, ↓ev_deS, ↓ev_deB, ↓ev_dnI, ↓ev_dnS, ↓ev_dnB, ↓sv_okN, startL, List.map_cons, List.map_nil, List.length_cons, List.length_nil, Nat.reduceAdd, Nat.reduceSub, List.replicate, List.cons_append, List.nil_append, List.set_cons_zero, List.set_cons_succ, getL0, getLS, pick_nil, pick_one, true_and, and_self, List.append_nil, atI_0, atI_1, atI_2, atI_3, atI_4, ixN_0, ixN_1, ixN_2, ixN_3, List.getElem?_cons_zero, List.getElem?_cons_succ, Option.some.injEq, exists_eq_left', ite_true, ite_false, Bool.false_eq_true, if_true_b, if_false_b, dTy_n, dTy_b, dTy_i, dTy_s, dTy_t, dTy_r, dTy_l, decide_true, decide_false, Bool.not_true, Bool.not_false, decide_eq_true_eq, Bool.not_eq_true', decide_eq_false_iff_not, wipeL, Nat.zero_add, kit_ss, kit_is, kit_ns, kit_ts, kit_ls, kit_bs, kit_st, kit_it, kit_nt, kit_tt, kit_lt, kit_bt, kit_sl, kit_il, kit_nl, kit_tl, kit_ll, kit_bl, kit_si, kit_ii, kit_ni, kit_ti, kit_li, kit_bi, kit_sb, kit_ib, kit_nb, kit_tb, kit_lb, kit_bb]
  refine take (by rfl) p (by omega) (by decide) (by decide) fun k P1 h1 h2 p1 => ?_
  simp -implicitDefEqProofs only [↓ev_srcI, ↓ev_srcN, ↓ev_optS, ↓ev_ok, ↓ev_bind, ↓ev_eC, ↓ev_v0, ↓ev_vS, ↓ev_bin, ↓ev_aNil, ↓ev_aCons, ↓ev_tup, ↓ev_disp, ↓ev_new, ↓ev_seq, ↓ev_seqT, ↓ev_seqR, ↓ev_seqL, ↓ev_bOf, ↓ev_toB, ↓ev_bTru, ↓ev_bYes, ↓ev_bAnd, ↓ev_bOr, ↓ev_bNot, ↓ev_eAnd, ↓ev_eOr, ↓ev_eNot, ↓ev_eIf, ↓ev_chain, ↓ev_u, ↓ev_uq, ↓ev_lOf, ↓ev_cat, ↓ev_call, ↓ev_addI, ↓ev_addS, ↓ev_addT, ↓ev_sub, ↓ev_mul, ↓ev_fdiv, ↓ev_mod, ↓ev_pow, ↓ev_neg, ↓ev_negI, ↓ev_cmp, ↓ev_eqI, ↓ev_eqS, ↓ev_eqB, ↓ev_isN, ↓ev_isI, ↓ev_isB, ↓ev_isS, ↓ev_isT, ↓ev_isL, ↓ev_truB, ↓ev_truN, ↓ev_truI, ↓ev_truT, ↓ev_ixS, ↓ev_ixT, ↓ev_ixR, ↓ev_ixL, ↓ev_lenS, ↓ev_lenT, ↓ev_lenR, ↓ev_lenL, ↓ev_abs, ↓ev_intI, ↓ev_intB, ↓ev_intS, ↓ev_strI, ↓ev_max, ↓ev_min, ↓ev_gcd, ↓ev_isi, ↓ev_all, ↓ev_any, ↓ev_sum, ↓ev_rg1, ↓ev_rg1I, ↓ev_lSl, ↓ev_slR, ↓ev_oNo, ↓ev_oIs, ↓ev_toI, ↓ev_eSl, ↓ev_slS, ↓ev_split, ↓ev_onStr, ↓ev_join, ↓ev_mulS, ↓ev_ext, ↓ev_onLoc, ↓ev_mt, ↓ev_app, ↓ev_lRev, ↓ev_revL, ↓sv_nx, ↓sv_seq, ↓sv_ret, ↓sv_retN, ↓sv_ex, ↓sv_if, ↓sv_set, ↓sv_par, ↓sv_put, ↓ev_run, ↓sv_loopK, ↓sv_for, ↓ev_iNew, ↓ev_iVal, ↓ev_srcT, ↓ev_srcR, ↓ev_srcS, ↓ev_srcL, ↓ev_rng1, ↓ev_rng1I, ↓ev_lComp, ↓sv_dput, ↓ev_in1, ↓ev_deI, ↓ev_deS, ↓ev_deB, ↓ev_dnI, ↓ev_dnS, ↓ev_dnB, ↓sv_okN, startL, List.map_cons, List.map_nil, List.length_cons, List.length_nil, Nat.reduceAdd, Nat.reduceSub, List.replicate, List.cons_append, List.nil_append, List.set_cons_zero, List.set_cons_succ, getL0, getLS, pick_nil, pick_one, true_and, and_self, List.append_nil, atI_0, atI_1, atI_2, atI_3, atI_4, ixN_0, ixN_1, ixN_2, ixN_3, List.getElem?_cons_zero, List.getElem?_cons_succ, Option.some.injEq, exists_eq_left', ite_true, ite_false, Bool.false_eq_true, if_true_b, if_false_b, dTy_n, dTy_b, dTy_i, dTy_s, dTy_t, dTy_r, dTy_l, decide_true, decide_false, Bool.not_true, Bool.not_false, decide_eq_true_eq, Bool.not_eq_true', decide_eq_false_iff_not, wipeL, Nat.zero_add, kit_ss, kit_is, kit_ns, kit_ts, kit_ls, kit_bs, kit_st, kit_it, kit_nt, kit_tt, kit_lt, kit_bt, kit_sl, kit_il, kit_nl, kit_tl, kit_ll, kit_bl, kit_si, kit_ii, kit_ni, kit_ti, kit_li, kit_bi, kit_sb, kit_ib, kit_nb, kit_tb, kit_lb, kit_bb]
  refine ⟨by omega, ev_comp (fun i h' => ∃ P', IsPot (n + 1 + 2 * i) P' ∧ h' = [P']) (fun _ y => ∃ c : Nat, y = .str ⟨#[c]⟩) _ 0 _ ?_ ?_ ⟨P1, p1, rfl⟩ ?_⟩
  · rw [rng_len]; have : sizeLine = 16777216 := by decide
    omega
  · rintro j d h hd ⟨P2, p2, rfl⟩
    obtain ⟨hj, rfl⟩ := rng_get hd
    have hj : j < 11 := by omega
    simp -implicitDefEqProofs only [↓ev_srcI, ↓ev_srcN, ↓ev_optS, ↓ev_ok, ↓ev_bind, ↓ev_eC, ↓ev_v0, ↓ev_vS, ↓ev_bin, ↓ev_aNil, ↓ev_aCons, ↓ev_tup, ↓ev_disp, ↓ev_new, ↓ev_seq, ↓ev_seqT, ↓ev_seqR, ↓ev_seqL, ↓ev_bOf, ↓ev_toB, ↓ev_bTru, ↓ev_bYes, ↓ev_bAnd, ↓ev_bOr, ↓ev_bNot, ↓ev_eAnd, ↓ev_eOr, ↓ev_eNot, ↓ev_eIf, ↓ev_chain, ↓ev_u, ↓ev_uq, ↓ev_lOf, ↓ev_cat, ↓ev_call, ↓ev_addI, ↓ev_addS, ↓ev_addT, ↓ev_sub, ↓ev_mul, ↓ev_fdiv, ↓ev_mod, ↓ev_pow, ↓ev_neg, ↓ev_negI, ↓ev_cmp, ↓ev_eqI, ↓ev_eqS, ↓ev_eqB, ↓ev_isN, ↓ev_isI, ↓ev_isB, ↓ev_isS, ↓ev_isT, ↓ev_isL, ↓ev_truB, ↓ev_truN, ↓ev_truI, ↓ev_truT, ↓ev_ixS, ↓ev_ixT, ↓ev_ixR, ↓ev_ixL, ↓ev_lenS, ↓ev_lenT, ↓ev_lenR, ↓ev_lenL, ↓ev_abs, ↓ev_intI, ↓ev_intB, ↓ev_intS, ↓ev_strI, ↓ev_max, ↓ev_min, ↓ev_gcd, ↓ev_isi, ↓ev_all, ↓ev_any, ↓ev_sum, ↓ev_rg1, ↓ev_rg1I, ↓ev_lSl, ↓ev_slR, ↓ev_oNo, ↓ev_oIs, ↓ev_toI, ↓ev_eSl, ↓ev_slS, ↓ev_split, ↓ev_onStr, ↓ev_join, ↓ev_mulS, ↓ev_ext, ↓ev_onLoc, ↓ev_mt, ↓ev_app, ↓ev_lRev, ↓ev_revL, ↓sv_nx, ↓sv_seq, ↓sv_ret, ↓sv_retN, ↓sv_ex, ↓sv_if, ↓sv_set, ↓sv_par, ↓sv_put, ↓ev_run, ↓sv_loopK, ↓sv_for, ↓ev_iNew, ↓ev_iVal, ↓ev_srcT, ↓ev_srcR, ↓ev_srcS, ↓ev_srcL, ↓ev_rng1, ↓ev_rng1I, ↓ev_lComp, ↓sv_dput, ↓ev_in1, ↓ev_deI, ↓ev_deS, ↓ev_deB, ↓ev_dnI, ↓ev_dnS, ↓ev_dnB, ↓sv_okN, startL, List.map_cons, List.map_nil, List.length_cons, List.length_nil, Nat.reduceAdd, Nat.reduceSub, List.replicate, List.cons_append, List.nil_append, List.set_cons_zero, List.set_cons_succ, getL0, getLS, pick_nil, pick_one, true_and, and_self, List.append_nil, atI_0, atI_1, atI_2, atI_3, atI_4, ixN_0, ixN_1, ixN_2, ixN_3, List.getElem?_cons_zero, List.getElem?_cons_succ, Option.some.injEq, exists_eq_left', ite_true, ite_false, Bool.false_eq_true, if_true_b, if_false_b, dTy_n, dTy_b, dTy_i, dTy_s, dTy_t, dTy_r, dTy_l, decide_true, decide_false, Bool.not_true, Bool.not_false, decide_eq_true_eq, Bool.not_eq_true', decide_eq_false_iff_not, wipeL, Nat.zero_add, kit_ss, kit_is, kit_ns, kit_ts, kit_ls, kit_bs, kit_st, kit_it, kit_nt, kit_tt, kit_lt, kit_bt, kit_sl, kit_il, kit_nl, kit_tl, kit_ll, kit_bl, kit_si, kit_ii, kit_ni, kit_ti, kit_li, kit_bi, kit_sb, kit_ib, kit_nb, kit_tb, kit_lb, kit_bb]
    refine take (by rfl) p2 (by omega) (by decide) (by decide) fun k2 P3 h3 h4 p3 => ?_
    simp -implicitDefEqProofs only [↓ev_srcI, ↓ev_srcN, ↓ev_optS, ↓ev_ok, ↓ev_bind, ↓ev_eC, ↓ev_v0, ↓ev_vS, ↓ev_bin, ↓ev_aNil, ↓ev_aCons, ↓ev_tup, ↓ev_disp, ↓ev_new, ↓ev_seq, ↓ev_seqT, ↓ev_seqR, ↓ev_seqL, ↓ev_bOf, ↓ev_toB, ↓ev_bTru, ↓ev_bYes, ↓ev_bAnd, ↓ev_bOr, ↓ev_bNot, ↓ev_eAnd, ↓ev_eOr, ↓ev_eNot, ↓ev_eIf, ↓ev_chain, ↓ev_u, ↓ev_uq, ↓ev_lOf, ↓ev_cat, ↓ev_call, ↓ev_addI, ↓ev_addS, ↓ev_addT, ↓ev_sub, ↓ev_mul, ↓ev_fdiv, ↓ev_mod, ↓ev_pow, ↓ev_neg, ↓ev_negI, ↓ev_cmp, ↓ev_eqI, ↓ev_eqS, ↓ev_eqB, ↓ev_isN, ↓ev_isI, ↓ev_isB, ↓ev_isS, ↓ev_isT, ↓ev_isL, ↓ev_truB, ↓ev_truN, ↓ev_truI, ↓ev_truT, ↓ev_ixS, ↓ev_ixT, ↓ev_ixR, ↓ev_ixL, ↓ev_lenS, ↓ev_lenT, ↓ev_lenR, ↓ev_lenL, ↓ev_abs, ↓ev_intI, ↓ev_intB, ↓ev_intS, ↓ev_strI, ↓ev_max, ↓ev_min, ↓ev_gcd, ↓ev_isi, ↓ev_all, ↓ev_any, ↓ev_sum, ↓ev_rg1, ↓ev_rg1I, ↓ev_lSl, ↓ev_slR, ↓ev_oNo, ↓ev_oIs, ↓ev_toI, ↓ev_eSl, ↓ev_slS, ↓ev_split, ↓ev_onStr, ↓ev_join, ↓ev_mulS, ↓ev_ext, ↓ev_onLoc, ↓ev_mt, ↓ev_app, ↓ev_lRev, ↓ev_revL, ↓sv_nx, ↓sv_seq, ↓sv_ret, ↓sv_retN, ↓sv_ex, ↓sv_if, ↓sv_set, ↓sv_par, ↓sv_put, ↓ev_run, ↓sv_loopK, ↓sv_for, ↓ev_iNew, ↓ev_iVal, ↓ev_srcT, ↓ev_srcR, ↓ev_srcS, ↓ev_srcL, ↓ev_rng1, ↓ev_rng1I, ↓ev_lComp, ↓sv_dput, ↓ev_in1, ↓ev_deI, ↓ev_deS, ↓ev_deB, ↓ev_dnI, ↓ev_dnS, ↓ev_dnB, ↓sv_okN, startL, List.map_cons, List.map_nil, List.length_cons, List.length_nil, Nat.reduceAdd, Nat.reduceSub, List.replicate, List.cons_append, List.nil_append, List.set_cons_zero, List.set_cons_succ, getL0, getLS, pick_nil, pick_one, true_and, and_self, List.append_nil, atI_0, atI_1, atI_2, atI_3, atI_4, ixN_0, ixN_1, ixN_2, ixN_3, List.getElem?_cons_zero, List.getElem?_cons_succ, Option.some.injEq, exists_eq_left', ite_true, ite_false, Bool.false_eq_true, if_true_b, if_false_b, dTy_n, dTy_b, dTy_i, dTy_s, dTy_t, dTy_r, dTy_l, decide_true, decide_false, Bool.not_true, Bool.not_false, decide_eq_true_eq, Bool.not_eq_true', decide_eq_false_iff_not, wipeL, Nat.zero_add, kit_ss, kit_is, kit_ns, kit_ts, kit_ls, kit_bs, kit_st, kit_it, kit_nt, kit_tt, kit_lt, kit_bt, kit_sl, kit_il, kit_nl, kit_tl, kit_ll, kit_bl, kit_si, kit_ii, kit_ni, kit_ti, kit_li, kit_bi, kit_sb, kit_ib, kit_nb, kit_tb, kit_lb, kit_bb]
    have fin : ∀ u : Int, u = 10 ∨ u = 6 → Ev (lcall m_law_take [D.loc 0, D.int u] [P3]) fun y h2 => Ev (dIx (.str "abz019_A- ") y h2) fun y h2 => (∃ c : Nat, y = D.str ⟨#[c]⟩) ∧ ∃ P', IsPot (n + 1 + 2 * (j + 1)) P' ∧ h2 = [P'] := by
      intro u hu
      refine take (by rfl) p3 (by omega) (by omega) (by omega) fun k4 P5 h5 h6 p5 => ?_
      simp -implicitDefEqProofs only [↓ev_srcI, ↓ev_srcN, ↓ev_optS, ↓ev_ok, ↓ev_bind, ↓ev_eC, ↓ev_v0, ↓ev_vS, ↓ev_bin, ↓ev_aNil, ↓ev_aCons, ↓ev_tup, ↓ev_disp, ↓ev_new, ↓ev_seq, ↓ev_seqT, ↓ev_seqR, ↓ev_seqL, ↓ev_bOf, ↓ev_toB, ↓ev_bTru, ↓ev_bYes, ↓ev_bAnd, ↓ev_bOr, ↓ev_bNot, ↓ev_eAnd, ↓ev_eOr, ↓ev_eNot, ↓ev_eIf, ↓ev_chain, ↓ev_u, ↓ev_uq, ↓ev_lOf, ↓ev_cat, ↓ev_call, ↓ev_addI, ↓ev_addS, ↓ev_addT, ↓ev_sub, ↓ev_mul, ↓ev_fdiv, ↓ev_mod, ↓ev_pow, ↓ev_neg, ↓ev_negI, ↓ev_cmp, ↓ev_eqI, ↓ev_eqS, ↓ev_eqB, ↓ev_isN, ↓ev_isI, ↓ev_isB, ↓ev_isS, ↓ev_isT, ↓ev_isL, ↓ev_truB, ↓ev_truN, ↓ev_truI, ↓ev_truT, ↓ev_ixS, ↓ev_ixT, ↓ev_ixR, ↓ev_ixL, ↓ev_lenS, ↓ev_lenT, ↓ev_lenR, ↓ev_lenL, ↓ev_abs, ↓ev_intI, ↓ev_intB, ↓ev_intS, ↓ev_strI, ↓ev_max, ↓ev_min, ↓ev_gcd, ↓ev_isi, ↓ev_all, ↓ev_any, ↓ev_sum, ↓ev_rg1, ↓ev_rg1I, ↓ev_lSl, ↓ev_slR, ↓ev_oNo, ↓ev_oIs, ↓ev_toI, ↓ev_eSl, ↓ev_slS, ↓ev_split, ↓ev_onStr, ↓ev_join, ↓ev_mulS, ↓ev_ext, ↓ev_onLoc, ↓ev_mt, ↓ev_app, ↓ev_lRev, ↓ev_revL, ↓sv_nx, ↓sv_seq, ↓sv_ret, ↓sv_retN, ↓sv_ex, ↓sv_if, ↓sv_set, ↓sv_par, ↓sv_put, ↓ev_run, ↓sv_loopK, ↓sv_for, ↓ev_iNew, ↓ev_iVal, ↓ev_srcT, ↓ev_srcR, ↓ev_srcS, ↓ev_srcL, ↓ev_rng1, ↓ev_rng1I, ↓ev_lComp, ↓sv_dput, ↓ev_in1, ↓ev_deI, ↓ev_deS, ↓ev_deB, ↓ev_dnI, ↓ev_dnS, ↓ev_dnB, ↓sv_okN, startL, List.map_cons, List.map_nil, List.length_cons, List.length_nil, Nat.reduceAdd, Nat.reduceSub, List.replicate, List.cons_append, List.nil_append, List.set_cons_zero, List.set_cons_succ, getL0, getLS, pick_nil, pick_one, true_and, and_self, List.append_nil, atI_0, atI_1, atI_2, atI_3, atI_4, ixN_0, ixN_1, ixN_2, ixN_3, List.getElem?_cons_zero, List.getElem?_cons_succ, Option.some.injEq, exists_eq_left', ite_true, ite_false, Bool.false_eq_true, if_true_b, if_false_b, dTy_n, dTy_b, dTy_i, dTy_s, dTy_t, dTy_r, dTy_l, decide_true, decide_false, Bool.not_true, Bool.not_false, decide_eq_true_eq, Bool.not_eq_true', decide_eq_false_iff_not, wipeL, Nat.zero_add, kit_ss, kit_is, kit_ns, kit_ts, kit_ls, kit_bs, kit_st, kit_it, kit_nt, kit_tt, kit_lt, kit_bt, kit_sl, kit_il, kit_nl, kit_tl, kit_ll, kit_bl, kit_si, kit_ii, kit_ni, kit_ti, kit_li, kit_bi, kit_sb, kit_ib, kit_nb, kit_tb, kit_lb, kit_bb]
      obtain ⟨c, e, _⟩ := atI_i (xs := (Str.ofString "abz019_A- ").cps.toList) (i := k4) h5 (by
        have : (Str.ofString "abz019_A- ").cps.toList.length = 10 := by decide +kernel
        rw [this]; omega)
      refine ⟨by decide +kernel, c, e, ⟨c, rfl⟩, P5, ?_, rfl⟩
      rw [show n + 1 + 2 * (j + 1) = n + 1 + 2 * j + 1 + 1 by omega]
      simpa using p5
    split
    · exact fin 10 (.inl rfl)
    · exact fin 6 (.inr rfl)
  · rintro ys h hl hY ⟨P2, p2, rfl⟩
    rw [rng_len] at hl
    obtain ⟨zs, e1, e2⟩ : ∃ zs : List Nat, ys = (zs.map fun c => (⟨#[c]⟩ : Str)).map D.str ∧ zs.length = ys.length := by
      clear hl
      induction ys with
      | nil => exact ⟨[], rfl, rfl⟩
      | cons y ys ih =>
        obtain ⟨zs, e1, e2⟩ := ih fun j y e => hY (j + 1) y e
        obtain ⟨c, rfl⟩ := hY 0 _ rfl
        exact ⟨c :: zs, by rw [e1]; rfl, by simp [e2]⟩
    rw [e1]
    have hs : (((zs.map fun c => (⟨#[c]⟩ : Str))).map (·.length)).sum = zs.length := by
      clear e1 e2
      induction zs with
      | nil => rfl
      | cons z zs ih => simp at ih ⊢; rw [show (⟨#[z]⟩ : Str).length = 1 from rfl]; omega
    have h0 : (Str.ofString "").length = 0 := by decide
    refine ⟨_, mapM_st _, ?_, _, _, rfl, rfl, ?_, ?_⟩
    · rw [hs, h0]; omega
    · rw [join_len0]; rw [hs]; omega
    · obtain ⟨a, b, c, rfl, q1, q2, q3, q4, q5⟩ := p2
      exact ⟨a, b, c, rfl, q1, q2, q3, q4, by rw [rng_len] at q5; omega⟩
theorem right_ok (number_ok : ∀ (n : Nat) (P : MO), n ≤ 20000 → IsPot n P → Ev (m_law_is_number_right [.loc 0] [P]) fun d h => ∃ P' r, h = P' :: r ∧ IsPot (n + 20) P' ∧ d = .bl true)
    (n : Nat) (P : MO) (hn : n ≤ 8000) (p : IsPot n P) : Ev (m_law_right [.loc 0] [P]) fun d h => ∃ P' r, h = P' :: r ∧ IsPot (n + 1000) P' ∧ d = .bl true := by
  unfold m_law_right b_law_right
  simp -implicitDefEqProofs only [↓ev_srcI, ↓ev_srcN, ↓ev_optS, ↓ev_ok, ↓ev_bind, ↓ev_eC, ↓ev_v0, ↓ev_vS, ↓ev_bin, ↓ev_aNil, ↓ev_aCons, ↓ev_tup, ↓ev_disp, ↓ev_new, ↓ev_seq, ↓ev_seqT, ↓ev_seqR, ↓ev_seqL, ↓ev_bOf, ↓ev_toB, ↓ev_bTru, ↓ev_bYes, ↓ev_bAnd, ↓ev_bOr, ↓ev_bNot, ↓ev_eAnd, ↓ev_eOr, ↓ev_eNot, ↓ev_eIf, ↓ev_chain, ↓ev_u, ↓ev_uq, ↓ev_lOf, ↓ev_cat, ↓ev_call, ↓ev_addI, ↓ev_addS, ↓ev_addT, ↓ev_sub, ↓ev_mul, ↓ev_fdiv, ↓ev_mod, ↓ev_pow, ↓ev_neg, ↓ev_negI, ↓ev_cmp, ↓ev_eqI, ↓ev_eqS, ↓ev_eqB, ↓ev_isN, ↓ev_isI, ↓ev_isB, ↓ev_isS, ↓ev_isT, ↓ev_isL, ↓ev_truB, ↓ev_truN, ↓ev_truI, ↓ev_truT, ↓ev_ixS, ↓ev_ixT, ↓ev_ixR, ↓ev_ixL, ↓ev_lenS, ↓ev_lenT, ↓ev_lenR, ↓ev_lenL, ↓ev_abs, ↓ev_intI, ↓ev_intB, ↓ev_intS, ↓ev_strI, ↓ev_max, ↓ev_min, ↓ev_gcd, ↓ev_isi, ↓ev_all, ↓ev_any, ↓ev_sum, ↓ev_rg1, ↓ev_rg1I, ↓ev_lSl, ↓ev_slR, ↓ev_oNo, ↓ev_oIs, ↓ev_toI, ↓ev_eSl, ↓ev_slS, ↓ev_split, ↓ev_onStr, ↓ev_join, ↓ev_mulS, ↓ev_ext, ↓ev_onLoc, ↓ev_mt, ↓ev_app, ↓ev_lRev, ↓ev_revL, ↓sv_nx, ↓sv_seq, ↓sv_ret, ↓sv_retN, ↓sv_ex, ↓sv_if, ↓sv_set, ↓sv_par, ↓sv_put, ↓ev_run, ↓sv_loopK, ↓sv_for, ↓ev_iNew, ↓ev_iVal, ↓ev_srcT, ↓ev_srcR, ↓ev_srcS, ↓ev_srcL, ↓ev_rng1, ↓ev_rng1I, ↓ev_lComp, ↓sv_dput, ↓ev_in1, ↓ev_deI, ↓ev_deS, ↓ev_deB, ↓ev_dnI, ↓ev_dnS, ↓ev_dnB, ↓sv_okN, startL, List.map_cons, List.map_nil, List.length_cons, List.length_nil, Nat.reduceAdd, Nat.reduceSub, List.replicate, List.cons_append, List.nil_append, List.set_cons_zero, List.set_cons_succ, getL0, getLS, pick_nil, pick_one, true_and, and_self, List.append_nil, atI_0, atI_1, atI_2, atI_3, atI_4, ixN_0, ixN_1, ixN_2, ixN_3, List.getElem?_cons_zero, List.getElem?_cons_succ, Option.some.injEq, exists_eq_left', ite_true, ite_false, Bool.false_eq_true, if_true_b, if_false_b, dTy_n, dTy_b, dTy_i, dTy_s, dTy_t, dTy_r, dTy_l, decide_true, decide_false, Bool.not_true, Bool.not_false, decide_eq_true_eq, Bool.not_eq_true', decide_eq_false_iff_not, wipeL, Nat.zero_add, kit_ss, kit_is, kit_ns, kit_ts, kit_ls, kit_bs, kit_st, kit_it, kit_nt, kit_tt, kit_lt, kit_bt, kit_sl, kit_il, kit_nl, kit_tl, kit_ll, kit_bl, kit_si, kit_ii, kit_ni, kit_ti, kit_li, kit_bi, kit_sb, kit_ib, kit_nb, kit_tb, kit_lb, kit_bb]
  refine ⟨by decide, ev_comp (fun i h' => ∃ P', IsPot (n + 24 * i) P' ∧ h' = [P']) (fun _ y => ∃ x : Str, y = .str x ∧ x.length ≤ 10) _ 0 _ ?_ ?_ ⟨P, p, rfl⟩ ?_⟩
  · rw [rng_len]; decide
  · rintro j d h hd ⟨P2, p2, rfl⟩
    obtain ⟨hj, _⟩ := rng_get hd
    have hj : j < 8 := hj
    simp -implicitDefEqProofs only [↓ev_srcI, ↓ev_srcN, ↓ev_optS, ↓ev_ok, ↓ev_bind, ↓ev_eC, ↓ev_v0, ↓ev_vS, ↓ev_bin, ↓ev_aNil, ↓ev_aCons, ↓ev_tup, ↓ev_disp, ↓ev_new, ↓ev_seq, ↓ev_seqT, ↓ev_seqR, ↓ev_seqL, ↓ev_bOf, ↓ev_toB, ↓ev_bTru, ↓ev_bYes, ↓ev_bAnd, ↓ev_bOr, ↓ev_bNot, ↓ev_eAnd, ↓ev_eOr, ↓ev_eNot, ↓ev_eIf, ↓ev_chain, ↓ev_u, ↓ev_uq, ↓ev_lOf, ↓ev_cat, ↓ev_call, ↓ev_addI, ↓ev_addS, ↓ev_addT, ↓ev_sub, ↓ev_mul, ↓ev_fdiv, ↓ev_mod, ↓ev_pow, ↓ev_neg, ↓ev_negI, ↓ev_cmp, ↓ev_eqI, ↓ev_eqS, ↓ev_eqB, ↓ev_isN, ↓ev_isI, ↓ev_isB, ↓ev_isS, ↓ev_isT, ↓ev_isL, ↓ev_truB, ↓ev_truN, ↓ev_truI, ↓ev_truT, ↓ev_ixS, ↓ev_ixT, ↓ev_ixR, ↓ev_ixL, ↓ev_lenS, ↓ev_lenT, ↓ev_lenR, ↓ev_lenL, ↓ev_abs, ↓ev_intI, ↓ev_intB, ↓ev_intS, ↓ev_strI, ↓ev_max, ↓ev_min, ↓ev_gcd, ↓ev_isi, ↓ev_all, ↓ev_any, ↓ev_sum, ↓ev_rg1, ↓ev_rg1I, ↓ev_lSl, ↓ev_slR, ↓ev_oNo, ↓ev_oIs, ↓ev_toI, ↓ev_eSl, ↓ev_slS, ↓ev_split, ↓ev_onStr, ↓ev_join, ↓ev_mulS, ↓ev_ext, ↓ev_onLoc, ↓ev_mt, ↓ev_app, ↓ev_lRev, ↓ev_revL, ↓sv_nx, ↓sv_seq, ↓sv_ret, ↓sv_retN, ↓sv_ex, ↓sv_if, ↓sv_set, ↓sv_par, ↓sv_put, ↓ev_run, ↓sv_loopK, ↓sv_for, ↓ev_iNew, ↓ev_iVal, ↓ev_srcT, ↓ev_srcR, ↓ev_srcS, ↓ev_srcL, ↓ev_rng1, ↓ev_rng1I, ↓ev_lComp, ↓sv_dput, ↓ev_in1, ↓ev_deI, ↓ev_deS, ↓ev_deB, ↓ev_dnI, ↓ev_dnS, ↓ev_dnB, ↓sv_okN, startL, List.map_cons, List.map_nil, List.length_cons, List.length_nil, Nat.reduceAdd, Nat.reduceSub, List.replicate, List.cons_append, List.nil_append, List.set_cons_zero, List.set_cons_succ, getL0, getLS, pick_nil, pick_one, true_and, and_self, List.append_nil, atI_0, atI_1, atI_2, atI_3, atI_4, ixN_0, ixN_1, ixN_2, ixN_3, List.getElem?_cons_zero, List.getElem?_cons_succ, Option.some.injEq, exists_eq_left', ite_true, ite_false, Bool.false_eq_true, if_true_b, if_false_b, dTy_n, dTy_b, dTy_i, dTy_s, dTy_t, dTy_r, dTy_l, decide_true, decide_false, Bool.not_true, Bool.not_false, decide_eq_true_eq, Bool.not_eq_true', decide_eq_false_iff_not, wipeL, Nat.zero_add, kit_ss, kit_is, kit_ns, kit_ts, kit_ls, kit_bs, kit_st, kit_it, kit_nt, kit_tt, kit_lt, kit_bt, kit_sl, kit_il, kit_nl, kit_tl, kit_ll, kit_bl, kit_si, kit_ii, kit_ni, kit_ti, kit_li, kit_bi, kit_sb, kit_ib, kit_nb, kit_tb, kit_lb, kit_bb]
    refine lm_one rfl (P := P2) rfl p2.cl (ev_mono (word_ok (by omega) p2) ?_)
    rintro _ _ ⟨x, P3, rfl, rfl, hx, p3⟩
    refine ⟨P3, [], rfl, p3.cl, rfl, ⟨x, rfl, hx⟩, P3, ?_, rfl⟩
    rw [show n + 24 * (j + 1) = n + 24 * (0 + j) + 24 by omega]
    exact p3
  · rintro ys h hl hY ⟨P2, p2, rfl⟩
    have hl : ys.length = 8 := hl
    rw [hl]
    refine ⟨by decide, by decide, ?_⟩
    simp -implicitDefEqProofs only [↓ev_srcI, ↓ev_srcN, ↓ev_optS, ↓ev_ok, ↓ev_bind, ↓ev_eC, ↓ev_v0, ↓ev_vS, ↓ev_bin, ↓ev_aNil, ↓ev_aCons, ↓ev_tup, ↓ev_disp, ↓ev_new, ↓ev_seq, ↓ev_seqT, ↓ev_seqR, ↓ev_seqL, ↓ev_bOf, ↓ev_toB, ↓ev_bTru, ↓ev_bYes, ↓ev_bAnd, ↓ev_bOr, ↓ev_bNot, ↓ev_eAnd, ↓ev_eOr, ↓ev_eNot, ↓ev_eIf, ↓ev_chain, ↓ev_u, ↓ev_uq, ↓ev_lOf, ↓ev_cat, ↓ev_call, ↓ev_addI, ↓ev_addS, ↓ev_addT, ↓ev_sub, ↓ev_mul, ↓ev_fdiv, ↓ev_mod, ↓ev_pow, ↓ev_neg, ↓ev_negI, ↓ev_cmp, ↓ev_eqI, ↓ev_eqS, ↓ev_eqB, ↓ev_isN, ↓ev_isI, ↓ev_isB, ↓ev_isS, ↓ev_isT, ↓ev_isL, ↓ev_truB, ↓ev_truN, ↓ev_truI, ↓ev_truT, ↓ev_ixS, ↓ev_ixT, ↓ev_ixR, ↓ev_ixL, ↓ev_lenS, ↓ev_lenT, ↓ev_lenR, ↓ev_lenL, ↓ev_abs, ↓ev_intI, ↓ev_intB, ↓ev_intS, ↓ev_strI, ↓ev_max, ↓ev_min, ↓ev_gcd, ↓ev_isi, ↓ev_all, ↓ev_any, ↓ev_sum, ↓ev_rg1, ↓ev_rg1I, ↓ev_lSl, ↓ev_slR, ↓ev_oNo, ↓ev_oIs, ↓ev_toI, ↓ev_eSl, ↓ev_slS, ↓ev_split, ↓ev_onStr, ↓ev_join, ↓ev_mulS, ↓ev_ext, ↓ev_onLoc, ↓ev_mt, ↓ev_app, ↓ev_lRev, ↓ev_revL, ↓sv_nx, ↓sv_seq, ↓sv_ret, ↓sv_retN, ↓sv_ex, ↓sv_if, ↓sv_set, ↓sv_par, ↓sv_put, ↓ev_run, ↓sv_loopK, ↓sv_for, ↓ev_iNew, ↓ev_iVal, ↓ev_srcT, ↓ev_srcR, ↓ev_srcS, ↓ev_srcL, ↓ev_rng1, ↓ev_rng1I, ↓ev_lComp, ↓sv_dput, ↓ev_in1, ↓ev_deI, ↓ev_deS, ↓ev_deB, ↓ev_dnI, ↓ev_dnS, ↓ev_dnB, ↓sv_okN, startL, List.map_cons, List.map_nil, List.length_cons, List.length_nil, Nat.reduceAdd, Nat.reduceSub, List.replicate, List.cons_append, List.nil_append, List.set_cons_zero, List.set_cons_succ, getL0, getLS, pick_nil, pick_one, true_and, and_self, List.append_nil, atI_0, atI_1, atI_2, atI_3, atI_4, ixN_0, ixN_1, ixN_2, ixN_3, List.getElem?_cons_zero, List.getElem?_cons_succ, Option.some.injEq, exists_eq_left', ite_true, ite_false, Bool.false_eq_true, if_true_b, if_false_b, dTy_n, dTy_b, dTy_i, dTy_s, dTy_t, dTy_r, dTy_l, decide_true, decide_false, Bool.not_true, Bool.not_false, decide_eq_true_eq, Bool.not_eq_true', decide_eq_false_iff_not, wipeL, Nat.zero_add, kit_ss, kit_is, kit_ns, kit_ts, kit_ls, kit_bs, kit_st, kit_it, kit_nt, kit_tt, kit_lt, kit_bt, kit_sl, kit_il, kit_nl, kit_tl, kit_ll, kit_bl, kit_si, kit_ii, kit_ni, kit_ti, kit_li, kit_bi, kit_sb, kit_ib, kit_nb, kit_tb, kit_lb, kit_bb]
    have hv : ∀ d ∈ ys ++ [D.non, D.int 5, D.tup [D.str (Str.ofString "a")], D.str (Str.ofString "abcdefgh"), D.str (Str.ofString "abcdefghi"), D.str (Str.ofString "a"), D.str (Str.ofString "1"), D.str (Str.ofString "")],
        d.cl = true ∧ Ev (m_law_is_word_right [d] []) fun d _ => d = .bl true := by
      intro d hd
      rcases List.mem_append.mp hd with hd | hd
      · obtain ⟨j, hj⟩ := List.mem_iff_getElem?.mp hd
        obtain ⟨x, rfl, hx⟩ := hY j d hj
        exact ⟨rfl, word_right (by omega)⟩
      · simp only [List.mem_cons, List.not_mem_nil, or_false] at hd
        rcases hd with rfl | rfl | rfl | rfl | rfl | rfl | rfl | rfl
        · exact ⟨rfl, word_right_o rfl rfl kit_ns⟩
        · exact ⟨rfl, word_right_o rfl rfl kit_is⟩
        · exact ⟨rfl, word_right_o rfl rfl kit_ts⟩
        · exact ⟨rfl, word_right (by decide +kernel)⟩
        · exact ⟨rfl, word_right (by decide +kernel)⟩
        · exact ⟨rfl, word_right (by decide +kernel)⟩
        · exact ⟨rfl, word_right (by decide +kernel)⟩
        · exact ⟨rfl, word_right (by decide +kernel)⟩
    generalize hw : ys ++ [D.non, D.int 5, D.tup [D.str (Str.ofString "a")], D.str (Str.ofString "abcdefgh"), D.str (Str.ofString "abcdefghi"), D.str (Str.ofString "a"), D.str (Str.ofString "1"), D.str (Str.ofString "")] = ws at hv
    have hwl : ws.length = 16 := by rw [← hw, List.length_append, hl]; rfl
    refine ⟨by decide, ?_⟩
    refine ev_compFL (fun _ => D.bl true) ws (by rfl) (by rw [hwl]; decide) (fun d hd => ?_) ?_
    · simp -implicitDefEqProofs only [↓ev_srcI, ↓ev_srcN, ↓ev_optS, ↓ev_ok, ↓ev_bind, ↓ev_eC, ↓ev_v0, ↓ev_vS, ↓ev_bin, ↓ev_aNil, ↓ev_aCons, ↓ev_tup, ↓ev_disp, ↓ev_new, ↓ev_seq, ↓ev_seqT, ↓ev_seqR, ↓ev_seqL, ↓ev_bOf, ↓ev_toB, ↓ev_bTru, ↓ev_bYes, ↓ev_bAnd, ↓ev_bOr, ↓ev_bNot, ↓ev_eAnd, ↓ev_eOr, ↓ev_eNot, ↓ev_eIf, ↓ev_chain, ↓ev_u, ↓ev_uq, ↓ev_lOf, ↓ev_cat, ↓ev_call, ↓ev_addI, ↓ev_addS, ↓ev_addT, ↓ev_sub, ↓ev_mul, ↓ev_fdiv, ↓ev_mod, ↓ev_pow, ↓ev_neg, ↓ev_negI, ↓ev_cmp, ↓ev_eqI, ↓ev_eqS, ↓ev_eqB, ↓ev_isN, ↓ev_isI, ↓ev_isB, ↓ev_isS, ↓ev_isT, ↓ev_isL, ↓ev_truB, ↓ev_truN, ↓ev_truI, ↓ev_truT, ↓ev_ixS, ↓ev_ixT, ↓ev_ixR, ↓ev_ixL, ↓ev_lenS, ↓ev_lenT, ↓ev_lenR, ↓ev_lenL, ↓ev_abs, ↓ev_intI, ↓ev_intB, ↓ev_intS, ↓ev_strI, ↓ev_max, ↓ev_min, ↓ev_gcd, ↓ev_isi, ↓ev_all, ↓ev_any, ↓ev_sum, ↓ev_rg1, ↓ev_rg1I, ↓ev_lSl, ↓ev_slR, ↓ev_oNo, ↓ev_oIs, ↓ev_toI, ↓ev_eSl, ↓ev_slS, ↓ev_split, ↓ev_onStr, ↓ev_join, ↓ev_mulS, ↓ev_ext, ↓ev_onLoc, ↓ev_mt, ↓ev_app, ↓ev_lRev, ↓ev_revL, ↓sv_nx, ↓sv_seq, ↓sv_ret, ↓sv_retN, ↓sv_ex, ↓sv_if, ↓sv_set, ↓sv_par, ↓sv_put, ↓ev_run, ↓sv_loopK, ↓sv_for, ↓ev_iNew, ↓ev_iVal, ↓ev_srcT, ↓ev_srcR, ↓ev_srcS, ↓ev_srcL, ↓ev_rng1, ↓ev_rng1I, ↓ev_lComp, ↓sv_dput, ↓ev_in1, ↓ev_deI, ↓ev_deS, ↓ev_deB, ↓ev_dnI, ↓ev_dnS, ↓ev_dnB, ↓sv_okN, startL, List.map_cons, List.map_nil, List.length_cons, List.length_nil, Nat.reduceAdd, Nat.reduceSub, List.replicate, List.cons_append, List.nil_append, List.set_cons_zero, List.set_cons_succ, getL0, getLS, pick_nil, pick_one, true_and, and_self, List.append_nil, atI_0, atI_1, atI_2, atI_3, atI_4, ixN_0, ixN_1, ixN_2, ixN_3, List.getElem?_cons_zero, List.getElem?_cons_succ, Option.some.injEq, exists_eq_left', ite_true, ite_false, Bool.false_eq_true, if_true_b, if_false_b, dTy_n, dTy_b, dTy_i, dTy_s, dTy_t, dTy_r, dTy_l, decide_true, decide_false, Bool.not_true, Bool.not_false, decide_eq_true_eq, Bool.not_eq_true', decide_eq_false_iff_not, wipeL, Nat.zero_add, kit_ss, kit_is, kit_ns, kit_ts, kit_ls, kit_bs, kit_st, kit_it, kit_nt, kit_tt, kit_lt, kit_bt, kit_sl, kit_il, kit_nl, kit_tl, kit_ll, kit_bl, kit_si, kit_ii, kit_ni, kit_ti, kit_li, kit_bi, kit_sb, kit_ib, kit_nb, kit_tb, kit_lb, kit_bb]
      obtain ⟨h1, h2⟩ := hv d hd
      refine lm_closed (by simp [cls, h1]) (ev_mono h2 ?_)
      rintro _ _ rfl
      exact ⟨rfl, rfl, rfl⟩
    · obtain ⟨bs, e1, e2⟩ := all_true (ys := ws.map fun _ => D.bl true) (fun j y e => by
        rw [List.getElem?_map] at e
        cases e3 : ws[j]? with
        | none => rw [e3] at e; cases e
        | some z => rw [e3] at e; cases e; rfl)
      refine ⟨bs, e1, ?_⟩
      rw [e2, if_pos rfl]
      rw [show (0 + (rng 0 (Int.toNat 8)).length) = 8 from rfl] at p2
      refine lm_one rfl (P := P2) rfl p2.cl (ev_mono (number_ok (n + 24 * 8) P2 (by omega) p2) ?_)
      rintro _ _ ⟨P4, r, rfl, p4, rfl⟩
      refine ⟨P4, r, rfl, p4.cl, rfl, P4, [.lst ws], rfl, ?_, rfl⟩
      obtain ⟨a, b, c, rfl, q1, q2, q3, q4, q5⟩ := p4
      exact ⟨a, b, c, rfl, q1, q2, q3, q4, by omega⟩
open PySem.NumText in
theorem read_integer_ok {x : Str} (hz : x.length ≤ sizeLine) : Ev (m_read_integer [.str x] []) fun d _ => d = oI (rdI x.cps.toList) := by
  have hn : x.cps.toList.length = x.length := by simp [Str.length]
  have hfl := figs_len x.cps.toList
  have hlz : (mkS (figs x.cps.toList)).length ≤ sizeLine := by rw [mkS_len]; omega
  unfold m_read_integer b_read_integer
  rw [ev_run]
  refine sv_cut (fun ls h => ls = [some (.str x), some (.str (mkS (figs x.cps.toList))), none] ∧ h = []) ?_ ?_
  · simp -implicitDefEqProofs only [↓ev_srcI, ↓ev_srcN, ↓ev_optS, ↓ev_ok, ↓ev_bind, ↓ev_eC, ↓ev_v0, ↓ev_vS, ↓ev_bin, ↓ev_aNil, ↓ev_aCons, ↓ev_tup, ↓ev_disp, ↓ev_new, ↓ev_seq, ↓ev_seqT, ↓ev_seqR, ↓ev_seqL, ↓ev_bOf, ↓ev_toB, ↓ev_bTru, ↓ev_bYes, ↓ev_bAnd, ↓ev_bOr, ↓ev_bNot, ↓ev_eAnd, ↓ev_eOr, ↓ev_eNot, ↓ev_eIf, ↓ev_chain, ↓ev_u, ↓ev_uq, ↓ev_lOf, ↓ev_cat, ↓ev_call, ↓ev_addI, ↓ev_addS, ↓ev_addT, ↓ev_sub, ↓ev_mul, ↓ev_fdiv, ↓ev_mod, ↓ev_pow, ↓ev_neg, ↓ev_negI, ↓ev_cmp, ↓ev_eqI, ↓ev_eqS, ↓ev_eqB, ↓ev_isN, ↓ev_isI, ↓ev_isB, ↓ev_isS, ↓ev_isT, ↓ev_isL, ↓ev_truB, ↓ev_truN, ↓ev_truI, ↓ev_truT, ↓ev_ixS, ↓ev_ixT, ↓ev_ixR, ↓ev_ixL, ↓ev_lenS, ↓ev_lenT, ↓ev_lenR, ↓ev_lenL, ↓ev_abs, ↓ev_intI, ↓ev_intB, ↓ev_intS, ↓ev_strI, ↓ev_max, ↓ev_min, ↓ev_gcd, ↓ev_isi, ↓ev_all, ↓ev_any, ↓ev_sum, ↓ev_rg1, ↓ev_rg1I, ↓ev_lSl, ↓ev_slR, ↓ev_oNo, ↓ev_oIs, ↓ev_toI, ↓ev_eSl, ↓ev_slS, ↓ev_split, ↓ev_onStr, ↓ev_join, ↓ev_mulS, ↓ev_ext, ↓ev_onLoc, ↓ev_mt, ↓ev_app, ↓ev_lRev, ↓ev_revL, ↓sv_nx, ↓sv_seq, ↓sv_ret, ↓sv_retN, ↓sv_ex, ↓sv_if, ↓sv_set, ↓sv_par, ↓sv_put, ↓ev_run, ↓sv_loopK, ↓sv_for, ↓ev_iNew, ↓ev_iVal, ↓ev_srcT, ↓ev_srcR, ↓ev_srcS, ↓ev_srcL, ↓ev_rng1, ↓ev_rng1I, ↓ev_lComp, ↓sv_dput, ↓ev_in1, ↓ev_deI, ↓ev_deS, ↓ev_deB, ↓ev_dnI, ↓ev_dnS, ↓ev_dnB, ↓sv_okN, startL, List.map_cons, List.map_nil, List.length_cons, List.length_nil, Nat.reduceAdd, Nat.reduceSub, List.replicate, List.cons_append, List.nil_append, List.set_cons_zero, List.set_cons_succ, getL0, getLS, pick_nil, pick_one, true_and, and_self, List.append_nil, atI_0, atI_1, atI_2, atI_3, atI_4, ixN_0, ixN_1, ixN_2, ixN_3, List.getElem?_cons_zero, List.getElem?_cons_succ, Option.some.injEq, exists_eq_left', ite_true, ite_false, Bool.false_eq_true, if_true_b, if_false_b, dTy_n, dTy_b, dTy_i, dTy_s, dTy_t, dTy_r, dTy_l, decide_true, decide_false, Bool.not_true, Bool.not_false, decide_eq_true_eq, Bool.not_eq_true', decide_eq_false_iff_not, wipeL, Nat.zero_add, kit_ss, kit_is, kit_ns, kit_ts, kit_ls, kit_bs, kit_st, kit_it, kit_nt, kit_tt, kit_lt, kit_bt, kit_sl, kit_il, kit_nl, kit_tl, kit_ll, kit_bl, kit_si, kit_ii, kit_ni, kit_ti, kit_li, kit_bi, kit_sb, kit_ib, kit_nb, kit_tb, kit_lb, kit_bb]
    refine ⟨hz, ?_⟩
    unfold c_MINUS
    simp -implicitDefEqProofs only [↓ev_srcI, ↓ev_srcN, ↓ev_optS, ↓ev_ok, ↓ev_bind, ↓ev_eC, ↓ev_v0, ↓ev_vS, ↓ev_bin, ↓ev_aNil, ↓ev_aCons, ↓ev_tup, ↓ev_disp, ↓ev_new, ↓ev_seq, ↓ev_seqT, ↓ev_seqR, ↓ev_seqL, ↓ev_bOf, ↓ev_toB, ↓ev_bTru, ↓ev_bYes, ↓ev_bAnd, ↓ev_bOr, ↓ev_bNot, ↓ev_eAnd, ↓ev_eOr, ↓ev_eNot, ↓ev_eIf, ↓ev_chain, ↓ev_u, ↓ev_uq, ↓ev_lOf, ↓ev_cat, ↓ev_call, ↓ev_addI, ↓ev_addS, ↓ev_addT, ↓ev_sub, ↓ev_mul, ↓ev_fdiv, ↓ev_mod, ↓ev_pow, ↓ev_neg, ↓ev_negI, ↓ev_cmp, ↓ev_eqI, ↓ev_eqS, ↓ev_eqB, ↓ev_isN, ↓ev_isI, ↓ev_isB, ↓ev_isS, ↓ev_isT, ↓ev_isL, ↓ev_truB, ↓ev_truN, ↓ev_truI, ↓ev_truT, ↓ev_ixS, ↓ev_ixT, ↓ev_ixR, ↓ev_ixL, ↓ev_lenS, ↓ev_lenT, ↓ev_lenR, ↓ev_lenL, ↓ev_abs, ↓ev_intI, ↓ev_intB, ↓ev_intS, ↓ev_strI, ↓ev_max, ↓ev_min, ↓ev_gcd, ↓ev_isi, ↓ev_all, ↓ev_any, ↓ev_sum, ↓ev_rg1, ↓ev_rg1I, ↓ev_lSl, ↓ev_slR, ↓ev_oNo, ↓ev_oIs, ↓ev_toI, ↓ev_eSl, ↓ev_slS, ↓ev_split, ↓ev_onStr, ↓ev_join, ↓ev_mulS, ↓ev_ext, ↓ev_onLoc, ↓ev_mt, ↓ev_app, ↓ev_lRev, ↓ev_revL, ↓sv_nx, ↓sv_seq, ↓sv_ret, ↓sv_retN, ↓sv_ex, ↓sv_if, ↓sv_set, ↓sv_par, ↓sv_put, ↓ev_run, ↓sv_loopK, ↓sv_for, ↓ev_iNew, ↓ev_iVal, ↓ev_srcT, ↓ev_srcR, ↓ev_srcS, ↓ev_srcL, ↓ev_rng1, ↓ev_rng1I, ↓ev_lComp, ↓sv_dput, ↓ev_in1, ↓ev_deI, ↓ev_deS, ↓ev_deB, ↓ev_dnI, ↓ev_dnS, ↓ev_dnB, ↓sv_okN, startL, List.map_cons, List.map_nil, List.length_cons, List.length_nil, Nat.reduceAdd, Nat.reduceSub, List.replicate, List.cons_append, List.nil_append, List.set_cons_zero, List.set_cons_succ, getL0, getLS, pick_nil, pick_one, true_and, and_self, List.append_nil, atI_0, atI_1, atI_2, atI_3, atI_4, ixN_0, ixN_1, ixN_2, ixN_3, List.getElem?_cons_zero, List.getElem?_cons_succ, Option.some.injEq, exists_eq_left', ite_true, ite_false, Bool.false_eq_true, if_true_b, if_false_b, dTy_n, dTy_b, dTy_i, dTy_s, dTy_t, dTy_r, dTy_l, decide_true, decide_false, Bool.not_true, Bool.not_false, decide_eq_true_eq, Bool.not_eq_true', decide_eq_false_iff_not, wipeL, Nat.zero_add, kit_ss, kit_is, kit_ns, kit_ts, kit_ls, kit_bs, kit_st, kit_it, kit_nt, kit_tt, kit_lt, kit_bt, kit_sl, kit_il, kit_nl, kit_tl, kit_ll, kit_bl, kit_si, kit_ii, kit_ni, kit_ti, kit_li, kit_bi, kit_sb, kit_ib, kit_nb, kit_tb, kit_lb, kit_bb]
    have e1 : cutS x none (some 1) = mkS (x.cps.toList.take 1) := cutS_take x 1
    have e2 : cutS x (some 1) none = mkS (x.cps.toList.drop 1) := cutS_drop x 1
    rw [e1, e2, show (Str.ofString "-") = mkS [45] from by apply str_ext; decide +kernel]
    by_cases h : x.cps.toList.take 1 = [45]
    · rw [if_pos (mkS_inj.mpr h)]
      refine ⟨hz, ?_, trivial⟩
      unfold figs
      rw [if_pos h]
    · rw [if_neg (fun z => h (mkS_inj.mp z))]
      refine ⟨?_, trivial⟩
      unfold figs
      rw [if_neg h]; rfl
  rintro _ _ ⟨rfl, rfl⟩
  simp -implicitDefEqProofs only [↓ev_srcI, ↓ev_srcN, ↓ev_optS, ↓ev_ok, ↓ev_bind, ↓ev_eC, ↓ev_v0, ↓ev_vS, ↓ev_bin, ↓ev_aNil, ↓ev_aCons, ↓ev_tup, ↓ev_disp, ↓ev_new, ↓ev_seq, ↓ev_seqT, ↓ev_seqR, ↓ev_seqL, ↓ev_bOf, ↓ev_toB, ↓ev_bTru, ↓ev_bYes, ↓ev_bAnd, ↓ev_bOr, ↓ev_bNot, ↓ev_eAnd, ↓ev_eOr, ↓ev_eNot, ↓ev_eIf, ↓ev_chain, ↓ev_u, ↓ev_uq, ↓ev_lOf, ↓ev_cat, ↓ev_call, ↓ev_addI, ↓ev_addS, ↓ev_addT, ↓ev_sub, ↓ev_mul, ↓ev_fdiv, ↓ev_mod, ↓ev_pow, ↓ev_neg, ↓ev_negI, ↓ev_cmp, ↓ev_eqI, ↓ev_eqS, ↓ev_eqB, ↓ev_isN, ↓ev_isI, ↓ev_isB, ↓ev_isS, ↓ev_isT, ↓ev_isL, ↓ev_truB, ↓ev_truN, ↓ev_truI, ↓ev_truT, ↓ev_ixS, ↓ev_ixT, ↓ev_ixR, ↓ev_ixL, ↓ev_lenS, ↓ev_lenT, ↓ev_lenR, ↓ev_lenL, ↓ev_abs, ↓ev_intI, ↓ev_intB, ↓ev_intS, ↓ev_strI, ↓ev_max, ↓ev_min, ↓ev_gcd, ↓ev_isi, ↓ev_all, ↓ev_any, ↓ev_sum, ↓ev_rg1, ↓ev_rg1I, ↓ev_lSl, ↓ev_slR, ↓ev_oNo, ↓ev_oIs, ↓ev_toI, ↓ev_eSl, ↓ev_slS, ↓ev_split, ↓ev_onStr, ↓ev_join, ↓ev_mulS, ↓ev_ext, ↓ev_onLoc, ↓ev_mt, ↓ev_app, ↓ev_lRev, ↓ev_revL, ↓sv_nx, ↓sv_seq, ↓sv_ret, ↓sv_retN, ↓sv_ex, ↓sv_if, ↓sv_set, ↓sv_par, ↓sv_put, ↓ev_run, ↓sv_loopK, ↓sv_for, ↓ev_iNew, ↓ev_iVal, ↓ev_srcT, ↓ev_srcR, ↓ev_srcS, ↓ev_srcL, ↓ev_rng1, ↓ev_rng1I, ↓ev_lComp, ↓sv_dput, ↓ev_in1, ↓ev_deI, ↓ev_deS, ↓ev_deB, ↓ev_dnI, ↓ev_dnS, ↓ev_dnB, ↓sv_okN, startL, List.map_cons, List.map_nil, List.length_cons, List.length_nil, Nat.reduceAdd, Nat.reduceSub, List.replicate, List.cons_append, List.nil_append, List.set_cons_zero, List.set_cons_succ, getL0, getLS, pick_nil, pick_one, true_and, and_self, List.append_nil, atI_0, atI_1, atI_2, atI_3, atI_4, ixN_0, ixN_1, ixN_2, ixN_3, List.getElem?_cons_zero, List.getElem?_cons_succ, Option.some.injEq, exists_eq_left', ite_true, ite_false, Bool.false_eq_true, if_true_b, if_false_b, dTy_n, dTy_b, dTy_i, dTy_s, dTy_t, dTy_r, dTy_l, decide_true, decide_false, Bool.not_true, Bool.not_false, decide_eq_true_eq, Bool.not_eq_true', decide_eq_false_iff_not, wipeL, Nat.zero_add, kit_ss, kit_is, kit_ns, kit_ts, kit_ls, kit_bs, kit_st, kit_it, kit_nt, kit_tt, kit_lt, kit_bt, kit_sl, kit_il, kit_nl, kit_tl, kit_ll, kit_bl, kit_si, kit_ii, kit_ni, kit_ti, kit_li, kit_bi, kit_sb, kit_ib, kit_nb, kit_tb, kit_lb, kit_bb]
  refine ⟨hlz, ?_⟩
  unfold c_MOST_FIGURES
  simp -implicitDefEqProofs only [↓ev_srcI, ↓ev_srcN, ↓ev_optS, ↓ev_ok, ↓ev_bind, ↓ev_eC, ↓ev_v0, ↓ev_vS, ↓ev_bin, ↓ev_aNil, ↓ev_aCons, ↓ev_tup, ↓ev_disp, ↓ev_new, ↓ev_seq, ↓ev_seqT, ↓ev_seqR, ↓ev_seqL, ↓ev_bOf, ↓ev_toB, ↓ev_bTru, ↓ev_bYes, ↓ev_bAnd, ↓ev_bOr, ↓ev_bNot, ↓ev_eAnd, ↓ev_eOr, ↓ev_eNot, ↓ev_eIf, ↓ev_chain, ↓ev_u, ↓ev_uq, ↓ev_lOf, ↓ev_cat, ↓ev_call, ↓ev_addI, ↓ev_addS, ↓ev_addT, ↓ev_sub, ↓ev_mul, ↓ev_fdiv, ↓ev_mod, ↓ev_pow, ↓ev_neg, ↓ev_negI, ↓ev_cmp, ↓ev_eqI, ↓ev_eqS, ↓ev_eqB, ↓ev_isN, ↓ev_isI, ↓ev_isB, ↓ev_isS, ↓ev_isT, ↓ev_isL, ↓ev_truB, ↓ev_truN, ↓ev_truI, ↓ev_truT, ↓ev_ixS, ↓ev_ixT, ↓ev_ixR, ↓ev_ixL, ↓ev_lenS, ↓ev_lenT, ↓ev_lenR, ↓ev_lenL, ↓ev_abs, ↓ev_intI, ↓ev_intB, ↓ev_intS, ↓ev_strI, ↓ev_max, ↓ev_min, ↓ev_gcd, ↓ev_isi, ↓ev_all, ↓ev_any, ↓ev_sum, ↓ev_rg1, ↓ev_rg1I, ↓ev_lSl, ↓ev_slR, ↓ev_oNo, ↓ev_oIs, ↓ev_toI, ↓ev_eSl, ↓ev_slS, ↓ev_split, ↓ev_onStr, ↓ev_join, ↓ev_mulS, ↓ev_ext, ↓ev_onLoc, ↓ev_mt, ↓ev_app, ↓ev_lRev, ↓ev_revL, ↓sv_nx, ↓sv_seq, ↓sv_ret, ↓sv_retN, ↓sv_ex, ↓sv_if, ↓sv_set, ↓sv_par, ↓sv_put, ↓ev_run, ↓sv_loopK, ↓sv_for, ↓ev_iNew, ↓ev_iVal, ↓ev_srcT, ↓ev_srcR, ↓ev_srcS, ↓ev_srcL, ↓ev_rng1, ↓ev_rng1I, ↓ev_lComp, ↓sv_dput, ↓ev_in1, ↓ev_deI, ↓ev_deS, ↓ev_deB, ↓ev_dnI, ↓ev_dnS, ↓ev_dnB, ↓sv_okN, startL, List.map_cons, List.map_nil, List.length_cons, List.length_nil, Nat.reduceAdd, Nat.reduceSub, List.replicate, List.cons_append, List.nil_append, List.set_cons_zero, List.set_cons_succ, getL0, getLS, pick_nil, pick_one, true_and, and_self, List.append_nil, atI_0, atI_1, atI_2, atI_3, atI_4, ixN_0, ixN_1, ixN_2, ixN_3, List.getElem?_cons_zero, List.getElem?_cons_succ, Option.some.injEq, exists_eq_left', ite_true, ite_false, Bool.false_eq_true, if_true_b, if_false_b, dTy_n, dTy_b, dTy_i, dTy_s, dTy_t, dTy_r, dTy_l, decide_true, decide_false, Bool.not_true, Bool.not_false, decide_eq_true_eq, Bool.not_eq_true', decide_eq_false_iff_not, wipeL, Nat.zero_add, kit_ss, kit_is, kit_ns, kit_ts, kit_ls, kit_bs, kit_st, kit_it, kit_nt, kit_tt, kit_lt, kit_bt, kit_sl, kit_il, kit_nl, kit_tl, kit_ll, kit_bl, kit_si, kit_ii, kit_ni, kit_ti, kit_li, kit_bi, kit_sb, kit_ib, kit_nb, kit_tb, kit_lb, kit_bb]
  rw [mkS_len]
  by_cases h1 : 1 ≤ (figs x.cps.toList).length
  · rw [if_pos (by omega)]
    by_cases h2 : (figs x.cps.toList).length ≤ 300
    · rw [if_neg (by simp; omega)]
      refine ev_mono (ev_compSg isFig (mkS (figs x.cps.toList)) hlz fun c hc => ?_) ?_
      · unfold c_FIGURES
        simp -implicitDefEqProofs only [↓ev_srcI, ↓ev_srcN, ↓ev_optS, ↓ev_ok, ↓ev_bind, ↓ev_eC, ↓ev_v0, ↓ev_vS, ↓ev_bin, ↓ev_aNil, ↓ev_aCons, ↓ev_tup, ↓ev_disp, ↓ev_new, ↓ev_seq, ↓ev_seqT, ↓ev_seqR, ↓ev_seqL, ↓ev_bOf, ↓ev_toB, ↓ev_bTru, ↓ev_bYes, ↓ev_bAnd, ↓ev_bOr, ↓ev_bNot, ↓ev_eAnd, ↓ev_eOr, ↓ev_eNot, ↓ev_eIf, ↓ev_chain, ↓ev_u, ↓ev_uq, ↓ev_lOf, ↓ev_cat, ↓ev_call, ↓ev_addI, ↓ev_addS, ↓ev_addT, ↓ev_sub, ↓ev_mul, ↓ev_fdiv, ↓ev_mod, ↓ev_pow, ↓ev_neg, ↓ev_negI, ↓ev_cmp, ↓ev_eqI, ↓ev_eqS, ↓ev_eqB, ↓ev_isN, ↓ev_isI, ↓ev_isB, ↓ev_isS, ↓ev_isT, ↓ev_isL, ↓ev_truB, ↓ev_truN, ↓ev_truI, ↓ev_truT, ↓ev_ixS, ↓ev_ixT, ↓ev_ixR, ↓ev_ixL, ↓ev_lenS, ↓ev_lenT, ↓ev_lenR, ↓ev_lenL, ↓ev_abs, ↓ev_intI, ↓ev_intB, ↓ev_intS, ↓ev_strI, ↓ev_max, ↓ev_min, ↓ev_gcd, ↓ev_isi, ↓ev_all, ↓ev_any, ↓ev_sum, ↓ev_rg1, ↓ev_rg1I, ↓ev_lSl, ↓ev_slR, ↓ev_oNo, ↓ev_oIs, ↓ev_toI, ↓ev_eSl, ↓ev_slS, ↓ev_split, ↓ev_onStr, ↓ev_join, ↓ev_mulS, ↓ev_ext, ↓ev_onLoc, ↓ev_mt, ↓ev_app, ↓ev_lRev, ↓ev_revL, ↓sv_nx, ↓sv_seq, ↓sv_ret, ↓sv_retN, ↓sv_ex, ↓sv_if, ↓sv_set, ↓sv_par, ↓sv_put, ↓ev_run, ↓sv_loopK, ↓sv_for, ↓ev_iNew, ↓ev_iVal, ↓ev_srcT, ↓ev_srcR, ↓ev_srcS, ↓ev_srcL, ↓ev_rng1, ↓ev_rng1I, ↓ev_lComp, ↓sv_dput, ↓ev_in1, ↓ev_deI, ↓ev_deS, ↓ev_deB, ↓ev_dnI, ↓ev_dnS, ↓ev_dnB, ↓sv_okN, startL, List.map_cons, List.map_nil, List.length_cons, List.length_nil, Nat.reduceAdd, Nat.reduceSub, List.replicate, List.cons_append, List.nil_append, List.set_cons_zero, List.set_cons_succ, getL0, getLS, pick_nil, pick_one, true_and, and_self, List.append_nil, atI_0, atI_1, atI_2, atI_3, atI_4, ixN_0, ixN_1, ixN_2, ixN_3, List.getElem?_cons_zero, List.getElem?_cons_succ, Option.some.injEq, exists_eq_left', ite_true, ite_false, Bool.false_eq_true, if_true_b, if_false_b, dTy_n, dTy_b, dTy_i, dTy_s, dTy_t, dTy_r, dTy_l, decide_true, decide_false, Bool.not_true, Bool.not_false, decide_eq_true_eq, Bool.not_eq_true', decide_eq_false_iff_not, wipeL, Nat.zero_add, kit_ss, kit_is, kit_ns, kit_ts, kit_ls, kit_bs, kit_st, kit_it, kit_nt, kit_tt, kit_lt, kit_bt, kit_sl, kit_il, kit_nl, kit_tl, kit_ll, kit_bl, kit_si, kit_ii, kit_ni, kit_ti, kit_li, kit_bi, kit_sb, kit_ib, kit_nb, kit_tb, kit_lb, kit_bb]
        exact ⟨congrArg D.bl (isFig_mem c), trivial⟩
      · rintro _ _ ⟨rfl, rfl⟩
        refine ⟨_, mapM_bl _, ?_⟩
        rw [mkS_signs, List.all_map]
        have eb : ((figs x.cps.toList).all ((fun b => b) ∘ isFig)) = (figs x.cps.toList).all isFig := rfl
        rw [eb]
        by_cases h3 : (figs x.cps.toList).all isFig = true
        · rw [if_neg (by rw [h3]; nofun)]
          have hr : rdI x.cps.toList = if (figs x.cps.toList).headD 0 = 48 ∧ (1 < (figs x.cps.toList).length ∨ x.cps.toList ≠ figs x.cps.toList) then none
              else some (if x.cps.toList = figs x.cps.toList then (digitsVal (figs x.cps.toList) : Int) else -(digitsVal (figs x.cps.toList) : Int)) := by
            unfold rdI
            rw [if_pos (by rw [decide_eq_true h1, decide_eq_true h2, h3]; rfl)]
          obtain ⟨i1, i2⟩ := int_rd h2 h1 (isFig_all.mp h3)
          obtain ⟨c, r, e⟩ : ∃ c r, figs x.cps.toList = c :: r := by
            cases e : figs x.cps.toList with
            | nil => rw [e] at h1; simp at h1
            | cons c r => exact ⟨c, r, rfl⟩
          refine ⟨hlz, c, by rw [e]; rfl, ?_⟩
          rw [show (Str.ofString "0") = mkS [48] from by apply str_ext; decide +kernel]
          have ec : (⟨#[c]⟩ : Str) = mkS [c] := rfl
          rw [ec]
          have hh : (figs x.cps.toList).headD 0 = c := by rw [e]; rfl
          have hxx : x = mkS (figs x.cps.toList) ↔ x.cps.toList = figs x.cps.toList := ⟨fun z => congrArg (fun s : Str => s.cps.toList) z, fun z => by rw [← z]; rfl⟩
          rw [hr, hh]
          by_cases hc : c = 48
          · rw [if_pos (by rw [hc])]
            refine ⟨hlz, ?_⟩
            by_cases h4 : 1 < (figs x.cps.toList).length
            · rw [if_pos (by omega), if_pos ⟨hc, .inl h4⟩]; rfl
            · rw [if_neg (by omega)]
              by_cases h5 : x.cps.toList = figs x.cps.toList
              · rw [if_neg (fun z => z (hxx.mpr h5)), if_neg (fun z => z.2.elim h4 (fun z => z h5))]
                exact ⟨i1, _, i2, rfl⟩
              · rw [if_pos (fun z => h5 (hxx.mp z)), if_pos ⟨hc, .inr h5⟩]; rfl
          · rw [if_neg (fun z => hc (by have := mkS_inj.mp z; injection this)), if_neg (fun z => hc z.1)]
            exact ⟨i1, _, i2, rfl⟩
        · rw [Bool.not_eq_true] at h3
          rw [if_pos h3]
          unfold rdI
          rw [if_neg (by rw [h3]; simp)]; rfl
    · rw [if_pos (by simp; omega)]
      unfold rdI
      rw [if_neg (by rw [decide_eq_false h2]; simp)]; rfl
  · rw [if_neg (by omega)]
    unfold rdI
    rw [if_neg (by rw [decide_eq_false h1]; simp)]; rfl
theorem is_integer_int (a : Int) : Ev (m_is_integer [.int a] []) fun d _ => d = .bl true := by
  unfold m_is_integer b_is_integer
  simp -implicitDefEqProofs only [↓ev_srcI, ↓ev_srcN, ↓ev_optS, ↓ev_ok, ↓ev_bind, ↓ev_eC, ↓ev_v0, ↓ev_vS, ↓ev_bin, ↓ev_aNil, ↓ev_aCons, ↓ev_tup, ↓ev_disp, ↓ev_new, ↓ev_seq, ↓ev_seqT, ↓ev_seqR, ↓ev_seqL, ↓ev_bOf, ↓ev_toB, ↓ev_bTru, ↓ev_bYes, ↓ev_bAnd, ↓ev_bOr, ↓ev_bNot, ↓ev_eAnd, ↓ev_eOr, ↓ev_eNot, ↓ev_eIf, ↓ev_chain, ↓ev_u, ↓ev_uq, ↓ev_lOf, ↓ev_cat, ↓ev_call, ↓ev_addI, ↓ev_addS, ↓ev_addT, ↓ev_sub, ↓ev_mul, ↓ev_fdiv, ↓ev_mod, ↓ev_pow, ↓ev_neg, ↓ev_negI, ↓ev_cmp, ↓ev_eqI, ↓ev_eqS, ↓ev_eqB, ↓ev_isN, ↓ev_isI, ↓ev_isB, ↓ev_isS, ↓ev_isT, ↓ev_isL, ↓ev_truB, ↓ev_truN, ↓ev_truI, ↓ev_truT, ↓ev_ixS, ↓ev_ixT, ↓ev_ixR, ↓ev_ixL, ↓ev_lenS, ↓ev_lenT, ↓ev_lenR, ↓ev_lenL, ↓ev_abs, ↓ev_intI, ↓ev_intB, ↓ev_intS, ↓ev_strI, ↓ev_max, ↓ev_min, ↓ev_gcd, ↓ev_isi, ↓ev_all, ↓ev_any, ↓ev_sum, ↓ev_rg1, ↓ev_rg1I, ↓ev_lSl, ↓ev_slR, ↓ev_oNo, ↓ev_oIs, ↓ev_toI, ↓ev_eSl, ↓ev_slS, ↓ev_split, ↓ev_onStr, ↓ev_join, ↓ev_mulS, ↓ev_ext, ↓ev_onLoc, ↓ev_mt, ↓ev_app, ↓ev_lRev, ↓ev_revL, ↓sv_nx, ↓sv_seq, ↓sv_ret, ↓sv_retN, ↓sv_ex, ↓sv_if, ↓sv_set, ↓sv_par, ↓sv_put, ↓ev_run, ↓sv_loopK, ↓sv_for, ↓ev_iNew, ↓ev_iVal, ↓ev_srcT, ↓ev_srcR, ↓ev_srcS, ↓ev_srcL, ↓ev_rng1, ↓ev_rng1I, ↓ev_lComp, ↓sv_dput, ↓ev_in1, ↓ev_deI, ↓ev_deS, ↓ev_deB, ↓ev_dnI, ↓ev_dnS, ↓ev_dnB, ↓sv_okN, startL, List.map_cons, List.map_nil, List.length_cons, List.length_nil, Nat.reduceAdd, Nat.reduceSub, List.replicate, List.cons_append, List.nil_append, List.set_cons_zero, List.set_cons_succ, getL0, getLS, pick_nil, pick_one, true_and, and_self, List.append_nil, atI_0, atI_1, atI_2, atI_3, atI_4, ixN_0, ixN_1, ixN_2, ixN_3, List.getElem?_cons_zero, List.getElem?_cons_succ, Option.some.injEq, exists_eq_left', ite_true, ite_false, Bool.false_eq_true, if_true_b, if_false_b, dTy_n, dTy_b, dTy_i, dTy_s, dTy_t, dTy_r, dTy_l, decide_true, decide_false, Bool.not_true, Bool.not_false, decide_eq_true_eq, Bool.not_eq_true', decide_eq_false_iff_not, wipeL, Nat.zero_add, kit_ss, kit_is, kit_ns, kit_ts, kit_ls, kit_bs, kit_st, kit_it, kit_nt, kit_tt, kit_lt, kit_bt, kit_sl, kit_il, kit_nl, kit_tl, kit_ll, kit_bl, kit_si, kit_ii, kit_ni, kit_ti, kit_li, kit_bi, kit_sb, kit_ib, kit_nb, kit_tb, kit_lb, kit_bb]
theorem common_ok (a b : Int) : Ev (m_common [.int a, .int b] []) fun d _ => d = .int (Int.gcd a b : Nat) := by
  unfold m_common b_common
  simp -implicitDefEqProofs only [↓ev_srcI, ↓ev_srcN, ↓ev_optS, ↓ev_ok, ↓ev_bind, ↓ev_eC, ↓ev_v0, ↓ev_vS, ↓ev_bin, ↓ev_aNil, ↓ev_aCons, ↓ev_tup, ↓ev_disp, ↓ev_new, ↓ev_seq, ↓ev_seqT, ↓ev_seqR, ↓ev_seqL, ↓ev_bOf, ↓ev_toB, ↓ev_bTru, ↓ev_bYes, ↓ev_bAnd, ↓ev_bOr, ↓ev_bNot, ↓ev_eAnd, ↓ev_eOr, ↓ev_eNot, ↓ev_eIf, ↓ev_chain, ↓ev_u, ↓ev_uq, ↓ev_lOf, ↓ev_cat, ↓ev_call, ↓ev_addI, ↓ev_addS, ↓ev_addT, ↓ev_sub, ↓ev_mul, ↓ev_fdiv, ↓ev_mod, ↓ev_pow, ↓ev_neg, ↓ev_negI, ↓ev_cmp, ↓ev_eqI, ↓ev_eqS, ↓ev_eqB, ↓ev_isN, ↓ev_isI, ↓ev_isB, ↓ev_isS, ↓ev_isT, ↓ev_isL, ↓ev_truB, ↓ev_truN, ↓ev_truI, ↓ev_truT, ↓ev_ixS, ↓ev_ixT, ↓ev_ixR, ↓ev_ixL, ↓ev_lenS, ↓ev_lenT, ↓ev_lenR, ↓ev_lenL, ↓ev_abs, ↓ev_intI, ↓ev_intB, ↓ev_intS, ↓ev_strI, ↓ev_max, ↓ev_min, ↓ev_gcd, ↓ev_isi, ↓ev_all, ↓ev_any, ↓ev_sum, ↓ev_rg1, ↓ev_rg1I, ↓ev_lSl, ↓ev_slR, ↓ev_oNo, ↓ev_oIs, ↓ev_toI, ↓ev_eSl, ↓ev_slS, ↓ev_split, ↓ev_onStr, ↓ev_join, ↓ev_mulS, ↓ev_ext, ↓ev_onLoc, ↓ev_mt, ↓ev_app, ↓ev_lRev, ↓ev_revL, ↓sv_nx, ↓sv_seq, ↓sv_ret, ↓sv_retN, ↓sv_ex, ↓sv_if, ↓sv_set, ↓sv_par, ↓sv_put, ↓ev_run, ↓sv_loopK, ↓sv_for, ↓ev_iNew, ↓ev_iVal, ↓ev_srcT, ↓ev_srcR, ↓ev_srcS, ↓ev_srcL, ↓ev_rng1, ↓ev_rng1I, ↓ev_lComp, ↓sv_dput, ↓ev_in1, ↓ev_deI, ↓ev_deS, ↓ev_deB, ↓ev_dnI, ↓ev_dnS, ↓ev_dnB, ↓sv_okN, startL, List.map_cons, List.map_nil, List.length_cons, List.length_nil, Nat.reduceAdd, Nat.reduceSub, List.replicate, List.cons_append, List.nil_append, List.set_cons_zero, List.set_cons_succ, getL0, getLS, pick_nil, pick_one, true_and, and_self, List.append_nil, atI_0, atI_1, atI_2, atI_3, atI_4, ixN_0, ixN_1, ixN_2, ixN_3, List.getElem?_cons_zero, List.getElem?_cons_succ, Option.some.injEq, exists_eq_left', ite_true, ite_false, Bool.false_eq_true, if_true_b, if_false_b, dTy_n, dTy_b, dTy_i, dTy_s, dTy_t, dTy_r, dTy_l, decide_true, decide_false, Bool.not_true, Bool.not_false, decide_eq_true_eq, Bool.not_eq_true', decide_eq_false_iff_not, wipeL, Nat.zero_add, kit_ss, kit_is, kit_ns, kit_ts, kit_ls, kit_bs, kit_st, kit_it, kit_nt, kit_tt, kit_lt, kit_bt, kit_sl, kit_il, kit_nl, kit_tl, kit_ll, kit_bl, kit_si, kit_ii, kit_ni, kit_ti, kit_li, kit_bi, kit_sb, kit_ib, kit_nb, kit_tb, kit_lb, kit_bb]
  rfl
theorem is_fraction_ok (a b : Int) : Ev (m_is_fraction [.tup [.int a, .int b]] []) fun d _ => d = .bl (decide (1 ≤ b ∧ Int.gcd a b = 1)) := by
  unfold m_is_fraction b_is_fraction
  simp -implicitDefEqProofs only [↓ev_srcI, ↓ev_srcN, ↓ev_optS, ↓ev_ok, ↓ev_bind, ↓ev_eC, ↓ev_v0, ↓ev_vS, ↓ev_bin, ↓ev_aNil, ↓ev_aCons, ↓ev_tup, ↓ev_disp, ↓ev_new, ↓ev_seq, ↓ev_seqT, ↓ev_seqR, ↓ev_seqL, ↓ev_bOf, ↓ev_toB, ↓ev_bTru, ↓ev_bYes, ↓ev_bAnd, ↓ev_bOr, ↓ev_bNot, ↓ev_eAnd, ↓ev_eOr, ↓ev_eNot, ↓ev_eIf, ↓ev_chain, ↓ev_u, ↓ev_uq, ↓ev_lOf, ↓ev_cat, ↓ev_call, ↓ev_addI, ↓ev_addS, ↓ev_addT, ↓ev_sub, ↓ev_mul, ↓ev_fdiv, ↓ev_mod, ↓ev_pow, ↓ev_neg, ↓ev_negI, ↓ev_cmp, ↓ev_eqI, ↓ev_eqS, ↓ev_eqB, ↓ev_isN, ↓ev_isI, ↓ev_isB, ↓ev_isS, ↓ev_isT, ↓ev_isL, ↓ev_truB, ↓ev_truN, ↓ev_truI, ↓ev_truT, ↓ev_ixS, ↓ev_ixT, ↓ev_ixR, ↓ev_ixL, ↓ev_lenS, ↓ev_lenT, ↓ev_lenR, ↓ev_lenL, ↓ev_abs, ↓ev_intI, ↓ev_intB, ↓ev_intS, ↓ev_strI, ↓ev_max, ↓ev_min, ↓ev_gcd, ↓ev_isi, ↓ev_all, ↓ev_any, ↓ev_sum, ↓ev_rg1, ↓ev_rg1I, ↓ev_lSl, ↓ev_slR, ↓ev_oNo, ↓ev_oIs, ↓ev_toI, ↓ev_eSl, ↓ev_slS, ↓ev_split, ↓ev_onStr, ↓ev_join, ↓ev_mulS, ↓ev_ext, ↓ev_onLoc, ↓ev_mt, ↓ev_app, ↓ev_lRev, ↓ev_revL, ↓sv_nx, ↓sv_seq, ↓sv_ret, ↓sv_retN, ↓sv_ex, ↓sv_if, ↓sv_set, ↓sv_par, ↓sv_put, ↓ev_run, ↓sv_loopK, ↓sv_for, ↓ev_iNew, ↓ev_iVal, ↓ev_srcT, ↓ev_srcR, ↓ev_srcS, ↓ev_srcL, ↓ev_rng1, ↓ev_rng1I, ↓ev_lComp, ↓sv_dput, ↓ev_in1, ↓ev_deI, ↓ev_deS, ↓ev_deB, ↓ev_dnI, ↓ev_dnS, ↓ev_dnB, ↓sv_okN, startL, List.map_cons, List.map_nil, List.length_cons, List.length_nil, Nat.reduceAdd, Nat.reduceSub, List.replicate, List.cons_append, List.nil_append, List.set_cons_zero, List.set_cons_succ, getL0, getLS, pick_nil, pick_one, true_and, and_self, List.append_nil, atI_0, atI_1, atI_2, atI_3, atI_4, ixN_0, ixN_1, ixN_2, ixN_3, List.getElem?_cons_zero, List.getElem?_cons_succ, Option.some.injEq, exists_eq_left', ite_true, ite_false, Bool.false_eq_true, if_true_b, if_false_b, dTy_n, dTy_b, dTy_i, dTy_s, dTy_t, dTy_r, dTy_l, decide_true, decide_false, Bool.not_true, Bool.not_false, decide_eq_true_eq, Bool.not_eq_true', decide_eq_false_iff_not, wipeL, Nat.zero_add, kit_ss, kit_is, kit_ns, kit_ts, kit_ls, kit_bs, kit_st, kit_it, kit_nt, kit_tt, kit_lt, kit_bt, kit_sl, kit_il, kit_nl, kit_tl, kit_ll, kit_bl, kit_si, kit_ii, kit_ni, kit_ti, kit_li, kit_bi, kit_sb, kit_ib, kit_nb, kit_tb, kit_lb, kit_bb]
  rw [if_neg (show ¬ (true = false) from nofun), if_neg (show ¬ ¬ ((0 + 1 + 1 : Nat) : Int) = 2 from fun z => z rfl)]
  refine ev_compF (fun _ => D.bl true) [.int a, .int b] (by show 2 ≤ _; decide) (fun d hd => ?_) ?_
  · simp -implicitDefEqProofs only [↓ev_srcI, ↓ev_srcN, ↓ev_optS, ↓ev_ok, ↓ev_bind, ↓ev_eC, ↓ev_v0, ↓ev_vS, ↓ev_bin, ↓ev_aNil, ↓ev_aCons, ↓ev_tup, ↓ev_disp, ↓ev_new, ↓ev_seq, ↓ev_seqT, ↓ev_seqR, ↓ev_seqL, ↓ev_bOf, ↓ev_toB, ↓ev_bTru, ↓ev_bYes, ↓ev_bAnd, ↓ev_bOr, ↓ev_bNot, ↓ev_eAnd, ↓ev_eOr, ↓ev_eNot, ↓ev_eIf, ↓ev_chain, ↓ev_u, ↓ev_uq, ↓ev_lOf, ↓ev_cat, ↓ev_call, ↓ev_addI, ↓ev_addS, ↓ev_addT, ↓ev_sub, ↓ev_mul, ↓ev_fdiv, ↓ev_mod, ↓ev_pow, ↓ev_neg, ↓ev_negI, ↓ev_cmp, ↓ev_eqI, ↓ev_eqS, ↓ev_eqB, ↓ev_isN, ↓ev_isI, ↓ev_isB, ↓ev_isS, ↓ev_isT, ↓ev_isL, ↓ev_truB, ↓ev_truN, ↓ev_truI, ↓ev_truT, ↓ev_ixS, ↓ev_ixT, ↓ev_ixR, ↓ev_ixL, ↓ev_lenS, ↓ev_lenT, ↓ev_lenR, ↓ev_lenL, ↓ev_abs, ↓ev_intI, ↓ev_intB, ↓ev_intS, ↓ev_strI, ↓ev_max, ↓ev_min, ↓ev_gcd, ↓ev_isi, ↓ev_all, ↓ev_any, ↓ev_sum, ↓ev_rg1, ↓ev_rg1I, ↓ev_lSl, ↓ev_slR, ↓ev_oNo, ↓ev_oIs, ↓ev_toI, ↓ev_eSl, ↓ev_slS, ↓ev_split, ↓ev_onStr, ↓ev_join, ↓ev_mulS, ↓ev_ext, ↓ev_onLoc, ↓ev_mt, ↓ev_app, ↓ev_lRev, ↓ev_revL, ↓sv_nx, ↓sv_seq, ↓sv_ret, ↓sv_retN, ↓sv_ex, ↓sv_if, ↓sv_set, ↓sv_par, ↓sv_put, ↓ev_run, ↓sv_loopK, ↓sv_for, ↓ev_iNew, ↓ev_iVal, ↓ev_srcT, ↓ev_srcR, ↓ev_srcS, ↓ev_srcL, ↓ev_rng1, ↓ev_rng1I, ↓ev_lComp, ↓sv_dput, ↓ev_in1, ↓ev_deI, ↓ev_deS, ↓ev_deB, ↓ev_dnI, ↓ev_dnS, ↓ev_dnB, ↓sv_okN, startL, List.map_cons, List.map_nil, List.length_cons, List.length_nil, Nat.reduceAdd, Nat.reduceSub, List.replicate, List.cons_append, List.nil_append, List.set_cons_zero, List.set_cons_succ, getL0, getLS, pick_nil, pick_one, true_and, and_self, List.append_nil, atI_0, atI_1, atI_2, atI_3, atI_4, ixN_0, ixN_1, ixN_2, ixN_3, List.getElem?_cons_zero, List.getElem?_cons_succ, Option.some.injEq, exists_eq_left', ite_true, ite_false, Bool.false_eq_true, if_true_b, if_false_b, dTy_n, dTy_b, dTy_i, dTy_s, dTy_t, dTy_r, dTy_l, decide_true, decide_false, Bool.not_true, Bool.not_false, decide_eq_true_eq, Bool.not_eq_true', decide_eq_false_iff_not, wipeL, Nat.zero_add, kit_ss, kit_is, kit_ns, kit_ts, kit_ls, kit_bs, kit_st, kit_it, kit_nt, kit_tt, kit_lt, kit_bt, kit_sl, kit_il, kit_nl, kit_tl, kit_ll, kit_bl, kit_si, kit_ii, kit_ni, kit_ti, kit_li, kit_bi, kit_sb, kit_ib, kit_nb, kit_tb, kit_lb, kit_bb]
    simp only [List.mem_cons, List.not_mem_nil, or_false] at hd
    rcases hd with rfl | rfl
    · refine lm_closed rfl (ev_mono (is_integer_int _) ?_)
      rintro _ _ rfl
      exact ⟨rfl, rfl, rfl⟩
    · refine lm_closed rfl (ev_mono (is_integer_int _) ?_)
      rintro _ _ rfl
      exact ⟨rfl, rfl, rfl⟩
  · refine ⟨[true, true], rfl, ?_⟩
    rw [if_neg (by decide)]
    by_cases h : 1 ≤ b
    · rw [if_pos h]
      refine lm_closed rfl (ev_mono (common_ok _ _) ?_)
      rintro _ _ rfl
      refine ⟨rfl, ?_⟩
      simp -implicitDefEqProofs only [↓ev_srcI, ↓ev_srcN, ↓ev_optS, ↓ev_ok, ↓ev_bind, ↓ev_eC, ↓ev_v0, ↓ev_vS, ↓ev_bin, ↓ev_aNil, ↓ev_aCons, ↓ev_tup, ↓ev_disp, ↓ev_new, ↓ev_seq, ↓ev_seqT, ↓ev_seqR, ↓ev_seqL, ↓ev_bOf, ↓ev_toB, ↓ev_bTru, ↓ev_bYes, ↓ev_bAnd, ↓ev_bOr, ↓ev_bNot, ↓ev_eAnd, ↓ev_eOr, ↓ev_eNot, ↓ev_eIf, ↓ev_chain, ↓ev_u, ↓ev_uq, ↓ev_lOf, ↓ev_cat, ↓ev_call, ↓ev_addI, ↓ev_addS, ↓ev_addT, ↓ev_sub, ↓ev_mul, ↓ev_fdiv, ↓ev_mod, ↓ev_pow, ↓ev_neg, ↓ev_negI, ↓ev_cmp, ↓ev_eqI, ↓ev_eqS, ↓ev_eqB, ↓ev_isN, ↓ev_isI, ↓ev_isB, ↓ev_isS, ↓ev_isT, ↓ev_isL, ↓ev_truB, ↓ev_truN, ↓ev_truI, ↓ev_truT, ↓ev_ixS, ↓ev_ixT, ↓ev_ixR, ↓ev_ixL, ↓ev_lenS, ↓ev_lenT, ↓ev_lenR, ↓ev_lenL, ↓ev_abs, ↓ev_intI, ↓ev_intB, ↓ev_intS, ↓ev_strI, ↓ev_max, ↓ev_min, ↓ev_gcd, ↓ev_isi, ↓ev_all, ↓ev_any, ↓ev_sum, ↓ev_rg1, ↓ev_rg1I, ↓ev_lSl, ↓ev_slR, ↓ev_oNo, ↓ev_oIs, ↓ev_toI, ↓ev_eSl, ↓ev_slS, ↓ev_split, ↓ev_onStr, ↓ev_join, ↓ev_mulS, ↓ev_ext, ↓ev_onLoc, ↓ev_mt, ↓ev_app, ↓ev_lRev, ↓ev_revL, ↓sv_nx, ↓sv_seq, ↓sv_ret, ↓sv_retN, ↓sv_ex, ↓sv_if, ↓sv_set, ↓sv_par, ↓sv_put, ↓ev_run, ↓sv_loopK, ↓sv_for, ↓ev_iNew, ↓ev_iVal, ↓ev_srcT, ↓ev_srcR, ↓ev_srcS, ↓ev_srcL, ↓ev_rng1, ↓ev_rng1I, ↓ev_lComp, ↓sv_dput, ↓ev_in1, ↓ev_deI, ↓ev_deS, ↓ev_deB, ↓ev_dnI, ↓ev_dnS, ↓ev_dnB, ↓sv_okN, startL, List.map_cons, List.map_nil, List.length_cons, List.length_nil, Nat.reduceAdd, Nat.reduceSub, List.replicate, List.cons_append, List.nil_append, List.set_cons_zero, List.set_cons_succ, getL0, getLS, pick_nil, pick_one, true_and, and_self, List.append_nil, atI_0, atI_1, atI_2, atI_3, atI_4, ixN_0, ixN_1, ixN_2, ixN_3, List.getElem?_cons_zero, List.getElem?_cons_succ, Option.some.injEq, exists_eq_left', ite_true, ite_false, Bool.false_eq_true, if_true_b, if_false_b, dTy_n, dTy_b, dTy_i, dTy_s, dTy_t, dTy_r, dTy_l, decide_true, decide_false, Bool.not_true, Bool.not_false, decide_eq_true_eq, Bool.not_eq_true', decide_eq_false_iff_not, wipeL, Nat.zero_add, kit_ss, kit_is, kit_ns, kit_ts, kit_ls, kit_bs, kit_st, kit_it, kit_nt, kit_tt, kit_lt, kit_bt, kit_sl, kit_il, kit_nl, kit_tl, kit_ll, kit_bl, kit_si, kit_ii, kit_ni, kit_ti, kit_li, kit_bi, kit_sb, kit_ib, kit_nb, kit_tb, kit_lb, kit_bb]
      refine congrArg D.bl (decide_eq_decide.mpr ?_)
      omega
    · rw [if_neg h]
      refine congrArg D.bl ?_
      rw [decide_eq_false h, decide_eq_false (fun z => h z.1)]
theorem read_fraction_ok {x : Str} (hz : x.length + 2 ≤ sizeLine) : Ev (m_read_fraction [.str x] []) fun d _ => d = oF (rdF x.cps.toList) := by
  have hn : x.cps.toList.length = x.length := by simp [Str.length]
  have hs : (Str.ofString "/") = ⟨#[47]⟩ := by apply str_ext; decide +kernel
  unfold m_read_fraction b_read_fraction
  simp -implicitDefEqProofs only [↓ev_srcI, ↓ev_srcN, ↓ev_optS, ↓ev_ok, ↓ev_bind, ↓ev_eC, ↓ev_v0, ↓ev_vS, ↓ev_bin, ↓ev_aNil, ↓ev_aCons, ↓ev_tup, ↓ev_disp, ↓ev_new, ↓ev_seq, ↓ev_seqT, ↓ev_seqR, ↓ev_seqL, ↓ev_bOf, ↓ev_toB, ↓ev_bTru, ↓ev_bYes, ↓ev_bAnd, ↓ev_bOr, ↓ev_bNot, ↓ev_eAnd, ↓ev_eOr, ↓ev_eNot, ↓ev_eIf, ↓ev_chain, ↓ev_u, ↓ev_uq, ↓ev_lOf, ↓ev_cat, ↓ev_call, ↓ev_addI, ↓ev_addS, ↓ev_addT, ↓ev_sub, ↓ev_mul, ↓ev_fdiv, ↓ev_mod, ↓ev_pow, ↓ev_neg, ↓ev_negI, ↓ev_cmp, ↓ev_eqI, ↓ev_eqS, ↓ev_eqB, ↓ev_isN, ↓ev_isI, ↓ev_isB, ↓ev_isS, ↓ev_isT, ↓ev_isL, ↓ev_truB, ↓ev_truN, ↓ev_truI, ↓ev_truT, ↓ev_ixS, ↓ev_ixT, ↓ev_ixR, ↓ev_ixL, ↓ev_lenS, ↓ev_lenT, ↓ev_lenR, ↓ev_lenL, ↓ev_abs, ↓ev_intI, ↓ev_intB, ↓ev_intS, ↓ev_strI, ↓ev_max, ↓ev_min, ↓ev_gcd, ↓ev_isi, ↓ev_all, ↓ev_any, ↓ev_sum, ↓ev_rg1, ↓ev_rg1I, ↓ev_lSl, ↓ev_slR, ↓ev_oNo, ↓ev_oIs, ↓ev_toI, ↓ev_eSl, ↓ev_slS, ↓ev_split, ↓ev_onStr, ↓ev_join, ↓ev_mulS, ↓ev_ext, ↓ev_onLoc, ↓ev_mt, ↓ev_app, ↓ev_lRev, ↓ev_revL, ↓sv_nx, ↓sv_seq, ↓sv_ret, ↓sv_retN, ↓sv_ex, ↓sv_if, ↓sv_set, ↓sv_par, ↓sv_put, ↓ev_run, ↓sv_loopK, ↓sv_for, ↓ev_iNew, ↓ev_iVal, ↓ev_srcT, ↓ev_srcR, ↓ev_srcS, ↓ev_srcL, ↓ev_rng1, ↓ev_rng1I, ↓ev_lComp, ↓sv_dput, ↓ev_in1, ↓ev_deI, ↓ev_deS, ↓ev_deB, ↓ev_dnI, ↓ev_dnS, ↓ev_dnB, ↓sv_okN, startL, List.map_cons, List.map_nil, List.length_cons, List.length_nil, Nat.reduceAdd, Nat.reduceSub, List.replicate, List.cons_append, List.nil_append, List.set_cons_zero, List.set_cons_succ, getL0, getLS, pick_nil, pick_one, true_and, and_self, List.append_nil, atI_0, atI_1, atI_2, atI_3, atI_4, ixN_0, ixN_1, ixN_2, ixN_3, List.getElem?_cons_zero, List.getElem?_cons_succ, Option.some.injEq, exists_eq_left', ite_true, ite_false, Bool.false_eq_true, if_true_b, if_false_b, dTy_n, dTy_b, dTy_i, dTy_s, dTy_t, dTy_r, dTy_l, decide_true, decide_false, Bool.not_true, Bool.not_false, decide_eq_true_eq, Bool.not_eq_true', decide_eq_false_iff_not, wipeL, Nat.zero_add, kit_ss, kit_is, kit_ns, kit_ts, kit_ls, kit_bs, kit_st, kit_it, kit_nt, kit_tt, kit_lt, kit_bt, kit_sl, kit_il, kit_nl, kit_tl, kit_ll, kit_bl, kit_si, kit_ii, kit_ni, kit_ti, kit_li, kit_bi, kit_sb, kit_ib, kit_nb, kit_tb, kit_lb, kit_bb]
  unfold c_STROKE
  simp -implicitDefEqProofs only [↓ev_srcI, ↓ev_srcN, ↓ev_optS, ↓ev_ok, ↓ev_bind, ↓ev_eC, ↓ev_v0, ↓ev_vS, ↓ev_bin, ↓ev_aNil, ↓ev_aCons, ↓ev_tup, ↓ev_disp, ↓ev_new, ↓ev_seq, ↓ev_seqT, ↓ev_seqR, ↓ev_seqL, ↓ev_bOf, ↓ev_toB, ↓ev_bTru, ↓ev_bYes, ↓ev_bAnd, ↓ev_bOr, ↓ev_bNot, ↓ev_eAnd, ↓ev_eOr, ↓ev_eNot, ↓ev_eIf, ↓ev_chain, ↓ev_u, ↓ev_uq, ↓ev_lOf, ↓ev_cat, ↓ev_call, ↓ev_addI, ↓ev_addS, ↓ev_addT, ↓ev_sub, ↓ev_mul, ↓ev_fdiv, ↓ev_mod, ↓ev_pow, ↓ev_neg, ↓ev_negI, ↓ev_cmp, ↓ev_eqI, ↓ev_eqS, ↓ev_eqB, ↓ev_isN, ↓ev_isI, ↓ev_isB, ↓ev_isS, ↓ev_isT, ↓ev_isL, ↓ev_truB, ↓ev_truN, ↓ev_truI, ↓ev_truT, ↓ev_ixS, ↓ev_ixT, ↓ev_ixR, ↓ev_ixL, ↓ev_lenS, ↓ev_lenT, ↓ev_lenR, ↓ev_lenL, ↓ev_abs, ↓ev_intI, ↓ev_intB, ↓ev_intS, ↓ev_strI, ↓ev_max, ↓ev_min, ↓ev_gcd, ↓ev_isi, ↓ev_all, ↓ev_any, ↓ev_sum, ↓ev_rg1, ↓ev_rg1I, ↓ev_lSl, ↓ev_slR, ↓ev_oNo, ↓ev_oIs, ↓ev_toI, ↓ev_eSl, ↓ev_slS, ↓ev_split, ↓ev_onStr, ↓ev_join, ↓ev_mulS, ↓ev_ext, ↓ev_onLoc, ↓ev_mt, ↓ev_app, ↓ev_lRev, ↓ev_revL, ↓sv_nx, ↓sv_seq, ↓sv_ret, ↓sv_retN, ↓sv_ex, ↓sv_if, ↓sv_set, ↓sv_par, ↓sv_put, ↓ev_run, ↓sv_loopK, ↓sv_for, ↓ev_iNew, ↓ev_iVal, ↓ev_srcT, ↓ev_srcR, ↓ev_srcS, ↓ev_srcL, ↓ev_rng1, ↓ev_rng1I, ↓ev_lComp, ↓sv_dput, ↓ev_in1, ↓ev_deI, ↓ev_deS, ↓ev_deB, ↓ev_dnI, ↓ev_dnS, ↓ev_dnB, ↓sv_okN, startL, List.map_cons, List.map_nil, List.length_cons, List.length_nil, Nat.reduceAdd, Nat.reduceSub, List.replicate, List.cons_append, List.nil_append, List.set_cons_zero, List.set_cons_succ, getL0, getLS, pick_nil, pick_one, true_and, and_self, List.append_nil, atI_0, atI_1, atI_2, atI_3, atI_4, ixN_0, ixN_1, ixN_2, ixN_3, List.getElem?_cons_zero, List.getElem?_cons_succ, Option.some.injEq, exists_eq_left', ite_true, ite_false, Bool.false_eq_true, if_true_b, if_false_b, dTy_n, dTy_b, dTy_i, dTy_s, dTy_t, dTy_r, dTy_l, decide_true, decide_false, Bool.not_true, Bool.not_false, decide_eq_true_eq, Bool.not_eq_true', decide_eq_false_iff_not, wipeL, Nat.zero_add, kit_ss, kit_is, kit_ns, kit_ts, kit_ls, kit_bs, kit_st, kit_it, kit_nt, kit_tt, kit_lt, kit_bt, kit_sl, kit_il, kit_nl, kit_tl, kit_ll, kit_bl, kit_si, kit_ii, kit_ni, kit_ti, kit_li, kit_bi, kit_sb, kit_ib, kit_nb, kit_tb, kit_lb, kit_bb]
  rw [hs]
  refine ⟨⟨rfl, hz⟩, ?_⟩
  rw [split_one x 47 (by decide)]
  have hlen : ∀ p ∈ splA 47 [] x.cps.toList, p.length ≤ sizeLine := fun p hp => by
    have := splA_len p hp
    rw [List.length_nil] at this; omega
  have hnum : (splA 47 [] x.cps.toList).length ≤ sizeLine := by
    have := @splA_num 47 x.cps.toList []
    omega
  unfold rdF
  generalize splA 47 [] x.cps.toList = ps at hlen hnum
  refine ev_compFL (fun d => match d with | .str y => oI (rdI y.cps.toList) | _ => .non) _ (by rfl) (by simpa using hnum) (fun d hd => ?_) ?_
  · obtain ⟨y, hy, rfl⟩ := List.mem_map.mp hd
    obtain ⟨p, hp, rfl⟩ := List.mem_map.mp hy
    simp -implicitDefEqProofs only [↓ev_srcI, ↓ev_srcN, ↓ev_optS, ↓ev_ok, ↓ev_bind, ↓ev_eC, ↓ev_v0, ↓ev_vS, ↓ev_bin, ↓ev_aNil, ↓ev_aCons, ↓ev_tup, ↓ev_disp, ↓ev_new, ↓ev_seq, ↓ev_seqT, ↓ev_seqR, ↓ev_seqL, ↓ev_bOf, ↓ev_toB, ↓ev_bTru, ↓ev_bYes, ↓ev_bAnd, ↓ev_bOr, ↓ev_bNot, ↓ev_eAnd, ↓ev_eOr, ↓ev_eNot, ↓ev_eIf, ↓ev_chain, ↓ev_u, ↓ev_uq, ↓ev_lOf, ↓ev_cat, ↓ev_call, ↓ev_addI, ↓ev_addS, ↓ev_addT, ↓ev_sub, ↓ev_mul, ↓ev_fdiv, ↓ev_mod, ↓ev_pow, ↓ev_neg, ↓ev_negI, ↓ev_cmp, ↓ev_eqI, ↓ev_eqS, ↓ev_eqB, ↓ev_isN, ↓ev_isI, ↓ev_isB, ↓ev_isS, ↓ev_isT, ↓ev_isL, ↓ev_truB, ↓ev_truN, ↓ev_truI, ↓ev_truT, ↓ev_ixS, ↓ev_ixT, ↓ev_ixR, ↓ev_ixL, ↓ev_lenS, ↓ev_lenT, ↓ev_lenR, ↓ev_lenL, ↓ev_abs, ↓ev_intI, ↓ev_intB, ↓ev_intS, ↓ev_strI, ↓ev_max, ↓ev_min, ↓ev_gcd, ↓ev_isi, ↓ev_all, ↓ev_any, ↓ev_sum, ↓ev_rg1, ↓ev_rg1I, ↓ev_lSl, ↓ev_slR, ↓ev_oNo, ↓ev_oIs, ↓ev_toI, ↓ev_eSl, ↓ev_slS, ↓ev_split, ↓ev_onStr, ↓ev_join, ↓ev_mulS, ↓ev_ext, ↓ev_onLoc, ↓ev_mt, ↓ev_app, ↓ev_lRev, ↓ev_revL, ↓sv_nx, ↓sv_seq, ↓sv_ret, ↓sv_retN, ↓sv_ex, ↓sv_if, ↓sv_set, ↓sv_par, ↓sv_put, ↓ev_run, ↓sv_loopK, ↓sv_for, ↓ev_iNew, ↓ev_iVal, ↓ev_srcT, ↓ev_srcR, ↓ev_srcS, ↓ev_srcL, ↓ev_rng1, ↓ev_rng1I, ↓ev_lComp, ↓sv_dput, ↓ev_in1, ↓ev_deI, ↓ev_deS, ↓ev_deB, ↓ev_dnI, ↓ev_dnS, ↓ev_dnB, ↓sv_okN, startL, List.map_cons, List.map_nil, List.length_cons, List.length_nil, Nat.reduceAdd, Nat.reduceSub, List.replicate, List.cons_append, List.nil_append, List.set_cons_zero, List.set_cons_succ, getL0, getLS, pick_nil, pick_one, true_and, and_self, List.append_nil, atI_0, atI_1, atI_2, atI_3, atI_4, ixN_0, ixN_1, ixN_2, ixN_3, List.getElem?_cons_zero, List.getElem?_cons_succ, Option.some.injEq, exists_eq_left', ite_true, ite_false, Bool.false_eq_true, if_true_b, if_false_b, dTy_n, dTy_b, dTy_i, dTy_s, dTy_t, dTy_r, dTy_l, decide_true, decide_false, Bool.not_true, Bool.not_false, decide_eq_true_eq, Bool.not_eq_true', decide_eq_false_iff_not, wipeL, Nat.zero_add, kit_ss, kit_is, kit_ns, kit_ts, kit_ls, kit_bs, kit_st, kit_it, kit_nt, kit_tt, kit_lt, kit_bt, kit_sl, kit_il, kit_nl, kit_tl, kit_ll, kit_bl, kit_si, kit_ii, kit_ni, kit_ti, kit_li, kit_bi, kit_sb, kit_ib, kit_nb, kit_tb, kit_lb, kit_bb]
    refine lm_closed rfl (ev_mono (read_integer_ok (by rw [mkS_len]; exact hlen p hp)) ?_)
    rintro _ _ rfl
    refine ⟨?_, rfl, rfl⟩
    rw [mkS_signs]
    cases rdI p <;> rfl
  · refine ⟨_, rfl, ?_⟩
    rw [List.length_map, List.length_map]
    rcases ps with _ | ⟨p, _ | ⟨q, _ | ⟨r, s⟩⟩⟩
    · rw [if_neg (by simp)]; rfl
    · rw [if_pos (by simp), if_neg (by simp)]
      rw [in_one (a := rdI p) (by rfl)]
      show Ev (toB _ _) _
      have em : rdI (mkS p).cps.toList = rdI p := rfl
      cases e : rdI p with
      | none =>
        simp -implicitDefEqProofs only [↓ev_srcI, ↓ev_srcN, ↓ev_optS, ↓ev_ok, ↓ev_bind, ↓ev_eC, ↓ev_v0, ↓ev_vS, ↓ev_bin, ↓ev_aNil, ↓ev_aCons, ↓ev_tup, ↓ev_disp, ↓ev_new, ↓ev_seq, ↓ev_seqT, ↓ev_seqR, ↓ev_seqL, ↓ev_bOf, ↓ev_toB, ↓ev_bTru, ↓ev_bYes, ↓ev_bAnd, ↓ev_bOr, ↓ev_bNot, ↓ev_eAnd, ↓ev_eOr, ↓ev_eNot, ↓ev_eIf, ↓ev_chain, ↓ev_u, ↓ev_uq, ↓ev_lOf, ↓ev_cat, ↓ev_call, ↓ev_addI, ↓ev_addS, ↓ev_addT, ↓ev_sub, ↓ev_mul, ↓ev_fdiv, ↓ev_mod, ↓ev_pow, ↓ev_neg, ↓ev_negI, ↓ev_cmp, ↓ev_eqI, ↓ev_eqS, ↓ev_eqB, ↓ev_isN, ↓ev_isI, ↓ev_isB, ↓ev_isS, ↓ev_isT, ↓ev_isL, ↓ev_truB, ↓ev_truN, ↓ev_truI, ↓ev_truT, ↓ev_ixS, ↓ev_ixT, ↓ev_ixR, ↓ev_ixL, ↓ev_lenS, ↓ev_lenT, ↓ev_lenR, ↓ev_lenL, ↓ev_abs, ↓ev_intI, ↓ev_intB, ↓ev_intS, ↓ev_strI, ↓ev_max, ↓ev_min, ↓ev_gcd, ↓ev_isi, ↓ev_all, ↓ev_any, ↓ev_sum, ↓ev_rg1, ↓ev_rg1I, ↓ev_lSl, ↓ev_slR, ↓ev_oNo, ↓ev_oIs, ↓ev_toI, ↓ev_eSl, ↓ev_slS, ↓ev_split, ↓ev_onStr, ↓ev_join, ↓ev_mulS, ↓ev_ext, ↓ev_onLoc, ↓ev_mt, ↓ev_app, ↓ev_lRev, ↓ev_revL, ↓sv_nx, ↓sv_seq, ↓sv_ret, ↓sv_retN, ↓sv_ex, ↓sv_if, ↓sv_set, ↓sv_par, ↓sv_put, ↓ev_run, ↓sv_loopK, ↓sv_for, ↓ev_iNew, ↓ev_iVal, ↓ev_srcT, ↓ev_srcR, ↓ev_srcS, ↓ev_srcL, ↓ev_rng1, ↓ev_rng1I, ↓ev_lComp, ↓sv_dput, ↓ev_in1, ↓ev_deI, ↓ev_deS, ↓ev_deB, ↓ev_dnI, ↓ev_dnS, ↓ev_dnB, ↓sv_okN, startL, List.map_cons, List.map_nil, List.length_cons, List.length_nil, Nat.reduceAdd, Nat.reduceSub, List.replicate, List.cons_append, List.nil_append, List.set_cons_zero, List.set_cons_succ, getL0, getLS, pick_nil, pick_one, true_and, and_self, List.append_nil, atI_0, atI_1, atI_2, atI_3, atI_4, ixN_0, ixN_1, ixN_2, ixN_3, List.getElem?_cons_zero, List.getElem?_cons_succ, Option.some.injEq, exists_eq_left', ite_true, ite_false, Bool.false_eq_true, if_true_b, if_false_b, dTy_n, dTy_b, dTy_i, dTy_s, dTy_t, dTy_r, dTy_l, decide_true, decide_false, Bool.not_true, Bool.not_false, decide_eq_true_eq, Bool.not_eq_true', decide_eq_false_iff_not, wipeL, Nat.zero_add, kit_ss, kit_is, kit_ns, kit_ts, kit_ls, kit_bs, kit_st, kit_it, kit_nt, kit_tt, kit_lt, kit_bt, kit_sl, kit_il, kit_nl, kit_tl, kit_ll, kit_bl, kit_si, kit_ii, kit_ni, kit_ti, kit_li, kit_bi, kit_sb, kit_ib, kit_nb, kit_tb, kit_lb, kit_bb, Option.isNone, e]
        rfl
      | some a =>
        simp -implicitDefEqProofs only [↓ev_srcI, ↓ev_srcN, ↓ev_optS, ↓ev_ok, ↓ev_bind, ↓ev_eC, ↓ev_v0, ↓ev_vS, ↓ev_bin, ↓ev_aNil, ↓ev_aCons, ↓ev_tup, ↓ev_disp, ↓ev_new, ↓ev_seq, ↓ev_seqT, ↓ev_seqR, ↓ev_seqL, ↓ev_bOf, ↓ev_toB, ↓ev_bTru, ↓ev_bYes, ↓ev_bAnd, ↓ev_bOr, ↓ev_bNot, ↓ev_eAnd, ↓ev_eOr, ↓ev_eNot, ↓ev_eIf, ↓ev_chain, ↓ev_u, ↓ev_uq, ↓ev_lOf, ↓ev_cat, ↓ev_call, ↓ev_addI, ↓ev_addS, ↓ev_addT, ↓ev_sub, ↓ev_mul, ↓ev_fdiv, ↓ev_mod, ↓ev_pow, ↓ev_neg, ↓ev_negI, ↓ev_cmp, ↓ev_eqI, ↓ev_eqS, ↓ev_eqB, ↓ev_isN, ↓ev_isI, ↓ev_isB, ↓ev_isS, ↓ev_isT, ↓ev_isL, ↓ev_truB, ↓ev_truN, ↓ev_truI, ↓ev_truT, ↓ev_ixS, ↓ev_ixT, ↓ev_ixR, ↓ev_ixL, ↓ev_lenS, ↓ev_lenT, ↓ev_lenR, ↓ev_lenL, ↓ev_abs, ↓ev_intI, ↓ev_intB, ↓ev_intS, ↓ev_strI, ↓ev_max, ↓ev_min, ↓ev_gcd, ↓ev_isi, ↓ev_all, ↓ev_any, ↓ev_sum, ↓ev_rg1, ↓ev_rg1I, ↓ev_lSl, ↓ev_slR, ↓ev_oNo, ↓ev_oIs, ↓ev_toI, ↓ev_eSl, ↓ev_slS, ↓ev_split, ↓ev_onStr, ↓ev_join, ↓ev_mulS, ↓ev_ext, ↓ev_onLoc, ↓ev_mt, ↓ev_app, ↓ev_lRev, ↓ev_revL, ↓sv_nx, ↓sv_seq, ↓sv_ret, ↓sv_retN, ↓sv_ex, ↓sv_if, ↓sv_set, ↓sv_par, ↓sv_put, ↓ev_run, ↓sv_loopK, ↓sv_for, ↓ev_iNew, ↓ev_iVal, ↓ev_srcT, ↓ev_srcR, ↓ev_srcS, ↓ev_srcL, ↓ev_rng1, ↓ev_rng1I, ↓ev_lComp, ↓sv_dput, ↓ev_in1, ↓ev_deI, ↓ev_deS, ↓ev_deB, ↓ev_dnI, ↓ev_dnS, ↓ev_dnB, ↓sv_okN, startL, List.map_cons, List.map_nil, List.length_cons, List.length_nil, Nat.reduceAdd, Nat.reduceSub, List.replicate, List.cons_append, List.nil_append, List.set_cons_zero, List.set_cons_succ, getL0, getLS, pick_nil, pick_one, true_and, and_self, List.append_nil, atI_0, atI_1, atI_2, atI_3, atI_4, ixN_0, ixN_1, ixN_2, ixN_3, List.getElem?_cons_zero, List.getElem?_cons_succ, Option.some.injEq, exists_eq_left', ite_true, ite_false, Bool.false_eq_true, if_true_b, if_false_b, dTy_n, dTy_b, dTy_i, dTy_s, dTy_t, dTy_r, dTy_l, decide_true, decide_false, Bool.not_true, Bool.not_false, decide_eq_true_eq, Bool.not_eq_true', decide_eq_false_iff_not, wipeL, Nat.zero_add, kit_ss, kit_is, kit_ns, kit_ts, kit_ls, kit_bs, kit_st, kit_it, kit_nt, kit_tt, kit_lt, kit_bt, kit_sl, kit_il, kit_nl, kit_tl, kit_ll, kit_bl, kit_si, kit_ii, kit_ni, kit_ti, kit_li, kit_bi, kit_sb, kit_ib, kit_nb, kit_tb, kit_lb, kit_bb, Option.isNone, em, e, oI]
        rw [if_pos (show ((0 + 1 : Nat) : Int) = 1 from rfl)]
        exact ⟨by decide, rfl⟩
    · rw [if_pos (by simp), if_neg (by simp)]
      rw [in_two (a := rdI p) (b := rdI q) (by rfl)]
      show Ev (toB _ _) _
      have em : rdI (mkS p).cps.toList = rdI p := rfl
      have em2 : rdI (mkS q).cps.toList = rdI q := rfl
      cases e : rdI p with
      | none =>
        simp -implicitDefEqProofs only [↓ev_srcI, ↓ev_srcN, ↓ev_optS, ↓ev_ok, ↓ev_bind, ↓ev_eC, ↓ev_v0, ↓ev_vS, ↓ev_bin, ↓ev_aNil, ↓ev_aCons, ↓ev_tup, ↓ev_disp, ↓ev_new, ↓ev_seq, ↓ev_seqT, ↓ev_seqR, ↓ev_seqL, ↓ev_bOf, ↓ev_toB, ↓ev_bTru, ↓ev_bYes, ↓ev_bAnd, ↓ev_bOr, ↓ev_bNot, ↓ev_eAnd, ↓ev_eOr, ↓ev_eNot, ↓ev_eIf, ↓ev_chain, ↓ev_u, ↓ev_uq, ↓ev_lOf, ↓ev_cat, ↓ev_call, ↓ev_addI, ↓ev_addS, ↓ev_addT, ↓ev_sub, ↓ev_mul, ↓ev_fdiv, ↓ev_mod, ↓ev_pow, ↓ev_neg, ↓ev_negI, ↓ev_cmp, ↓ev_eqI, ↓ev_eqS, ↓ev_eqB, ↓ev_isN, ↓ev_isI, ↓ev_isB, ↓ev_isS, ↓ev_isT, ↓ev_isL, ↓ev_truB, ↓ev_truN, ↓ev_truI, ↓ev_truT, ↓ev_ixS, ↓ev_ixT, ↓ev_ixR, ↓ev_ixL, ↓ev_lenS, ↓ev_lenT, ↓ev_lenR, ↓ev_lenL, ↓ev_abs, ↓ev_intI, ↓ev_intB, ↓ev_intS, ↓ev_strI, ↓ev_max, ↓ev_min, ↓ev_gcd, ↓ev_isi, ↓ev_all, ↓ev_any, ↓ev_sum, ↓ev_rg1, ↓ev_rg1I, ↓ev_lSl, ↓ev_slR, ↓ev_oNo, ↓ev_oIs, ↓ev_toI, ↓ev_eSl, ↓ev_slS, ↓ev_split, ↓ev_onStr, ↓ev_join, ↓ev_mulS, ↓ev_ext, ↓ev_onLoc, ↓ev_mt, ↓ev_app, ↓ev_lRev, ↓ev_revL, ↓sv_nx, ↓sv_seq, ↓sv_ret, ↓sv_retN, ↓sv_ex, ↓sv_if, ↓sv_set, ↓sv_par, ↓sv_put, ↓ev_run, ↓sv_loopK, ↓sv_for, ↓ev_iNew, ↓ev_iVal, ↓ev_srcT, ↓ev_srcR, ↓ev_srcS, ↓ev_srcL, ↓ev_rng1, ↓ev_rng1I, ↓ev_lComp, ↓sv_dput, ↓ev_in1, ↓ev_deI, ↓ev_deS, ↓ev_deB, ↓ev_dnI, ↓ev_dnS, ↓ev_dnB, ↓sv_okN, startL, List.map_cons, List.map_nil, List.length_cons, List.length_nil, Nat.reduceAdd, Nat.reduceSub, List.replicate, List.cons_append, List.nil_append, List.set_cons_zero, List.set_cons_succ, getL0, getLS, pick_nil, pick_one, true_and, and_self, List.append_nil, atI_0, atI_1, atI_2, atI_3, atI_4, ixN_0, ixN_1, ixN_2, ixN_3, List.getElem?_cons_zero, List.getElem?_cons_succ, Option.some.injEq, exists_eq_left', ite_true, ite_false, Bool.false_eq_true, if_true_b, if_false_b, dTy_n, dTy_b, dTy_i, dTy_s, dTy_t, dTy_r, dTy_l, decide_true, decide_false, Bool.not_true, Bool.not_false, decide_eq_true_eq, Bool.not_eq_true', decide_eq_false_iff_not, wipeL, Nat.zero_add, kit_ss, kit_is, kit_ns, kit_ts, kit_ls, kit_bs, kit_st, kit_it, kit_nt, kit_tt, kit_lt, kit_bt, kit_sl, kit_il, kit_nl, kit_tl, kit_ll, kit_bl, kit_si, kit_ii, kit_ni, kit_ti, kit_li, kit_bi, kit_sb, kit_ib, kit_nb, kit_tb, kit_lb, kit_bb, Option.isNone, e, Bool.true_or]
        rfl
      | some a =>
        cases e2 : rdI q with
        | none =>
          simp -implicitDefEqProofs only [↓ev_srcI, ↓ev_srcN, ↓ev_optS, ↓ev_ok, ↓ev_bind, ↓ev_eC, ↓ev_v0, ↓ev_vS, ↓ev_bin, ↓ev_aNil, ↓ev_aCons, ↓ev_tup, ↓ev_disp, ↓ev_new, ↓ev_seq, ↓ev_seqT, ↓ev_seqR, ↓ev_seqL, ↓ev_bOf, ↓ev_toB, ↓ev_bTru, ↓ev_bYes, ↓ev_bAnd, ↓ev_bOr, ↓ev_bNot, ↓ev_eAnd, ↓ev_eOr, ↓ev_eNot, ↓ev_eIf, ↓ev_chain, ↓ev_u, ↓ev_uq, ↓ev_lOf, ↓ev_cat, ↓ev_call, ↓ev_addI, ↓ev_addS, ↓ev_addT, ↓ev_sub, ↓ev_mul, ↓ev_fdiv, ↓ev_mod, ↓ev_pow, ↓ev_neg, ↓ev_negI, ↓ev_cmp, ↓ev_eqI, ↓ev_eqS, ↓ev_eqB, ↓ev_isN, ↓ev_isI, ↓ev_isB, ↓ev_isS, ↓ev_isT, ↓ev_isL, ↓ev_truB, ↓ev_truN, ↓ev_truI, ↓ev_truT, ↓ev_ixS, ↓ev_ixT, ↓ev_ixR, ↓ev_ixL, ↓ev_lenS, ↓ev_lenT, ↓ev_lenR, ↓ev_lenL, ↓ev_abs, ↓ev_intI, ↓ev_intB, ↓ev_intS, ↓ev_strI, ↓ev_max, ↓ev_min, ↓ev_gcd, ↓ev_isi, ↓ev_all, ↓ev_any, ↓ev_sum, ↓ev_rg1, ↓ev_rg1I, ↓ev_lSl, ↓ev_slR, ↓ev_oNo, ↓ev_oIs, ↓ev_toI, ↓ev_eSl, ↓ev_slS, ↓ev_split, ↓ev_onStr, ↓ev_join, ↓ev_mulS, ↓ev_ext, ↓ev_onLoc, ↓ev_mt, ↓ev_app, ↓ev_lRev, ↓ev_revL, ↓sv_nx, ↓sv_seq, ↓sv_ret, ↓sv_retN, ↓sv_ex, ↓sv_if, ↓sv_set, ↓sv_par, ↓sv_put, ↓ev_run, ↓sv_loopK, ↓sv_for, ↓ev_iNew, ↓ev_iVal, ↓ev_srcT, ↓ev_srcR, ↓ev_srcS, ↓ev_srcL, ↓ev_rng1, ↓ev_rng1I, ↓ev_lComp, ↓sv_dput, ↓ev_in1, ↓ev_deI, ↓ev_deS, ↓ev_deB, ↓ev_dnI, ↓ev_dnS, ↓ev_dnB, ↓sv_okN, startL, List.map_cons, List.map_nil, List.length_cons, List.length_nil, Nat.reduceAdd, Nat.reduceSub, List.replicate, List.cons_append, List.nil_append, List.set_cons_zero, List.set_cons_succ, getL0, getLS, pick_nil, pick_one, true_and, and_self, List.append_nil, atI_0, atI_1, atI_2, atI_3, atI_4, ixN_0, ixN_1, ixN_2, ixN_3, List.getElem?_cons_zero, List.getElem?_cons_succ, Option.some.injEq, exists_eq_left', ite_true, ite_false, Bool.false_eq_true, if_true_b, if_false_b, dTy_n, dTy_b, dTy_i, dTy_s, dTy_t, dTy_r, dTy_l, decide_true, decide_false, Bool.not_true, Bool.not_false, decide_eq_true_eq, Bool.not_eq_true', decide_eq_false_iff_not, wipeL, Nat.zero_add, kit_ss, kit_is, kit_ns, kit_ts, kit_ls, kit_bs, kit_st, kit_it, kit_nt, kit_tt, kit_lt, kit_bt, kit_sl, kit_il, kit_nl, kit_tl, kit_ll, kit_bl, kit_si, kit_ii, kit_ni, kit_ti, kit_li, kit_bi, kit_sb, kit_ib, kit_nb, kit_tb, kit_lb, kit_bb, Option.isNone, e, e2, Bool.or_true]
          rfl
        | some b =>
          simp -implicitDefEqProofs only [↓ev_srcI, ↓ev_srcN, ↓ev_optS, ↓ev_ok, ↓ev_bind, ↓ev_eC, ↓ev_v0, ↓ev_vS, ↓ev_bin, ↓ev_aNil, ↓ev_aCons, ↓ev_tup, ↓ev_disp, ↓ev_new, ↓ev_seq, ↓ev_seqT, ↓ev_seqR, ↓ev_seqL, ↓ev_bOf, ↓ev_toB, ↓ev_bTru, ↓ev_bYes, ↓ev_bAnd, ↓ev_bOr, ↓ev_bNot, ↓ev_eAnd, ↓ev_eOr, ↓ev_eNot, ↓ev_eIf, ↓ev_chain, ↓ev_u, ↓ev_uq, ↓ev_lOf, ↓ev_cat, ↓ev_call, ↓ev_addI, ↓ev_addS, ↓ev_addT, ↓ev_sub, ↓ev_mul, ↓ev_fdiv, ↓ev_mod, ↓ev_pow, ↓ev_neg, ↓ev_negI, ↓ev_cmp, ↓ev_eqI, ↓ev_eqS, ↓ev_eqB, ↓ev_isN, ↓ev_isI, ↓ev_isB, ↓ev_isS, ↓ev_isT, ↓ev_isL, ↓ev_truB, ↓ev_truN, ↓ev_truI, ↓ev_truT, ↓ev_ixS, ↓ev_ixT, ↓ev_ixR, ↓ev_ixL, ↓ev_lenS, ↓ev_lenT, ↓ev_lenR, ↓ev_lenL, ↓ev_abs, ↓ev_intI, ↓ev_intB, ↓ev_intS, ↓ev_strI, ↓ev_max, ↓ev_min, ↓ev_gcd, ↓ev_isi, ↓ev_all, ↓ev_any, ↓ev_sum, ↓ev_rg1, ↓ev_rg1I, ↓ev_lSl, ↓ev_slR, ↓ev_oNo, ↓ev_oIs, ↓ev_toI, ↓ev_eSl, ↓ev_slS, ↓ev_split, ↓ev_onStr, ↓ev_join, ↓ev_mulS, ↓ev_ext, ↓ev_onLoc, ↓ev_mt, ↓ev_app, ↓ev_lRev, ↓ev_revL, ↓sv_nx, ↓sv_seq, ↓sv_ret, ↓sv_retN, ↓sv_ex, ↓sv_if, ↓sv_set, ↓sv_par, ↓sv_put, ↓ev_run, ↓sv_loopK, ↓sv_for, ↓ev_iNew, ↓ev_iVal, ↓ev_srcT, ↓ev_srcR, ↓ev_srcS, ↓ev_srcL, ↓ev_rng1, ↓ev_rng1I, ↓ev_lComp, ↓sv_dput, ↓ev_in1, ↓ev_deI, ↓ev_deS, ↓ev_deB, ↓ev_dnI, ↓ev_dnS, ↓ev_dnB, ↓sv_okN, startL, List.map_cons, List.map_nil, List.length_cons, List.length_nil, Nat.reduceAdd, Nat.reduceSub, List.replicate, List.cons_append, List.nil_append, List.set_cons_zero, List.set_cons_succ, getL0, getLS, pick_nil, pick_one, true_and, and_self, List.append_nil, atI_0, atI_1, atI_2, atI_3, atI_4, ixN_0, ixN_1, ixN_2, ixN_3, List.getElem?_cons_zero, List.getElem?_cons_succ, Option.some.injEq, exists_eq_left', ite_true, ite_false, Bool.false_eq_true, if_true_b, if_false_b, dTy_n, dTy_b, dTy_i, dTy_s, dTy_t, dTy_r, dTy_l, decide_true, decide_false, Bool.not_true, Bool.not_false, decide_eq_true_eq, Bool.not_eq_true', decide_eq_false_iff_not, wipeL, Nat.zero_add, kit_ss, kit_is, kit_ns, kit_ts, kit_ls, kit_bs, kit_st, kit_it, kit_nt, kit_tt, kit_lt, kit_bt, kit_sl, kit_il, kit_nl, kit_tl, kit_ll, kit_bl, kit_si, kit_ii, kit_ni, kit_ti, kit_li, kit_bi, kit_sb, kit_ib, kit_nb, kit_tb, kit_lb, kit_bb, Option.isNone, em, em2, e, e2, Bool.or_false, oI]
          have ee : rdG [some a, some b] = if 1 < b ∧ Int.gcd a b = 1 then some (a, b) else none := rfl
          rw [if_neg (show ¬ ((0 + 1 + 1 : Nat) : Int) = 1 by decide), ee]
          refine ⟨by decide, ?_⟩
          by_cases hb : 1 < b
          · rw [if_pos hb]
            refine lm_closed rfl (ev_mono (is_fraction_ok a b) ?_)
            rintro _ _ rfl
            refine ⟨rfl, ?_⟩
            simp -implicitDefEqProofs only [↓ev_srcI, ↓ev_srcN, ↓ev_optS, ↓ev_ok, ↓ev_bind, ↓ev_eC, ↓ev_v0, ↓ev_vS, ↓ev_bin, ↓ev_aNil, ↓ev_aCons, ↓ev_tup, ↓ev_disp, ↓ev_new, ↓ev_seq, ↓ev_seqT, ↓ev_seqR, ↓ev_seqL, ↓ev_bOf, ↓ev_toB, ↓ev_bTru, ↓ev_bYes, ↓ev_bAnd, ↓ev_bOr, ↓ev_bNot, ↓ev_eAnd, ↓ev_eOr, ↓ev_eNot, ↓ev_eIf, ↓ev_chain, ↓ev_u, ↓ev_uq, ↓ev_lOf, ↓ev_cat, ↓ev_call, ↓ev_addI, ↓ev_addS, ↓ev_addT, ↓ev_sub, ↓ev_mul, ↓ev_fdiv, ↓ev_mod, ↓ev_pow, ↓ev_neg, ↓ev_negI, ↓ev_cmp, ↓ev_eqI, ↓ev_eqS, ↓ev_eqB, ↓ev_isN, ↓ev_isI, ↓ev_isB, ↓ev_isS, ↓ev_isT, ↓ev_isL, ↓ev_truB, ↓ev_truN, ↓ev_truI, ↓ev_truT, ↓ev_ixS, ↓ev_ixT, ↓ev_ixR, ↓ev_ixL, ↓ev_lenS, ↓ev_lenT, ↓ev_lenR, ↓ev_lenL, ↓ev_abs, ↓ev_intI, ↓ev_intB, ↓ev_intS, ↓ev_strI, ↓ev_max, ↓ev_min, ↓ev_gcd, ↓ev_isi, ↓ev_all, ↓ev_any, ↓ev_sum, ↓ev_rg1, ↓ev_rg1I, ↓ev_lSl, ↓ev_slR, ↓ev_oNo, ↓ev_oIs, ↓ev_toI, ↓ev_eSl, ↓ev_slS, ↓ev_split, ↓ev_onStr, ↓ev_join, ↓ev_mulS, ↓ev_ext, ↓ev_onLoc, ↓ev_mt, ↓ev_app, ↓ev_lRev, ↓ev_revL, ↓sv_nx, ↓sv_seq, ↓sv_ret, ↓sv_retN, ↓sv_ex, ↓sv_if, ↓sv_set, ↓sv_par, ↓sv_put, ↓ev_run, ↓sv_loopK, ↓sv_for, ↓ev_iNew, ↓ev_iVal, ↓ev_srcT, ↓ev_srcR, ↓ev_srcS, ↓ev_srcL, ↓ev_rng1, ↓ev_rng1I, ↓ev_lComp, ↓sv_dput, ↓ev_in1, ↓ev_deI, ↓ev_deS, ↓ev_deB, ↓ev_dnI, ↓ev_dnS, ↓ev_dnB, ↓sv_okN, startL, List.map_cons, List.map_nil, List.length_cons, List.length_nil, Nat.reduceAdd, Nat.reduceSub, List.replicate, List.cons_append, List.nil_append, List.set_cons_zero, List.set_cons_succ, getL0, getLS, pick_nil, pick_one, true_and, and_self, List.append_nil, atI_0, atI_1, atI_2, atI_3, atI_4, ixN_0, ixN_1, ixN_2, ixN_3, List.getElem?_cons_zero, List.getElem?_cons_succ, Option.some.injEq, exists_eq_left', ite_true, ite_false, Bool.false_eq_true, if_true_b, if_false_b, dTy_n, dTy_b, dTy_i, dTy_s, dTy_t, dTy_r, dTy_l, decide_true, decide_false, Bool.not_true, Bool.not_false, decide_eq_true_eq, Bool.not_eq_true', decide_eq_false_iff_not, wipeL, Nat.zero_add, kit_ss, kit_is, kit_ns, kit_ts, kit_ls, kit_bs, kit_st, kit_it, kit_nt, kit_tt, kit_lt, kit_bt, kit_sl, kit_il, kit_nl, kit_tl, kit_ll, kit_bl, kit_si, kit_ii, kit_ni, kit_ti, kit_li, kit_bi, kit_sb, kit_ib, kit_nb, kit_tb, kit_lb, kit_bb]
            by_cases hg : Int.gcd a b = 1
            · rw [if_pos ⟨by omega, hg⟩, if_pos ⟨hb, hg⟩]; rfl
            · rw [if_neg (fun z => hg z.2), if_neg (fun z => hg z.2)]; rfl
          · rw [if_neg hb, if_neg (fun z => hb z.1)]; rfl
    · rw [if_pos (by simp; omega), if_pos (by simp; omega)]
      rfl
theorem euclid (fuel : Nat) : ∀ (k : Nat) (a b : Int), 0 ≤ b → b < k → k ≤ fuel → Sv (sWh (bOf (eBin dNe (eVar 1) (eC (.int 0)))) (sPar 0 1 (eVar 1) (eBin dMod (eVar 0) (eVar 1))) fuel [some (.int a), some (.int b)] []) (fun ls h => ∃ r : Int, ls = [some (.int r), some (.int 0)] ∧ h = [] ∧ r.natAbs = Int.gcd a b) (fun _ _ => False) noB noB := by
  induction fuel with
  | zero => intro k a b h0 h1 h2; omega
  | succ fuel ih =>
    intro k a b h0 h1 h2
    unfold sWh
    rw [sv_sb]
    simp -implicitDefEqProofs only [↓ev_srcI, ↓ev_srcN, ↓ev_optS, ↓ev_ok, ↓ev_bind, ↓ev_eC, ↓ev_v0, ↓ev_vS, ↓ev_bin, ↓ev_aNil, ↓ev_aCons, ↓ev_tup, ↓ev_disp, ↓ev_new, ↓ev_seq, ↓ev_seqT, ↓ev_seqR, ↓ev_seqL, ↓ev_bOf, ↓ev_toB, ↓ev_bTru, ↓ev_bYes, ↓ev_bAnd, ↓ev_bOr, ↓ev_bNot, ↓ev_eAnd, ↓ev_eOr, ↓ev_eNot, ↓ev_eIf, ↓ev_chain, ↓ev_u, ↓ev_uq, ↓ev_lOf, ↓ev_cat, ↓ev_call, ↓ev_addI, ↓ev_addS, ↓ev_addT, ↓ev_sub, ↓ev_mul, ↓ev_fdiv, ↓ev_mod, ↓ev_pow, ↓ev_neg, ↓ev_negI, ↓ev_cmp, ↓ev_eqI, ↓ev_eqS, ↓ev_eqB, ↓ev_isN, ↓ev_isI, ↓ev_isB, ↓ev_isS, ↓ev_isT, ↓ev_isL, ↓ev_truB, ↓ev_truN, ↓ev_truI, ↓ev_truT, ↓ev_ixS, ↓ev_ixT, ↓ev_ixR, ↓ev_ixL, ↓ev_lenS, ↓ev_lenT, ↓ev_lenR, ↓ev_lenL, ↓ev_abs, ↓ev_intI, ↓ev_intB, ↓ev_intS, ↓ev_strI, ↓ev_max, ↓ev_min, ↓ev_gcd, ↓ev_isi, ↓ev_all, ↓ev_any, ↓ev_sum, ↓ev_rg1, ↓ev_rg1I, ↓ev_lSl, ↓ev_slR, ↓ev_oNo, ↓ev_oIs, ↓ev_toI, ↓ev_eSl, ↓ev_slS, ↓ev_split, ↓ev_onStr, ↓ev_join, ↓ev_mulS, ↓ev_ext, ↓ev_onLoc, ↓ev_mt, ↓ev_app, ↓ev_lRev, ↓ev_revL, ↓sv_nx, ↓sv_seq, ↓sv_ret, ↓sv_retN, ↓sv_ex, ↓sv_if, ↓sv_set, ↓sv_par, ↓sv_put, ↓ev_run, ↓sv_loopK, ↓sv_for, ↓ev_iNew, ↓ev_iVal, ↓ev_srcT, ↓ev_srcR, ↓ev_srcS, ↓ev_srcL, ↓ev_rng1, ↓ev_rng1I, ↓ev_lComp, ↓sv_dput, ↓ev_in1, ↓ev_deI, ↓ev_deS, ↓ev_deB, ↓ev_dnI, ↓ev_dnS, ↓ev_dnB, ↓sv_okN, startL, List.map_cons, List.map_nil, List.length_cons, List.length_nil, Nat.reduceAdd, Nat.reduceSub, List.replicate, List.cons_append, List.nil_append, List.set_cons_zero, List.set_cons_succ, getL0, getLS, pick_nil, pick_one, true_and, and_self, List.append_nil, atI_0, atI_1, atI_2, atI_3, atI_4, ixN_0, ixN_1, ixN_2, ixN_3, List.getElem?_cons_zero, List.getElem?_cons_succ, Option.some.injEq, exists_eq_left', ite_true, ite_false, Bool.false_eq_true, if_true_b, if_false_b, dTy_n, dTy_b, dTy_i, dTy_s, dTy_t, dTy_r, dTy_l, decide_true, decide_false, Bool.not_true, Bool.not_false, decide_eq_true_eq, Bool.not_eq_true', decide_eq_false_iff_not, wipeL, Nat.zero_add, kit_ss, kit_is, kit_ns, kit_ts, kit_ls, kit_bs, kit_st, kit_it, kit_nt, kit_tt, kit_lt, kit_bt, kit_sl, kit_il, kit_nl, kit_tl, kit_ll, kit_bl, kit_si, kit_ii, kit_ni, kit_ti, kit_li, kit_bi, kit_sb, kit_ib, kit_nb, kit_tb, kit_lb, kit_bb]
    by_cases hb : b = 0
    · subst hb
      rw [sv_if0, if_neg (by simp)]
      exact ⟨a, rfl, rfl, (Int.gcd_zero_right a).symm⟩
    · rw [sv_if0, if_pos (by simpa using hb), sv_loopK]
      simp -implicitDefEqProofs only [↓ev_srcI, ↓ev_srcN, ↓ev_optS, ↓ev_ok, ↓ev_bind, ↓ev_eC, ↓ev_v0, ↓ev_vS, ↓ev_bin, ↓ev_aNil, ↓ev_aCons, ↓ev_tup, ↓ev_disp, ↓ev_new, ↓ev_seq, ↓ev_seqT, ↓ev_seqR, ↓ev_seqL, ↓ev_bOf, ↓ev_toB, ↓ev_bTru, ↓ev_bYes, ↓ev_bAnd, ↓ev_bOr, ↓ev_bNot, ↓ev_eAnd, ↓ev_eOr, ↓ev_eNot, ↓ev_eIf, ↓ev_chain, ↓ev_u, ↓ev_uq, ↓ev_lOf, ↓ev_cat, ↓ev_call, ↓ev_addI, ↓ev_addS, ↓ev_addT, ↓ev_sub, ↓ev_mul, ↓ev_fdiv, ↓ev_mod, ↓ev_pow, ↓ev_neg, ↓ev_negI, ↓ev_cmp, ↓ev_eqI, ↓ev_eqS, ↓ev_eqB, ↓ev_isN, ↓ev_isI, ↓ev_isB, ↓ev_isS, ↓ev_isT, ↓ev_isL, ↓ev_truB, ↓ev_truN, ↓ev_truI, ↓ev_truT, ↓ev_ixS, ↓ev_ixT, ↓ev_ixR, ↓ev_ixL, ↓ev_lenS, ↓ev_lenT, ↓ev_lenR, ↓ev_lenL, ↓ev_abs, ↓ev_intI, ↓ev_intB, ↓ev_intS, ↓ev_strI, ↓ev_max, ↓ev_min, ↓ev_gcd, ↓ev_isi, ↓ev_all, ↓ev_any, ↓ev_sum, ↓ev_rg1, ↓ev_rg1I, ↓ev_lSl, ↓ev_slR, ↓ev_oNo, ↓ev_oIs, ↓ev_toI, ↓ev_eSl, ↓ev_slS, ↓ev_split, ↓ev_onStr, ↓ev_join, ↓ev_mulS, ↓ev_ext, ↓ev_onLoc, ↓ev_mt, ↓ev_app, ↓ev_lRev, ↓ev_revL, ↓sv_nx, ↓sv_seq, ↓sv_ret, ↓sv_retN, ↓sv_ex, ↓sv_if, ↓sv_set, ↓sv_par, ↓sv_put, ↓ev_run, ↓sv_loopK, ↓sv_for, ↓ev_iNew, ↓ev_iVal, ↓ev_srcT, ↓ev_srcR, ↓ev_srcS, ↓ev_srcL, ↓ev_rng1, ↓ev_rng1I, ↓ev_lComp, ↓sv_dput, ↓ev_in1, ↓ev_deI, ↓ev_deS, ↓ev_deB, ↓ev_dnI, ↓ev_dnS, ↓ev_dnB, ↓sv_okN, startL, List.map_cons, List.map_nil, List.length_cons, List.length_nil, Nat.reduceAdd, Nat.reduceSub, List.replicate, List.cons_append, List.nil_append, List.set_cons_zero, List.set_cons_succ, getL0, getLS, pick_nil, pick_one, true_and, and_self, List.append_nil, atI_0, atI_1, atI_2, atI_3, atI_4, ixN_0, ixN_1, ixN_2, ixN_3, List.getElem?_cons_zero, List.getElem?_cons_succ, Option.some.injEq, exists_eq_left', ite_true, ite_false, Bool.false_eq_true, if_true_b, if_false_b, dTy_n, dTy_b, dTy_i, dTy_s, dTy_t, dTy_r, dTy_l, decide_true, decide_false, Bool.not_true, Bool.not_false, decide_eq_true_eq, Bool.not_eq_true', decide_eq_false_iff_not, wipeL, Nat.zero_add, kit_ss, kit_is, kit_ns, kit_ts, kit_ls, kit_bs, kit_st, kit_it, kit_nt, kit_tt, kit_lt, kit_bt, kit_sl, kit_il, kit_nl, kit_tl, kit_ll, kit_bl, kit_si, kit_ii, kit_ni, kit_ti, kit_li, kit_bi, kit_sb, kit_ib, kit_nb, kit_tb, kit_lb, kit_bb]
      refine ⟨by omega, ?_⟩
      have h3 := Int.emod_nonneg a hb
      have h4 := Int.emod_lt_of_pos a (show 0 < b by omega)
      refine sv_mono (ih b.toNat b (a % b) h3 (by omega) (by omega)) ?_ (fun _ _ z => z) (fun _ _ z => z) (fun _ _ z => z)
      rintro ls h ⟨r, e1, e2, e3⟩
      exact ⟨r, e1, e2, by rw [e3, gcd_step]⟩
theorem law_common_ok (a b : Int) (h0 : 0 ≤ b) (h1 : b < 1000) : Ev (m_law_common [.int a, .int b] []) fun d _ => d = .int (Int.gcd a b : Nat) := by
  unfold m_law_common b_law_common
  rw [ev_run, sv_seq]
  refine sv_mono (euclid 1000000 1000 a b h0 h1 (by decide)) ?_ (fun _ _ z => z.elim) (fun _ _ z => z.elim) (fun _ _ z => z.elim)
  rintro _ _ ⟨r, rfl, rfl, e⟩
  simp -implicitDefEqProofs only [↓ev_srcI, ↓ev_srcN, ↓ev_optS, ↓ev_ok, ↓ev_bind, ↓ev_eC, ↓ev_v0, ↓ev_vS, ↓ev_bin, ↓ev_aNil, ↓ev_aCons, ↓ev_tup, ↓ev_disp, ↓ev_new, ↓ev_seq, ↓ev_seqT, ↓ev_seqR, ↓ev_seqL, ↓ev_bOf, ↓ev_toB, ↓ev_bTru, ↓ev_bYes, ↓ev_bAnd, ↓ev_bOr, ↓ev_bNot, ↓ev_eAnd, ↓ev_eOr, ↓ev_eNot, ↓ev_eIf, ↓ev_chain, ↓ev_u, ↓ev_uq, ↓ev_lOf, ↓ev_cat, ↓ev_call, ↓ev_addI, ↓ev_addS, ↓ev_addT, ↓ev_sub, ↓ev_mul, ↓ev_fdiv, ↓ev_mod, ↓ev_pow, ↓ev_neg, ↓ev_negI, ↓ev_cmp, ↓ev_eqI, ↓ev_eqS, ↓ev_eqB, ↓ev_isN, ↓ev_isI, ↓ev_isB, ↓ev_isS, ↓ev_isT, ↓ev_isL, ↓ev_truB, ↓ev_truN, ↓ev_truI, ↓ev_truT, ↓ev_ixS, ↓ev_ixT, ↓ev_ixR, ↓ev_ixL, ↓ev_lenS, ↓ev_lenT, ↓ev_lenR, ↓ev_lenL, ↓ev_abs, ↓ev_intI, ↓ev_intB, ↓ev_intS, ↓ev_strI, ↓ev_max, ↓ev_min, ↓ev_gcd, ↓ev_isi, ↓ev_all, ↓ev_any, ↓ev_sum, ↓ev_rg1, ↓ev_rg1I, ↓ev_lSl, ↓ev_slR, ↓ev_oNo, ↓ev_oIs, ↓ev_toI, ↓ev_eSl, ↓ev_slS, ↓ev_split, ↓ev_onStr, ↓ev_join, ↓ev_mulS, ↓ev_ext, ↓ev_onLoc, ↓ev_mt, ↓ev_app, ↓ev_lRev, ↓ev_revL, ↓sv_nx, ↓sv_seq, ↓sv_ret, ↓sv_retN, ↓sv_ex, ↓sv_if, ↓sv_set, ↓sv_par, ↓sv_put, ↓ev_run, ↓sv_loopK, ↓sv_for, ↓ev_iNew, ↓ev_iVal, ↓ev_srcT, ↓ev_srcR, ↓ev_srcS, ↓ev_srcL, ↓ev_rng1, ↓ev_rng1I, ↓ev_lComp, ↓sv_dput, ↓ev_in1, ↓ev_deI, ↓ev_deS, ↓ev_deB, ↓ev_dnI, ↓ev_dnS, ↓ev_dnB, ↓sv_okN, startL, List.map_cons, List.map_nil, List.length_cons, List.length_nil, Nat.reduceAdd, Nat.reduceSub, List.replicate, List.cons_append, List.nil_append, List.set_cons_zero, List.set_cons_succ, getL0, getLS, pick_nil, pick_one, true_and, and_self, List.append_nil, atI_0, atI_1, atI_2, atI_3, atI_4, ixN_0, ixN_1, ixN_2, ixN_3, List.getElem?_cons_zero, List.getElem?_cons_succ, Option.some.injEq, exists_eq_left', ite_true, ite_false, Bool.false_eq_true, if_true_b, if_false_b, dTy_n, dTy_b, dTy_i, dTy_s, dTy_t, dTy_r, dTy_l, decide_true, decide_false, Bool.not_true, Bool.not_false, decide_eq_true_eq, Bool.not_eq_true', decide_eq_false_iff_not, wipeL, Nat.zero_add, kit_ss, kit_is, kit_ns, kit_ts, kit_ls, kit_bs, kit_st, kit_it, kit_nt, kit_tt, kit_lt, kit_bt, kit_sl, kit_il, kit_nl, kit_tl, kit_ll, kit_bl, kit_si, kit_ii, kit_ni, kit_ti, kit_li, kit_bi, kit_sb, kit_ib, kit_nb, kit_tb, kit_lb, kit_bb]
  refine congrArg D.int ?_
  rw [← e]
  split <;> omega
theorem reduced_ok (t l : Int) (h0 : 1 ≤ l) (h1 : l < 1000) : Ev (m_law_reduced [.int t, .int l] []) fun d _ => ∃ a b : Int, d = .tup [.int a, .int b] ∧ 1 ≤ b ∧ b < 1000 ∧ Int.gcd a b = 1 ∧ a.natAbs ≤ t.natAbs := by
  unfold m_law_reduced b_law_reduced
  simp -implicitDefEqProofs only [↓ev_srcI, ↓ev_srcN, ↓ev_optS, ↓ev_ok, ↓ev_bind, ↓ev_eC, ↓ev_v0, ↓ev_vS, ↓ev_bin, ↓ev_aNil, ↓ev_aCons, ↓ev_tup, ↓ev_disp, ↓ev_new, ↓ev_seq, ↓ev_seqT, ↓ev_seqR, ↓ev_seqL, ↓ev_bOf, ↓ev_toB, ↓ev_bTru, ↓ev_bYes, ↓ev_bAnd, ↓ev_bOr, ↓ev_bNot, ↓ev_eAnd, ↓ev_eOr, ↓ev_eNot, ↓ev_eIf, ↓ev_chain, ↓ev_u, ↓ev_uq, ↓ev_lOf, ↓ev_cat, ↓ev_call, ↓ev_addI, ↓ev_addS, ↓ev_addT, ↓ev_sub, ↓ev_mul, ↓ev_fdiv, ↓ev_mod, ↓ev_pow, ↓ev_neg, ↓ev_negI, ↓ev_cmp, ↓ev_eqI, ↓ev_eqS, ↓ev_eqB, ↓ev_isN, ↓ev_isI, ↓ev_isB, ↓ev_isS, ↓ev_isT, ↓ev_isL, ↓ev_truB, ↓ev_truN, ↓ev_truI, ↓ev_truT, ↓ev_ixS, ↓ev_ixT, ↓ev_ixR, ↓ev_ixL, ↓ev_lenS, ↓ev_lenT, ↓ev_lenR, ↓ev_lenL, ↓ev_abs, ↓ev_intI, ↓ev_intB, ↓ev_intS, ↓ev_strI, ↓ev_max, ↓ev_min, ↓ev_gcd, ↓ev_isi, ↓ev_all, ↓ev_any, ↓ev_sum, ↓ev_rg1, ↓ev_rg1I, ↓ev_lSl, ↓ev_slR, ↓ev_oNo, ↓ev_oIs, ↓ev_toI, ↓ev_eSl, ↓ev_slS, ↓ev_split, ↓ev_onStr, ↓ev_join, ↓ev_mulS, ↓ev_ext, ↓ev_onLoc, ↓ev_mt, ↓ev_app, ↓ev_lRev, ↓ev_revL, ↓sv_nx, ↓sv_seq, ↓sv_ret, ↓sv_retN, ↓sv_ex, ↓sv_if, ↓sv_set, ↓sv_par, ↓sv_put, ↓ev_run, ↓sv_loopK, ↓sv_for, ↓ev_iNew, ↓ev_iVal, ↓ev_srcT, ↓ev_srcR, ↓ev_srcS, ↓ev_srcL, ↓ev_rng1, ↓ev_rng1I, ↓ev_lComp, ↓sv_dput, ↓ev_in1, ↓ev_deI, ↓ev_deS, ↓ev_deB, ↓ev_dnI, ↓ev_dnS, ↓ev_dnB, ↓sv_okN, startL, List.map_cons, List.map_nil, List.length_cons, List.length_nil, Nat.reduceAdd, Nat.reduceSub, List.replicate, List.cons_append, List.nil_append, List.set_cons_zero, List.set_cons_succ, getL0, getLS, pick_nil, pick_one, true_and, and_self, List.append_nil, atI_0, atI_1, atI_2, atI_3, atI_4, ixN_0, ixN_1, ixN_2, ixN_3, List.getElem?_cons_zero, List.getElem?_cons_succ, Option.some.injEq, exists_eq_left', ite_true, ite_false, Bool.false_eq_true, if_true_b, if_false_b, dTy_n, dTy_b, dTy_i, dTy_s, dTy_t, dTy_r, dTy_l, decide_true, decide_false, Bool.not_true, Bool.not_false, decide_eq_true_eq, Bool.not_eq_true', decide_eq_false_iff_not, wipeL, Nat.zero_add, kit_ss, kit_is, kit_ns, kit_ts, kit_ls, kit_bs, kit_st, kit_it, kit_nt, kit_tt, kit_lt, kit_bt, kit_sl, kit_il, kit_nl, kit_tl, kit_ll, kit_bl, kit_si, kit_ii, kit_ni, kit_ti, kit_li, kit_bi, kit_sb, kit_ib, kit_nb, kit_tb, kit_lb, kit_bb]
  refine lm_closed rfl (ev_mono (law_common_ok t l (by omega) h1) ?_)
  rintro _ _ rfl
  refine ⟨rfl, ?_⟩
  have hg : 0 < Int.gcd t l := by
    rcases Nat.eq_zero_or_pos (Int.gcd t l) with z | z
    · have := (Int.gcd_eq_zero_iff.mp z).2
      omega
    · exact z
  have hgl : Int.gcd t l ≤ l.natAbs := Nat.le_of_dvd (by omega) (by have := Int.gcd_dvd_right t l; exact Int.natAbs_dvd_natAbs.mpr this |> fun z => by simpa using z)
  simp -implicitDefEqProofs only [↓ev_srcI, ↓ev_srcN, ↓ev_optS, ↓ev_ok, ↓ev_bind, ↓ev_eC, ↓ev_v0, ↓ev_vS, ↓ev_bin, ↓ev_aNil, ↓ev_aCons, ↓ev_tup, ↓ev_disp, ↓ev_new, ↓ev_seq, ↓ev_seqT, ↓ev_seqR, ↓ev_seqL, ↓ev_bOf, ↓ev_toB, ↓ev_bTru, ↓ev_bYes, ↓ev_bAnd, ↓ev_bOr, ↓ev_bNot, ↓ev_eAnd, ↓ev_eOr, ↓ev_eNot, ↓ev_eIf, ↓ev_chain, ↓ev_u, ↓ev_uq, ↓ev_lOf, ↓ev_cat, ↓ev_call, ↓ev_addI, ↓ev_addS, ↓ev_addT, ↓ev_sub, ↓ev_mul, ↓ev_fdiv, ↓ev_mod, ↓ev_pow, ↓ev_neg, ↓ev_negI, ↓ev_cmp, ↓ev_eqI, ↓ev_eqS, ↓ev_eqB, ↓ev_isN, ↓ev_isI, ↓ev_isB, ↓ev_isS, ↓ev_isT, ↓ev_isL, ↓ev_truB, ↓ev_truN, ↓ev_truI, ↓ev_truT, ↓ev_ixS, ↓ev_ixT, ↓ev_ixR, ↓ev_ixL, ↓ev_lenS, ↓ev_lenT, ↓ev_lenR, ↓ev_lenL, ↓ev_abs, ↓ev_intI, ↓ev_intB, ↓ev_intS, ↓ev_strI, ↓ev_max, ↓ev_min, ↓ev_gcd, ↓ev_isi, ↓ev_all, ↓ev_any, ↓ev_sum, ↓ev_rg1, ↓ev_rg1I, ↓ev_lSl, ↓ev_slR, ↓ev_oNo, ↓ev_oIs, ↓ev_toI, ↓ev_eSl, ↓ev_slS, ↓ev_split, ↓ev_onStr, ↓ev_join, ↓ev_mulS, ↓ev_ext, ↓ev_onLoc, ↓ev_mt, ↓ev_app, ↓ev_lRev, ↓ev_revL, ↓sv_nx, ↓sv_seq, ↓sv_ret, ↓sv_retN, ↓sv_ex, ↓sv_if, ↓sv_set, ↓sv_par, ↓sv_put, ↓ev_run, ↓sv_loopK, ↓sv_for, ↓ev_iNew, ↓ev_iVal, ↓ev_srcT, ↓ev_srcR, ↓ev_srcS, ↓ev_srcL, ↓ev_rng1, ↓ev_rng1I, ↓ev_lComp, ↓sv_dput, ↓ev_in1, ↓ev_deI, ↓ev_deS, ↓ev_deB, ↓ev_dnI, ↓ev_dnS, ↓ev_dnB, ↓sv_okN, startL, List.map_cons, List.map_nil, List.length_cons, List.length_nil, Nat.reduceAdd, Nat.reduceSub, List.replicate, List.cons_append, List.nil_append, List.set_cons_zero, List.set_cons_succ, getL0, getLS, pick_nil, pick_one, true_and, and_self, List.append_nil, atI_0, atI_1, atI_2, atI_3, atI_4, ixN_0, ixN_1, ixN_2, ixN_3, List.getElem?_cons_zero, List.getElem?_cons_succ, Option.some.injEq, exists_eq_left', ite_true, ite_false, Bool.false_eq_true, if_true_b, if_false_b, dTy_n, dTy_b, dTy_i, dTy_s, dTy_t, dTy_r, dTy_l, decide_true, decide_false, Bool.not_true, Bool.not_false, decide_eq_true_eq, Bool.not_eq_true', decide_eq_false_iff_not, wipeL, Nat.zero_add, kit_ss, kit_is, kit_ns, kit_ts, kit_ls, kit_bs, kit_st, kit_it, kit_nt, kit_tt, kit_lt, kit_bt, kit_sl, kit_il, kit_nl, kit_tl, kit_ll, kit_bl, kit_si, kit_ii, kit_ni, kit_ti, kit_li, kit_bi, kit_sb, kit_ib, kit_nb, kit_tb, kit_lb, kit_bb]
  rw [if_pos (by omega)]
  have hlog : (((Int.gcd t l : Nat) : Int)).natAbs.log2 < 9000 := by
    have := log2_lt (n := ((Int.gcd t l : Nat) : Int).natAbs) (k := 10) (by simp; omega)
    omega
  have hgd : ((Int.gcd t l : Nat) : Int) ∣ l := Int.gcd_dvd_right t l
  refine ⟨⟨by omega, hlog⟩, ⟨by omega, hlog⟩, by decide, _, _, rfl, ?_, ?_, Int.gcd_ediv_gcd_ediv_gcd hg, ?_⟩
  · have := Int.ediv_pos_of_pos_of_dvd (show 0 < l by omega) (by omega) hgd
    omega
  · have := Int.ediv_le_self (((Int.gcd t l : Nat) : Int)) (show 0 ≤ l by omega)
    omega
  · have hgt : ((Int.gcd t l : Nat) : Int) ∣ t := Int.gcd_dvd_left t l
    rw [Int.natAbs_ediv_of_dvd hgt]
    exact Nat.div_le_self _ _
def PARTN : Int := 10 ^ 4000
theorem part_eq : c_PART = .int PARTN := by
  unfold c_PART PARTN
  refine congrArg D.int ?_
  decide +kernel
theorem log_small {i : Int} (h : i.natAbs < 10 ^ 300) : i.natAbs.log2 < 1920 := by
  have h2 : (10 : Nat) ^ 300 < 2 ^ 1000 := by decide +kernel
  have := log2_lt (n := i.natAbs) (k := 1000) (by omega)
  omega
theorem app_empty (a : Str) : a ++ Txt.join "" [] = a := by
  apply str_ext
  rw [cps_toList_append]
  show _ ++ [] = _
  rw [List.append_nil]
theorem integer_text_nn (n : Nat) (a : Int) (h0 : 0 ≤ a) (h : a.natAbs < 10 ^ 300) : Ev (m_integer_text (n + 1) [.int a] []) fun d _ => d = .str (mkS (itx a)) := by
  have hp : (10 : Int) ^ 300 < PARTN := by unfold PARTN; decide +kernel
  have hh : a < 10 ^ 300 := by
    have e : ((10 ^ 300 : Nat) : Int) = 10 ^ 300 := by decide +kernel
    omega
  unfold m_integer_text b_integer_text
  simp -implicitDefEqProofs only [↓ev_srcI, ↓ev_srcN, ↓ev_optS, ↓ev_ok, ↓ev_bind, ↓ev_eC, ↓ev_v0, ↓ev_vS, ↓ev_bin, ↓ev_aNil, ↓ev_aCons, ↓ev_tup, ↓ev_disp, ↓ev_new, ↓ev_seq, ↓ev_seqT, ↓ev_seqR, ↓ev_seqL, ↓ev_bOf, ↓ev_toB, ↓ev_bTru, ↓ev_bYes, ↓ev_bAnd, ↓ev_bOr, ↓ev_bNot, ↓ev_eAnd, ↓ev_eOr, ↓ev_eNot, ↓ev_eIf, ↓ev_chain, ↓ev_u, ↓ev_uq, ↓ev_lOf, ↓ev_cat, ↓ev_call, ↓ev_addI, ↓ev_addS, ↓ev_addT, ↓ev_sub, ↓ev_mul, ↓ev_fdiv, ↓ev_mod, ↓ev_pow, ↓ev_neg, ↓ev_negI, ↓ev_cmp, ↓ev_eqI, ↓ev_eqS, ↓ev_eqB, ↓ev_isN, ↓ev_isI, ↓ev_isB, ↓ev_isS, ↓ev_isT, ↓ev_isL, ↓ev_truB, ↓ev_truN, ↓ev_truI, ↓ev_truT, ↓ev_ixS, ↓ev_ixT, ↓ev_ixR, ↓ev_ixL, ↓ev_lenS, ↓ev_lenT, ↓ev_lenR, ↓ev_lenL, ↓ev_abs, ↓ev_intI, ↓ev_intB, ↓ev_intS, ↓ev_strI, ↓ev_max, ↓ev_min, ↓ev_gcd, ↓ev_isi, ↓ev_all, ↓ev_any, ↓ev_sum, ↓ev_rg1, ↓ev_rg1I, ↓ev_lSl, ↓ev_slR, ↓ev_oNo, ↓ev_oIs, ↓ev_toI, ↓ev_eSl, ↓ev_slS, ↓ev_split, ↓ev_onStr, ↓ev_join, ↓ev_mulS, ↓ev_ext, ↓ev_onLoc, ↓ev_mt, ↓ev_app, ↓ev_lRev, ↓ev_revL, ↓sv_nx, ↓sv_seq, ↓sv_ret, ↓sv_retN, ↓sv_ex, ↓sv_if, ↓sv_set, ↓sv_par, ↓sv_put, ↓ev_run, ↓sv_loopK, ↓sv_for, ↓ev_iNew, ↓ev_iVal, ↓ev_srcT, ↓ev_srcR, ↓ev_srcS, ↓ev_srcL, ↓ev_rng1, ↓ev_rng1I, ↓ev_lComp, ↓sv_dput, ↓ev_in1, ↓ev_deI, ↓ev_deS, ↓ev_deB, ↓ev_dnI, ↓ev_dnS, ↓ev_dnB, ↓sv_okN, startL, List.map_cons, List.map_nil, List.length_cons, List.length_nil, Nat.reduceAdd, Nat.reduceSub, List.replicate, List.cons_append, List.nil_append, List.set_cons_zero, List.set_cons_succ, getL0, getLS, pick_nil, pick_one, true_and, and_self, List.append_nil, atI_0, atI_1, atI_2, atI_3, atI_4, ixN_0, ixN_1, ixN_2, ixN_3, List.getElem?_cons_zero, List.getElem?_cons_succ, Option.some.injEq, exists_eq_left', ite_true, ite_false, Bool.false_eq_true, if_true_b, if_false_b, dTy_n, dTy_b, dTy_i, dTy_s, dTy_t, dTy_r, dTy_l, decide_true, decide_false, Bool.not_true, Bool.not_false, decide_eq_true_eq, Bool.not_eq_true', decide_eq_false_iff_not, wipeL, Nat.zero_add, kit_ss, kit_is, kit_ns, kit_ts, kit_ls, kit_bs, kit_st, kit_it, kit_nt, kit_tt, kit_lt, kit_bt, kit_sl, kit_il, kit_nl, kit_tl, kit_ll, kit_bl, kit_si, kit_ii, kit_ni, kit_ti, kit_li, kit_bi, kit_sb, kit_ib, kit_nb, kit_tb, kit_lb, kit_bb]
  rw [if_neg (by omega)]
  refine ⟨by decide, ?_⟩
  unfold sWh
  rw [sv_sb]
  simp -implicitDefEqProofs only [↓ev_srcI, ↓ev_srcN, ↓ev_optS, ↓ev_ok, ↓ev_bind, ↓ev_eC, ↓ev_v0, ↓ev_vS, ↓ev_bin, ↓ev_aNil, ↓ev_aCons, ↓ev_tup, ↓ev_disp, ↓ev_new, ↓ev_seq, ↓ev_seqT, ↓ev_seqR, ↓ev_seqL, ↓ev_bOf, ↓ev_toB, ↓ev_bTru, ↓ev_bYes, ↓ev_bAnd, ↓ev_bOr, ↓ev_bNot, ↓ev_eAnd, ↓ev_eOr, ↓ev_eNot, ↓ev_eIf, ↓ev_chain, ↓ev_u, ↓ev_uq, ↓ev_lOf, ↓ev_cat, ↓ev_call, ↓ev_addI, ↓ev_addS, ↓ev_addT, ↓ev_sub, ↓ev_mul, ↓ev_fdiv, ↓ev_mod, ↓ev_pow, ↓ev_neg, ↓ev_negI, ↓ev_cmp, ↓ev_eqI, ↓ev_eqS, ↓ev_eqB, ↓ev_isN, ↓ev_isI, ↓ev_isB, ↓ev_isS, ↓ev_isT, ↓ev_isL, ↓ev_truB, ↓ev_truN, ↓ev_truI, ↓ev_truT, ↓ev_ixS, ↓ev_ixT, ↓ev_ixR, ↓ev_ixL, ↓ev_lenS, ↓ev_lenT, ↓ev_lenR, ↓ev_lenL, ↓ev_abs, ↓ev_intI, ↓ev_intB, ↓ev_intS, ↓ev_strI, ↓ev_max, ↓ev_min, ↓ev_gcd, ↓ev_isi, ↓ev_all, ↓ev_any, ↓ev_sum, ↓ev_rg1, ↓ev_rg1I, ↓ev_lSl, ↓ev_slR, ↓ev_oNo, ↓ev_oIs, ↓ev_toI, ↓ev_eSl, ↓ev_slS, ↓ev_split, ↓ev_onStr, ↓ev_join, ↓ev_mulS, ↓ev_ext, ↓ev_onLoc, ↓ev_mt, ↓ev_app, ↓ev_lRev, ↓ev_revL, ↓sv_nx, ↓sv_seq, ↓sv_ret, ↓sv_retN, ↓sv_ex, ↓sv_if, ↓sv_set, ↓sv_par, ↓sv_put, ↓ev_run, ↓sv_loopK, ↓sv_for, ↓ev_iNew, ↓ev_iVal, ↓ev_srcT, ↓ev_srcR, ↓ev_srcS, ↓ev_srcL, ↓ev_rng1, ↓ev_rng1I, ↓ev_lComp, ↓sv_dput, ↓ev_in1, ↓ev_deI, ↓ev_deS, ↓ev_deB, ↓ev_dnI, ↓ev_dnS, ↓ev_dnB, ↓sv_okN, startL, List.map_cons, List.map_nil, List.length_cons, List.length_nil, Nat.reduceAdd, Nat.reduceSub, List.replicate, List.cons_append, List.nil_append, List.set_cons_zero, List.set_cons_succ, getL0, getLS, pick_nil, pick_one, true_and, and_self, List.append_nil, atI_0, atI_1, atI_2, atI_3, atI_4, ixN_0, ixN_1, ixN_2, ixN_3, List.getElem?_cons_zero, List.getElem?_cons_succ, Option.some.injEq, exists_eq_left', ite_true, ite_false, Bool.false_eq_true, if_true_b, if_false_b, dTy_n, dTy_b, dTy_i, dTy_s, dTy_t, dTy_r, dTy_l, decide_true, decide_false, Bool.not_true, Bool.not_false, decide_eq_true_eq, Bool.not_eq_true', decide_eq_false_iff_not, wipeL, Nat.zero_add, kit_ss, kit_is, kit_ns, kit_ts, kit_ls, kit_bs, kit_st, kit_it, kit_nt, kit_tt, kit_lt, kit_bt, kit_sl, kit_il, kit_nl, kit_tl, kit_ll, kit_bl, kit_si, kit_ii, kit_ni, kit_ti, kit_li, kit_bi, kit_sb, kit_ib, kit_nb, kit_tb, kit_lb, kit_bb]
  rw [part_eq]
  simp -implicitDefEqProofs only [↓ev_srcI, ↓ev_srcN, ↓ev_optS, ↓ev_ok, ↓ev_bind, ↓ev_eC, ↓ev_v0, ↓ev_vS, ↓ev_bin, ↓ev_aNil, ↓ev_aCons, ↓ev_tup, ↓ev_disp, ↓ev_new, ↓ev_seq, ↓ev_seqT, ↓ev_seqR, ↓ev_seqL, ↓ev_bOf, ↓ev_toB, ↓ev_bTru, ↓ev_bYes, ↓ev_bAnd, ↓ev_bOr, ↓ev_bNot, ↓ev_eAnd, ↓ev_eOr, ↓ev_eNot, ↓ev_eIf, ↓ev_chain, ↓ev_u, ↓ev_uq, ↓ev_lOf, ↓ev_cat, ↓ev_call, ↓ev_addI, ↓ev_addS, ↓ev_addT, ↓ev_sub, ↓ev_mul, ↓ev_fdiv, ↓ev_mod, ↓ev_pow, ↓ev_neg, ↓ev_negI, ↓ev_cmp, ↓ev_eqI, ↓ev_eqS, ↓ev_eqB, ↓ev_isN, ↓ev_isI, ↓ev_isB, ↓ev_isS, ↓ev_isT, ↓ev_isL, ↓ev_truB, ↓ev_truN, ↓ev_truI, ↓ev_truT, ↓ev_ixS, ↓ev_ixT, ↓ev_ixR, ↓ev_ixL, ↓ev_lenS, ↓ev_lenT, ↓ev_lenR, ↓ev_lenL, ↓ev_abs, ↓ev_intI, ↓ev_intB, ↓ev_intS, ↓ev_strI, ↓ev_max, ↓ev_min, ↓ev_gcd, ↓ev_isi, ↓ev_all, ↓ev_any, ↓ev_sum, ↓ev_rg1, ↓ev_rg1I, ↓ev_lSl, ↓ev_slR, ↓ev_oNo, ↓ev_oIs, ↓ev_toI, ↓ev_eSl, ↓ev_slS, ↓ev_split, ↓ev_onStr, ↓ev_join, ↓ev_mulS, ↓ev_ext, ↓ev_onLoc, ↓ev_mt, ↓ev_app, ↓ev_lRev, ↓ev_revL, ↓sv_nx, ↓sv_seq, ↓sv_ret, ↓sv_retN, ↓sv_ex, ↓sv_if, ↓sv_set, ↓sv_par, ↓sv_put, ↓ev_run, ↓sv_loopK, ↓sv_for, ↓ev_iNew, ↓ev_iVal, ↓ev_srcT, ↓ev_srcR, ↓ev_srcS, ↓ev_srcL, ↓ev_rng1, ↓ev_rng1I, ↓ev_lComp, ↓sv_dput, ↓ev_in1, ↓ev_deI, ↓ev_deS, ↓ev_deB, ↓ev_dnI, ↓ev_dnS, ↓ev_dnB, ↓sv_okN, startL, List.map_cons, List.map_nil, List.length_cons, List.length_nil, Nat.reduceAdd, Nat.reduceSub, List.replicate, List.cons_append, List.nil_append, List.set_cons_zero, List.set_cons_succ, getL0, getLS, pick_nil, pick_one, true_and, and_self, List.append_nil, atI_0, atI_1, atI_2, atI_3, atI_4, ixN_0, ixN_1, ixN_2, ixN_3, List.getElem?_cons_zero, List.getElem?_cons_succ, Option.some.injEq, exists_eq_left', ite_true, ite_false, Bool.false_eq_true, if_true_b, if_false_b, dTy_n, dTy_b, dTy_i, dTy_s, dTy_t, dTy_r, dTy_l, decide_true, decide_false, Bool.not_true, Bool.not_false, decide_eq_true_eq, Bool.not_eq_true', decide_eq_false_iff_not, wipeL, Nat.zero_add, kit_ss, kit_is, kit_ns, kit_ts, kit_ls, kit_bs, kit_st, kit_it, kit_nt, kit_tt, kit_lt, kit_bt, kit_sl, kit_il, kit_nl, kit_tl, kit_ll, kit_bl, kit_si, kit_ii, kit_ni, kit_ti, kit_li, kit_bi, kit_sb, kit_ib, kit_nb, kit_tb, kit_lb, kit_bb]
  rw [sv_if0, if_neg (by simp; omega)]
  simp -implicitDefEqProofs only [↓ev_srcI, ↓ev_srcN, ↓ev_optS, ↓ev_ok, ↓ev_bind, ↓ev_eC, ↓ev_v0, ↓ev_vS, ↓ev_bin, ↓ev_aNil, ↓ev_aCons, ↓ev_tup, ↓ev_disp, ↓ev_new, ↓ev_seq, ↓ev_seqT, ↓ev_seqR, ↓ev_seqL, ↓ev_bOf, ↓ev_toB, ↓ev_bTru, ↓ev_bYes, ↓ev_bAnd, ↓ev_bOr, ↓ev_bNot, ↓ev_eAnd, ↓ev_eOr, ↓ev_eNot, ↓ev_eIf, ↓ev_chain, ↓ev_u, ↓ev_uq, ↓ev_lOf, ↓ev_cat, ↓ev_call, ↓ev_addI, ↓ev_addS, ↓ev_addT, ↓ev_sub, ↓ev_mul, ↓ev_fdiv, ↓ev_mod, ↓ev_pow, ↓ev_neg, ↓ev_negI, ↓ev_cmp, ↓ev_eqI, ↓ev_eqS, ↓ev_eqB, ↓ev_isN, ↓ev_isI, ↓ev_isB, ↓ev_isS, ↓ev_isT, ↓ev_isL, ↓ev_truB, ↓ev_truN, ↓ev_truI, ↓ev_truT, ↓ev_ixS, ↓ev_ixT, ↓ev_ixR, ↓ev_ixL, ↓ev_lenS, ↓ev_lenT, ↓ev_lenR, ↓ev_lenL, ↓ev_abs, ↓ev_intI, ↓ev_intB, ↓ev_intS, ↓ev_strI, ↓ev_max, ↓ev_min, ↓ev_gcd, ↓ev_isi, ↓ev_all, ↓ev_any, ↓ev_sum, ↓ev_rg1, ↓ev_rg1I, ↓ev_lSl, ↓ev_slR, ↓ev_oNo, ↓ev_oIs, ↓ev_toI, ↓ev_eSl, ↓ev_slS, ↓ev_split, ↓ev_onStr, ↓ev_join, ↓ev_mulS, ↓ev_ext, ↓ev_onLoc, ↓ev_mt, ↓ev_app, ↓ev_lRev, ↓ev_revL, ↓sv_nx, ↓sv_seq, ↓sv_ret, ↓sv_retN, ↓sv_ex, ↓sv_if, ↓sv_set, ↓sv_par, ↓sv_put, ↓ev_run, ↓sv_loopK, ↓sv_for, ↓ev_iNew, ↓ev_iVal, ↓ev_srcT, ↓ev_srcR, ↓ev_srcS, ↓ev_srcL, ↓ev_rng1, ↓ev_rng1I, ↓ev_lComp, ↓sv_dput, ↓ev_in1, ↓ev_deI, ↓ev_deS, ↓ev_deB, ↓ev_dnI, ↓ev_dnS, ↓ev_dnB, ↓sv_okN, startL, List.map_cons, List.map_nil, List.length_cons, List.length_nil, Nat.reduceAdd, Nat.reduceSub, List.replicate, List.cons_append, List.nil_append, List.set_cons_zero, List.set_cons_succ, getL0, getLS, pick_nil, pick_one, true_and, and_self, List.append_nil, atI_0, atI_1, atI_2, atI_3, atI_4, ixN_0, ixN_1, ixN_2, ixN_3, List.getElem?_cons_zero, List.getElem?_cons_succ, Option.some.injEq, exists_eq_left', ite_true, ite_false, Bool.false_eq_true, if_true_b, if_false_b, dTy_n, dTy_b, dTy_i, dTy_s, dTy_t, dTy_r, dTy_l, decide_true, decide_false, Bool.not_true, Bool.not_false, decide_eq_true_eq, Bool.not_eq_true', decide_eq_false_iff_not, wipeL, Nat.zero_add, kit_ss, kit_is, kit_ns, kit_ts, kit_ls, kit_bs, kit_st, kit_it, kit_nt, kit_tt, kit_lt, kit_bt, kit_sl, kit_il, kit_nl, kit_tl, kit_ll, kit_bl, kit_si, kit_ii, kit_ni, kit_ti, kit_li, kit_bi, kit_sb, kit_ib, kit_nb, kit_tb, kit_lb, kit_bb]
  refine ⟨log_small h, [], rfl, by decide, ?_⟩
  have hl : ((toString a : String) : Str).length ≤ 1921 := int_text_len_1921 (log_small h)
  refine ⟨by show _ + 0 ≤ _; have : sizeLine = 16777216 := by decide
             omega, congrArg D.str ?_⟩
  rw [app_empty, str_itx]
theorem itx_neg {a : Int} (h : a < 0) : itx a = 45 :: itx (0 - a) := by
  unfold itx
  rw [if_pos h, if_neg (by omega)]
  congr 2
  omega
theorem integer_text_ok (a : Int) (h : a.natAbs < 10 ^ 300) : Ev (m_integer_text 3 [.int a] []) fun d _ => d = .str (mkS (itx a)) := by
  by_cases h0 : 0 ≤ a
  · exact integer_text_nn 2 a h0 h
  · unfold m_integer_text b_integer_text
    simp -implicitDefEqProofs only [↓ev_srcI, ↓ev_srcN, ↓ev_optS, ↓ev_ok, ↓ev_bind, ↓ev_eC, ↓ev_v0, ↓ev_vS, ↓ev_bin, ↓ev_aNil, ↓ev_aCons, ↓ev_tup, ↓ev_disp, ↓ev_new, ↓ev_seq, ↓ev_seqT, ↓ev_seqR, ↓ev_seqL, ↓ev_bOf, ↓ev_toB, ↓ev_bTru, ↓ev_bYes, ↓ev_bAnd, ↓ev_bOr, ↓ev_bNot, ↓ev_eAnd, ↓ev_eOr, ↓ev_eNot, ↓ev_eIf, ↓ev_chain, ↓ev_u, ↓ev_uq, ↓ev_lOf, ↓ev_cat, ↓ev_call, ↓ev_addI, ↓ev_addS, ↓ev_addT, ↓ev_sub, ↓ev_mul, ↓ev_fdiv, ↓ev_mod, ↓ev_pow, ↓ev_neg, ↓ev_negI, ↓ev_cmp, ↓ev_eqI, ↓ev_eqS, ↓ev_eqB, ↓ev_isN, ↓ev_isI, ↓ev_isB, ↓ev_isS, ↓ev_isT, ↓ev_isL, ↓ev_truB, ↓ev_truN, ↓ev_truI, ↓ev_truT, ↓ev_ixS, ↓ev_ixT, ↓ev_ixR, ↓ev_ixL, ↓ev_lenS, ↓ev_lenT, ↓ev_lenR, ↓ev_lenL, ↓ev_abs, ↓ev_intI, ↓ev_intB, ↓ev_intS, ↓ev_strI, ↓ev_max, ↓ev_min, ↓ev_gcd, ↓ev_isi, ↓ev_all, ↓ev_any, ↓ev_sum, ↓ev_rg1, ↓ev_rg1I, ↓ev_lSl, ↓ev_slR, ↓ev_oNo, ↓ev_oIs, ↓ev_toI, ↓ev_eSl, ↓ev_slS, ↓ev_split, ↓ev_onStr, ↓ev_join, ↓ev_mulS, ↓ev_ext, ↓ev_onLoc, ↓ev_mt, ↓ev_app, ↓ev_lRev, ↓ev_revL, ↓sv_nx, ↓sv_seq, ↓sv_ret, ↓sv_retN, ↓sv_ex, ↓sv_if, ↓sv_set, ↓sv_par, ↓sv_put, ↓ev_run, ↓sv_loopK, ↓sv_for, ↓ev_iNew, ↓ev_iVal, ↓ev_srcT, ↓ev_srcR, ↓ev_srcS, ↓ev_srcL, ↓ev_rng1, ↓ev_rng1I, ↓ev_lComp, ↓sv_dput, ↓ev_in1, ↓ev_deI, ↓ev_deS, ↓ev_deB, ↓ev_dnI, ↓ev_dnS, ↓ev_dnB, ↓sv_okN, startL, List.map_cons, List.map_nil, List.length_cons, List.length_nil, Nat.reduceAdd, Nat.reduceSub, List.replicate, List.cons_append, List.nil_append, List.set_cons_zero, List.set_cons_succ, getL0, getLS, pick_nil, pick_one, true_and, and_self, List.append_nil, atI_0, atI_1, atI_2, atI_3, atI_4, ixN_0, ixN_1, ixN_2, ixN_3, List.getElem?_cons_zero, List.getElem?_cons_succ, Option.some.injEq, exists_eq_left', ite_true, ite_false, Bool.false_eq_true, if_true_b, if_false_b, dTy_n, dTy_b, dTy_i, dTy_s, dTy_t, dTy_r, dTy_l, decide_true, decide_false, Bool.not_true, Bool.not_false, decide_eq_true_eq, Bool.not_eq_true', decide_eq_false_iff_not, wipeL, Nat.zero_add, kit_ss, kit_is, kit_ns, kit_ts, kit_ls, kit_bs, kit_st, kit_it, kit_nt, kit_tt, kit_lt, kit_bt, kit_sl, kit_il, kit_nl, kit_tl, kit_ll, kit_bl, kit_si, kit_ii, kit_ni, kit_ti, kit_li, kit_bi, kit_sb, kit_ib, kit_nb, kit_tb, kit_lb, kit_bb]
    rw [if_pos (by omega)]
    unfold c_MINUS
    refine lm_closed rfl (ev_mono (integer_text_nn 1 (0 - a) (by omega) (by omega)) ?_)
    rintro _ _ rfl
    refine ⟨rfl, ?_⟩
    simp -implicitDefEqProofs only [↓ev_srcI, ↓ev_srcN, ↓ev_optS, ↓ev_ok, ↓ev_bind, ↓ev_eC, ↓ev_v0, ↓ev_vS, ↓ev_bin, ↓ev_aNil, ↓ev_aCons, ↓ev_tup, ↓ev_disp, ↓ev_new, ↓ev_seq, ↓ev_seqT, ↓ev_seqR, ↓ev_seqL, ↓ev_bOf, ↓ev_toB, ↓ev_bTru, ↓ev_bYes, ↓ev_bAnd, ↓ev_bOr, ↓ev_bNot, ↓ev_eAnd, ↓ev_eOr, ↓ev_eNot, ↓ev_eIf, ↓ev_chain, ↓ev_u, ↓ev_uq, ↓ev_lOf, ↓ev_cat, ↓ev_call, ↓ev_addI, ↓ev_addS, ↓ev_addT, ↓ev_sub, ↓ev_mul, ↓ev_fdiv, ↓ev_mod, ↓ev_pow, ↓ev_neg, ↓ev_negI, ↓ev_cmp, ↓ev_eqI, ↓ev_eqS, ↓ev_eqB, ↓ev_isN, ↓ev_isI, ↓ev_isB, ↓ev_isS, ↓ev_isT, ↓ev_isL, ↓ev_truB, ↓ev_truN, ↓ev_truI, ↓ev_truT, ↓ev_ixS, ↓ev_ixT, ↓ev_ixR, ↓ev_ixL, ↓ev_lenS, ↓ev_lenT, ↓ev_lenR, ↓ev_lenL, ↓ev_abs, ↓ev_intI, ↓ev_intB, ↓ev_intS, ↓ev_strI, ↓ev_max, ↓ev_min, ↓ev_gcd, ↓ev_isi, ↓ev_all, ↓ev_any, ↓ev_sum, ↓ev_rg1, ↓ev_rg1I, ↓ev_lSl, ↓ev_slR, ↓ev_oNo, ↓ev_oIs, ↓ev_toI, ↓ev_eSl, ↓ev_slS, ↓ev_split, ↓ev_onStr, ↓ev_join, ↓ev_mulS, ↓ev_ext, ↓ev_onLoc, ↓ev_mt, ↓ev_app, ↓ev_lRev, ↓ev_revL, ↓sv_nx, ↓sv_seq, ↓sv_ret, ↓sv_retN, ↓sv_ex, ↓sv_if, ↓sv_set, ↓sv_par, ↓sv_put, ↓ev_run, ↓sv_loopK, ↓sv_for, ↓ev_iNew, ↓ev_iVal, ↓ev_srcT, ↓ev_srcR, ↓ev_srcS, ↓ev_srcL, ↓ev_rng1, ↓ev_rng1I, ↓ev_lComp, ↓sv_dput, ↓ev_in1, ↓ev_deI, ↓ev_deS, ↓ev_deB, ↓ev_dnI, ↓ev_dnS, ↓ev_dnB, ↓sv_okN, startL, List.map_cons, List.map_nil, List.length_cons, List.length_nil, Nat.reduceAdd, Nat.reduceSub, List.replicate, List.cons_append, List.nil_append, List.set_cons_zero, List.set_cons_succ, getL0, getLS, pick_nil, pick_one, true_and, and_self, List.append_nil, atI_0, atI_1, atI_2, atI_3, atI_4, ixN_0, ixN_1, ixN_2, ixN_3, List.getElem?_cons_zero, List.getElem?_cons_succ, Option.some.injEq, exists_eq_left', ite_true, ite_false, Bool.false_eq_true, if_true_b, if_false_b, dTy_n, dTy_b, dTy_i, dTy_s, dTy_t, dTy_r, dTy_l, decide_true, decide_false, Bool.not_true, Bool.not_false, decide_eq_true_eq, Bool.not_eq_true', decide_eq_false_iff_not, wipeL, Nat.zero_add, kit_ss, kit_is, kit_ns, kit_ts, kit_ls, kit_bs, kit_st, kit_it, kit_nt, kit_tt, kit_lt, kit_bt, kit_sl, kit_il, kit_nl, kit_tl, kit_ll, kit_bl, kit_si, kit_ii, kit_ni, kit_ti, kit_li, kit_bi, kit_sb, kit_ib, kit_nb, kit_tb, kit_lb, kit_bb]
    have hm : (Str.ofString "-") = mkS [45] := by apply str_ext; decide +kernel
    have hl : (mkS (itx (0 - a))).length ≤ 1921 := by
      rw [← str_itx]
      exact int_text_len_1921 (log_small (by omega))
    rw [hm, mkS_app]
    rw [mkS_len] at hl
    refine ⟨by rw [mkS_len, mkS_len, List.length_singleton]; have : sizeLine = 16777216 := by decide
               omega, congrArg D.str ?_⟩
    rw [itx_neg (show a < 0 by omega)]; rfl
def ftx (a b : Int) : List Nat := if b = 1 then itx a else itx a ++ 47 :: itx b
theorem fraction_text_ok (a b : Int) (h : a.natAbs < 10 ^ 300) (h2 : b.natAbs < 10 ^ 300) : Ev (m_fraction_text [.tup [.int a, .int b]] []) fun d _ => d = .str (mkS (ftx a b)) := by
  unfold m_fraction_text b_fraction_text
  simp -implicitDefEqProofs only [↓ev_srcI, ↓ev_srcN, ↓ev_optS, ↓ev_ok, ↓ev_bind, ↓ev_eC, ↓ev_v0, ↓ev_vS, ↓ev_bin, ↓ev_aNil, ↓ev_aCons, ↓ev_tup, ↓ev_disp, ↓ev_new, ↓ev_seq, ↓ev_seqT, ↓ev_seqR, ↓ev_seqL, ↓ev_bOf, ↓ev_toB, ↓ev_bTru, ↓ev_bYes, ↓ev_bAnd, ↓ev_bOr, ↓ev_bNot, ↓ev_eAnd, ↓ev_eOr, ↓ev_eNot, ↓ev_eIf, ↓ev_chain, ↓ev_u, ↓ev_uq, ↓ev_lOf, ↓ev_cat, ↓ev_call, ↓ev_addI, ↓ev_addS, ↓ev_addT, ↓ev_sub, ↓ev_mul, ↓ev_fdiv, ↓ev_mod, ↓ev_pow, ↓ev_neg, ↓ev_negI, ↓ev_cmp, ↓ev_eqI, ↓ev_eqS, ↓ev_eqB, ↓ev_isN, ↓ev_isI, ↓ev_isB, ↓ev_isS, ↓ev_isT, ↓ev_isL, ↓ev_truB, ↓ev_truN, ↓ev_truI, ↓ev_truT, ↓ev_ixS, ↓ev_ixT, ↓ev_ixR, ↓ev_ixL, ↓ev_lenS, ↓ev_lenT, ↓ev_lenR, ↓ev_lenL, ↓ev_abs, ↓ev_intI, ↓ev_intB, ↓ev_intS, ↓ev_strI, ↓ev_max, ↓ev_min, ↓ev_gcd, ↓ev_isi, ↓ev_all, ↓ev_any, ↓ev_sum, ↓ev_rg1, ↓ev_rg1I, ↓ev_lSl, ↓ev_slR, ↓ev_oNo, ↓ev_oIs, ↓ev_toI, ↓ev_eSl, ↓ev_slS, ↓ev_split, ↓ev_onStr, ↓ev_join, ↓ev_mulS, ↓ev_ext, ↓ev_onLoc, ↓ev_mt, ↓ev_app, ↓ev_lRev, ↓ev_revL, ↓sv_nx, ↓sv_seq, ↓sv_ret, ↓sv_retN, ↓sv_ex, ↓sv_if, ↓sv_set, ↓sv_par, ↓sv_put, ↓ev_run, ↓sv_loopK, ↓sv_for, ↓ev_iNew, ↓ev_iVal, ↓ev_srcT, ↓ev_srcR, ↓ev_srcS, ↓ev_srcL, ↓ev_rng1, ↓ev_rng1I, ↓ev_lComp, ↓sv_dput, ↓ev_in1, ↓ev_deI, ↓ev_deS, ↓ev_deB, ↓ev_dnI, ↓ev_dnS, ↓ev_dnB, ↓sv_okN, startL, List.map_cons, List.map_nil, List.length_cons, List.length_nil, Nat.reduceAdd, Nat.reduceSub, List.replicate, List.cons_append, List.nil_append, List.set_cons_zero, List.set_cons_succ, getL0, getLS, pick_nil, pick_one, true_and, and_self, List.append_nil, atI_0, atI_1, atI_2, atI_3, atI_4, ixN_0, ixN_1, ixN_2, ixN_3, List.getElem?_cons_zero, List.getElem?_cons_succ, Option.some.injEq, exists_eq_left', ite_true, ite_false, Bool.false_eq_true, if_true_b, if_false_b, dTy_n, dTy_b, dTy_i, dTy_s, dTy_t, dTy_r, dTy_l, decide_true, decide_false, Bool.not_true, Bool.not_false, decide_eq_true_eq, Bool.not_eq_true', decide_eq_false_iff_not, wipeL, Nat.zero_add, kit_ss, kit_is, kit_ns, kit_ts, kit_ls, kit_bs, kit_st, kit_it, kit_nt, kit_tt, kit_lt, kit_bt, kit_sl, kit_il, kit_nl, kit_tl, kit_ll, kit_bl, kit_si, kit_ii, kit_ni, kit_ti, kit_li, kit_bi, kit_sb, kit_ib, kit_nb, kit_tb, kit_lb, kit_bb]
  unfold ftx
  have hl : ∀ a : Int, a.natAbs < 10 ^ 300 → (mkS (itx a)).length ≤ 1921 := fun a h => by
    rw [← str_itx]
    exact int_text_len_1921 (log_small h)
  have hs : sizeLine = 16777216 := by decide
  by_cases hb : b = 1
  · rw [if_pos hb, if_pos hb]
    refine lm_closed rfl (ev_mono (integer_text_ok a h) ?_)
    rintro _ _ rfl
    exact ⟨rfl, rfl⟩
  · rw [if_neg hb, if_neg hb]
    refine lm_closed rfl (ev_mono (integer_text_ok a h) ?_)
    rintro _ _ rfl
    refine ⟨rfl, ?_⟩
    unfold c_STROKE
    simp -implicitDefEqProofs only [↓ev_srcI, ↓ev_srcN, ↓ev_optS, ↓ev_ok, ↓ev_bind, ↓ev_eC, ↓ev_v0, ↓ev_vS, ↓ev_bin, ↓ev_aNil, ↓ev_aCons, ↓ev_tup, ↓ev_disp, ↓ev_new, ↓ev_seq, ↓ev_seqT, ↓ev_seqR, ↓ev_seqL, ↓ev_bOf, ↓ev_toB, ↓ev_bTru, ↓ev_bYes, ↓ev_bAnd, ↓ev_bOr, ↓ev_bNot, ↓ev_eAnd, ↓ev_eOr, ↓ev_eNot, ↓ev_eIf, ↓ev_chain, ↓ev_u, ↓ev_uq, ↓ev_lOf, ↓ev_cat, ↓ev_call, ↓ev_addI, ↓ev_addS, ↓ev_addT, ↓ev_sub, ↓ev_mul, ↓ev_fdiv, ↓ev_mod, ↓ev_pow, ↓ev_neg, ↓ev_negI, ↓ev_cmp, ↓ev_eqI, ↓ev_eqS, ↓ev_eqB, ↓ev_isN, ↓ev_isI, ↓ev_isB, ↓ev_isS, ↓ev_isT, ↓ev_isL, ↓ev_truB, ↓ev_truN, ↓ev_truI, ↓ev_truT, ↓ev_ixS, ↓ev_ixT, ↓ev_ixR, ↓ev_ixL, ↓ev_lenS, ↓ev_lenT, ↓ev_lenR, ↓ev_lenL, ↓ev_abs, ↓ev_intI, ↓ev_intB, ↓ev_intS, ↓ev_strI, ↓ev_max, ↓ev_min, ↓ev_gcd, ↓ev_isi, ↓ev_all, ↓ev_any, ↓ev_sum, ↓ev_rg1, ↓ev_rg1I, ↓ev_lSl, ↓ev_slR, ↓ev_oNo, ↓ev_oIs, ↓ev_toI, ↓ev_eSl, ↓ev_slS, ↓ev_split, ↓ev_onStr, ↓ev_join, ↓ev_mulS, ↓ev_ext, ↓ev_onLoc, ↓ev_mt, ↓ev_app, ↓ev_lRev, ↓ev_revL, ↓sv_nx, ↓sv_seq, ↓sv_ret, ↓sv_retN, ↓sv_ex, ↓sv_if, ↓sv_set, ↓sv_par, ↓sv_put, ↓ev_run, ↓sv_loopK, ↓sv_for, ↓ev_iNew, ↓ev_iVal, ↓ev_srcT, ↓ev_srcR, ↓ev_srcS, ↓ev_srcL, ↓ev_rng1, ↓ev_rng1I, ↓ev_lComp, ↓sv_dput, ↓ev_in1, ↓ev_deI, ↓ev_deS, ↓ev_deB, ↓ev_dnI, ↓ev_dnS, ↓ev_dnB, ↓sv_okN, startL, List.map_cons, List.map_nil, List.length_cons, List.length_nil, Nat.reduceAdd, Nat.reduceSub, List.replicate, List.cons_append, List.nil_append, List.set_cons_zero, List.set_cons_succ, getL0, getLS, pick_nil, pick_one, true_and, and_self, List.append_nil, atI_0, atI_1, atI_2, atI_3, atI_4, ixN_0, ixN_1, ixN_2, ixN_3, List.getElem?_cons_zero, List.getElem?_cons_succ, Option.some.injEq, exists_eq_left', ite_true, ite_false, Bool.false_eq_true, if_true_b, if_false_b, dTy_n, dTy_b, dTy_i, dTy_s, dTy_t, dTy_r, dTy_l, decide_true, decide_false, Bool.not_true, Bool.not_false, decide_eq_true_eq, Bool.not_eq_true', decide_eq_false_iff_not, wipeL, Nat.zero_add, kit_ss, kit_is, kit_ns, kit_ts, kit_ls, kit_bs, kit_st, kit_it, kit_nt, kit_tt, kit_lt, kit_bt, kit_sl, kit_il, kit_nl, kit_tl, kit_ll, kit_bl, kit_si, kit_ii, kit_ni, kit_ti, kit_li, kit_bi, kit_sb, kit_ib, kit_nb, kit_tb, kit_lb, kit_bb]
    have hm : (Str.ofString "/") = mkS [47] := by apply str_ext; decide +kernel
    rw [hm, mkS_app]
    have l1 := hl a h
    have l2 := hl b h2
    rw [mkS_len] at l1 l2
    refine ⟨by rw [mkS_len, mkS_len]; simp; omega, lm_closed rfl (ev_mono (integer_text_ok b h2) ?_)⟩
    rintro _ _ rfl
    refine ⟨rfl, ?_⟩
    simp -implicitDefEqProofs only [↓ev_srcI, ↓ev_srcN, ↓ev_optS, ↓ev_ok, ↓ev_bind, ↓ev_eC, ↓ev_v0, ↓ev_vS, ↓ev_bin, ↓ev_aNil, ↓ev_aCons, ↓ev_tup, ↓ev_disp, ↓ev_new, ↓ev_seq, ↓ev_seqT, ↓ev_seqR, ↓ev_seqL, ↓ev_bOf, ↓ev_toB, ↓ev_bTru, ↓ev_bYes, ↓ev_bAnd, ↓ev_bOr, ↓ev_bNot, ↓ev_eAnd, ↓ev_eOr, ↓ev_eNot, ↓ev_eIf, ↓ev_chain, ↓ev_u, ↓ev_uq, ↓ev_lOf, ↓ev_cat, ↓ev_call, ↓ev_addI, ↓ev_addS, ↓ev_addT, ↓ev_sub, ↓ev_mul, ↓ev_fdiv, ↓ev_mod, ↓ev_pow, ↓ev_neg, ↓ev_negI, ↓ev_cmp, ↓ev_eqI, ↓ev_eqS, ↓ev_eqB, ↓ev_isN, ↓ev_isI, ↓ev_isB, ↓ev_isS, ↓ev_isT, ↓ev_isL, ↓ev_truB, ↓ev_truN, ↓ev_truI, ↓ev_truT, ↓ev_ixS, ↓ev_ixT, ↓ev_ixR, ↓ev_ixL, ↓ev_lenS, ↓ev_lenT, ↓ev_lenR, ↓ev_lenL, ↓ev_abs, ↓ev_intI, ↓ev_intB, ↓ev_intS, ↓ev_strI, ↓ev_max, ↓ev_min, ↓ev_gcd, ↓ev_isi, ↓ev_all, ↓ev_any, ↓ev_sum, ↓ev_rg1, ↓ev_rg1I, ↓ev_lSl, ↓ev_slR, ↓ev_oNo, ↓ev_oIs, ↓ev_toI, ↓ev_eSl, ↓ev_slS, ↓ev_split, ↓ev_onStr, ↓ev_join, ↓ev_mulS, ↓ev_ext, ↓ev_onLoc, ↓ev_mt, ↓ev_app, ↓ev_lRev, ↓ev_revL, ↓sv_nx, ↓sv_seq, ↓sv_ret, ↓sv_retN, ↓sv_ex, ↓sv_if, ↓sv_set, ↓sv_par, ↓sv_put, ↓ev_run, ↓sv_loopK, ↓sv_for, ↓ev_iNew, ↓ev_iVal, ↓ev_srcT, ↓ev_srcR, ↓ev_srcS, ↓ev_srcL, ↓ev_rng1, ↓ev_rng1I, ↓ev_lComp, ↓sv_dput, ↓ev_in1, ↓ev_deI, ↓ev_deS, ↓ev_deB, ↓ev_dnI, ↓ev_dnS, ↓ev_dnB, ↓sv_okN, startL, List.map_cons, List.map_nil, List.length_cons, List.length_nil, Nat.reduceAdd, Nat.reduceSub, List.replicate, List.cons_append, List.nil_append, List.set_cons_zero, List.set_cons_succ, getL0, getLS, pick_nil, pick_one, true_and, and_self, List.append_nil, atI_0, atI_1, atI_2, atI_3, atI_4, ixN_0, ixN_1, ixN_2, ixN_3, List.getElem?_cons_zero, List.getElem?_cons_succ, Option.some.injEq, exists_eq_left', ite_true, ite_false, Bool.false_eq_true, if_true_b, if_false_b, dTy_n, dTy_b, dTy_i, dTy_s, dTy_t, dTy_r, dTy_l, decide_true, decide_false, Bool.not_true, Bool.not_false, decide_eq_true_eq, Bool.not_eq_true', decide_eq_false_iff_not, wipeL, Nat.zero_add, kit_ss, kit_is, kit_ns, kit_ts, kit_ls, kit_bs, kit_st, kit_it, kit_nt, kit_tt, kit_lt, kit_bt, kit_sl, kit_il, kit_nl, kit_tl, kit_ll, kit_bl, kit_si, kit_ii, kit_ni, kit_ti, kit_li, kit_bi, kit_sb, kit_ib, kit_nb, kit_tb, kit_lb, kit_bb]
    rw [mkS_app]
    refine ⟨by rw [mkS_len, mkS_len]; simp; omega, congrArg D.str ?_⟩
    simp
theorem itx_free {c : Nat} (h1 : c ≠ 45) (h2 : isFig c = false) (a : Int) : c ∉ itx a := by
  have hd : c ∉ dig a.natAbs := fun h => by
    have := dig_all _ c h
    unfold isFig at h2
    rw [decide_eq_true this.1, decide_eq_true this.2] at h2
    cases h2
  unfold itx
  split
  · intro h
    rcases List.mem_cons.mp h with h | h
    · exact h1 h
    · exact hd h
  · exact hd
theorem sp_itx (a : Int) (l r : List Nat) (hl : 47 ∉ l) : splA 47 [] (l ++ (itx a ++ 47 :: r)) = (l ++ itx a) :: splA 47 [] r := by
  rw [← List.append_assoc, splA_cut (by
    intro h
    rcases List.mem_append.mp h with h | h
    · exact hl h
    · exact itx_free (by decide) (by decide) a h)]
  rfl
theorem sp_end (l : List Nat) (hl : 47 ∉ l) : splA 47 [] l = [l] := by
  rw [splA_free hl]; rfl
theorem ff (a : Int) : 47 ∉ itx a := itx_free (by decide) (by decide) a
theorem rdF_ftx {a b : Int} (h : a.natAbs < 10 ^ 300) (h0 : 1 ≤ b) (h1 : b < 1000) (hg : Int.gcd a b = 1) : rdF (ftx a b) = some (a, b) := by
  have hb : b.natAbs < 10 ^ 300 := by
    have : (1000 : Nat) < 10 ^ 300 := by decide +kernel
    omega
  unfold rdF ftx
  by_cases e : b = 1
  · subst e
    rw [if_pos rfl, sp_end _ (ff a)]
    show rdG [rdI (itx a)] = _
    rw [rdI_itx h]; rfl
  · rw [if_neg e]
    have := sp_itx a [] (itx b) (by simp)
    rw [List.nil_append, List.nil_append] at this
    rw [this, sp_end _ (ff b)]
    show rdG [rdI (itx a), rdI (itx b)] = _
    rw [rdI_itx h, rdI_itx hb]
    show (if 1 < b ∧ Int.gcd a b = 1 then some (a, b) else none) = _
    rw [if_pos ⟨by omega, hg⟩]
theorem rdI_bad {c : Nat} {x : List Nat} (h1 : c ≠ 45) (h2 : isFig c = false) : rdI (c :: x) = none := by
  have e : figs (c :: x) = c :: x := by
    unfold figs
    rw [if_neg (show ¬ List.take 1 (c :: x) = [45] from fun z => h1 (by injection z))]
  unfold rdI
  rw [e, List.all_cons, h2, if_neg (by simp)]
theorem rdI_zero (a : Int) : rdI (48 :: itx a) = none := by
  have e : figs (48 :: itx a) = 48 :: itx a := by
    unfold figs
    rw [if_neg (show ¬ List.take 1 (48 :: itx a) = [45] from fun z => by injection z with z _; revert z; decide)]
  have hn : 1 ≤ (itx a).length := by
    unfold itx
    split
    · simp
    · have := dig_ne a.natAbs
      cases h : dig a.natAbs with
      | nil => exact absurd h this
      | cons c r => simp
  unfold rdI
  rw [e]
  split
  · rw [if_pos ⟨rfl, .inl (by simp; omega)⟩]
  · rfl
theorem pre_none {p : List Nat} (hp : 47 ∉ p) (hz : ∀ a : Int, rdI (p ++ itx a) = none) (a b : Int) : rdF (p ++ ftx a b) = none := by
  unfold rdF ftx
  by_cases e : b = 1
  · rw [if_pos e, sp_end _ (by
      intro h
      rcases List.mem_append.mp h with h | h
      · exact hp h
      · exact ff a h)]
    show rdG [rdI (p ++ itx a)] = _
    rw [hz a]; rfl
  · rw [if_neg e, sp_itx a p (itx b) hp, sp_end _ (ff b)]
    show rdG [rdI (p ++ itx a), _] = _
    rw [hz a]; rfl
theorem post_none {c : Nat} {n : Int} (hc : c ≠ 47) (hn : rdI [c] = some n) (h1 : n ≤ 1) (a b : Int) (h : a.natAbs < 10 ^ 300) : rdF (ftx a b ++ [47, c]) = none := by
  have h4 : 47 ∉ [c] := by simp; omega
  unfold rdF ftx
  by_cases e : b = 1
  · rw [if_pos e]
    have := sp_itx a [] [c] (by simp)
    rw [List.nil_append, List.nil_append] at this
    rw [this, sp_end _ h4]
    show rdG [rdI (itx a), rdI [c]] = _
    rw [rdI_itx h, hn]
    show (if 1 < n ∧ Int.gcd a n = 1 then some (a, n) else none) = none
    rw [if_neg (fun z => by omega)]
  · rw [if_neg e, List.append_assoc]
    have := sp_itx a [] (itx b ++ [47, c]) (by simp)
    rw [List.nil_append, List.nil_append] at this
    rw [List.cons_append, this]
    have := sp_itx b [] [c] (by simp)
    rw [List.nil_append, List.nil_append] at this
    rw [this, sp_end _ h4]
    rfl
theorem read_fraction_o {d : D} {t : String} (h1 : dTy d = some t) (h2 : kitB t "str" = some false) : Ev (m_read_fraction [d] []) fun d _ => d = .non := by
  unfold m_read_fraction b_read_fraction
  simp -implicitDefEqProofs only [↓ev_srcI, ↓ev_srcN, ↓ev_optS, ↓ev_ok, ↓ev_bind, ↓ev_eC, ↓ev_v0, ↓ev_vS, ↓ev_bin, ↓ev_aNil, ↓ev_aCons, ↓ev_tup, ↓ev_disp, ↓ev_new, ↓ev_seq, ↓ev_seqT, ↓ev_seqR, ↓ev_seqL, ↓ev_bOf, ↓ev_toB, ↓ev_bTru, ↓ev_bYes, ↓ev_bAnd, ↓ev_bOr, ↓ev_bNot, ↓ev_eAnd, ↓ev_eOr, ↓ev_eNot, ↓ev_eIf, ↓ev_chain, ↓ev_u, ↓ev_uq, ↓ev_lOf, ↓ev_cat, ↓ev_call, ↓ev_addI, ↓ev_addS, ↓ev_addT, ↓ev_sub, ↓ev_mul, ↓ev_fdiv, ↓ev_mod, ↓ev_pow, ↓ev_neg, ↓ev_negI, ↓ev_cmp, ↓ev_eqI, ↓ev_eqS, ↓ev_eqB, ↓ev_isN, ↓ev_isI, ↓ev_isB, ↓ev_isS, ↓ev_isT, ↓ev_isL, ↓ev_truB, ↓ev_truN, ↓ev_truI, ↓ev_truT, ↓ev_ixS, ↓ev_ixT, ↓ev_ixR, ↓ev_ixL, ↓ev_lenS, ↓ev_lenT, ↓ev_lenR, ↓ev_lenL, ↓ev_abs, ↓ev_intI, ↓ev_intB, ↓ev_intS, ↓ev_strI, ↓ev_max, ↓ev_min, ↓ev_gcd, ↓ev_isi, ↓ev_all, ↓ev_any, ↓ev_sum, ↓ev_rg1, ↓ev_rg1I, ↓ev_lSl, ↓ev_slR, ↓ev_oNo, ↓ev_oIs, ↓ev_toI, ↓ev_eSl, ↓ev_slS, ↓ev_split, ↓ev_onStr, ↓ev_join, ↓ev_mulS, ↓ev_ext, ↓ev_onLoc, ↓ev_mt, ↓ev_app, ↓ev_lRev, ↓ev_revL, ↓sv_nx, ↓sv_seq, ↓sv_ret, ↓sv_retN, ↓sv_ex, ↓sv_if, ↓sv_set, ↓sv_par, ↓sv_put, ↓ev_run, ↓sv_loopK, ↓sv_for, ↓ev_iNew, ↓ev_iVal, ↓ev_srcT, ↓ev_srcR, ↓ev_srcS, ↓ev_srcL, ↓ev_rng1, ↓ev_rng1I, ↓ev_lComp, ↓sv_dput, ↓ev_in1, ↓ev_deI, ↓ev_deS, ↓ev_deB, ↓ev_dnI, ↓ev_dnS, ↓ev_dnB, ↓sv_okN, startL, List.map_cons, List.map_nil, List.length_cons, List.length_nil, Nat.reduceAdd, Nat.reduceSub, List.replicate, List.cons_append, List.nil_append, List.set_cons_zero, List.set_cons_succ, getL0, getLS, pick_nil, pick_one, true_and, and_self, List.append_nil, atI_0, atI_1, atI_2, atI_3, atI_4, ixN_0, ixN_1, ixN_2, ixN_3, List.getElem?_cons_zero, List.getElem?_cons_succ, Option.some.injEq, exists_eq_left', ite_true, ite_false, Bool.false_eq_true, if_true_b, if_false_b, dTy_n, dTy_b, dTy_i, dTy_s, dTy_t, dTy_r, dTy_l, decide_true, decide_false, Bool.not_true, Bool.not_false, decide_eq_true_eq, Bool.not_eq_true', decide_eq_false_iff_not, wipeL, Nat.zero_add, kit_ss, kit_is, kit_ns, kit_ts, kit_ls, kit_bs, kit_st, kit_it, kit_nt, kit_tt, kit_lt, kit_bt, kit_sl, kit_il, kit_nl, kit_tl, kit_ll, kit_bl, kit_si, kit_ii, kit_ni, kit_ti, kit_li, kit_bi, kit_sb, kit_ib, kit_nb, kit_tb, kit_lb, kit_bb]
  refine ⟨_, h1, _, h2, ?_⟩
  simp -implicitDefEqProofs only [↓ev_srcI, ↓ev_srcN, ↓ev_optS, ↓ev_ok, ↓ev_bind, ↓ev_eC, ↓ev_v0, ↓ev_vS, ↓ev_bin, ↓ev_aNil, ↓ev_aCons, ↓ev_tup, ↓ev_disp, ↓ev_new, ↓ev_seq, ↓ev_seqT, ↓ev_seqR, ↓ev_seqL, ↓ev_bOf, ↓ev_toB, ↓ev_bTru, ↓ev_bYes, ↓ev_bAnd, ↓ev_bOr, ↓ev_bNot, ↓ev_eAnd, ↓ev_eOr, ↓ev_eNot, ↓ev_eIf, ↓ev_chain, ↓ev_u, ↓ev_uq, ↓ev_lOf, ↓ev_cat, ↓ev_call, ↓ev_addI, ↓ev_addS, ↓ev_addT, ↓ev_sub, ↓ev_mul, ↓ev_fdiv, ↓ev_mod, ↓ev_pow, ↓ev_neg, ↓ev_negI, ↓ev_cmp, ↓ev_eqI, ↓ev_eqS, ↓ev_eqB, ↓ev_isN, ↓ev_isI, ↓ev_isB, ↓ev_isS, ↓ev_isT, ↓ev_isL, ↓ev_truB, ↓ev_truN, ↓ev_truI, ↓ev_truT, ↓ev_ixS, ↓ev_ixT, ↓ev_ixR, ↓ev_ixL, ↓ev_lenS, ↓ev_lenT, ↓ev_lenR, ↓ev_lenL, ↓ev_abs, ↓ev_intI, ↓ev_intB, ↓ev_intS, ↓ev_strI, ↓ev_max, ↓ev_min, ↓ev_gcd, ↓ev_isi, ↓ev_all, ↓ev_any, ↓ev_sum, ↓ev_rg1, ↓ev_rg1I, ↓ev_lSl, ↓ev_slR, ↓ev_oNo, ↓ev_oIs, ↓ev_toI, ↓ev_eSl, ↓ev_slS, ↓ev_split, ↓ev_onStr, ↓ev_join, ↓ev_mulS, ↓ev_ext, ↓ev_onLoc, ↓ev_mt, ↓ev_app, ↓ev_lRev, ↓ev_revL, ↓sv_nx, ↓sv_seq, ↓sv_ret, ↓sv_retN, ↓sv_ex, ↓sv_if, ↓sv_set, ↓sv_par, ↓sv_put, ↓ev_run, ↓sv_loopK, ↓sv_for, ↓ev_iNew, ↓ev_iVal, ↓ev_srcT, ↓ev_srcR, ↓ev_srcS, ↓ev_srcL, ↓ev_rng1, ↓ev_rng1I, ↓ev_lComp, ↓sv_dput, ↓ev_in1, ↓ev_deI, ↓ev_deS, ↓ev_deB, ↓ev_dnI, ↓ev_dnS, ↓ev_dnB, ↓sv_okN, startL, List.map_cons, List.map_nil, List.length_cons, List.length_nil, Nat.reduceAdd, Nat.reduceSub, List.replicate, List.cons_append, List.nil_append, List.set_cons_zero, List.set_cons_succ, getL0, getLS, pick_nil, pick_one, true_and, and_self, List.append_nil, atI_0, atI_1, atI_2, atI_3, atI_4, ixN_0, ixN_1, ixN_2, ixN_3, List.getElem?_cons_zero, List.getElem?_cons_succ, Option.some.injEq, exists_eq_left', ite_true, ite_false, Bool.false_eq_true, if_true_b, if_false_b, dTy_n, dTy_b, dTy_i, dTy_s, dTy_t, dTy_r, dTy_l, decide_true, decide_false, Bool.not_true, Bool.not_false, decide_eq_true_eq, Bool.not_eq_true', decide_eq_false_iff_not, wipeL, Nat.zero_add, kit_ss, kit_is, kit_ns, kit_ts, kit_ls, kit_bs, kit_st, kit_it, kit_nt, kit_tt, kit_lt, kit_bt, kit_sl, kit_il, kit_nl, kit_tl, kit_ll, kit_bl, kit_si, kit_ii, kit_ni, kit_ti, kit_li, kit_bi, kit_sb, kit_ib, kit_nb, kit_tb, kit_lb, kit_bb]
  refine ⟨by decide, ?_⟩
  unfold compL
  simp -implicitDefEqProofs only [↓ev_srcI, ↓ev_srcN, ↓ev_optS, ↓ev_ok, ↓ev_bind, ↓ev_eC, ↓ev_v0, ↓ev_vS, ↓ev_bin, ↓ev_aNil, ↓ev_aCons, ↓ev_tup, ↓ev_disp, ↓ev_new, ↓ev_seq, ↓ev_seqT, ↓ev_seqR, ↓ev_seqL, ↓ev_bOf, ↓ev_toB, ↓ev_bTru, ↓ev_bYes, ↓ev_bAnd, ↓ev_bOr, ↓ev_bNot, ↓ev_eAnd, ↓ev_eOr, ↓ev_eNot, ↓ev_eIf, ↓ev_chain, ↓ev_u, ↓ev_uq, ↓ev_lOf, ↓ev_cat, ↓ev_call, ↓ev_addI, ↓ev_addS, ↓ev_addT, ↓ev_sub, ↓ev_mul, ↓ev_fdiv, ↓ev_mod, ↓ev_pow, ↓ev_neg, ↓ev_negI, ↓ev_cmp, ↓ev_eqI, ↓ev_eqS, ↓ev_eqB, ↓ev_isN, ↓ev_isI, ↓ev_isB, ↓ev_isS, ↓ev_isT, ↓ev_isL, ↓ev_truB, ↓ev_truN, ↓ev_truI, ↓ev_truT, ↓ev_ixS, ↓ev_ixT, ↓ev_ixR, ↓ev_ixL, ↓ev_lenS, ↓ev_lenT, ↓ev_lenR, ↓ev_lenL, ↓ev_abs, ↓ev_intI, ↓ev_intB, ↓ev_intS, ↓ev_strI, ↓ev_max, ↓ev_min, ↓ev_gcd, ↓ev_isi, ↓ev_all, ↓ev_any, ↓ev_sum, ↓ev_rg1, ↓ev_rg1I, ↓ev_lSl, ↓ev_slR, ↓ev_oNo, ↓ev_oIs, ↓ev_toI, ↓ev_eSl, ↓ev_slS, ↓ev_split, ↓ev_onStr, ↓ev_join, ↓ev_mulS, ↓ev_ext, ↓ev_onLoc, ↓ev_mt, ↓ev_app, ↓ev_lRev, ↓ev_revL, ↓sv_nx, ↓sv_seq, ↓sv_ret, ↓sv_retN, ↓sv_ex, ↓sv_if, ↓sv_set, ↓sv_par, ↓sv_put, ↓ev_run, ↓sv_loopK, ↓sv_for, ↓ev_iNew, ↓ev_iVal, ↓ev_srcT, ↓ev_srcR, ↓ev_srcS, ↓ev_srcL, ↓ev_rng1, ↓ev_rng1I, ↓ev_lComp, ↓sv_dput, ↓ev_in1, ↓ev_deI, ↓ev_deS, ↓ev_deB, ↓ev_dnI, ↓ev_dnS, ↓ev_dnB, ↓sv_okN, startL, List.map_cons, List.map_nil, List.length_cons, List.length_nil, Nat.reduceAdd, Nat.reduceSub, List.replicate, List.cons_append, List.nil_append, List.set_cons_zero, List.set_cons_succ, getL0, getLS, pick_nil, pick_one, true_and, and_self, List.append_nil, atI_0, atI_1, atI_2, atI_3, atI_4, ixN_0, ixN_1, ixN_2, ixN_3, List.getElem?_cons_zero, List.getElem?_cons_succ, Option.some.injEq, exists_eq_left', ite_true, ite_false, Bool.false_eq_true, if_true_b, if_false_b, dTy_n, dTy_b, dTy_i, dTy_s, dTy_t, dTy_r, dTy_l, decide_true, decide_false, Bool.not_true, Bool.not_false, decide_eq_true_eq, Bool.not_eq_true', decide_eq_false_iff_not, wipeL, Nat.zero_add, kit_ss, kit_is, kit_ns, kit_ts, kit_ls, kit_bs, kit_st, kit_it, kit_nt, kit_tt, kit_lt, kit_bt, kit_sl, kit_il, kit_nl, kit_tl, kit_ll, kit_bl, kit_si, kit_ii, kit_ni, kit_ti, kit_li, kit_bi, kit_sb, kit_ib, kit_nb, kit_tb, kit_lb, kit_bb]
  rw [if_neg (by decide)]; trivial
theorem is_integer_bool (b : Bool) : Ev (m_is_integer [.bl b] []) fun d _ => d = .bl false := by
  unfold m_is_integer b_is_integer
  simp -implicitDefEqProofs only [↓ev_srcI, ↓ev_srcN, ↓ev_optS, ↓ev_ok, ↓ev_bind, ↓ev_eC, ↓ev_v0, ↓ev_vS, ↓ev_bin, ↓ev_aNil, ↓ev_aCons, ↓ev_tup, ↓ev_disp, ↓ev_new, ↓ev_seq, ↓ev_seqT, ↓ev_seqR, ↓ev_seqL, ↓ev_bOf, ↓ev_toB, ↓ev_bTru, ↓ev_bYes, ↓ev_bAnd, ↓ev_bOr, ↓ev_bNot, ↓ev_eAnd, ↓ev_eOr, ↓ev_eNot, ↓ev_eIf, ↓ev_chain, ↓ev_u, ↓ev_uq, ↓ev_lOf, ↓ev_cat, ↓ev_call, ↓ev_addI, ↓ev_addS, ↓ev_addT, ↓ev_sub, ↓ev_mul, ↓ev_fdiv, ↓ev_mod, ↓ev_pow, ↓ev_neg, ↓ev_negI, ↓ev_cmp, ↓ev_eqI, ↓ev_eqS, ↓ev_eqB, ↓ev_isN, ↓ev_isI, ↓ev_isB, ↓ev_isS, ↓ev_isT, ↓ev_isL, ↓ev_truB, ↓ev_truN, ↓ev_truI, ↓ev_truT, ↓ev_ixS, ↓ev_ixT, ↓ev_ixR, ↓ev_ixL, ↓ev_lenS, ↓ev_lenT, ↓ev_lenR, ↓ev_lenL, ↓ev_abs, ↓ev_intI, ↓ev_intB, ↓ev_intS, ↓ev_strI, ↓ev_max, ↓ev_min, ↓ev_gcd, ↓ev_isi, ↓ev_all, ↓ev_any, ↓ev_sum, ↓ev_rg1, ↓ev_rg1I, ↓ev_lSl, ↓ev_slR, ↓ev_oNo, ↓ev_oIs, ↓ev_toI, ↓ev_eSl, ↓ev_slS, ↓ev_split, ↓ev_onStr, ↓ev_join, ↓ev_mulS, ↓ev_ext, ↓ev_onLoc, ↓ev_mt, ↓ev_app, ↓ev_lRev, ↓ev_revL, ↓sv_nx, ↓sv_seq, ↓sv_ret, ↓sv_retN, ↓sv_ex, ↓sv_if, ↓sv_set, ↓sv_par, ↓sv_put, ↓ev_run, ↓sv_loopK, ↓sv_for, ↓ev_iNew, ↓ev_iVal, ↓ev_srcT, ↓ev_srcR, ↓ev_srcS, ↓ev_srcL, ↓ev_rng1, ↓ev_rng1I, ↓ev_lComp, ↓sv_dput, ↓ev_in1, ↓ev_deI, ↓ev_deS, ↓ev_deB, ↓ev_dnI, ↓ev_dnS, ↓ev_dnB, ↓sv_okN, startL, List.map_cons, List.map_nil, List.length_cons, List.length_nil, Nat.reduceAdd, Nat.reduceSub, List.replicate, List.cons_append, List.nil_append, List.set_cons_zero, List.set_cons_succ, getL0, getLS, pick_nil, pick_one, true_and, and_self, List.append_nil, atI_0, atI_1, atI_2, atI_3, atI_4, ixN_0, ixN_1, ixN_2, ixN_3, List.getElem?_cons_zero, List.getElem?_cons_succ, Option.some.injEq, exists_eq_left', ite_true, ite_false, Bool.false_eq_true, if_true_b, if_false_b, dTy_n, dTy_b, dTy_i, dTy_s, dTy_t, dTy_r, dTy_l, decide_true, decide_false, Bool.not_true, Bool.not_false, decide_eq_true_eq, Bool.not_eq_true', decide_eq_false_iff_not, wipeL, Nat.zero_add, kit_ss, kit_is, kit_ns, kit_ts, kit_ls, kit_bs, kit_st, kit_it, kit_nt, kit_tt, kit_lt, kit_bt, kit_sl, kit_il, kit_nl, kit_tl, kit_ll, kit_bl, kit_si, kit_ii, kit_ni, kit_ti, kit_li, kit_bi, kit_sb, kit_ib, kit_nb, kit_tb, kit_lb, kit_bb]
theorem frac_o {d : D} {t : String} (h1 : dTy d = some t) (h2 : kitB t "tuple" = some false) (h : Hm) : Ev (m_is_fraction [d] h) fun d h' => d = .bl false ∧ h' = h := by
  unfold m_is_fraction b_is_fraction
  simp -implicitDefEqProofs only [↓ev_srcI, ↓ev_srcN, ↓ev_optS, ↓ev_ok, ↓ev_bind, ↓ev_eC, ↓ev_v0, ↓ev_vS, ↓ev_bin, ↓ev_aNil, ↓ev_aCons, ↓ev_tup, ↓ev_disp, ↓ev_new, ↓ev_seq, ↓ev_seqT, ↓ev_seqR, ↓ev_seqL, ↓ev_bOf, ↓ev_toB, ↓ev_bTru, ↓ev_bYes, ↓ev_bAnd, ↓ev_bOr, ↓ev_bNot, ↓ev_eAnd, ↓ev_eOr, ↓ev_eNot, ↓ev_eIf, ↓ev_chain, ↓ev_u, ↓ev_uq, ↓ev_lOf, ↓ev_cat, ↓ev_call, ↓ev_addI, ↓ev_addS, ↓ev_addT, ↓ev_sub, ↓ev_mul, ↓ev_fdiv, ↓ev_mod, ↓ev_pow, ↓ev_neg, ↓ev_negI, ↓ev_cmp, ↓ev_eqI, ↓ev_eqS, ↓ev_eqB, ↓ev_isN, ↓ev_isI, ↓ev_isB, ↓ev_isS, ↓ev_isT, ↓ev_isL, ↓ev_truB, ↓ev_truN, ↓ev_truI, ↓ev_truT, ↓ev_ixS, ↓ev_ixT, ↓ev_ixR, ↓ev_ixL, ↓ev_lenS, ↓ev_lenT, ↓ev_lenR, ↓ev_lenL, ↓ev_abs, ↓ev_intI, ↓ev_intB, ↓ev_intS, ↓ev_strI, ↓ev_max, ↓ev_min, ↓ev_gcd, ↓ev_isi, ↓ev_all, ↓ev_any, ↓ev_sum, ↓ev_rg1, ↓ev_rg1I, ↓ev_lSl, ↓ev_slR, ↓ev_oNo, ↓ev_oIs, ↓ev_toI, ↓ev_eSl, ↓ev_slS, ↓ev_split, ↓ev_onStr, ↓ev_join, ↓ev_mulS, ↓ev_ext, ↓ev_onLoc, ↓ev_mt, ↓ev_app, ↓ev_lRev, ↓ev_revL, ↓sv_nx, ↓sv_seq, ↓sv_ret, ↓sv_retN, ↓sv_ex, ↓sv_if, ↓sv_set, ↓sv_par, ↓sv_put, ↓ev_run, ↓sv_loopK, ↓sv_for, ↓ev_iNew, ↓ev_iVal, ↓ev_srcT, ↓ev_srcR, ↓ev_srcS, ↓ev_srcL, ↓ev_rng1, ↓ev_rng1I, ↓ev_lComp, ↓sv_dput, ↓ev_in1, ↓ev_deI, ↓ev_deS, ↓ev_deB, ↓ev_dnI, ↓ev_dnS, ↓ev_dnB, ↓sv_okN, startL, List.map_cons, List.map_nil, List.length_cons, List.length_nil, Nat.reduceAdd, Nat.reduceSub, List.replicate, List.cons_append, List.nil_append, List.set_cons_zero, List.set_cons_succ, getL0, getLS, pick_nil, pick_one, true_and, and_self, List.append_nil, atI_0, atI_1, atI_2, atI_3, atI_4, ixN_0, ixN_1, ixN_2, ixN_3, List.getElem?_cons_zero, List.getElem?_cons_succ, Option.some.injEq, exists_eq_left', ite_true, ite_false, Bool.false_eq_true, if_true_b, if_false_b, dTy_n, dTy_b, dTy_i, dTy_s, dTy_t, dTy_r, dTy_l, decide_true, decide_false, Bool.not_true, Bool.not_false, decide_eq_true_eq, Bool.not_eq_true', decide_eq_false_iff_not, wipeL, Nat.zero_add, kit_ss, kit_is, kit_ns, kit_ts, kit_ls, kit_bs, kit_st, kit_it, kit_nt, kit_tt, kit_lt, kit_bt, kit_sl, kit_il, kit_nl, kit_tl, kit_ll, kit_bl, kit_si, kit_ii, kit_ni, kit_ti, kit_li, kit_bi, kit_sb, kit_ib, kit_nb, kit_tb, kit_lb, kit_bb]
  refine ⟨_, h1, _, h2, ?_⟩
  simp -implicitDefEqProofs only [↓ev_srcI, ↓ev_srcN, ↓ev_optS, ↓ev_ok, ↓ev_bind, ↓ev_eC, ↓ev_v0, ↓ev_vS, ↓ev_bin, ↓ev_aNil, ↓ev_aCons, ↓ev_tup, ↓ev_disp, ↓ev_new, ↓ev_seq, ↓ev_seqT, ↓ev_seqR, ↓ev_seqL, ↓ev_bOf, ↓ev_toB, ↓ev_bTru, ↓ev_bYes, ↓ev_bAnd, ↓ev_bOr, ↓ev_bNot, ↓ev_eAnd, ↓ev_eOr, ↓ev_eNot, ↓ev_eIf, ↓ev_chain, ↓ev_u, ↓ev_uq, ↓ev_lOf, ↓ev_cat, ↓ev_call, ↓ev_addI, ↓ev_addS, ↓ev_addT, ↓ev_sub, ↓ev_mul, ↓ev_fdiv, ↓ev_mod, ↓ev_pow, ↓ev_neg, ↓ev_negI, ↓ev_cmp, ↓ev_eqI, ↓ev_eqS, ↓ev_eqB, ↓ev_isN, ↓ev_isI, ↓ev_isB, ↓ev_isS, ↓ev_isT, ↓ev_isL, ↓ev_truB, ↓ev_truN, ↓ev_truI, ↓ev_truT, ↓ev_ixS, ↓ev_ixT, ↓ev_ixR, ↓ev_ixL, ↓ev_lenS, ↓ev_lenT, ↓ev_lenR, ↓ev_lenL, ↓ev_abs, ↓ev_intI, ↓ev_intB, ↓ev_intS, ↓ev_strI, ↓ev_max, ↓ev_min, ↓ev_gcd, ↓ev_isi, ↓ev_all, ↓ev_any, ↓ev_sum, ↓ev_rg1, ↓ev_rg1I, ↓ev_lSl, ↓ev_slR, ↓ev_oNo, ↓ev_oIs, ↓ev_toI, ↓ev_eSl, ↓ev_slS, ↓ev_split, ↓ev_onStr, ↓ev_join, ↓ev_mulS, ↓ev_ext, ↓ev_onLoc, ↓ev_mt, ↓ev_app, ↓ev_lRev, ↓ev_revL, ↓sv_nx, ↓sv_seq, ↓sv_ret, ↓sv_retN, ↓sv_ex, ↓sv_if, ↓sv_set, ↓sv_par, ↓sv_put, ↓ev_run, ↓sv_loopK, ↓sv_for, ↓ev_iNew, ↓ev_iVal, ↓ev_srcT, ↓ev_srcR, ↓ev_srcS, ↓ev_srcL, ↓ev_rng1, ↓ev_rng1I, ↓ev_lComp, ↓sv_dput, ↓ev_in1, ↓ev_deI, ↓ev_deS, ↓ev_deB, ↓ev_dnI, ↓ev_dnS, ↓ev_dnB, ↓sv_okN, startL, List.map_cons, List.map_nil, List.length_cons, List.length_nil, Nat.reduceAdd, Nat.reduceSub, List.replicate, List.cons_append, List.nil_append, List.set_cons_zero, List.set_cons_succ, getL0, getLS, pick_nil, pick_one, true_and, and_self, List.append_nil, atI_0, atI_1, atI_2, atI_3, atI_4, ixN_0, ixN_1, ixN_2, ixN_3, List.getElem?_cons_zero, List.getElem?_cons_succ, Option.some.injEq, exists_eq_left', ite_true, ite_false, Bool.false_eq_true, if_true_b, if_false_b, dTy_n, dTy_b, dTy_i, dTy_s, dTy_t, dTy_r, dTy_l, decide_true, decide_false, Bool.not_true, Bool.not_false, decide_eq_true_eq, Bool.not_eq_true', decide_eq_false_iff_not, wipeL, Nat.zero_add, kit_ss, kit_is, kit_ns, kit_ts, kit_ls, kit_bs, kit_st, kit_it, kit_nt, kit_tt, kit_lt, kit_bt, kit_sl, kit_il, kit_nl, kit_tl, kit_ll, kit_bl, kit_si, kit_ii, kit_ni, kit_ti, kit_li, kit_bi, kit_sb, kit_ib, kit_nb, kit_tb, kit_lb, kit_bb]
theorem frac_3 (a b c : D) : Ev (m_is_fraction [.tup [a, b, c]] []) fun d _ => d = .bl false := by
  unfold m_is_fraction b_is_fraction
  simp -implicitDefEqProofs only [↓ev_srcI, ↓ev_srcN, ↓ev_optS, ↓ev_ok, ↓ev_bind, ↓ev_eC, ↓ev_v0, ↓ev_vS, ↓ev_bin, ↓ev_aNil, ↓ev_aCons, ↓ev_tup, ↓ev_disp, ↓ev_new, ↓ev_seq, ↓ev_seqT, ↓ev_seqR, ↓ev_seqL, ↓ev_bOf, ↓ev_toB, ↓ev_bTru, ↓ev_bYes, ↓ev_bAnd, ↓ev_bOr, ↓ev_bNot, ↓ev_eAnd, ↓ev_eOr, ↓ev_eNot, ↓ev_eIf, ↓ev_chain, ↓ev_u, ↓ev_uq, ↓ev_lOf, ↓ev_cat, ↓ev_call, ↓ev_addI, ↓ev_addS, ↓ev_addT, ↓ev_sub, ↓ev_mul, ↓ev_fdiv, ↓ev_mod, ↓ev_pow, ↓ev_neg, ↓ev_negI, ↓ev_cmp, ↓ev_eqI, ↓ev_eqS, ↓ev_eqB, ↓ev_isN, ↓ev_isI, ↓ev_isB, ↓ev_isS, ↓ev_isT, ↓ev_isL, ↓ev_truB, ↓ev_truN, ↓ev_truI, ↓ev_truT, ↓ev_ixS, ↓ev_ixT, ↓ev_ixR, ↓ev_ixL, ↓ev_lenS, ↓ev_lenT, ↓ev_lenR, ↓ev_lenL, ↓ev_abs, ↓ev_intI, ↓ev_intB, ↓ev_intS, ↓ev_strI, ↓ev_max, ↓ev_min, ↓ev_gcd, ↓ev_isi, ↓ev_all, ↓ev_any, ↓ev_sum, ↓ev_rg1, ↓ev_rg1I, ↓ev_lSl, ↓ev_slR, ↓ev_oNo, ↓ev_oIs, ↓ev_toI, ↓ev_eSl, ↓ev_slS, ↓ev_split, ↓ev_onStr, ↓ev_join, ↓ev_mulS, ↓ev_ext, ↓ev_onLoc, ↓ev_mt, ↓ev_app, ↓ev_lRev, ↓ev_revL, ↓sv_nx, ↓sv_seq, ↓sv_ret, ↓sv_retN, ↓sv_ex, ↓sv_if, ↓sv_set, ↓sv_par, ↓sv_put, ↓ev_run, ↓sv_loopK, ↓sv_for, ↓ev_iNew, ↓ev_iVal, ↓ev_srcT, ↓ev_srcR, ↓ev_srcS, ↓ev_srcL, ↓ev_rng1, ↓ev_rng1I, ↓ev_lComp, ↓sv_dput, ↓ev_in1, ↓ev_deI, ↓ev_deS, ↓ev_deB, ↓ev_dnI, ↓ev_dnS, ↓ev_dnB, ↓sv_okN, startL, List.map_cons, List.map_nil, List.length_cons, List.length_nil, Nat.reduceAdd, Nat.reduceSub, List.replicate, List.cons_append, List.nil_append, List.set_cons_zero, List.set_cons_succ, getL0, getLS, pick_nil, pick_one, true_and, and_self, List.append_nil, atI_0, atI_1, atI_2, atI_3, atI_4, ixN_0, ixN_1, ixN_2, ixN_3, List.getElem?_cons_zero, List.getElem?_cons_succ, Option.some.injEq, exists_eq_left', ite_true, ite_false, Bool.false_eq_true, if_true_b, if_false_b, dTy_n, dTy_b, dTy_i, dTy_s, dTy_t, dTy_r, dTy_l, decide_true, decide_false, Bool.not_true, Bool.not_false, decide_eq_true_eq, Bool.not_eq_true', decide_eq_false_iff_not, wipeL, Nat.zero_add, kit_ss, kit_is, kit_ns, kit_ts, kit_ls, kit_bs, kit_st, kit_it, kit_nt, kit_tt, kit_lt, kit_bt, kit_sl, kit_il, kit_nl, kit_tl, kit_ll, kit_bl, kit_si, kit_ii, kit_ni, kit_ti, kit_li, kit_bi, kit_sb, kit_ib, kit_nb, kit_tb, kit_lb, kit_bb]
  rw [if_neg (show ¬ (true = false) from nofun), if_pos (show ¬ ((0 + 1 + 1 + 1 : Nat) : Int) = 2 by decide)]; trivial
theorem frac_b1 (b : Bool) (a : Int) : Ev (m_is_fraction [.tup [.bl b, .int a]] []) fun d _ => d = .bl false := by
  unfold m_is_fraction b_is_fraction
  simp -implicitDefEqProofs only [↓ev_srcI, ↓ev_srcN, ↓ev_optS, ↓ev_ok, ↓ev_bind, ↓ev_eC, ↓ev_v0, ↓ev_vS, ↓ev_bin, ↓ev_aNil, ↓ev_aCons, ↓ev_tup, ↓ev_disp, ↓ev_new, ↓ev_seq, ↓ev_seqT, ↓ev_seqR, ↓ev_seqL, ↓ev_bOf, ↓ev_toB, ↓ev_bTru, ↓ev_bYes, ↓ev_bAnd, ↓ev_bOr, ↓ev_bNot, ↓ev_eAnd, ↓ev_eOr, ↓ev_eNot, ↓ev_eIf, ↓ev_chain, ↓ev_u, ↓ev_uq, ↓ev_lOf, ↓ev_cat, ↓ev_call, ↓ev_addI, ↓ev_addS, ↓ev_addT, ↓ev_sub, ↓ev_mul, ↓ev_fdiv, ↓ev_mod, ↓ev_pow, ↓ev_neg, ↓ev_negI, ↓ev_cmp, ↓ev_eqI, ↓ev_eqS, ↓ev_eqB, ↓ev_isN, ↓ev_isI, ↓ev_isB, ↓ev_isS, ↓ev_isT, ↓ev_isL, ↓ev_truB, ↓ev_truN, ↓ev_truI, ↓ev_truT, ↓ev_ixS, ↓ev_ixT, ↓ev_ixR, ↓ev_ixL, ↓ev_lenS, ↓ev_lenT, ↓ev_lenR, ↓ev_lenL, ↓ev_abs, ↓ev_intI, ↓ev_intB, ↓ev_intS, ↓ev_strI, ↓ev_max, ↓ev_min, ↓ev_gcd, ↓ev_isi, ↓ev_all, ↓ev_any, ↓ev_sum, ↓ev_rg1, ↓ev_rg1I, ↓ev_lSl, ↓ev_slR, ↓ev_oNo, ↓ev_oIs, ↓ev_toI, ↓ev_eSl, ↓ev_slS, ↓ev_split, ↓ev_onStr, ↓ev_join, ↓ev_mulS, ↓ev_ext, ↓ev_onLoc, ↓ev_mt, ↓ev_app, ↓ev_lRev, ↓ev_revL, ↓sv_nx, ↓sv_seq, ↓sv_ret, ↓sv_retN, ↓sv_ex, ↓sv_if, ↓sv_set, ↓sv_par, ↓sv_put, ↓ev_run, ↓sv_loopK, ↓sv_for, ↓ev_iNew, ↓ev_iVal, ↓ev_srcT, ↓ev_srcR, ↓ev_srcS, ↓ev_srcL, ↓ev_rng1, ↓ev_rng1I, ↓ev_lComp, ↓sv_dput, ↓ev_in1, ↓ev_deI, ↓ev_deS, ↓ev_deB, ↓ev_dnI, ↓ev_dnS, ↓ev_dnB, ↓sv_okN, startL, List.map_cons, List.map_nil, List.length_cons, List.length_nil, Nat.reduceAdd, Nat.reduceSub, List.replicate, List.cons_append, List.nil_append, List.set_cons_zero, List.set_cons_succ, getL0, getLS, pick_nil, pick_one, true_and, and_self, List.append_nil, atI_0, atI_1, atI_2, atI_3, atI_4, ixN_0, ixN_1, ixN_2, ixN_3, List.getElem?_cons_zero, List.getElem?_cons_succ, Option.some.injEq, exists_eq_left', ite_true, ite_false, Bool.false_eq_true, if_true_b, if_false_b, dTy_n, dTy_b, dTy_i, dTy_s, dTy_t, dTy_r, dTy_l, decide_true, decide_false, Bool.not_true, Bool.not_false, decide_eq_true_eq, Bool.not_eq_true', decide_eq_false_iff_not, wipeL, Nat.zero_add, kit_ss, kit_is, kit_ns, kit_ts, kit_ls, kit_bs, kit_st, kit_it, kit_nt, kit_tt, kit_lt, kit_bt, kit_sl, kit_il, kit_nl, kit_tl, kit_ll, kit_bl, kit_si, kit_ii, kit_ni, kit_ti, kit_li, kit_bi, kit_sb, kit_ib, kit_nb, kit_tb, kit_lb, kit_bb]
  rw [if_neg (show ¬ (true = false) from nofun), if_neg (show ¬ ¬ ((0 + 1 + 1 : Nat) : Int) = 2 from fun z => z rfl)]
  refine ev_compF (fun d => match d with | .int _ => D.bl true | _ => D.bl false) [.bl b, .int a] (by show 2 ≤ _; decide) (fun d hd => ?_) ?_
  · simp -implicitDefEqProofs only [↓ev_srcI, ↓ev_srcN, ↓ev_optS, ↓ev_ok, ↓ev_bind, ↓ev_eC, ↓ev_v0, ↓ev_vS, ↓ev_bin, ↓ev_aNil, ↓ev_aCons, ↓ev_tup, ↓ev_disp, ↓ev_new, ↓ev_seq, ↓ev_seqT, ↓ev_seqR, ↓ev_seqL, ↓ev_bOf, ↓ev_toB, ↓ev_bTru, ↓ev_bYes, ↓ev_bAnd, ↓ev_bOr, ↓ev_bNot, ↓ev_eAnd, ↓ev_eOr, ↓ev_eNot, ↓ev_eIf, ↓ev_chain, ↓ev_u, ↓ev_uq, ↓ev_lOf, ↓ev_cat, ↓ev_call, ↓ev_addI, ↓ev_addS, ↓ev_addT, ↓ev_sub, ↓ev_mul, ↓ev_fdiv, ↓ev_mod, ↓ev_pow, ↓ev_neg, ↓ev_negI, ↓ev_cmp, ↓ev_eqI, ↓ev_eqS, ↓ev_eqB, ↓ev_isN, ↓ev_isI, ↓ev_isB, ↓ev_isS, ↓ev_isT, ↓ev_isL, ↓ev_truB, ↓ev_truN, ↓ev_truI, ↓ev_truT, ↓ev_ixS, ↓ev_ixT, ↓ev_ixR, ↓ev_ixL, ↓ev_lenS, ↓ev_lenT, ↓ev_lenR, ↓ev_lenL, ↓ev_abs, ↓ev_intI, ↓ev_intB, ↓ev_intS, ↓ev_strI, ↓ev_max, ↓ev_min, ↓ev_gcd, ↓ev_isi, ↓ev_all, ↓ev_any, ↓ev_sum, ↓ev_rg1, ↓ev_rg1I, ↓ev_lSl, ↓ev_slR, ↓ev_oNo, ↓ev_oIs, ↓ev_toI, ↓ev_eSl, ↓ev_slS, ↓ev_split, ↓ev_onStr, ↓ev_join, ↓ev_mulS, ↓ev_ext, ↓ev_onLoc, ↓ev_mt, ↓ev_app, ↓ev_lRev, ↓ev_revL, ↓sv_nx, ↓sv_seq, ↓sv_ret, ↓sv_retN, ↓sv_ex, ↓sv_if, ↓sv_set, ↓sv_par, ↓sv_put, ↓ev_run, ↓sv_loopK, ↓sv_for, ↓ev_iNew, ↓ev_iVal, ↓ev_srcT, ↓ev_srcR, ↓ev_srcS, ↓ev_srcL, ↓ev_rng1, ↓ev_rng1I, ↓ev_lComp, ↓sv_dput, ↓ev_in1, ↓ev_deI, ↓ev_deS, ↓ev_deB, ↓ev_dnI, ↓ev_dnS, ↓ev_dnB, ↓sv_okN, startL, List.map_cons, List.map_nil, List.length_cons, List.length_nil, Nat.reduceAdd, Nat.reduceSub, List.replicate, List.cons_append, List.nil_append, List.set_cons_zero, List.set_cons_succ, getL0, getLS, pick_nil, pick_one, true_and, and_self, List.append_nil, atI_0, atI_1, atI_2, atI_3, atI_4, ixN_0, ixN_1, ixN_2, ixN_3, List.getElem?_cons_zero, List.getElem?_cons_succ, Option.some.injEq, exists_eq_left', ite_true, ite_false, Bool.false_eq_true, if_true_b, if_false_b, dTy_n, dTy_b, dTy_i, dTy_s, dTy_t, dTy_r, dTy_l, decide_true, decide_false, Bool.not_true, Bool.not_false, decide_eq_true_eq, Bool.not_eq_true', decide_eq_false_iff_not, wipeL, Nat.zero_add, kit_ss, kit_is, kit_ns, kit_ts, kit_ls, kit_bs, kit_st, kit_it, kit_nt, kit_tt, kit_lt, kit_bt, kit_sl, kit_il, kit_nl, kit_tl, kit_ll, kit_bl, kit_si, kit_ii, kit_ni, kit_ti, kit_li, kit_bi, kit_sb, kit_ib, kit_nb, kit_tb, kit_lb, kit_bb]
    simp only [List.mem_cons, List.not_mem_nil, or_false] at hd
    rcases hd with rfl | rfl
    · refine lm_closed rfl (ev_mono (is_integer_bool _) ?_)
      rintro _ _ rfl
      exact ⟨rfl, rfl, rfl⟩
    · refine lm_closed rfl (ev_mono (is_integer_int _) ?_)
      rintro _ _ rfl
      exact ⟨rfl, rfl, rfl⟩
  · exact ⟨[false, true], rfl, by rw [if_pos (by decide)]; trivial⟩
theorem frac_b2 (b : Bool) (a : Int) : Ev (m_is_fraction [.tup [.int a, .bl b]] []) fun d _ => d = .bl false := by
  unfold m_is_fraction b_is_fraction
  simp -implicitDefEqProofs only [↓ev_srcI, ↓ev_srcN, ↓ev_optS, ↓ev_ok, ↓ev_bind, ↓ev_eC, ↓ev_v0, ↓ev_vS, ↓ev_bin, ↓ev_aNil, ↓ev_aCons, ↓ev_tup, ↓ev_disp, ↓ev_new, ↓ev_seq, ↓ev_seqT, ↓ev_seqR, ↓ev_seqL, ↓ev_bOf, ↓ev_toB, ↓ev_bTru, ↓ev_bYes, ↓ev_bAnd, ↓ev_bOr, ↓ev_bNot, ↓ev_eAnd, ↓ev_eOr, ↓ev_eNot, ↓ev_eIf, ↓ev_chain, ↓ev_u, ↓ev_uq, ↓ev_lOf, ↓ev_cat, ↓ev_call, ↓ev_addI, ↓ev_addS, ↓ev_addT, ↓ev_sub, ↓ev_mul, ↓ev_fdiv, ↓ev_mod, ↓ev_pow, ↓ev_neg, ↓ev_negI, ↓ev_cmp, ↓ev_eqI, ↓ev_eqS, ↓ev_eqB, ↓ev_isN, ↓ev_isI, ↓ev_isB, ↓ev_isS, ↓ev_isT, ↓ev_isL, ↓ev_truB, ↓ev_truN, ↓ev_truI, ↓ev_truT, ↓ev_ixS, ↓ev_ixT, ↓ev_ixR, ↓ev_ixL, ↓ev_lenS, ↓ev_lenT, ↓ev_lenR, ↓ev_lenL, ↓ev_abs, ↓ev_intI, ↓ev_intB, ↓ev_intS, ↓ev_strI, ↓ev_max, ↓ev_min, ↓ev_gcd, ↓ev_isi, ↓ev_all, ↓ev_any, ↓ev_sum, ↓ev_rg1, ↓ev_rg1I, ↓ev_lSl, ↓ev_slR, ↓ev_oNo, ↓ev_oIs, ↓ev_toI, ↓ev_eSl, ↓ev_slS, ↓ev_split, ↓ev_onStr, ↓ev_join, ↓ev_mulS, ↓ev_ext, ↓ev_onLoc, ↓ev_mt, ↓ev_app, ↓ev_lRev, ↓ev_revL, ↓sv_nx, ↓sv_seq, ↓sv_ret, ↓sv_retN, ↓sv_ex, ↓sv_if, ↓sv_set, ↓sv_par, ↓sv_put, ↓ev_run, ↓sv_loopK, ↓sv_for, ↓ev_iNew, ↓ev_iVal, ↓ev_srcT, ↓ev_srcR, ↓ev_srcS, ↓ev_srcL, ↓ev_rng1, ↓ev_rng1I, ↓ev_lComp, ↓sv_dput, ↓ev_in1, ↓ev_deI, ↓ev_deS, ↓ev_deB, ↓ev_dnI, ↓ev_dnS, ↓ev_dnB, ↓sv_okN, startL, List.map_cons, List.map_nil, List.length_cons, List.length_nil, Nat.reduceAdd, Nat.reduceSub, List.replicate, List.cons_append, List.nil_append, List.set_cons_zero, List.set_cons_succ, getL0, getLS, pick_nil, pick_one, true_and, and_self, List.append_nil, atI_0, atI_1, atI_2, atI_3, atI_4, ixN_0, ixN_1, ixN_2, ixN_3, List.getElem?_cons_zero, List.getElem?_cons_succ, Option.some.injEq, exists_eq_left', ite_true, ite_false, Bool.false_eq_true, if_true_b, if_false_b, dTy_n, dTy_b, dTy_i, dTy_s, dTy_t, dTy_r, dTy_l, decide_true, decide_false, Bool.not_true, Bool.not_false, decide_eq_true_eq, Bool.not_eq_true', decide_eq_false_iff_not, wipeL, Nat.zero_add, kit_ss, kit_is, kit_ns, kit_ts, kit_ls, kit_bs, kit_st, kit_it, kit_nt, kit_tt, kit_lt, kit_bt, kit_sl, kit_il, kit_nl, kit_tl, kit_ll, kit_bl, kit_si, kit_ii, kit_ni, kit_ti, kit_li, kit_bi, kit_sb, kit_ib, kit_nb, kit_tb, kit_lb, kit_bb]
  rw [if_neg (show ¬ (true = false) from nofun), if_neg (show ¬ ¬ ((0 + 1 + 1 : Nat) : Int) = 2 from fun z => z rfl)]
  refine ev_compF (fun d => match d with | .int _ => D.bl true | _ => D.bl false) [.int a, .bl b] (by show 2 ≤ _; decide) (fun d hd => ?_) ?_
  · simp -implicitDefEqProofs only [↓ev_srcI, ↓ev_srcN, ↓ev_optS, ↓ev_ok, ↓ev_bind, ↓ev_eC, ↓ev_v0, ↓ev_vS, ↓ev_bin, ↓ev_aNil, ↓ev_aCons, ↓ev_tup, ↓ev_disp, ↓ev_new, ↓ev_seq, ↓ev_seqT, ↓ev_seqR, ↓ev_seqL, ↓ev_bOf, ↓ev_toB, ↓ev_bTru, ↓ev_bYes, ↓ev_bAnd, ↓ev_bOr, ↓ev_bNot, ↓ev_eAnd, ↓ev_eOr, ↓ev_eNot, ↓ev_eIf, ↓ev_chain, ↓ev_u, ↓ev_uq, ↓ev_lOf, ↓ev_cat, ↓ev_call, ↓ev_addI, ↓ev_addS, ↓ev_addT, ↓ev_sub, ↓ev_mul, ↓ev_fdiv, ↓ev_mod, ↓ev_pow, ↓ev_neg, ↓ev_negI, ↓ev_cmp, ↓ev_eqI, ↓ev_eqS, ↓ev_eqB, ↓ev_isN, ↓ev_isI, ↓ev_isB, ↓ev_isS, ↓ev_isT, ↓ev_isL, ↓ev_truB, ↓ev_truN, ↓ev_truI, ↓ev_truT, ↓ev_ixS, ↓ev_ixT, ↓ev_ixR, ↓ev_ixL, ↓ev_lenS, ↓ev_lenT, ↓ev_lenR, ↓ev_lenL, ↓ev_abs, ↓ev_intI, ↓ev_intB, ↓ev_intS, ↓ev_strI, ↓ev_max, ↓ev_min, ↓ev_gcd, ↓ev_isi, ↓ev_all, ↓ev_any, ↓ev_sum, ↓ev_rg1, ↓ev_rg1I, ↓ev_lSl, ↓ev_slR, ↓ev_oNo, ↓ev_oIs, ↓ev_toI, ↓ev_eSl, ↓ev_slS, ↓ev_split, ↓ev_onStr, ↓ev_join, ↓ev_mulS, ↓ev_ext, ↓ev_onLoc, ↓ev_mt, ↓ev_app, ↓ev_lRev, ↓ev_revL, ↓sv_nx, ↓sv_seq, ↓sv_ret, ↓sv_retN, ↓sv_ex, ↓sv_if, ↓sv_set, ↓sv_par, ↓sv_put, ↓ev_run, ↓sv_loopK, ↓sv_for, ↓ev_iNew, ↓ev_iVal, ↓ev_srcT, ↓ev_srcR, ↓ev_srcS, ↓ev_srcL, ↓ev_rng1, ↓ev_rng1I, ↓ev_lComp, ↓sv_dput, ↓ev_in1, ↓ev_deI, ↓ev_deS, ↓ev_deB, ↓ev_dnI, ↓ev_dnS, ↓ev_dnB, ↓sv_okN, startL, List.map_cons, List.map_nil, List.length_cons, List.length_nil, Nat.reduceAdd, Nat.reduceSub, List.replicate, List.cons_append, List.nil_append, List.set_cons_zero, List.set_cons_succ, getL0, getLS, pick_nil, pick_one, true_and, and_self, List.append_nil, atI_0, atI_1, atI_2, atI_3, atI_4, ixN_0, ixN_1, ixN_2, ixN_3, List.getElem?_cons_zero, List.getElem?_cons_succ, Option.some.injEq, exists_eq_left', ite_true, ite_false, Bool.false_eq_true, if_true_b, if_false_b, dTy_n, dTy_b, dTy_i, dTy_s, dTy_t, dTy_r, dTy_l, decide_true, decide_false, Bool.not_true, Bool.not_false, decide_eq_true_eq, Bool.not_eq_true', decide_eq_false_iff_not, wipeL, Nat.zero_add, kit_ss, kit_is, kit_ns, kit_ts, kit_ls, kit_bs, kit_st, kit_it, kit_nt, kit_tt, kit_lt, kit_bt, kit_sl, kit_il, kit_nl, kit_tl, kit_ll, kit_bl, kit_si, kit_ii, kit_ni, kit_ti, kit_li, kit_bi, kit_sb, kit_ib, kit_nb, kit_tb, kit_lb, kit_bb]
    simp only [List.mem_cons, List.not_mem_nil, or_false] at hd
    rcases hd with rfl | rfl
    · refine lm_closed rfl (ev_mono (is_integer_int _) ?_)
      rintro _ _ rfl
      exact ⟨rfl, rfl, rfl⟩
    · refine lm_closed rfl (ev_mono (is_integer_bool _) ?_)
      rintro _ _ rfl
      exact ⟨rfl, rfl, rfl⟩
  · exact ⟨[true, false], rfl, by rw [if_pos (by decide)]; trivial⟩
def Mid (n : Nat) (ls : Ls) (h : Hm) : Prop := ∃ (a b : Int) (f x t l : Option D) (P : MO), ls = [some (.loc 0), f, x, t, l, some (.tup [.int a, .int b]), none, none, none, none, none] ∧ h = [P] ∧ IsPot (n + 5) P ∧ 1 ≤ b ∧ b < 1000 ∧ Int.gcd a b = 1 ∧ a.natAbs < 10 ^ 300
theorem IsPot.up {n m : Nat} {P : MO} (p : IsPot n P) (h : n ≤ m) : IsPot m P := by
  obtain ⟨a, b, c, rfl, q1, q2, q3, q4, q5⟩ := p
  exact ⟨a, b, c, rfl, q1, q2, q3, q4, by omega⟩
theorem p10_le {a b : Nat} (h : a ≤ b) : (10 : Int) ^ a ≤ 10 ^ b := by
  have := Nat.pow_le_pow_right (n := 10) (by decide) h
  exact_mod_cast this
theorem number_1 {n : Nat} {P : MO} (hn : n ≤ 20000) (p : IsPot n P) (rest : MP.SM) (R : D → Hm → Prop) (N : Ls → Hm → Prop) (hr : ∀ ls h, Mid n ls h → Sv (rest ls h) N R noB noB) :
    Sv ((sSeq (sSet 1 (eBin dPow (eC (.int 10)) (eC (.int 60))))
    (sSeq (sFor (gN 2) (iNew (lRng1 (eCall (lcall m_law_take) 2 0 [] (aCons (eVar 0) (aCons (eC (.int 5)) aNil)) aNil))) (sSet 1 (eBin dMul (eVar 1) (eBin dPow (eC (.int 10)) (eC (.int 48))))))
    (sSeq (sPar 3 4 (eU dIntS (eBin dSub (eCall (lcall m_law_take) 2 0 [] (aCons (eVar 0) (aCons (eC (.int 2000)) aNil)) aNil) (eC (.int 1000)))) (eU dIntS (eBin dAdd (eC (.int 1)) (eCall (lcall m_law_take) 2 0 [] (aCons (eVar 0) (aCons (eC (.int 900)) aNil)) aNil))))
    (sSeq (sSet 5 (eCall (lcall m_law_reduced) 2 0 [] (aCons (eIf (bOf (eBin dEq (eCall (lcall m_law_take) 2 0 [] (aCons (eVar 0) (aCons (eC (.int 3)) aNil)) aNil) (eC (.int 0)))) (eBin dAdd (eBin dMul (eVar 3) (eVar 1)) (eC (.int 1))) (eVar 3)) (aCons (eVar 4) aNil)) aNil)) rest))))
      [some (.loc 0), none, none, none, none, none, none, none, none, none, none] [P]) N R noB noB := by
  refine sv_cut (fun ls h => ∃ F : Int, ls = [some (.loc 0), some (.int F), none, none, none, none, none, none, none, none, none] ∧ h = [P] ∧ 0 ≤ F ∧ F ≤ 10 ^ 60) ?_ ?_
  · simp -implicitDefEqProofs only [↓ev_srcI, ↓ev_srcN, ↓ev_optS, ↓ev_ok, ↓ev_bind, ↓ev_eC, ↓ev_v0, ↓ev_vS, ↓ev_bin, ↓ev_aNil, ↓ev_aCons, ↓ev_tup, ↓ev_disp, ↓ev_new, ↓ev_seq, ↓ev_seqT, ↓ev_seqR, ↓ev_seqL, ↓ev_bOf, ↓ev_toB, ↓ev_bTru, ↓ev_bYes, ↓ev_bAnd, ↓ev_bOr, ↓ev_bNot, ↓ev_eAnd, ↓ev_eOr, ↓ev_eNot, ↓ev_eIf, ↓ev_chain, ↓ev_u, ↓ev_uq, ↓ev_lOf, ↓ev_cat, ↓ev_call, ↓ev_addI, ↓ev_addS, ↓ev_addT, ↓ev_sub, ↓ev_mul, ↓ev_fdiv, ↓ev_mod, ↓ev_pow, ↓ev_neg, ↓ev_negI, ↓ev_cmp, ↓ev_eqI, ↓ev_eqS, ↓ev_eqB, ↓ev_isN, ↓ev_isI, ↓ev_isB, ↓ev_isS, ↓ev_isT, ↓ev_isL, ↓ev_truB, ↓ev_truN, ↓ev_truI, ↓ev_truT, ↓ev_ixS, ↓ev_ixT, ↓ev_ixR, ↓ev_ixL, ↓ev_lenS, ↓ev_lenT, ↓ev_lenR, ↓ev_lenL, ↓ev_abs, ↓ev_intI, ↓ev_intB, ↓ev_intS, ↓ev_strI, ↓ev_max, ↓ev_min, ↓ev_gcd, ↓ev_isi, ↓ev_all, ↓ev_any, ↓ev_sum, ↓ev_rg1, ↓ev_rg1I, ↓ev_lSl, ↓ev_slR, ↓ev_oNo, ↓ev_oIs, ↓ev_toI, ↓ev_eSl, ↓ev_slS, ↓ev_split, ↓ev_onStr, ↓ev_join, ↓ev_mulS, ↓ev_ext, ↓ev_onLoc, ↓ev_mt, ↓ev_app, ↓ev_lRev, ↓ev_revL, ↓sv_nx, ↓sv_seq, ↓sv_ret, ↓sv_retN, ↓sv_ex, ↓sv_if, ↓sv_set, ↓sv_par, ↓sv_put, ↓ev_run, ↓sv_loopK, ↓sv_for, ↓ev_iNew, ↓ev_iVal, ↓ev_srcT, ↓ev_srcR, ↓ev_srcS, ↓ev_srcL, ↓ev_rng1, ↓ev_rng1I, ↓ev_lComp, ↓sv_dput, ↓ev_in1, ↓ev_deI, ↓ev_deS, ↓ev_deB, ↓ev_dnI, ↓ev_dnS, ↓ev_dnB, ↓sv_okN, startL, List.map_cons, List.map_nil, List.length_cons, List.length_nil, Nat.reduceAdd, Nat.reduceSub, List.replicate, List.cons_append, List.nil_append, List.set_cons_zero, List.set_cons_succ, getL0, getLS, pick_nil, pick_one, true_and, and_self, List.append_nil, atI_0, atI_1, atI_2, atI_3, atI_4, ixN_0, ixN_1, ixN_2, ixN_3, List.getElem?_cons_zero, List.getElem?_cons_succ, Option.some.injEq, exists_eq_left', ite_true, ite_false, Bool.false_eq_true, if_true_b, if_false_b, dTy_n, dTy_b, dTy_i, dTy_s, dTy_t, dTy_r, dTy_l, decide_true, decide_false, Bool.not_true, Bool.not_false, decide_eq_true_eq, Bool.not_eq_true', decide_eq_false_iff_not, wipeL, Nat.zero_add, kit_ss, kit_is, kit_ns, kit_ts, kit_ls, kit_bs, kit_st, kit_it, kit_nt, kit_tt, kit_lt, kit_bt, kit_sl, kit_il, kit_nl, kit_tl, kit_ll, kit_bl, kit_si, kit_ii, kit_ni, kit_ti, kit_li, kit_bi, kit_sb, kit_ib, kit_nb, kit_tb, kit_lb, kit_bb]
    exact ⟨⟨by decide, by decide +kernel⟩, _, rfl, by decide +kernel, by decide +kernel⟩
  rintro _ _ ⟨F0, rfl, rfl, hF0, hF1⟩
  refine sv_cut (fun ls h => ∃ (F : Int) (x : Option D) (P1 : MO), ls = [some (.loc 0), some (.int F), x, none, none, none, none, none, none, none, none] ∧ h = [P1] ∧ IsPot (n + 1) P1 ∧ 0 ≤ F ∧ F ≤ 10 ^ 252) ?_ ?_
  · simp -implicitDefEqProofs only [↓ev_srcI, ↓ev_srcN, ↓ev_optS, ↓ev_ok, ↓ev_bind, ↓ev_eC, ↓ev_v0, ↓ev_vS, ↓ev_bin, ↓ev_aNil, ↓ev_aCons, ↓ev_tup, ↓ev_disp, ↓ev_new, ↓ev_seq, ↓ev_seqT, ↓ev_seqR, ↓ev_seqL, ↓ev_bOf, ↓ev_toB, ↓ev_bTru, ↓ev_bYes, ↓ev_bAnd, ↓ev_bOr, ↓ev_bNot, ↓ev_eAnd, ↓ev_eOr, ↓ev_eNot, ↓ev_eIf, ↓ev_chain, ↓ev_u, ↓ev_uq, ↓ev_lOf, ↓ev_cat, ↓ev_call, ↓ev_addI, ↓ev_addS, ↓ev_addT, ↓ev_sub, ↓ev_mul, ↓ev_fdiv, ↓ev_mod, ↓ev_pow, ↓ev_neg, ↓ev_negI, ↓ev_cmp, ↓ev_eqI, ↓ev_eqS, ↓ev_eqB, ↓ev_isN, ↓ev_isI, ↓ev_isB, ↓ev_isS, ↓ev_isT, ↓ev_isL, ↓ev_truB, ↓ev_truN, ↓ev_truI, ↓ev_truT, ↓ev_ixS, ↓ev_ixT, ↓ev_ixR, ↓ev_ixL, ↓ev_lenS, ↓ev_lenT, ↓ev_lenR, ↓ev_lenL, ↓ev_abs, ↓ev_intI, ↓ev_intB, ↓ev_intS, ↓ev_strI, ↓ev_max, ↓ev_min, ↓ev_gcd, ↓ev_isi, ↓ev_all, ↓ev_any, ↓ev_sum, ↓ev_rg1, ↓ev_rg1I, ↓ev_lSl, ↓ev_slR, ↓ev_oNo, ↓ev_oIs, ↓ev_toI, ↓ev_eSl, ↓ev_slS, ↓ev_split, ↓ev_onStr, ↓ev_join, ↓ev_mulS, ↓ev_ext, ↓ev_onLoc, ↓ev_mt, ↓ev_app, ↓ev_lRev, ↓ev_revL, ↓sv_nx, ↓sv_seq, ↓sv_ret, ↓sv_retN, ↓sv_ex, ↓sv_if, ↓sv_set, ↓sv_par, ↓sv_put, ↓ev_run, ↓sv_loopK, ↓sv_for, ↓ev_iNew, ↓ev_iVal, ↓ev_srcT, ↓ev_srcR, ↓ev_srcS, ↓ev_srcL, ↓ev_rng1, ↓ev_rng1I, ↓ev_lComp, ↓sv_dput, ↓ev_in1, ↓ev_deI, ↓ev_deS, ↓ev_deB, ↓ev_dnI, ↓ev_dnS, ↓ev_dnB, ↓sv_okN, startL, List.map_cons, List.map_nil, List.length_cons, List.length_nil, Nat.reduceAdd, Nat.reduceSub, List.replicate, List.cons_append, List.nil_append, List.set_cons_zero, List.set_cons_succ, getL0, getLS, pick_nil, pick_one, true_and, and_self, List.append_nil, atI_0, atI_1, atI_2, atI_3, atI_4, ixN_0, ixN_1, ixN_2, ixN_3, List.getElem?_cons_zero, List.getElem?_cons_succ, Option.some.injEq, exists_eq_left', ite_true, ite_false, Bool.false_eq_true, if_true_b, if_false_b, dTy_n, dTy_b, dTy_i, dTy_s, dTy_t, dTy_r, dTy_l, decide_true, decide_false, Bool.not_true, Bool.not_false, decide_eq_true_eq, Bool.not_eq_true', decide_eq_false_iff_not, wipeL, Nat.zero_add, kit_ss, kit_is, kit_ns, kit_ts, kit_ls, kit_bs, kit_st, kit_it, kit_nt, kit_tt, kit_lt, kit_bt, kit_sl, kit_il, kit_nl, kit_tl, kit_ll, kit_bl, kit_si, kit_ii, kit_ni, kit_ti, kit_li, kit_bi, kit_sb, kit_ib, kit_nb, kit_tb, kit_lb, kit_bb]
    refine take (by rfl) p (by omega) (by decide) (by decide) fun k P1 h1 h2 p1 => ?_
    simp -implicitDefEqProofs only [↓ev_srcI, ↓ev_srcN, ↓ev_optS, ↓ev_ok, ↓ev_bind, ↓ev_eC, ↓ev_v0, ↓ev_vS, ↓ev_bin, ↓ev_aNil, ↓ev_aCons, ↓ev_tup, ↓ev_disp, ↓ev_new, ↓ev_seq, ↓ev_seqT, ↓ev_seqR, ↓ev_seqL, ↓ev_bOf, ↓ev_toB, ↓ev_bTru, ↓ev_bYes, ↓ev_bAnd, ↓ev_bOr, ↓ev_bNot, ↓ev_eAnd, ↓ev_eOr, ↓ev_eNot, ↓ev_eIf, ↓ev_chain, ↓ev_u, ↓ev_uq, ↓ev_lOf, ↓ev_cat, ↓ev_call, ↓ev_addI, ↓ev_addS, ↓ev_addT, ↓ev_sub, ↓ev_mul, ↓ev_fdiv, ↓ev_mod, ↓ev_pow, ↓ev_neg, ↓ev_negI, ↓ev_cmp, ↓ev_eqI, ↓ev_eqS, ↓ev_eqB, ↓ev_isN, ↓ev_isI, ↓ev_isB, ↓ev_isS, ↓ev_isT, ↓ev_isL, ↓ev_truB, ↓ev_truN, ↓ev_truI, ↓ev_truT, ↓ev_ixS, ↓ev_ixT, ↓ev_ixR, ↓ev_ixL, ↓ev_lenS, ↓ev_lenT, ↓ev_lenR, ↓ev_lenL, ↓ev_abs, ↓ev_intI, ↓ev_intB, ↓ev_intS, ↓ev_strI, ↓ev_max, ↓ev_min, ↓ev_gcd, ↓ev_isi, ↓ev_all, ↓ev_any, ↓ev_sum, ↓ev_rg1, ↓ev_rg1I, ↓ev_lSl, ↓ev_slR, ↓ev_oNo, ↓ev_oIs, ↓ev_toI, ↓ev_eSl, ↓ev_slS, ↓ev_split, ↓ev_onStr, ↓ev_join, ↓ev_mulS, ↓ev_ext, ↓ev_onLoc, ↓ev_mt, ↓ev_app, ↓ev_lRev, ↓ev_revL, ↓sv_nx, ↓sv_seq, ↓sv_ret, ↓sv_retN, ↓sv_ex, ↓sv_if, ↓sv_set, ↓sv_par, ↓sv_put, ↓ev_run, ↓sv_loopK, ↓sv_for, ↓ev_iNew, ↓ev_iVal, ↓ev_srcT, ↓ev_srcR, ↓ev_srcS, ↓ev_srcL, ↓ev_rng1, ↓ev_rng1I, ↓ev_lComp, ↓sv_dput, ↓ev_in1, ↓ev_deI, ↓ev_deS, ↓ev_deB, ↓ev_dnI, ↓ev_dnS, ↓ev_dnB, ↓sv_okN, startL, List.map_cons, List.map_nil, List.length_cons, List.length_nil, Nat.reduceAdd, Nat.reduceSub, List.replicate, List.cons_append, List.nil_append, List.set_cons_zero, List.set_cons_succ, getL0, getLS, pick_nil, pick_one, true_and, and_self, List.append_nil, atI_0, atI_1, atI_2, atI_3, atI_4, ixN_0, ixN_1, ixN_2, ixN_3, List.getElem?_cons_zero, List.getElem?_cons_succ, Option.some.injEq, exists_eq_left', ite_true, ite_false, Bool.false_eq_true, if_true_b, if_false_b, dTy_n, dTy_b, dTy_i, dTy_s, dTy_t, dTy_r, dTy_l, decide_true, decide_false, Bool.not_true, Bool.not_false, decide_eq_true_eq, Bool.not_eq_true', decide_eq_false_iff_not, wipeL, Nat.zero_add, kit_ss, kit_is, kit_ns, kit_ts, kit_ls, kit_bs, kit_st, kit_it, kit_nt, kit_tt, kit_lt, kit_bt, kit_sl, kit_il, kit_nl, kit_tl, kit_ll, kit_bl, kit_si, kit_ii, kit_ni, kit_ti, kit_li, kit_bi, kit_sb, kit_ib, kit_nb, kit_tb, kit_lb, kit_bb]
    refine ⟨by omega, ?_⟩
    refine sv_items (fun j ls h => ∃ (F : Int) (x : Option D), ls = [some (.loc 0), some (.int F), x, none, none, none, none, none, none, none, none] ∧ h = [P1] ∧ 0 ≤ F ∧ F ≤ 10 ^ (60 + 48 * j)) _ 0 _ _ ?_ ⟨F0, _, rfl, rfl, hF0, hF1⟩ ?_
    · rintro j d ls h hd ⟨F, x, rfl, rfl, h3, h4⟩
      obtain ⟨hj, _⟩ := rng_get hd
      have hj : j < 4 ∨ j = 4 := by omega
      simp -implicitDefEqProofs only [↓ev_srcI, ↓ev_srcN, ↓ev_optS, ↓ev_ok, ↓ev_bind, ↓ev_eC, ↓ev_v0, ↓ev_vS, ↓ev_bin, ↓ev_aNil, ↓ev_aCons, ↓ev_tup, ↓ev_disp, ↓ev_new, ↓ev_seq, ↓ev_seqT, ↓ev_seqR, ↓ev_seqL, ↓ev_bOf, ↓ev_toB, ↓ev_bTru, ↓ev_bYes, ↓ev_bAnd, ↓ev_bOr, ↓ev_bNot, ↓ev_eAnd, ↓ev_eOr, ↓ev_eNot, ↓ev_eIf, ↓ev_chain, ↓ev_u, ↓ev_uq, ↓ev_lOf, ↓ev_cat, ↓ev_call, ↓ev_addI, ↓ev_addS, ↓ev_addT, ↓ev_sub, ↓ev_mul, ↓ev_fdiv, ↓ev_mod, ↓ev_pow, ↓ev_neg, ↓ev_negI, ↓ev_cmp, ↓ev_eqI, ↓ev_eqS, ↓ev_eqB, ↓ev_isN, ↓ev_isI, ↓ev_isB, ↓ev_isS, ↓ev_isT, ↓ev_isL, ↓ev_truB, ↓ev_truN, ↓ev_truI, ↓ev_truT, ↓ev_ixS, ↓ev_ixT, ↓ev_ixR, ↓ev_ixL, ↓ev_lenS, ↓ev_lenT, ↓ev_lenR, ↓ev_lenL, ↓ev_abs, ↓ev_intI, ↓ev_intB, ↓ev_intS, ↓ev_strI, ↓ev_max, ↓ev_min, ↓ev_gcd, ↓ev_isi, ↓ev_all, ↓ev_any, ↓ev_sum, ↓ev_rg1, ↓ev_rg1I, ↓ev_lSl, ↓ev_slR, ↓ev_oNo, ↓ev_oIs, ↓ev_toI, ↓ev_eSl, ↓ev_slS, ↓ev_split, ↓ev_onStr, ↓ev_join, ↓ev_mulS, ↓ev_ext, ↓ev_onLoc, ↓ev_mt, ↓ev_app, ↓ev_lRev, ↓ev_revL, ↓sv_nx, ↓sv_seq, ↓sv_ret, ↓sv_retN, ↓sv_ex, ↓sv_if, ↓sv_set, ↓sv_par, ↓sv_put, ↓ev_run, ↓sv_loopK, ↓sv_for, ↓ev_iNew, ↓ev_iVal, ↓ev_srcT, ↓ev_srcR, ↓ev_srcS, ↓ev_srcL, ↓ev_rng1, ↓ev_rng1I, ↓ev_lComp, ↓sv_dput, ↓ev_in1, ↓ev_deI, ↓ev_deS, ↓ev_deB, ↓ev_dnI, ↓ev_dnS, ↓ev_dnB, ↓sv_okN, startL, List.map_cons, List.map_nil, List.length_cons, List.length_nil, Nat.reduceAdd, Nat.reduceSub, List.replicate, List.cons_append, List.nil_append, List.set_cons_zero, List.set_cons_succ, getL0, getLS, pick_nil, pick_one, true_and, and_self, List.append_nil, atI_0, atI_1, atI_2, atI_3, atI_4, ixN_0, ixN_1, ixN_2, ixN_3, List.getElem?_cons_zero, List.getElem?_cons_succ, Option.some.injEq, exists_eq_left', ite_true, ite_false, Bool.false_eq_true, if_true_b, if_false_b, dTy_n, dTy_b, dTy_i, dTy_s, dTy_t, dTy_r, dTy_l, decide_true, decide_false, Bool.not_true, Bool.not_false, decide_eq_true_eq, Bool.not_eq_true', decide_eq_false_iff_not, wipeL, Nat.zero_add, kit_ss, kit_is, kit_ns, kit_ts, kit_ls, kit_bs, kit_st, kit_it, kit_nt, kit_tt, kit_lt, kit_bt, kit_sl, kit_il, kit_nl, kit_tl, kit_ll, kit_bl, kit_si, kit_ii, kit_ni, kit_ti, kit_li, kit_bi, kit_sb, kit_ib, kit_nb, kit_tb, kit_lb, kit_bb]
      have e48 : (10 : Int) ^ Int.toNat 48 = 10 ^ 48 := rfl
      rw [e48]
      have h5 : F ≤ 10 ^ 252 := Int.le_trans h4 (by
        have : (10 : Int) ^ (60 + 48 * (0 + j)) ≤ 10 ^ 252 := by
          have hh : 60 + 48 * (0 + j) ≤ 252 := by omega
          exact p10_le hh
        exact this)
      have h6 : (10 : Int) ^ 252 < 2 ^ 1000 := by decide +kernel
      refine ⟨⟨by decide, by decide +kernel⟩, mulOk_of (a := 1000) (b := 200) ?_ (by decide +kernel) (by decide), _, _, rfl, Int.mul_nonneg h3 (by decide +kernel), ?_⟩
      · have := nabs_lt (i := F) (b := 2 ^ 1000) (by omega) (by omega)
        exact this
      · rw [show 60 + 48 * (j + 1) = 60 + 48 * (0 + j) + 48 by omega, Int.pow_add]
        exact Int.mul_le_mul_of_nonneg_right h4 (by decide +kernel)
    · rintro ls h ⟨F, x, rfl, rfl, h3, h4⟩
      refine ⟨F, x, P1, rfl, rfl, p1, h3, Int.le_trans h4 ?_⟩
      rw [rng_len]
      exact p10_le (by omega)
  rintro _ _ ⟨F, x, P1, rfl, rfl, p1, hF2, hF3⟩
  refine sv_cut (fun ls h => ∃ (t l : Int) (P3 : MO), ls = [some (.loc 0), some (.int F), x, some (.int t), some (.int l), none, none, none, none, none, none] ∧ h = [P3] ∧ IsPot (n + 3) P3 ∧ -1000 ≤ t ∧ t < 1000 ∧ 1 ≤ l ∧ l < 1000) ?_ ?_
  · simp -implicitDefEqProofs only [↓ev_srcI, ↓ev_srcN, ↓ev_optS, ↓ev_ok, ↓ev_bind, ↓ev_eC, ↓ev_v0, ↓ev_vS, ↓ev_bin, ↓ev_aNil, ↓ev_aCons, ↓ev_tup, ↓ev_disp, ↓ev_new, ↓ev_seq, ↓ev_seqT, ↓ev_seqR, ↓ev_seqL, ↓ev_bOf, ↓ev_toB, ↓ev_bTru, ↓ev_bYes, ↓ev_bAnd, ↓ev_bOr, ↓ev_bNot, ↓ev_eAnd, ↓ev_eOr, ↓ev_eNot, ↓ev_eIf, ↓ev_chain, ↓ev_u, ↓ev_uq, ↓ev_lOf, ↓ev_cat, ↓ev_call, ↓ev_addI, ↓ev_addS, ↓ev_addT, ↓ev_sub, ↓ev_mul, ↓ev_fdiv, ↓ev_mod, ↓ev_pow, ↓ev_neg, ↓ev_negI, ↓ev_cmp, ↓ev_eqI, ↓ev_eqS, ↓ev_eqB, ↓ev_isN, ↓ev_isI, ↓ev_isB, ↓ev_isS, ↓ev_isT, ↓ev_isL, ↓ev_truB, ↓ev_truN, ↓ev_truI, ↓ev_truT, ↓ev_ixS, ↓ev_ixT, ↓ev_ixR, ↓ev_ixL, ↓ev_lenS, ↓ev_lenT, ↓ev_lenR, ↓ev_lenL, ↓ev_abs, ↓ev_intI, ↓ev_intB, ↓ev_intS, ↓ev_strI, ↓ev_max, ↓ev_min, ↓ev_gcd, ↓ev_isi, ↓ev_all, ↓ev_any, ↓ev_sum, ↓ev_rg1, ↓ev_rg1I, ↓ev_lSl, ↓ev_slR, ↓ev_oNo, ↓ev_oIs, ↓ev_toI, ↓ev_eSl, ↓ev_slS, ↓ev_split, ↓ev_onStr, ↓ev_join, ↓ev_mulS, ↓ev_ext, ↓ev_onLoc, ↓ev_mt, ↓ev_app, ↓ev_lRev, ↓ev_revL, ↓sv_nx, ↓sv_seq, ↓sv_ret, ↓sv_retN, ↓sv_ex, ↓sv_if, ↓sv_set, ↓sv_par, ↓sv_put, ↓ev_run, ↓sv_loopK, ↓sv_for, ↓ev_iNew, ↓ev_iVal, ↓ev_srcT, ↓ev_srcR, ↓ev_srcS, ↓ev_srcL, ↓ev_rng1, ↓ev_rng1I, ↓ev_lComp, ↓sv_dput, ↓ev_in1, ↓ev_deI, ↓ev_deS, ↓ev_deB, ↓ev_dnI, ↓ev_dnS, ↓ev_dnB, ↓sv_okN, startL, List.map_cons, List.map_nil, List.length_cons, List.length_nil, Nat.reduceAdd, Nat.reduceSub, List.replicate, List.cons_append, List.nil_append, List.set_cons_zero, List.set_cons_succ, getL0, getLS, pick_nil, pick_one, true_and, and_self, List.append_nil, atI_0, atI_1, atI_2, atI_3, atI_4, ixN_0, ixN_1, ixN_2, ixN_3, List.getElem?_cons_zero, List.getElem?_cons_succ, Option.some.injEq, exists_eq_left', ite_true, ite_false, Bool.false_eq_true, if_true_b, if_false_b, dTy_n, dTy_b, dTy_i, dTy_s, dTy_t, dTy_r, dTy_l, decide_true, decide_false, Bool.not_true, Bool.not_false, decide_eq_true_eq, Bool.not_eq_true', decide_eq_false_iff_not, wipeL, Nat.zero_add, kit_ss, kit_is, kit_ns, kit_ts, kit_ls, kit_bs, kit_st, kit_it, kit_nt, kit_tt, kit_lt, kit_bt, kit_sl, kit_il, kit_nl, kit_tl, kit_ll, kit_bl, kit_si, kit_ii, kit_ni, kit_ti, kit_li, kit_bi, kit_sb, kit_ib, kit_nb, kit_tb, kit_lb, kit_bb]
    refine take (by rfl) p1 (by omega) (by decide) (by decide) fun k1 P2 k1a k1b p2 => ?_
    simp -implicitDefEqProofs only [↓ev_srcI, ↓ev_srcN, ↓ev_optS, ↓ev_ok, ↓ev_bind, ↓ev_eC, ↓ev_v0, ↓ev_vS, ↓ev_bin, ↓ev_aNil, ↓ev_aCons, ↓ev_tup, ↓ev_disp, ↓ev_new, ↓ev_seq, ↓ev_seqT, ↓ev_seqR, ↓ev_seqL, ↓ev_bOf, ↓ev_toB, ↓ev_bTru, ↓ev_bYes, ↓ev_bAnd, ↓ev_bOr, ↓ev_bNot, ↓ev_eAnd, ↓ev_eOr, ↓ev_eNot, ↓ev_eIf, ↓ev_chain, ↓ev_u, ↓ev_uq, ↓ev_lOf, ↓ev_cat, ↓ev_call, ↓ev_addI, ↓ev_addS, ↓ev_addT, ↓ev_sub, ↓ev_mul, ↓ev_fdiv, ↓ev_mod, ↓ev_pow, ↓ev_neg, ↓ev_negI, ↓ev_cmp, ↓ev_eqI, ↓ev_eqS, ↓ev_eqB, ↓ev_isN, ↓ev_isI, ↓ev_isB, ↓ev_isS, ↓ev_isT, ↓ev_isL, ↓ev_truB, ↓ev_truN, ↓ev_truI, ↓ev_truT, ↓ev_ixS, ↓ev_ixT, ↓ev_ixR, ↓ev_ixL, ↓ev_lenS, ↓ev_lenT, ↓ev_lenR, ↓ev_lenL, ↓ev_abs, ↓ev_intI, ↓ev_intB, ↓ev_intS, ↓ev_strI, ↓ev_max, ↓ev_min, ↓ev_gcd, ↓ev_isi, ↓ev_all, ↓ev_any, ↓ev_sum, ↓ev_rg1, ↓ev_rg1I, ↓ev_lSl, ↓ev_slR, ↓ev_oNo, ↓ev_oIs, ↓ev_toI, ↓ev_eSl, ↓ev_slS, ↓ev_split, ↓ev_onStr, ↓ev_join, ↓ev_mulS, ↓ev_ext, ↓ev_onLoc, ↓ev_mt, ↓ev_app, ↓ev_lRev, ↓ev_revL, ↓sv_nx, ↓sv_seq, ↓sv_ret, ↓sv_retN, ↓sv_ex, ↓sv_if, ↓sv_set, ↓sv_par, ↓sv_put, ↓ev_run, ↓sv_loopK, ↓sv_for, ↓ev_iNew, ↓ev_iVal, ↓ev_srcT, ↓ev_srcR, ↓ev_srcS, ↓ev_srcL, ↓ev_rng1, ↓ev_rng1I, ↓ev_lComp, ↓sv_dput, ↓ev_in1, ↓ev_deI, ↓ev_deS, ↓ev_deB, ↓ev_dnI, ↓ev_dnS, ↓ev_dnB, ↓sv_okN, startL, List.map_cons, List.map_nil, List.length_cons, List.length_nil, Nat.reduceAdd, Nat.reduceSub, List.replicate, List.cons_append, List.nil_append, List.set_cons_zero, List.set_cons_succ, getL0, getLS, pick_nil, pick_one, true_and, and_self, List.append_nil, atI_0, atI_1, atI_2, atI_3, atI_4, ixN_0, ixN_1, ixN_2, ixN_3, List.getElem?_cons_zero, List.getElem?_cons_succ, Option.some.injEq, exists_eq_left', ite_true, ite_false, Bool.false_eq_true, if_true_b, if_false_b, dTy_n, dTy_b, dTy_i, dTy_s, dTy_t, dTy_r, dTy_l, decide_true, decide_false, Bool.not_true, Bool.not_false, decide_eq_true_eq, Bool.not_eq_true', decide_eq_false_iff_not, wipeL, Nat.zero_add, kit_ss, kit_is, kit_ns, kit_ts, kit_ls, kit_bs, kit_st, kit_it, kit_nt, kit_tt, kit_lt, kit_bt, kit_sl, kit_il, kit_nl, kit_tl, kit_ll, kit_bl, kit_si, kit_ii, kit_ni, kit_ti, kit_li, kit_bi, kit_sb, kit_ib, kit_nb, kit_tb, kit_lb, kit_bb]
    refine take (by rfl) p2 (by omega) (by decide) (by decide) fun k2 P3 k2a k2b p3 => ?_
    simp -implicitDefEqProofs only [↓ev_srcI, ↓ev_srcN, ↓ev_optS, ↓ev_ok, ↓ev_bind, ↓ev_eC, ↓ev_v0, ↓ev_vS, ↓ev_bin, ↓ev_aNil, ↓ev_aCons, ↓ev_tup, ↓ev_disp, ↓ev_new, ↓ev_seq, ↓ev_seqT, ↓ev_seqR, ↓ev_seqL, ↓ev_bOf, ↓ev_toB, ↓ev_bTru, ↓ev_bYes, ↓ev_bAnd, ↓ev_bOr, ↓ev_bNot, ↓ev_eAnd, ↓ev_eOr, ↓ev_eNot, ↓ev_eIf, ↓ev_chain, ↓ev_u, ↓ev_uq, ↓ev_lOf, ↓ev_cat, ↓ev_call, ↓ev_addI, ↓ev_addS, ↓ev_addT, ↓ev_sub, ↓ev_mul, ↓ev_fdiv, ↓ev_mod, ↓ev_pow, ↓ev_neg, ↓ev_negI, ↓ev_cmp, ↓ev_eqI, ↓ev_eqS, ↓ev_eqB, ↓ev_isN, ↓ev_isI, ↓ev_isB, ↓ev_isS, ↓ev_isT, ↓ev_isL, ↓ev_truB, ↓ev_truN, ↓ev_truI, ↓ev_truT, ↓ev_ixS, ↓ev_ixT, ↓ev_ixR, ↓ev_ixL, ↓ev_lenS, ↓ev_lenT, ↓ev_lenR, ↓ev_lenL, ↓ev_abs, ↓ev_intI, ↓ev_intB, ↓ev_intS, ↓ev_strI, ↓ev_max, ↓ev_min, ↓ev_gcd, ↓ev_isi, ↓ev_all, ↓ev_any, ↓ev_sum, ↓ev_rg1, ↓ev_rg1I, ↓ev_lSl, ↓ev_slR, ↓ev_oNo, ↓ev_oIs, ↓ev_toI, ↓ev_eSl, ↓ev_slS, ↓ev_split, ↓ev_onStr, ↓ev_join, ↓ev_mulS, ↓ev_ext, ↓ev_onLoc, ↓ev_mt, ↓ev_app, ↓ev_lRev, ↓ev_revL, ↓sv_nx, ↓sv_seq, ↓sv_ret, ↓sv_retN, ↓sv_ex, ↓sv_if, ↓sv_set, ↓sv_par, ↓sv_put, ↓ev_run, ↓sv_loopK, ↓sv_for, ↓ev_iNew, ↓ev_iVal, ↓ev_srcT, ↓ev_srcR, ↓ev_srcS, ↓ev_srcL, ↓ev_rng1, ↓ev_rng1I, ↓ev_lComp, ↓sv_dput, ↓ev_in1, ↓ev_deI, ↓ev_deS, ↓ev_deB, ↓ev_dnI, ↓ev_dnS, ↓ev_dnB, ↓sv_okN, startL, List.map_cons, List.map_nil, List.length_cons, List.length_nil, Nat.reduceAdd, Nat.reduceSub, List.replicate, List.cons_append, List.nil_append, List.set_cons_zero, List.set_cons_succ, getL0, getLS, pick_nil, pick_one, true_and, and_self, List.append_nil, atI_0, atI_1, atI_2, atI_3, atI_4, ixN_0, ixN_1, ixN_2, ixN_3, List.getElem?_cons_zero, List.getElem?_cons_succ, Option.some.injEq, exists_eq_left', ite_true, ite_false, Bool.false_eq_true, if_true_b, if_false_b, dTy_n, dTy_b, dTy_i, dTy_s, dTy_t, dTy_r, dTy_l, decide_true, decide_false, Bool.not_true, Bool.not_false, decide_eq_true_eq, Bool.not_eq_true', decide_eq_false_iff_not, wipeL, Nat.zero_add, kit_ss, kit_is, kit_ns, kit_ts, kit_ls, kit_bs, kit_st, kit_it, kit_nt, kit_tt, kit_lt, kit_bt, kit_sl, kit_il, kit_nl, kit_tl, kit_ll, kit_bl, kit_si, kit_ii, kit_ni, kit_ti, kit_li, kit_bi, kit_sb, kit_ib, kit_nb, kit_tb, kit_lb, kit_bb]
    exact ⟨_, _, P3, rfl, rfl, p3.up (by omega), by omega, by omega, by omega, by omega⟩
  rintro _ _ ⟨t0, l0, P3, rfl, rfl, p3, ht1, ht2, hl1, hl2⟩
  refine sv_cut (Mid n) ?_ hr
  simp -implicitDefEqProofs only [↓ev_srcI, ↓ev_srcN, ↓ev_optS, ↓ev_ok, ↓ev_bind, ↓ev_eC, ↓ev_v0, ↓ev_vS, ↓ev_bin, ↓ev_aNil, ↓ev_aCons, ↓ev_tup, ↓ev_disp, ↓ev_new, ↓ev_seq, ↓ev_seqT, ↓ev_seqR, ↓ev_seqL, ↓ev_bOf, ↓ev_toB, ↓ev_bTru, ↓ev_bYes, ↓ev_bAnd, ↓ev_bOr, ↓ev_bNot, ↓ev_eAnd, ↓ev_eOr, ↓ev_eNot, ↓ev_eIf, ↓ev_chain, ↓ev_u, ↓ev_uq, ↓ev_lOf, ↓ev_cat, ↓ev_call, ↓ev_addI, ↓ev_addS, ↓ev_addT, ↓ev_sub, ↓ev_mul, ↓ev_fdiv, ↓ev_mod, ↓ev_pow, ↓ev_neg, ↓ev_negI, ↓ev_cmp, ↓ev_eqI, ↓ev_eqS, ↓ev_eqB, ↓ev_isN, ↓ev_isI, ↓ev_isB, ↓ev_isS, ↓ev_isT, ↓ev_isL, ↓ev_truB, ↓ev_truN, ↓ev_truI, ↓ev_truT, ↓ev_ixS, ↓ev_ixT, ↓ev_ixR, ↓ev_ixL, ↓ev_lenS, ↓ev_lenT, ↓ev_lenR, ↓ev_lenL, ↓ev_abs, ↓ev_intI, ↓ev_intB, ↓ev_intS, ↓ev_strI, ↓ev_max, ↓ev_min, ↓ev_gcd, ↓ev_isi, ↓ev_all, ↓ev_any, ↓ev_sum, ↓ev_rg1, ↓ev_rg1I, ↓ev_lSl, ↓ev_slR, ↓ev_oNo, ↓ev_oIs, ↓ev_toI, ↓ev_eSl, ↓ev_slS, ↓ev_split, ↓ev_onStr, ↓ev_join, ↓ev_mulS, ↓ev_ext, ↓ev_onLoc, ↓ev_mt, ↓ev_app, ↓ev_lRev, ↓ev_revL, ↓sv_nx, ↓sv_seq, ↓sv_ret, ↓sv_retN, ↓sv_ex, ↓sv_if, ↓sv_set, ↓sv_par, ↓sv_put, ↓ev_run, ↓sv_loopK, ↓sv_for, ↓ev_iNew, ↓ev_iVal, ↓ev_srcT, ↓ev_srcR, ↓ev_srcS, ↓ev_srcL, ↓ev_rng1, ↓ev_rng1I, ↓ev_lComp, ↓sv_dput, ↓ev_in1, ↓ev_deI, ↓ev_deS, ↓ev_deB, ↓ev_dnI, ↓ev_dnS, ↓ev_dnB, ↓sv_okN, startL, List.map_cons, List.map_nil, List.length_cons, List.length_nil, Nat.reduceAdd, Nat.reduceSub, List.replicate, List.cons_append, List.nil_append, List.set_cons_zero, List.set_cons_succ, getL0, getLS, pick_nil, pick_one, true_and, and_self, List.append_nil, atI_0, atI_1, atI_2, atI_3, atI_4, ixN_0, ixN_1, ixN_2, ixN_3, List.getElem?_cons_zero, List.getElem?_cons_succ, Option.some.injEq, exists_eq_left', ite_true, ite_false, Bool.false_eq_true, if_true_b, if_false_b, dTy_n, dTy_b, dTy_i, dTy_s, dTy_t, dTy_r, dTy_l, decide_true, decide_false, Bool.not_true, Bool.not_false, decide_eq_true_eq, Bool.not_eq_true', decide_eq_false_iff_not, wipeL, Nat.zero_add, kit_ss, kit_is, kit_ns, kit_ts, kit_ls, kit_bs, kit_st, kit_it, kit_nt, kit_tt, kit_lt, kit_bt, kit_sl, kit_il, kit_nl, kit_tl, kit_ll, kit_bl, kit_si, kit_ii, kit_ni, kit_ti, kit_li, kit_bi, kit_sb, kit_ib, kit_nb, kit_tb, kit_lb, kit_bb]
  refine take (by rfl) p3 (by omega) (by decide) (by decide) fun k3 P4 k3a k3b p4 => ?_
  simp -implicitDefEqProofs only [↓ev_srcI, ↓ev_srcN, ↓ev_optS, ↓ev_ok, ↓ev_bind, ↓ev_eC, ↓ev_v0, ↓ev_vS, ↓ev_bin, ↓ev_aNil, ↓ev_aCons, ↓ev_tup, ↓ev_disp, ↓ev_new, ↓ev_seq, ↓ev_seqT, ↓ev_seqR, ↓ev_seqL, ↓ev_bOf, ↓ev_toB, ↓ev_bTru, ↓ev_bYes, ↓ev_bAnd, ↓ev_bOr, ↓ev_bNot, ↓ev_eAnd, ↓ev_eOr, ↓ev_eNot, ↓ev_eIf, ↓ev_chain, ↓ev_u, ↓ev_uq, ↓ev_lOf, ↓ev_cat, ↓ev_call, ↓ev_addI, ↓ev_addS, ↓ev_addT, ↓ev_sub, ↓ev_mul, ↓ev_fdiv, ↓ev_mod, ↓ev_pow, ↓ev_neg, ↓ev_negI, ↓ev_cmp, ↓ev_eqI, ↓ev_eqS, ↓ev_eqB, ↓ev_isN, ↓ev_isI, ↓ev_isB, ↓ev_isS, ↓ev_isT, ↓ev_isL, ↓ev_truB, ↓ev_truN, ↓ev_truI, ↓ev_truT, ↓ev_ixS, ↓ev_ixT, ↓ev_ixR, ↓ev_ixL, ↓ev_lenS, ↓ev_lenT, ↓ev_lenR, ↓ev_lenL, ↓ev_abs, ↓ev_intI, ↓ev_intB, ↓ev_intS, ↓ev_strI, ↓ev_max, ↓ev_min, ↓ev_gcd, ↓ev_isi, ↓ev_all, ↓ev_any, ↓ev_sum, ↓ev_rg1, ↓ev_rg1I, ↓ev_lSl, ↓ev_slR, ↓ev_oNo, ↓ev_oIs, ↓ev_toI, ↓ev_eSl, ↓ev_slS, ↓ev_split, ↓ev_onStr, ↓ev_join, ↓ev_mulS, ↓ev_ext, ↓ev_onLoc, ↓ev_mt, ↓ev_app, ↓ev_lRev, ↓ev_revL, ↓sv_nx, ↓sv_seq, ↓sv_ret, ↓sv_retN, ↓sv_ex, ↓sv_if, ↓sv_set, ↓sv_par, ↓sv_put, ↓ev_run, ↓sv_loopK, ↓sv_for, ↓ev_iNew, ↓ev_iVal, ↓ev_srcT, ↓ev_srcR, ↓ev_srcS, ↓ev_srcL, ↓ev_rng1, ↓ev_rng1I, ↓ev_lComp, ↓sv_dput, ↓ev_in1, ↓ev_deI, ↓ev_deS, ↓ev_deB, ↓ev_dnI, ↓ev_dnS, ↓ev_dnB, ↓sv_okN, startL, List.map_cons, List.map_nil, List.length_cons, List.length_nil, Nat.reduceAdd, Nat.reduceSub, List.replicate, List.cons_append, List.nil_append, List.set_cons_zero, List.set_cons_succ, getL0, getLS, pick_nil, pick_one, true_and, and_self, List.append_nil, atI_0, atI_1, atI_2, atI_3, atI_4, ixN_0, ixN_1, ixN_2, ixN_3, List.getElem?_cons_zero, List.getElem?_cons_succ, Option.some.injEq, exists_eq_left', ite_true, ite_false, Bool.false_eq_true, if_true_b, if_false_b, dTy_n, dTy_b, dTy_i, dTy_s, dTy_t, dTy_r, dTy_l, decide_true, decide_false, Bool.not_true, Bool.not_false, decide_eq_true_eq, Bool.not_eq_true', decide_eq_false_iff_not, wipeL, Nat.zero_add, kit_ss, kit_is, kit_ns, kit_ts, kit_ls, kit_bs, kit_st, kit_it, kit_nt, kit_tt, kit_lt, kit_bt, kit_sl, kit_il, kit_nl, kit_tl, kit_ll, kit_bl, kit_si, kit_ii, kit_ni, kit_ti, kit_li, kit_bi, kit_sb, kit_ib, kit_nb, kit_tb, kit_lb, kit_bb]
  have fin : ∀ t : Int, t.natAbs < 10 ^ 300 → Ev (lcall m_law_reduced [.int t, .int l0] [P4]) fun d h => Mid n [some (.loc 0), some (.int F), x, some (.int t0), some (.int l0), some d, none, none, none, none, none] h := by
    intro t ht
    refine lm_closed rfl (ev_mono (reduced_ok t l0 (by omega) (by omega)) ?_)
    rintro _ _ ⟨a, b, rfl, q1, q2, q3, q4⟩
    exact ⟨rfl, a, b, _, _, _, _, P4, rfl, rfl, p4.up (by omega), q1, q2, q3, by omega⟩
  have big : (10 : Int) ^ 252 * 1000 + 2 < 10 ^ 300 := by decide +kernel
  have big2 : (((10 : Nat) ^ 300 : Nat) : Int) = 10 ^ 300 := by decide +kernel
  have big3 : (10 : Int) ^ 300 < 2 ^ 1000 := by decide +kernel
  split
  · have hm1 : t0 * F ≤ 1000 * 10 ^ 252 := by
      by_cases h : 0 ≤ t0
      · exact Int.mul_le_mul (by omega) hF3 hF2 (by decide)
      · have := Int.mul_nonneg (show 0 ≤ -t0 by omega) hF2
        rw [Int.neg_mul] at this
        omega
    have hm2 : -(1000 * 10 ^ 252) ≤ t0 * F := by
      by_cases h : 0 ≤ t0
      · have := Int.mul_nonneg h hF2
        omega
      · have := Int.mul_le_mul (show -t0 ≤ 1000 by omega) hF3 hF2 (by decide)
        rw [Int.neg_mul] at this
        omega
    refine ⟨mulOk_of (a := 200) (b := 1000) ?_ ?_ (by decide), fin _ ?_⟩
    · have := nabs_lt (i := t0) (b := 2 ^ 200) (by omega) (by omega)
      exact this
    · have := nabs_lt (i := F) (b := 2 ^ 1000) (by omega) (by omega)
      exact this
    · omega
  · exact fin _ (by omega)
theorem ftx_len {a b : Int} (h : a.natAbs < 10 ^ 300) (h2 : b.natAbs < 10 ^ 300) : (ftx a b).length ≤ 3900 := by
  have hl : ∀ a : Int, a.natAbs < 10 ^ 300 → (itx a).length ≤ 1921 := fun a h => by
    have := int_text_len_1921 (log_small h)
    rw [str_itx, mkS_len] at this
    exact this
  unfold ftx
  have := hl a h
  have := hl b h2
  split
  · omega
  · simp; omega
theorem repr_ok {a b : Int} {h : Hm} {Q : D → Hm → Prop} (ha : a.natAbs < 10 ^ 300) (hb : b.natAbs < 10 ^ 300) (q : Q (.str (PyData.tuple [.int a, .int b]).shown) h) : Ev (dRepr (.tup [.int a, .int b]) h) Q := by
  unfold dRepr
  have e : pdF h 66 (.tup [.int a, .int b]) = some (.tuple [.int a, .int b]) := rfl
  rw [e, ev_bind, ev_okoS, ev_ite]
  refine ⟨?_, q⟩
  unfold reprOk
  have h1 : (PyData.tuple [.int a, .int b]).showable = true := by
    simp [PyData.showable, PyData.showableAll, log_small ha, log_small hb]
  have h2 : (PyData.tuple [.int a, .int b]).hasDict = false := rfl
  have h3 : (PyData.tuple [.int a, .int b]).depth ≤ 60 := by simp [PyData.depth, PyData.depthAll]
  have h4 : pw (PyData.tuple [.int a, .int b]) ≤ sizeLine := by
    have : sizeLine = 16777216 := by decide
    rw [this]; show 2000 + 2 + (2000 + 2 + 0) + 2 ≤ 16777216; decide
  rw [h1, h2, decide_eq_true h3, decide_eq_true h4]; rfl
def odds (a b : Int) : List D := [.str (mkS (ftx a b) ++ ("/1" : Str)), .str (("+" : Str) ++ mkS (ftx a b)), .str ((" " : Str) ++ mkS (ftx a b)), .str (mkS (ftx a b) ++ ("/0" : Str)), .str (("0" : Str) ++ mkS (ftx a b)), .str "-0", .str "2/4", .str "1/-2", .str "", .str "/", .tup [.int a, .int b], .non, .int 5,
  .str (Txt.mul "7" 301), .str (("1/" : Str) ++ Txt.mul "9" 301)]
theorem odd_s {x : Str} (hz : x.length + 2 ≤ sizeLine) (h : rdF x.cps.toList = none) : Ev (m_read_fraction [.str x] []) fun d _ => d = .non := by
  refine ev_mono (read_fraction_ok hz) ?_
  rintro _ _ rfl
  rw [h]; rfl
theorem odd_ok {a b : Int} (ha : a.natAbs < 10 ^ 300) (hb : b.natAbs < 10 ^ 300) (d : D) (hd : d ∈ odds a b) : d.cl = true ∧ Ev (m_read_fraction [d] []) fun d _ => d = .non := by
  have hsl : sizeLine = 16777216 := by decide
  have hfl := ftx_len ha hb
  unfold odds at hd
  simp only [List.mem_cons, List.not_mem_nil, or_false] at hd
  have m1 : (Str.ofString "/1") = mkS [47, 49] := by apply str_ext; decide +kernel
  have m2 : (Str.ofString "+") = mkS [43] := by apply str_ext; decide +kernel
  have m3 : (Str.ofString " ") = mkS [32] := by apply str_ext; decide +kernel
  have m4 : (Str.ofString "/0") = mkS [47, 48] := by apply str_ext; decide +kernel
  have m5 : (Str.ofString "0") = mkS [48] := by apply str_ext; decide +kernel
  rcases hd with rfl | rfl | rfl | rfl | rfl | rfl | rfl | rfl | rfl | rfl | rfl | rfl | rfl | rfl | rfl
  · rw [m1, mkS_app]
    exact ⟨rfl, odd_s (by rw [mkS_len]; simp; omega) (post_none (n := 1) (by decide) (by decide +kernel) (by decide) a b ha)⟩
  · rw [m2, mkS_app]
    exact ⟨rfl, odd_s (by rw [mkS_len]; simp; omega) (pre_none (p := [43]) (by decide) (fun a => rdI_bad (by decide) (by decide)) a b)⟩
  · rw [m3, mkS_app]
    exact ⟨rfl, odd_s (by rw [mkS_len]; simp; omega) (pre_none (p := [32]) (by decide) (fun a => rdI_bad (by decide) (by decide)) a b)⟩
  · rw [m4, mkS_app]
    exact ⟨rfl, odd_s (by rw [mkS_len]; simp; omega) (post_none (n := 0) (by decide) (by decide +kernel) (by decide) a b ha)⟩
  · rw [m5, mkS_app]
    exact ⟨rfl, odd_s (by rw [mkS_len]; simp; omega) (pre_none (p := [48]) (by decide) (fun a => rdI_zero a) a b)⟩
  · exact ⟨rfl, odd_s (by decide +kernel) (by decide +kernel)⟩
  · exact ⟨rfl, odd_s (by decide +kernel) (by decide +kernel)⟩
  · exact ⟨rfl, odd_s (by decide +kernel) (by decide +kernel)⟩
  · exact ⟨rfl, odd_s (by decide +kernel) (by decide +kernel)⟩
  · exact ⟨rfl, odd_s (by decide +kernel) (by decide +kernel)⟩
  · exact ⟨rfl, read_fraction_o rfl kit_ts⟩
  · exact ⟨rfl, read_fraction_o rfl kit_ns⟩
  · exact ⟨rfl, read_fraction_o rfl kit_is⟩
  · exact ⟨rfl, odd_s (by decide +kernel) (by decide +kernel)⟩
  · exact ⟨rfl, odd_s (by decide +kernel) (by decide +kernel)⟩
def fr : D → D
  | .tup [.int a, .int b] => .bl (decide (1 ≤ b ∧ Int.gcd a b = 1))
  | _ => .bl false
theorem number_ok (n : Nat) (P : MO) (hn : n ≤ 20000) (p : IsPot n P) : Ev (m_law_is_number_right [.loc 0] [P]) fun d h => ∃ P' r, h = P' :: r ∧ IsPot (n + 20) P' ∧ d = .bl true := by
  unfold m_law_is_number_right b_law_is_number_right
  rw [ev_run]
  refine number_1 hn p _ _ _ ?_
  rintro _ _ ⟨a, b, f, x, t, l, P1, rfl, rfl, p1, hb1, hb2, hg, ha⟩
  have hk : (1000 : Nat) < 10 ^ 300 := by decide +kernel
  have hb : b.natAbs < 10 ^ 300 := by omega
  have hsl : sizeLine = 16777216 := by decide
  have hfl := ftx_len ha hb
  refine sv_cut (fun ls h => ls = [some (.loc 0), f, x, t, l, some (.tup [.int a, .int b]), some (.str (mkS (ftx a b))), none, none, none, none] ∧ h = [P1]) ?_ ?_
  · simp -implicitDefEqProofs only [↓ev_srcI, ↓ev_srcN, ↓ev_optS, ↓ev_ok, ↓ev_bind, ↓ev_eC, ↓ev_v0, ↓ev_vS, ↓ev_bin, ↓ev_aNil, ↓ev_aCons, ↓ev_tup, ↓ev_disp, ↓ev_new, ↓ev_seq, ↓ev_seqT, ↓ev_seqR, ↓ev_seqL, ↓ev_bOf, ↓ev_toB, ↓ev_bTru, ↓ev_bYes, ↓ev_bAnd, ↓ev_bOr, ↓ev_bNot, ↓ev_eAnd, ↓ev_eOr, ↓ev_eNot, ↓ev_eIf, ↓ev_chain, ↓ev_u, ↓ev_uq, ↓ev_lOf, ↓ev_cat, ↓ev_call, ↓ev_addI, ↓ev_addS, ↓ev_addT, ↓ev_sub, ↓ev_mul, ↓ev_fdiv, ↓ev_mod, ↓ev_pow, ↓ev_neg, ↓ev_negI, ↓ev_cmp, ↓ev_eqI, ↓ev_eqS, ↓ev_eqB, ↓ev_isN, ↓ev_isI, ↓ev_isB, ↓ev_isS, ↓ev_isT, ↓ev_isL, ↓ev_truB, ↓ev_truN, ↓ev_truI, ↓ev_truT, ↓ev_ixS, ↓ev_ixT, ↓ev_ixR, ↓ev_ixL, ↓ev_lenS, ↓ev_lenT, ↓ev_lenR, ↓ev_lenL, ↓ev_abs, ↓ev_intI, ↓ev_intB, ↓ev_intS, ↓ev_strI, ↓ev_max, ↓ev_min, ↓ev_gcd, ↓ev_isi, ↓ev_all, ↓ev_any, ↓ev_sum, ↓ev_rg1, ↓ev_rg1I, ↓ev_lSl, ↓ev_slR, ↓ev_oNo, ↓ev_oIs, ↓ev_toI, ↓ev_eSl, ↓ev_slS, ↓ev_split, ↓ev_onStr, ↓ev_join, ↓ev_mulS, ↓ev_ext, ↓ev_onLoc, ↓ev_mt, ↓ev_app, ↓ev_lRev, ↓ev_revL, ↓sv_nx, ↓sv_seq, ↓sv_ret, ↓sv_retN, ↓sv_ex, ↓sv_if, ↓sv_set, ↓sv_par, ↓sv_put, ↓ev_run, ↓sv_loopK, ↓sv_for, ↓ev_iNew, ↓ev_iVal, ↓ev_srcT, ↓ev_srcR, ↓ev_srcS, ↓ev_srcL, ↓ev_rng1, ↓ev_rng1I, ↓ev_lComp, ↓sv_dput, ↓ev_in1, ↓ev_deI, ↓ev_deS, ↓ev_deB, ↓ev_dnI, ↓ev_dnS, ↓ev_dnB, ↓sv_okN, startL, List.map_cons, List.map_nil, List.length_cons, List.length_nil, Nat.reduceAdd, Nat.reduceSub, List.replicate, List.cons_append, List.nil_append, List.set_cons_zero, List.set_cons_succ, getL0, getLS, pick_nil, pick_one, true_and, and_self, List.append_nil, atI_0, atI_1, atI_2, atI_3, atI_4, ixN_0, ixN_1, ixN_2, ixN_3, List.getElem?_cons_zero, List.getElem?_cons_succ, Option.some.injEq, exists_eq_left', ite_true, ite_false, Bool.false_eq_true, if_true_b, if_false_b, dTy_n, dTy_b, dTy_i, dTy_s, dTy_t, dTy_r, dTy_l, decide_true, decide_false, Bool.not_true, Bool.not_false, decide_eq_true_eq, Bool.not_eq_true', decide_eq_false_iff_not, wipeL, Nat.zero_add, kit_ss, kit_is, kit_ns, kit_ts, kit_ls, kit_bs, kit_st, kit_it, kit_nt, kit_tt, kit_lt, kit_bt, kit_sl, kit_il, kit_nl, kit_tl, kit_ll, kit_bl, kit_si, kit_ii, kit_ni, kit_ti, kit_li, kit_bi, kit_sb, kit_ib, kit_nb, kit_tb, kit_lb, kit_bb]
    have hm : (Str.ofString "/") = mkS [47] := by apply str_ext; decide +kernel
    have l1 := int_text_len_1921 (log_small ha)
    have l2 := int_text_len_1921 (log_small hb)
    unfold ftx
    by_cases e : b = 1
    · rw [if_pos e, if_pos e]
      refine ⟨log_small ha, ?_, trivial⟩
      rw [← str_itx]
    · rw [if_neg e, if_neg e]
      rw [str_itx] at l1 l2 ⊢
      rw [mkS_len] at l1 l2
      rw [hm, mkS_app]
      refine ⟨log_small ha, by rw [mkS_len, mkS_len, List.length_singleton]; omega, log_small hb, ?_⟩
      rw [str_itx, mkS_app]
      refine ⟨by rw [mkS_len, mkS_len]; simp; omega, ?_, trivial⟩
      rw [List.append_assoc]; rfl
  rintro _ _ ⟨rfl, rfl⟩
  rw [sv_seq, sv_if]
  simp -implicitDefEqProofs only [↓ev_srcI, ↓ev_srcN, ↓ev_optS, ↓ev_ok, ↓ev_bind, ↓ev_eC, ↓ev_v0, ↓ev_vS, ↓ev_bin, ↓ev_aNil, ↓ev_aCons, ↓ev_tup, ↓ev_disp, ↓ev_new, ↓ev_seq, ↓ev_seqT, ↓ev_seqR, ↓ev_seqL, ↓ev_bOf, ↓ev_toB, ↓ev_bTru, ↓ev_bYes, ↓ev_bAnd, ↓ev_bOr, ↓ev_bNot, ↓ev_eAnd, ↓ev_eOr, ↓ev_eNot, ↓ev_eIf, ↓ev_chain, ↓ev_u, ↓ev_uq, ↓ev_lOf, ↓ev_cat, ↓ev_call, ↓ev_addI, ↓ev_addS, ↓ev_addT, ↓ev_sub, ↓ev_mul, ↓ev_fdiv, ↓ev_mod, ↓ev_pow, ↓ev_neg, ↓ev_negI, ↓ev_cmp, ↓ev_eqI, ↓ev_eqS, ↓ev_eqB, ↓ev_isN, ↓ev_isI, ↓ev_isB, ↓ev_isS, ↓ev_isT, ↓ev_isL, ↓ev_truB, ↓ev_truN, ↓ev_truI, ↓ev_truT, ↓ev_ixS, ↓ev_ixT, ↓ev_ixR, ↓ev_ixL, ↓ev_lenS, ↓ev_lenT, ↓ev_lenR, ↓ev_lenL, ↓ev_abs, ↓ev_intI, ↓ev_intB, ↓ev_intS, ↓ev_strI, ↓ev_max, ↓ev_min, ↓ev_gcd, ↓ev_isi, ↓ev_all, ↓ev_any, ↓ev_sum, ↓ev_rg1, ↓ev_rg1I, ↓ev_lSl, ↓ev_slR, ↓ev_oNo, ↓ev_oIs, ↓ev_toI, ↓ev_eSl, ↓ev_slS, ↓ev_split, ↓ev_onStr, ↓ev_join, ↓ev_mulS, ↓ev_ext, ↓ev_onLoc, ↓ev_mt, ↓ev_app, ↓ev_lRev, ↓ev_revL, ↓sv_nx, ↓sv_seq, ↓sv_ret, ↓sv_retN, ↓sv_ex, ↓sv_if, ↓sv_set, ↓sv_par, ↓sv_put, ↓ev_run, ↓sv_loopK, ↓sv_for, ↓ev_iNew, ↓ev_iVal, ↓ev_srcT, ↓ev_srcR, ↓ev_srcS, ↓ev_srcL, ↓ev_rng1, ↓ev_rng1I, ↓ev_lComp, ↓sv_dput, ↓ev_in1, ↓ev_deI, ↓ev_deS, ↓ev_deB, ↓ev_dnI, ↓ev_dnS, ↓ev_dnB, ↓sv_okN, startL, List.map_cons, List.map_nil, List.length_cons, List.length_nil, Nat.reduceAdd, Nat.reduceSub, List.replicate, List.cons_append, List.nil_append, List.set_cons_zero, List.set_cons_succ, getL0, getLS, pick_nil, pick_one, true_and, and_self, List.append_nil, atI_0, atI_1, atI_2, atI_3, atI_4, ixN_0, ixN_1, ixN_2, ixN_3, List.getElem?_cons_zero, List.getElem?_cons_succ, Option.some.injEq, exists_eq_left', ite_true, ite_false, Bool.false_eq_true, if_true_b, if_false_b, dTy_n, dTy_b, dTy_i, dTy_s, dTy_t, dTy_r, dTy_l, decide_true, decide_false, Bool.not_true, Bool.not_false, decide_eq_true_eq, Bool.not_eq_true', decide_eq_false_iff_not, wipeL, Nat.zero_add, kit_ss, kit_is, kit_ns, kit_ts, kit_ls, kit_bs, kit_st, kit_it, kit_nt, kit_tt, kit_lt, kit_bt, kit_sl, kit_il, kit_nl, kit_tl, kit_ll, kit_bl, kit_si, kit_ii, kit_ni, kit_ti, kit_li, kit_bi, kit_sb, kit_ib, kit_nb, kit_tb, kit_lb, kit_bb]
  refine lm_closed rfl (ev_mono (fraction_text_ok a b ha hb) ?_)
  rintro _ _ rfl
  refine ⟨rfl, ?_⟩
  simp -implicitDefEqProofs only [↓ev_srcI, ↓ev_srcN, ↓ev_optS, ↓ev_ok, ↓ev_bind, ↓ev_eC, ↓ev_v0, ↓ev_vS, ↓ev_bin, ↓ev_aNil, ↓ev_aCons, ↓ev_tup, ↓ev_disp, ↓ev_new, ↓ev_seq, ↓ev_seqT, ↓ev_seqR, ↓ev_seqL, ↓ev_bOf, ↓ev_toB, ↓ev_bTru, ↓ev_bYes, ↓ev_bAnd, ↓ev_bOr, ↓ev_bNot, ↓ev_eAnd, ↓ev_eOr, ↓ev_eNot, ↓ev_eIf, ↓ev_chain, ↓ev_u, ↓ev_uq, ↓ev_lOf, ↓ev_cat, ↓ev_call, ↓ev_addI, ↓ev_addS, ↓ev_addT, ↓ev_sub, ↓ev_mul, ↓ev_fdiv, ↓ev_mod, ↓ev_pow, ↓ev_neg, ↓ev_negI, ↓ev_cmp, ↓ev_eqI, ↓ev_eqS, ↓ev_eqB, ↓ev_isN, ↓ev_isI, ↓ev_isB, ↓ev_isS, ↓ev_isT, ↓ev_isL, ↓ev_truB, ↓ev_truN, ↓ev_truI, ↓ev_truT, ↓ev_ixS, ↓ev_ixT, ↓ev_ixR, ↓ev_ixL, ↓ev_lenS, ↓ev_lenT, ↓ev_lenR, ↓ev_lenL, ↓ev_abs, ↓ev_intI, ↓ev_intB, ↓ev_intS, ↓ev_strI, ↓ev_max, ↓ev_min, ↓ev_gcd, ↓ev_isi, ↓ev_all, ↓ev_any, ↓ev_sum, ↓ev_rg1, ↓ev_rg1I, ↓ev_lSl, ↓ev_slR, ↓ev_oNo, ↓ev_oIs, ↓ev_toI, ↓ev_eSl, ↓ev_slS, ↓ev_split, ↓ev_onStr, ↓ev_join, ↓ev_mulS, ↓ev_ext, ↓ev_onLoc, ↓ev_mt, ↓ev_app, ↓ev_lRev, ↓ev_revL, ↓sv_nx, ↓sv_seq, ↓sv_ret, ↓sv_retN, ↓sv_ex, ↓sv_if, ↓sv_set, ↓sv_par, ↓sv_put, ↓ev_run, ↓sv_loopK, ↓sv_for, ↓ev_iNew, ↓ev_iVal, ↓ev_srcT, ↓ev_srcR, ↓ev_srcS, ↓ev_srcL, ↓ev_rng1, ↓ev_rng1I, ↓ev_lComp, ↓sv_dput, ↓ev_in1, ↓ev_deI, ↓ev_deS, ↓ev_deB, ↓ev_dnI, ↓ev_dnS, ↓ev_dnB, ↓sv_okN, startL, List.map_cons, List.map_nil, List.length_cons, List.length_nil, Nat.reduceAdd, Nat.reduceSub, List.replicate, List.cons_append, List.nil_append, List.set_cons_zero, List.set_cons_succ, getL0, getLS, pick_nil, pick_one, true_and, and_self, List.append_nil, atI_0, atI_1, atI_2, atI_3, atI_4, ixN_0, ixN_1, ixN_2, ixN_3, List.getElem?_cons_zero, List.getElem?_cons_succ, Option.some.injEq, exists_eq_left', ite_true, ite_false, Bool.false_eq_true, if_true_b, if_false_b, dTy_n, dTy_b, dTy_i, dTy_s, dTy_t, dTy_r, dTy_l, decide_true, decide_false, Bool.not_true, Bool.not_false, decide_eq_true_eq, Bool.not_eq_true', decide_eq_false_iff_not, wipeL, Nat.zero_add, kit_ss, kit_is, kit_ns, kit_ts, kit_ls, kit_bs, kit_st, kit_it, kit_nt, kit_tt, kit_lt, kit_bt, kit_sl, kit_il, kit_nl, kit_tl, kit_ll, kit_bl, kit_si, kit_ii, kit_ni, kit_ti, kit_li, kit_bi, kit_sb, kit_ib, kit_nb, kit_tb, kit_lb, kit_bb]
  refine lm_closed rfl (ev_mono (read_fraction_ok (by rw [mkS_len]; omega)) ?_)
  rintro _ _ rfl
  rw [mkS_signs, rdF_ftx ha hb1 hb2 hg]
  refine ⟨rfl, ?_⟩
  show Ev (dRepr (.tup [.int a, .int b]) _) _
  refine repr_ok ha hb ?_
  refine repr_ok ha hb ?_
  simp -implicitDefEqProofs only [↓ev_srcI, ↓ev_srcN, ↓ev_optS, ↓ev_ok, ↓ev_bind, ↓ev_eC, ↓ev_v0, ↓ev_vS, ↓ev_bin, ↓ev_aNil, ↓ev_aCons, ↓ev_tup, ↓ev_disp, ↓ev_new, ↓ev_seq, ↓ev_seqT, ↓ev_seqR, ↓ev_seqL, ↓ev_bOf, ↓ev_toB, ↓ev_bTru, ↓ev_bYes, ↓ev_bAnd, ↓ev_bOr, ↓ev_bNot, ↓ev_eAnd, ↓ev_eOr, ↓ev_eNot, ↓ev_eIf, ↓ev_chain, ↓ev_u, ↓ev_uq, ↓ev_lOf, ↓ev_cat, ↓ev_call, ↓ev_addI, ↓ev_addS, ↓ev_addT, ↓ev_sub, ↓ev_mul, ↓ev_fdiv, ↓ev_mod, ↓ev_pow, ↓ev_neg, ↓ev_negI, ↓ev_cmp, ↓ev_eqI, ↓ev_eqS, ↓ev_eqB, ↓ev_isN, ↓ev_isI, ↓ev_isB, ↓ev_isS, ↓ev_isT, ↓ev_isL, ↓ev_truB, ↓ev_truN, ↓ev_truI, ↓ev_truT, ↓ev_ixS, ↓ev_ixT, ↓ev_ixR, ↓ev_ixL, ↓ev_lenS, ↓ev_lenT, ↓ev_lenR, ↓ev_lenL, ↓ev_abs, ↓ev_intI, ↓ev_intB, ↓ev_intS, ↓ev_strI, ↓ev_max, ↓ev_min, ↓ev_gcd, ↓ev_isi, ↓ev_all, ↓ev_any, ↓ev_sum, ↓ev_rg1, ↓ev_rg1I, ↓ev_lSl, ↓ev_slR, ↓ev_oNo, ↓ev_oIs, ↓ev_toI, ↓ev_eSl, ↓ev_slS, ↓ev_split, ↓ev_onStr, ↓ev_join, ↓ev_mulS, ↓ev_ext, ↓ev_onLoc, ↓ev_mt, ↓ev_app, ↓ev_lRev, ↓ev_revL, ↓sv_nx, ↓sv_seq, ↓sv_ret, ↓sv_retN, ↓sv_ex, ↓sv_if, ↓sv_set, ↓sv_par, ↓sv_put, ↓ev_run, ↓sv_loopK, ↓sv_for, ↓ev_iNew, ↓ev_iVal, ↓ev_srcT, ↓ev_srcR, ↓ev_srcS, ↓ev_srcL, ↓ev_rng1, ↓ev_rng1I, ↓ev_lComp, ↓sv_dput, ↓ev_in1, ↓ev_deI, ↓ev_deS, ↓ev_deB, ↓ev_dnI, ↓ev_dnS, ↓ev_dnB, ↓sv_okN, startL, List.map_cons, List.map_nil, List.length_cons, List.length_nil, Nat.reduceAdd, Nat.reduceSub, List.replicate, List.cons_append, List.nil_append, List.set_cons_zero, List.set_cons_succ, getL0, getLS, pick_nil, pick_one, true_and, and_self, List.append_nil, atI_0, atI_1, atI_2, atI_3, atI_4, ixN_0, ixN_1, ixN_2, ixN_3, List.getElem?_cons_zero, List.getElem?_cons_succ, Option.some.injEq, exists_eq_left', ite_true, ite_false, Bool.false_eq_true, if_true_b, if_false_b, dTy_n, dTy_b, dTy_i, dTy_s, dTy_t, dTy_r, dTy_l, decide_true, decide_false, Bool.not_true, Bool.not_false, decide_eq_true_eq, Bool.not_eq_true', decide_eq_false_iff_not, wipeL, Nat.zero_add, kit_ss, kit_is, kit_ns, kit_ts, kit_ls, kit_bs, kit_st, kit_it, kit_nt, kit_tt, kit_lt, kit_bt, kit_sl, kit_il, kit_nl, kit_tl, kit_ll, kit_bl, kit_si, kit_ii, kit_ni, kit_ti, kit_li, kit_bi, kit_sb, kit_ib, kit_nb, kit_tb, kit_lb, kit_bb]
  have L : ∀ s : Str, s.length ≤ 100 → s.length + (mkS (ftx a b)).length ≤ sizeLine ∧ (mkS (ftx a b)).length + s.length ≤ sizeLine := fun s hs => by rw [mkS_len]; omega
  refine ⟨(L _ (by decide +kernel)).2, (L _ (by decide +kernel)).1, (L _ (by decide +kernel)).1, (L _ (by decide +kernel)).2, (L _ (by decide +kernel)).1, by decide, by decide +kernel, by decide +kernel, by decide +kernel, by decide, by decide, ?_⟩
  refine take (by rfl) p1 (by omega) (by decide) (by decide) fun k P2 k1 k2 p2 => ?_
  obtain ⟨d, hd, hm⟩ := atI_i (xs := odds a b) (i := k) k1 k2
  obtain ⟨dc, dq⟩ := odd_ok ha hb d hm
  simp -implicitDefEqProofs only [↓ev_srcI, ↓ev_srcN, ↓ev_optS, ↓ev_ok, ↓ev_bind, ↓ev_eC, ↓ev_v0, ↓ev_vS, ↓ev_bin, ↓ev_aNil, ↓ev_aCons, ↓ev_tup, ↓ev_disp, ↓ev_new, ↓ev_seq, ↓ev_seqT, ↓ev_seqR, ↓ev_seqL, ↓ev_bOf, ↓ev_toB, ↓ev_bTru, ↓ev_bYes, ↓ev_bAnd, ↓ev_bOr, ↓ev_bNot, ↓ev_eAnd, ↓ev_eOr, ↓ev_eNot, ↓ev_eIf, ↓ev_chain, ↓ev_u, ↓ev_uq, ↓ev_lOf, ↓ev_cat, ↓ev_call, ↓ev_addI, ↓ev_addS, ↓ev_addT, ↓ev_sub, ↓ev_mul, ↓ev_fdiv, ↓ev_mod, ↓ev_pow, ↓ev_neg, ↓ev_negI, ↓ev_cmp, ↓ev_eqI, ↓ev_eqS, ↓ev_eqB, ↓ev_isN, ↓ev_isI, ↓ev_isB, ↓ev_isS, ↓ev_isT, ↓ev_isL, ↓ev_truB, ↓ev_truN, ↓ev_truI, ↓ev_truT, ↓ev_ixS, ↓ev_ixT, ↓ev_ixR, ↓ev_ixL, ↓ev_lenS, ↓ev_lenT, ↓ev_lenR, ↓ev_lenL, ↓ev_abs, ↓ev_intI, ↓ev_intB, ↓ev_intS, ↓ev_strI, ↓ev_max, ↓ev_min, ↓ev_gcd, ↓ev_isi, ↓ev_all, ↓ev_any, ↓ev_sum, ↓ev_rg1, ↓ev_rg1I, ↓ev_lSl, ↓ev_slR, ↓ev_oNo, ↓ev_oIs, ↓ev_toI, ↓ev_eSl, ↓ev_slS, ↓ev_split, ↓ev_onStr, ↓ev_join, ↓ev_mulS, ↓ev_ext, ↓ev_onLoc, ↓ev_mt, ↓ev_app, ↓ev_lRev, ↓ev_revL, ↓sv_nx, ↓sv_seq, ↓sv_ret, ↓sv_retN, ↓sv_ex, ↓sv_if, ↓sv_set, ↓sv_par, ↓sv_put, ↓ev_run, ↓sv_loopK, ↓sv_for, ↓ev_iNew, ↓ev_iVal, ↓ev_srcT, ↓ev_srcR, ↓ev_srcS, ↓ev_srcL, ↓ev_rng1, ↓ev_rng1I, ↓ev_lComp, ↓sv_dput, ↓ev_in1, ↓ev_deI, ↓ev_deS, ↓ev_deB, ↓ev_dnI, ↓ev_dnS, ↓ev_dnB, ↓sv_okN, startL, List.map_cons, List.map_nil, List.length_cons, List.length_nil, Nat.reduceAdd, Nat.reduceSub, List.replicate, List.cons_append, List.nil_append, List.set_cons_zero, List.set_cons_succ, getL0, getLS, pick_nil, pick_one, true_and, and_self, List.append_nil, atI_0, atI_1, atI_2, atI_3, atI_4, ixN_0, ixN_1, ixN_2, ixN_3, List.getElem?_cons_zero, List.getElem?_cons_succ, Option.some.injEq, exists_eq_left', ite_true, ite_false, Bool.false_eq_true, if_true_b, if_false_b, dTy_n, dTy_b, dTy_i, dTy_s, dTy_t, dTy_r, dTy_l, decide_true, decide_false, Bool.not_true, Bool.not_false, decide_eq_true_eq, Bool.not_eq_true', decide_eq_false_iff_not, wipeL, Nat.zero_add, kit_ss, kit_is, kit_ns, kit_ts, kit_ls, kit_bs, kit_st, kit_it, kit_nt, kit_tt, kit_lt, kit_bt, kit_sl, kit_il, kit_nl, kit_tl, kit_ll, kit_bl, kit_si, kit_ii, kit_ni, kit_ti, kit_li, kit_bi, kit_sb, kit_ib, kit_nb, kit_tb, kit_lb, kit_bb]
  refine ⟨d, hd, lm_closed (by simp [cls, dc]) (ev_mono dq ?_)⟩
  rintro _ _ rfl
  refine ⟨rfl, ?_⟩
  simp -implicitDefEqProofs only [↓ev_srcI, ↓ev_srcN, ↓ev_optS, ↓ev_ok, ↓ev_bind, ↓ev_eC, ↓ev_v0, ↓ev_vS, ↓ev_bin, ↓ev_aNil, ↓ev_aCons, ↓ev_tup, ↓ev_disp, ↓ev_new, ↓ev_seq, ↓ev_seqT, ↓ev_seqR, ↓ev_seqL, ↓ev_bOf, ↓ev_toB, ↓ev_bTru, ↓ev_bYes, ↓ev_bAnd, ↓ev_bOr, ↓ev_bNot, ↓ev_eAnd, ↓ev_eOr, ↓ev_eNot, ↓ev_eIf, ↓ev_chain, ↓ev_u, ↓ev_uq, ↓ev_lOf, ↓ev_cat, ↓ev_call, ↓ev_addI, ↓ev_addS, ↓ev_addT, ↓ev_sub, ↓ev_mul, ↓ev_fdiv, ↓ev_mod, ↓ev_pow, ↓ev_neg, ↓ev_negI, ↓ev_cmp, ↓ev_eqI, ↓ev_eqS, ↓ev_eqB, ↓ev_isN, ↓ev_isI, ↓ev_isB, ↓ev_isS, ↓ev_isT, ↓ev_isL, ↓ev_truB, ↓ev_truN, ↓ev_truI, ↓ev_truT, ↓ev_ixS, ↓ev_ixT, ↓ev_ixR, ↓ev_ixL, ↓ev_lenS, ↓ev_lenT, ↓ev_lenR, ↓ev_lenL, ↓ev_abs, ↓ev_intI, ↓ev_intB, ↓ev_intS, ↓ev_strI, ↓ev_max, ↓ev_min, ↓ev_gcd, ↓ev_isi, ↓ev_all, ↓ev_any, ↓ev_sum, ↓ev_rg1, ↓ev_rg1I, ↓ev_lSl, ↓ev_slR, ↓ev_oNo, ↓ev_oIs, ↓ev_toI, ↓ev_eSl, ↓ev_slS, ↓ev_split, ↓ev_onStr, ↓ev_join, ↓ev_mulS, ↓ev_ext, ↓ev_onLoc, ↓ev_mt, ↓ev_app, ↓ev_lRev, ↓ev_revL, ↓sv_nx, ↓sv_seq, ↓sv_ret, ↓sv_retN, ↓sv_ex, ↓sv_if, ↓sv_set, ↓sv_par, ↓sv_put, ↓ev_run, ↓sv_loopK, ↓sv_for, ↓ev_iNew, ↓ev_iVal, ↓ev_srcT, ↓ev_srcR, ↓ev_srcS, ↓ev_srcL, ↓ev_rng1, ↓ev_rng1I, ↓ev_lComp, ↓sv_dput, ↓ev_in1, ↓ev_deI, ↓ev_deS, ↓ev_deB, ↓ev_dnI, ↓ev_dnS, ↓ev_dnB, ↓sv_okN, startL, List.map_cons, List.map_nil, List.length_cons, List.length_nil, Nat.reduceAdd, Nat.reduceSub, List.replicate, List.cons_append, List.nil_append, List.set_cons_zero, List.set_cons_succ, getL0, getLS, pick_nil, pick_one, true_and, and_self, List.append_nil, atI_0, atI_1, atI_2, atI_3, atI_4, ixN_0, ixN_1, ixN_2, ixN_3, List.getElem?_cons_zero, List.getElem?_cons_succ, Option.some.injEq, exists_eq_left', ite_true, ite_false, Bool.false_eq_true, if_true_b, if_false_b, dTy_n, dTy_b, dTy_i, dTy_s, dTy_t, dTy_r, dTy_l, decide_true, decide_false, Bool.not_true, Bool.not_false, decide_eq_true_eq, Bool.not_eq_true', decide_eq_false_iff_not, wipeL, Nat.zero_add, kit_ss, kit_is, kit_ns, kit_ts, kit_ls, kit_bs, kit_st, kit_it, kit_nt, kit_tt, kit_lt, kit_bt, kit_sl, kit_il, kit_nl, kit_tl, kit_ll, kit_bl, kit_si, kit_ii, kit_ni, kit_ti, kit_li, kit_bi, kit_sb, kit_ib, kit_nb, kit_tb, kit_lb, kit_bb]
  have h1000 : (10 : Nat) ^ 300 < 2 ^ 1000 := by decide +kernel
  refine ⟨mulOk_of (a := 1000) (b := 2) (by omega) (by decide) (by decide), mulOk_of (a := 1000) (b := 2) (by omega) (by decide) (by decide), by decide, by decide, by decide, by decide, by decide, by decide, by decide, by decide, by decide, by decide, ?_⟩
  show Ev (dRepr (.tup [.int a, .int b]) _) _
  refine repr_ok ha hb ?_
  simp -implicitDefEqProofs only [↓ev_srcI, ↓ev_srcN, ↓ev_optS, ↓ev_ok, ↓ev_bind, ↓ev_eC, ↓ev_v0, ↓ev_vS, ↓ev_bin, ↓ev_aNil, ↓ev_aCons, ↓ev_tup, ↓ev_disp, ↓ev_new, ↓ev_seq, ↓ev_seqT, ↓ev_seqR, ↓ev_seqL, ↓ev_bOf, ↓ev_toB, ↓ev_bTru, ↓ev_bYes, ↓ev_bAnd, ↓ev_bOr, ↓ev_bNot, ↓ev_eAnd, ↓ev_eOr, ↓ev_eNot, ↓ev_eIf, ↓ev_chain, ↓ev_u, ↓ev_uq, ↓ev_lOf, ↓ev_cat, ↓ev_call, ↓ev_addI, ↓ev_addS, ↓ev_addT, ↓ev_sub, ↓ev_mul, ↓ev_fdiv, ↓ev_mod, ↓ev_pow, ↓ev_neg, ↓ev_negI, ↓ev_cmp, ↓ev_eqI, ↓ev_eqS, ↓ev_eqB, ↓ev_isN, ↓ev_isI, ↓ev_isB, ↓ev_isS, ↓ev_isT, ↓ev_isL, ↓ev_truB, ↓ev_truN, ↓ev_truI, ↓ev_truT, ↓ev_ixS, ↓ev_ixT, ↓ev_ixR, ↓ev_ixL, ↓ev_lenS, ↓ev_lenT, ↓ev_lenR, ↓ev_lenL, ↓ev_abs, ↓ev_intI, ↓ev_intB, ↓ev_intS, ↓ev_strI, ↓ev_max, ↓ev_min, ↓ev_gcd, ↓ev_isi, ↓ev_all, ↓ev_any, ↓ev_sum, ↓ev_rg1, ↓ev_rg1I, ↓ev_lSl, ↓ev_slR, ↓ev_oNo, ↓ev_oIs, ↓ev_toI, ↓ev_eSl, ↓ev_slS, ↓ev_split, ↓ev_onStr, ↓ev_join, ↓ev_mulS, ↓ev_ext, ↓ev_onLoc, ↓ev_mt, ↓ev_app, ↓ev_lRev, ↓ev_revL, ↓sv_nx, ↓sv_seq, ↓sv_ret, ↓sv_retN, ↓sv_ex, ↓sv_if, ↓sv_set, ↓sv_par, ↓sv_put, ↓ev_run, ↓sv_loopK, ↓sv_for, ↓ev_iNew, ↓ev_iVal, ↓ev_srcT, ↓ev_srcR, ↓ev_srcS, ↓ev_srcL, ↓ev_rng1, ↓ev_rng1I, ↓ev_lComp, ↓sv_dput, ↓ev_in1, ↓ev_deI, ↓ev_deS, ↓ev_deB, ↓ev_dnI, ↓ev_dnS, ↓ev_dnB, ↓sv_okN, startL, List.map_cons, List.map_nil, List.length_cons, List.length_nil, Nat.reduceAdd, Nat.reduceSub, List.replicate, List.cons_append, List.nil_append, List.set_cons_zero, List.set_cons_succ, getL0, getLS, pick_nil, pick_one, true_and, and_self, List.append_nil, atI_0, atI_1, atI_2, atI_3, atI_4, ixN_0, ixN_1, ixN_2, ixN_3, List.getElem?_cons_zero, List.getElem?_cons_succ, Option.some.injEq, exists_eq_left', ite_true, ite_false, Bool.false_eq_true, if_true_b, if_false_b, dTy_n, dTy_b, dTy_i, dTy_s, dTy_t, dTy_r, dTy_l, decide_true, decide_false, Bool.not_true, Bool.not_false, decide_eq_true_eq, Bool.not_eq_true', decide_eq_false_iff_not, wipeL, Nat.zero_add, kit_ss, kit_is, kit_ns, kit_ts, kit_ls, kit_bs, kit_st, kit_it, kit_nt, kit_tt, kit_lt, kit_bt, kit_sl, kit_il, kit_nl, kit_tl, kit_ll, kit_bl, kit_si, kit_ii, kit_ni, kit_ti, kit_li, kit_bi, kit_sb, kit_ib, kit_nb, kit_tb, kit_lb, kit_bb]
  refine ⟨by decide, by decide, by decide, by decide, by decide, ?_⟩
  refine ev_compFL fr [.tup [.int a, .int b], .tup [.int (a * 2), .int (b * 2)], .loc 2, .tup [.int a, .int b, .int 1], .tup [.int a, .int 0], .tup [.int a, .int (-b)], .tup [.bl true, .int 1], .tup [.int 1, .bl true], .str (PyData.tuple [.int a, .int b]).shown, .non, .int a, .tup [.int 0, .int 2], .tup [.int 0, .int 1]] (by rfl) (show 13 ≤ sizeLine by decide) (fun d hd => ?_) ?_
  · simp -implicitDefEqProofs only [↓ev_srcI, ↓ev_srcN, ↓ev_optS, ↓ev_ok, ↓ev_bind, ↓ev_eC, ↓ev_v0, ↓ev_vS, ↓ev_bin, ↓ev_aNil, ↓ev_aCons, ↓ev_tup, ↓ev_disp, ↓ev_new, ↓ev_seq, ↓ev_seqT, ↓ev_seqR, ↓ev_seqL, ↓ev_bOf, ↓ev_toB, ↓ev_bTru, ↓ev_bYes, ↓ev_bAnd, ↓ev_bOr, ↓ev_bNot, ↓ev_eAnd, ↓ev_eOr, ↓ev_eNot, ↓ev_eIf, ↓ev_chain, ↓ev_u, ↓ev_uq, ↓ev_lOf, ↓ev_cat, ↓ev_call, ↓ev_addI, ↓ev_addS, ↓ev_addT, ↓ev_sub, ↓ev_mul, ↓ev_fdiv, ↓ev_mod, ↓ev_pow, ↓ev_neg, ↓ev_negI, ↓ev_cmp, ↓ev_eqI, ↓ev_eqS, ↓ev_eqB, ↓ev_isN, ↓ev_isI, ↓ev_isB, ↓ev_isS, ↓ev_isT, ↓ev_isL, ↓ev_truB, ↓ev_truN, ↓ev_truI, ↓ev_truT, ↓ev_ixS, ↓ev_ixT, ↓ev_ixR, ↓ev_ixL, ↓ev_lenS, ↓ev_lenT, ↓ev_lenR, ↓ev_lenL, ↓ev_abs, ↓ev_intI, ↓ev_intB, ↓ev_intS, ↓ev_strI, ↓ev_max, ↓ev_min, ↓ev_gcd, ↓ev_isi, ↓ev_all, ↓ev_any, ↓ev_sum, ↓ev_rg1, ↓ev_rg1I, ↓ev_lSl, ↓ev_slR, ↓ev_oNo, ↓ev_oIs, ↓ev_toI, ↓ev_eSl, ↓ev_slS, ↓ev_split, ↓ev_onStr, ↓ev_join, ↓ev_mulS, ↓ev_ext, ↓ev_onLoc, ↓ev_mt, ↓ev_app, ↓ev_lRev, ↓ev_revL, ↓sv_nx, ↓sv_seq, ↓sv_ret, ↓sv_retN, ↓sv_ex, ↓sv_if, ↓sv_set, ↓sv_par, ↓sv_put, ↓ev_run, ↓sv_loopK, ↓sv_for, ↓ev_iNew, ↓ev_iVal, ↓ev_srcT, ↓ev_srcR, ↓ev_srcS, ↓ev_srcL, ↓ev_rng1, ↓ev_rng1I, ↓ev_lComp, ↓sv_dput, ↓ev_in1, ↓ev_deI, ↓ev_deS, ↓ev_deB, ↓ev_dnI, ↓ev_dnS, ↓ev_dnB, ↓sv_okN, startL, List.map_cons, List.map_nil, List.length_cons, List.length_nil, Nat.reduceAdd, Nat.reduceSub, List.replicate, List.cons_append, List.nil_append, List.set_cons_zero, List.set_cons_succ, getL0, getLS, pick_nil, pick_one, true_and, and_self, List.append_nil, atI_0, atI_1, atI_2, atI_3, atI_4, ixN_0, ixN_1, ixN_2, ixN_3, List.getElem?_cons_zero, List.getElem?_cons_succ, Option.some.injEq, exists_eq_left', ite_true, ite_false, Bool.false_eq_true, if_true_b, if_false_b, dTy_n, dTy_b, dTy_i, dTy_s, dTy_t, dTy_r, dTy_l, decide_true, decide_false, Bool.not_true, Bool.not_false, decide_eq_true_eq, Bool.not_eq_true', decide_eq_false_iff_not, wipeL, Nat.zero_add, kit_ss, kit_is, kit_ns, kit_ts, kit_ls, kit_bs, kit_st, kit_it, kit_nt, kit_tt, kit_lt, kit_bt, kit_sl, kit_il, kit_nl, kit_tl, kit_ll, kit_bl, kit_si, kit_ii, kit_ni, kit_ti, kit_li, kit_bi, kit_sb, kit_ib, kit_nb, kit_tb, kit_lb, kit_bb]
    simp only [List.mem_cons, List.not_mem_nil, or_false] at hd
    rcases hd with rfl | rfl | rfl | rfl | rfl | rfl | rfl | rfl | rfl | rfl | rfl | rfl | rfl
    · exact lm_closed rfl (ev_mono (is_fraction_ok _ _) fun _ _ e => by subst e; exact ⟨rfl, rfl, rfl⟩)
    · exact lm_closed rfl (ev_mono (is_fraction_ok _ _) fun _ _ e => by subst e; exact ⟨rfl, rfl, rfl⟩)
    · exact lm_one rfl (by rfl) rfl (ev_mono (frac_o rfl kit_lt _) fun _ _ e => by obtain ⟨e1, e2⟩ := e; subst e1; subst e2; exact ⟨_, _, rfl, rfl, rfl, rfl, rfl⟩)
    · exact lm_closed rfl (ev_mono (frac_3 _ _ _) fun _ _ e => by subst e; exact ⟨rfl, rfl, rfl⟩)
    · exact lm_closed rfl (ev_mono (is_fraction_ok _ _) fun _ _ e => by subst e; exact ⟨rfl, rfl, rfl⟩)
    · exact lm_closed rfl (ev_mono (is_fraction_ok _ _) fun _ _ e => by subst e; exact ⟨rfl, rfl, rfl⟩)
    · exact lm_closed rfl (ev_mono (frac_b1 _ _) fun _ _ e => by subst e; exact ⟨rfl, rfl, rfl⟩)
    · exact lm_closed rfl (ev_mono (frac_b2 _ _) fun _ _ e => by subst e; exact ⟨rfl, rfl, rfl⟩)
    · exact lm_closed rfl (ev_mono (frac_o rfl kit_st _) fun _ _ e => by obtain ⟨e1, e2⟩ := e; subst e1; exact ⟨rfl, rfl, rfl⟩)
    · exact lm_closed rfl (ev_mono (frac_o rfl kit_nt _) fun _ _ e => by obtain ⟨e1, e2⟩ := e; subst e1; exact ⟨rfl, rfl, rfl⟩)
    · exact lm_closed rfl (ev_mono (frac_o rfl kit_it _) fun _ _ e => by obtain ⟨e1, e2⟩ := e; subst e1; exact ⟨rfl, rfl, rfl⟩)
    · exact lm_closed rfl (ev_mono (is_fraction_ok _ _) fun _ _ e => by subst e; exact ⟨rfl, rfl, rfl⟩)
    · exact lm_closed rfl (ev_mono (is_fraction_ok _ _) fun _ _ e => by subst e; exact ⟨rfl, rfl, rfl⟩)
  · have e1 : decide (1 ≤ b ∧ Int.gcd a b = 1) = true := decide_eq_true ⟨hb1, hg⟩
    have e2 : decide (1 ≤ b * 2 ∧ Int.gcd (a * 2) (b * 2) = 1) = false := decide_eq_false fun z => by
      rw [Int.gcd_mul_right, hg] at z
      exact absurd z.2 (by decide)
    have e3 : decide ((1 : Int) ≤ 0 ∧ Int.gcd a 0 = 1) = false := decide_eq_false fun z => absurd z.1 (by decide)
    have e4 : decide (1 ≤ -b ∧ Int.gcd a (-b) = 1) = false := decide_eq_false fun z => by omega
    refine eq_bls (bs := [true, false, false, false, false, false, false, false, false, false, false, false, true]) ?_ (by rfl) (by decide +kernel) (by decide +kernel) ?_
    · show some [D.bl _, D.bl _, D.bl false, D.bl false, D.bl _, D.bl _, D.bl false, D.bl false, D.bl false, D.bl false, D.bl false, D.bl _, D.bl _] = some [D.bl true, D.bl false, D.bl false, D.bl false, D.bl false, D.bl false, D.bl false, D.bl false, D.bl false, D.bl false, D.bl false, D.bl false, D.bl true]
      rw [e1, e2, e3, e4]
      rfl
    · exact ⟨_, _, rfl, p2.up (by omega), rfl⟩
end K00

set_option Elab.async false
set_option linter.all false
set_option maxRecDepth 100000
set_option maxHeartbeats 4000000
namespace K00
open PySem PySem.Spec PyProof.Rows L2 MP
theorem law_ok (ns : List Int) (h : ns.length ≤ 63) : ∃ h', m_law [.rls (ns.map D.int)] [] = .ok (.bl true) h' := law_ok' (right_ok number_ok) ns
theorem fin {P : Program} {w : World} {K : PySem.W.Frag} {mg : Str → Option Value} {fa : Addr} (T : Txt K mg) (hmg : mg "law" = some (.ref fa)) :
    ∃ (fd : FuncData) (m : List D → Hm → Out D), (∀ (s : Shared) (u : Value), BindsTo s fd ⟨[u], []⟩ [("script", u)]) ∧ (∀ ns : List Int, ns.length ≤ 63 → ∃ h', m [.rls (ns.map D.int)] [] = .ok (.bl true) h') ∧
      ∀ base : Heap, K.In base → base.Ns mainGlobals mg → FnG P w K mg base 8 fa fd ["script"] m := by
  refine walkF (C := fun m => ∀ ns : List Int, ns.length ≤ 63 → ∃ h', m [.rls (ns.map D.int)] [] = .ok (.bl true) h') T.f_law hmg law_ok (fun _ _ _ _ _ _ _ => rfl) fun base => ?_
  have h_law_cells := D_law_cells (P := P) (w := w) (base := base) T 
  have h_law_pot := D_law_pot (P := P) (w := w) (base := base) T 
  have h_law_common := D_law_common (P := P) (w := w) (base := base) T 
  have h_law_reduced := D_law_reduced (P := P) (w := w) (base := base) T h_law_common
  have h_law_take := D_law_take (P := P) (w := w) (base := base) T 
  have h_read_integer := D_read_integer (P := P) (w := w) (base := base) T 
  have h_common := D_common (P := P) (w := w) (base := base) T 
  have h_is_integer := D_is_integer (P := P) (w := w) (base := base) T 
  have h_is_fraction := D_is_fraction (P := P) (w := w) (base := base) T h_common h_is_integer
  have h_read_fraction := D_read_fraction (P := P) (w := w) (base := base) T h_read_integer h_is_fraction
  have h_integer_text := D_integer_text (P := P) (w := w) (base := base) T
  have h_fraction_text := D_fraction_text (P := P) (w := w) (base := base) T ((h_integer_text 3).up (by decide))
  have h_law_is_number_right := D_law_is_number_right (P := P) (w := w) (base := base) T h_law_reduced h_law_take h_is_fraction h_read_fraction h_fraction_text
  have h_law_word := D_law_word (P := P) (w := w) (base := base) T h_law_take
  have h_is_level := D_is_level (P := P) (w := w) (base := base) T 
  have h_is_name := D_is_name (P := P) (w := w) (base := base) T h_is_level
  have h_law_is_word_right := D_law_is_word_right (P := P) (w := w) (base := base) T h_is_level h_is_name
  have h_law_right := D_law_right (P := P) (w := w) (base := base) T h_law_is_number_right h_law_word h_law_is_word_right
  have h_law := D_law (P := P) (w := w) (base := base) T h_law_cells h_law_pot h_law_right
  exact h_law
end K00
open PySem PySem.W PyProof.Rows
set_option maxHeartbeats 0 in
theorem PySem.Challenge.cw_trialslaidout_k00_levels_and_fractions_holds : PySem.Challenge.rw_trialslaidout_k00_levels_and_fractions.Holds := by
  w_on; o_law; k_head; (case hw => w_witness2)
  k_fill
  refine MP.walkG (l := PySem.Challenge.rw_trialslaidout_k00_levels_and_fractions) (n := 63) (k := 8) (x := "script") rfl (by decide) rfl ⟨rfl, by decide, by decide⟩ (fun w h Y => PySem.W.kIn_of Y) ?F
  case F =>
    intro w mg fa h KX G XV hmg
    refine K00.fin ?T hmg
    constructor
    · exact PySem.W.mg_none_of KX G (by k_is)
    · exact PySem.W.mg_none_of KX G (by k_is)
    · exact PySem.W.mg_none_of KX G (by k_is)
    · exact PySem.W.mg_none_of KX G (by k_is)
    · exact PySem.W.mg_none_of KX G (by k_is)
    · exact PySem.W.mg_none_of KX G (by k_is)
    · exact PySem.W.mg_none_of KX G (by k_is)
    · exact PySem.W.mg_none_of KX G (by k_is)
    · exact PySem.W.mg_none_of KX G (by k_is)
    · exact PySem.W.mg_none_of KX G (by k_is)
    · exact PySem.W.mg_none_of KX G (by k_is)
    · exact PySem.W.mg_none_of KX G (by k_is)
    · exact PySem.W.mg_none_of KX G (by k_is)
    · exact PySem.W.mg_none_of KX G (by k_is)
    · (first | (refine' MP.globE_int KX G ?a; (case a => k_is)) | (refine' MP.globE_str KX G ?a; (case a => k_is)) | (refine' MP.globE_bl KX G ?a; (case a => k_is)))
    · (first | (refine' MP.globE_int KX G ?a; (case a => k_is)) | (refine' MP.globE_str KX G ?a; (case a => k_is)) | (refine' MP.globE_bl KX G ?a; (case a => k_is)))
    · (first | (refine' MP.globE_int KX G ?a; (case a => k_is)) | (refine' MP.globE_str KX G ?a; (case a => k_is)) | (refine' MP.globE_bl KX G ?a; (case a => k_is)))
    · (first | (refine' MP.globE_int KX G ?a; (case a => k_is)) | (refine' MP.globE_str KX G ?a; (case a => k_is)) | (refine' MP.globE_bl KX G ?a; (case a => k_is)))
    · exact MP.globE_loose XV rfl
    · (first | (refine' MP.globE_int KX G ?a; (case a => k_is)) | (refine' MP.globE_str KX G ?a; (case a => k_is)) | (refine' MP.globE_bl KX G ?a; (case a => k_is)))
    · (first | (refine' MP.globE_int KX G ?a; (case a => k_is)) | (refine' MP.globE_str KX G ?a; (case a => k_is)) | (refine' MP.globE_bl KX G ?a; (case a => k_is)))
    · (refine' PySem.W.mg_of KX G ?a; (case a => k_is))
    · (refine' MP.funE_mk KX G ?a ?l ?c ?k; (case a => k_is); (case l => k_is); (case c => k_is); (case k => k_is))
    · (refine' MP.funE_mk KX G ?a ?l ?c ?k; (case a => k_is); (case l => k_is); (case c => k_is); (case k => k_is))
    · (refine' MP.funE_mk KX G ?a ?l ?c ?k; (case a => k_is); (case l => k_is); (case c => k_is); (case k => k_is))
    · (refine' MP.funE_mk KX G ?a ?l ?c ?k; (case a => k_is); (case l => k_is); (case c => k_is); (case k => k_is))
    · (refine' MP.funE_mk KX G ?a ?l ?c ?k; (case a => k_is); (case l => k_is); (case c => k_is); (case k => k_is))
    · (refine' MP.funE_mk KX G ?a ?l ?c ?k; (case a => k_is); (case l => k_is); (case c => k_is); (case k => k_is))
    · (refine' MP.funE_mk KX G ?a ?l ?c ?k; (case a => k_is); (case l => k_is); (case c => k_is); (case k => k_is))
    · (refine' MP.funE_mk KX G ?a ?l ?c ?k; (case a => k_is); (case l => k_is); (case c => k_is); (case k => k_is))
    · (refine' MP.funE_mk KX G ?a ?l ?c ?k; (case a => k_is); (case l => k_is); (case c => k_is); (case k => k_is))
    · (refine' MP.funE_mk KX G ?a ?l ?c ?k; (case a => k_is); (case l => k_is); (case c => k_is); (case k => k_is))
    · (refine' MP.funE_mk KX G ?a ?l ?c ?k; (case a => k_is); (case l => k_is); (case c => k_is); (case k => k_is))
    · (refine' MP.funE_mk KX G ?a ?l ?c ?k; (case a => k_is); (case l => k_is); (case c => k_is); (case k => k_is))
    · (refine' MP.funE_mk KX G ?a ?l ?c ?k; (case a => k_is); (case l => k_is); (case c => k_is); (case k => k_is))
    · (refine' MP.funE_mk KX G ?a ?l ?c ?k; (case a => k_is); (case l => k_is); (case c => k_is); (case k => k_is))
    · (refine' MP.funE_mk KX G ?a ?l ?c ?k; (case a => k_is); (case l => k_is); (case c => k_is); (case k => k_is))
    · (refine' MP.funE_mk KX G ?a ?l ?c ?k; (case a => k_is); (case l => k_is); (case c => k_is); (case k => k_is))
    · (refine' MP.funE_mk KX G ?a ?l ?c ?k; (case a => k_is); (case l => k_is); (case c => k_is); (case k => k_is))
    · (refine' MP.funE_mk KX G ?a ?l ?c ?k; (case a => k_is); (case l => k_is); (case c => k_is); (case k => k_is))
    · (refine' MP.funE_mk KX G ?a ?l ?c ?k; (case a => k_is); (case l => k_is); (case c => k_is); (case k => k_is))
