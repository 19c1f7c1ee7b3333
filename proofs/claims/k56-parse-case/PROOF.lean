import PyProof.Rows.All
import Wide.All
import OpenK.AllK
import Wide.FinOn
import KE.KStateDown
import HandS.ForMost
import HandS.WordsExc
import HandS.Defaults
import HandS.ExcCtx
import HandS.ExcInit
import HandS.HotCalls
import HandS.CallSlots
import HandS.TupAny
import HandS.Style
import HandS.Flow
import HandS.IsInst
import HandS.Wide
import HandS.Conv
import HandS.Walk
import HandS.RevTup
import HandS.Rev
import PyProof.ListStr
import HandS.SortInts
import HandS.HeadEnd
import HandS.ExcIs
import HandS.ExcField
import PyProof.ReprRoads
import HandS.Dict
import PyProof.StrOps2
import HandS.Head0
import HandS.Head1
import HandS.Head2
import HandS.HeadHook1
import HandS.HeadHook2
import HandS.Text
import PySem.Challenge.RW_marksought_k56_parse_case
set_option Elab.async false
set_option linter.all false
set_option maxRecDepth 100000
set_option maxHeartbeats 4000000
/-! A layer above the hand layer: tuples are values, objects that change have numbers. -/
namespace AL
open PySem L2

/-! ## values and the store -/
inductive D where
  | non | bl (b : Bool) | int (i : Int) | str (x : Str) | ty (n : String) | adr (a : Addr) | ref (n : Nat) | err (a : Addr) (n : Nat)
  | tup (ds : List D)

inductive MO where
  | lst (ds : List D)
  | fls (ds : List D)
  | dic (kvs : List (Key × D))
  | ins (C : Addr) (fs : List (Str × D))
  | xd (d : Addr) (fs : List (Str × D))

abbrev Mem := List MO
abbrev Sl := List (Option D)

mutual
inductive Rep (ι : List Addr) (H : Hp) : D → V → Prop
  | non : Rep ι H .non .non
  | bl (b : Bool) : Rep ι H (.bl b) (.bl b)
  | int (i : Int) : Rep ι H (.int i) (.int i)
  | str (x : Str) : Rep ι H (.str x) (.str x)
  | ty (n : String) : Rep ι H (.ty n) (.ty n)
  | adr (a : Addr) : Rep ι H (.adr a) (.ref a)
  | err (a : Addr) (n : Nat) : Rep ι H (.err a n) (.ref a)
  | ref {n : Nat} {a : Addr} (h : ι[n]? = some a) : Rep ι H (.ref n) (.ref a)
  | tup {ds : List D} {a : Addr} {vs : List V} (h : H a = some (.tup vs)) (r : Reps ι H ds vs) : Rep ι H (.tup ds) (.ref a)
inductive Reps (ι : List Addr) (H : Hp) : List D → List V → Prop
  | nil : Reps ι H [] []
  | cons {d : D} {v : V} {ds : List D} {vs : List V} (h : Rep ι H d v) (r : Reps ι H ds vs) : Reps ι H (d :: ds) (v :: vs)
end

structure Later (ι : List Addr) (H : Hp) (ι' : List Addr) (H' : Hp) : Prop where
  pre : ∃ t, ι' = ι ++ t
  tup : ∀ a xs, H a = some (.tup xs) → H' a = some (.tup xs)
theorem Later.refl {ι : List Addr} {H : Hp} : Later ι H ι H := ⟨⟨[], by simp⟩, fun _ _ h => h⟩
theorem Later.trans {ι ι1 ι2 : List Addr} {H H1 H2 : Hp} (a : Later ι H ι1 H1) (b : Later ι1 H1 ι2 H2) : Later ι H ι2 H2 := by
  obtain ⟨⟨s, rfl⟩, h1⟩ := a
  obtain ⟨⟨t, rfl⟩, h2⟩ := b
  exact ⟨⟨s ++ t, by simp⟩, fun a xs h => h2 a xs (h1 a xs h)⟩
theorem Later.at {ι ι' : List Addr} {H H' : Hp} (l : Later ι H ι' H') {n : Nat} {a : Addr} (h : ι[n]? = some a) : ι'[n]? = some a := by
  obtain ⟨⟨t, rfl⟩, _⟩ := l
  have := (List.getElem?_eq_some_iff.mp h).1
  rw [List.getElem?_append_left this]; exact h

mutual
theorem Rep.mono {ι ι' : List Addr} {H H' : Hp} (l : Later ι H ι' H') : ∀ {d : D} {v : V}, Rep ι H d v → Rep ι' H' d v
  | _, _, .non => .non
  | _, _, .bl b => .bl b
  | _, _, .int i => .int i
  | _, _, .str x => .str x
  | _, _, .ty n => .ty n
  | _, _, .adr a => .adr a
  | _, _, .err a n => .err a n
  | _, _, .ref h => .ref (l.at h)
  | _, _, .tup h r => .tup (l.tup _ _ h) (Reps.mono l r)
theorem Reps.mono {ι ι' : List Addr} {H H' : Hp} (l : Later ι H ι' H') : ∀ {ds : List D} {vs : List V}, Reps ι H ds vs → Reps ι' H' ds vs
  | _, _, .nil => .nil
  | _, _, .cons h r => .cons (Rep.mono l h) (Reps.mono l r)
end
theorem Reps.length {ι : List Addr} {H : Hp} : ∀ {ds : List D} {vs : List V}, Reps ι H ds vs → ds.length = vs.length
  | _, _, .nil => rfl
  | _, _, .cons _ r => congrArg (· + 1) r.length
theorem Reps.get {ι : List Addr} {H : Hp} : ∀ {ds : List D} {vs : List V} {i : Nat} {d : D}, Reps ι H ds vs → ds[i]? = some d → ∃ v, vs[i]? = some v ∧ Rep ι H d v
  | _, _, _, _, .nil, e => by simp at e
  | _, _, 0, _, .cons h _, e => by simp at e; subst e; exact ⟨_, rfl, h⟩
  | _, _, i + 1, d, .cons _ r, e => by
    obtain ⟨v, h1, h2⟩ := Reps.get (i := i) (d := d) r (by simpa using e)
    exact ⟨v, by simpa using h1, h2⟩
theorem Reps.get' {ι : List Addr} {H : Hp} : ∀ {ds : List D} {vs : List V} {i : Nat} {v : V}, Reps ι H ds vs → vs[i]? = some v → ∃ d, ds[i]? = some d ∧ Rep ι H d v
  | _, _, _, _, .nil, e => by simp at e
  | _, _, 0, _, .cons h _, e => by simp at e; subst e; exact ⟨_, rfl, h⟩
  | _, _, i + 1, v, .cons _ r, e => by
    obtain ⟨d, h1, h2⟩ := Reps.get' (i := i) (v := v) r (by simpa using e)
    exact ⟨d, by simpa using h1, h2⟩
theorem Reps.append {ι : List Addr} {H : Hp} : ∀ {ds es : List D} {vs us : List V}, Reps ι H ds vs → Reps ι H es us → Reps ι H (ds ++ es) (vs ++ us)
  | _, _, _, _, .nil, s => s
  | _, _, _, _, .cons h r, s => .cons h (Reps.append r s)
theorem Reps.set {ι : List Addr} {H : Hp} {d : D} {v : V} (hd : Rep ι H d v) : ∀ {ds : List D} {vs : List V} (i : Nat), Reps ι H ds vs → Reps ι H (ds.set i d) (vs.set i v)
  | _, _, _, .nil => .nil
  | _, _, 0, .cons _ r => .cons hd r
  | _, _, i + 1, .cons h r => .cons h (Reps.set hd i r)
theorem Reps.take {ι : List Addr} {H : Hp} : ∀ {ds : List D} {vs : List V} (n : Nat), Reps ι H ds vs → Reps ι H (ds.take n) (vs.take n)
  | _, _, 0, _ => .nil
  | _, _, _ + 1, .nil => .nil
  | _, _, n + 1, .cons h r => .cons h (Reps.take n r)
theorem Reps.drop {ι : List Addr} {H : Hp} : ∀ {ds : List D} {vs : List V} (n : Nat), Reps ι H ds vs → Reps ι H (ds.drop n) (vs.drop n)
  | _, _, 0, r => r
  | _, _, _ + 1, .nil => .nil
  | _, _, n + 1, .cons _ r => Reps.drop n r
theorem Reps.reverse {ι : List Addr} {H : Hp} : ∀ {ds : List D} {vs : List V}, Reps ι H ds vs → Reps ι H ds.reverse vs.reverse
  | _, _, .nil => .nil
  | _, _, .cons h r => by
    rw [List.reverse_cons, List.reverse_cons]
    exact (Reps.reverse r).append (.cons h .nil)

/-- keyed parts: entries of a dict, fields -/
inductive FRep {κ : Type} (ι : List Addr) (H : Hp) : List (κ × D) → List (κ × V) → Prop
  | nil : FRep ι H [] []
  | cons {k : κ} {d : D} {v : V} {ds : List (κ × D)} {vs : List (κ × V)} (h : Rep ι H d v) (r : FRep ι H ds vs) : FRep ι H ((k, d) :: ds) ((k, v) :: vs)
theorem FRep.mono {κ : Type} {ι ι' : List Addr} {H H' : Hp} (l : Later ι H ι' H') : ∀ {ds : List (κ × D)} {vs : List (κ × V)}, FRep ι H ds vs → FRep ι' H' ds vs
  | _, _, .nil => .nil
  | _, _, .cons h r => .cons (h.mono l) (r.mono l)
theorem FRep.length {κ : Type} {ι : List Addr} {H : Hp} : ∀ {ds : List (κ × D)} {vs : List (κ × V)}, FRep ι H ds vs → ds.length = vs.length
  | _, _, .nil => rfl
  | _, _, .cons _ r => congrArg (· + 1) r.length
theorem FRep.look {κ : Type} [BEq κ] {ι : List Addr} {H : Hp} {k : κ} : ∀ {ds : List (κ × D)} {vs : List (κ × V)} {d : D}, FRep ι H ds vs → ds.lookup k = some d → ∃ v, vs.lookup k = some v ∧ Rep ι H d v
  | _, _, _, .nil, e => by simp at e
  | _, _, d, .cons (k := k') (d := d') (v := v') h r, e => by
    rw [List.lookup_cons] at e ⊢
    cases hk : k == k' with
    | true => rw [hk] at e; cases e; exact ⟨_, rfl, h⟩
    | false => rw [hk] at e; exact r.look e
theorem FRep.look_none {κ : Type} [BEq κ] {ι : List Addr} {H : Hp} {k : κ} : ∀ {ds : List (κ × D)} {vs : List (κ × V)}, FRep ι H ds vs → ds.lookup k = none → vs.lookup k = none
  | _, _, .nil, e => rfl
  | _, _, .cons (k := k') (d := d') (v := v') h r, e => by
    rw [List.lookup_cons] at e ⊢
    cases hk : k == k' with
    | true => rw [hk] at e; cases e
    | false => rw [hk] at e; exact r.look_none e
theorem FRep.keys {κ : Type} {ι : List Addr} {H : Hp} : ∀ {ds : List (κ × D)} {vs : List (κ × V)}, FRep ι H ds vs → ds.map (·.1) = vs.map (·.1)
  | _, _, .nil => rfl
  | _, _, .cons _ r => congrArg (_ :: ·) r.keys

def ORep (ι : List Addr) (H : Hp) : MO → Addr → Prop
  | .lst ds, a => ∃ vs, H a = some (.lst vs) ∧ Reps ι H ds vs
  | .fls ds, a => ∃ o vs, H a = some (.frz o (.lst vs)) ∧ Reps ι H ds vs
  | .dic kvs, a => ∃ kv, H a = some (.dK kv) ∧ FRep ι H kvs kv
  | .ins C fs, a => ∃ dx gs, H a = some (.ins C dx gs) ∧ FRep ι H fs gs
  | .xd d fs, a => a = d ∧ ∃ gs, H a = some (.xd gs) ∧ FRep ι H fs gs
theorem ORep.there {ι : List Addr} {H : Hp} {o : MO} {a : Addr} (h : ORep ι H o a) : ∃ u, H a = some u := by
  cases o with
  | lst ds => obtain ⟨_, e, _⟩ := h; exact ⟨_, e⟩
  | fls ds => obtain ⟨_, _, e, _⟩ := h; exact ⟨_, e⟩
  | dic ds => obtain ⟨_, e, _⟩ := h; exact ⟨_, e⟩
  | ins C ds => obtain ⟨_, _, e, _⟩ := h; exact ⟨_, e⟩
  | xd d ds => obtain ⟨_, _, e, _⟩ := h; exact ⟨_, e⟩
theorem ORep.notup {ι : List Addr} {H : Hp} {o : MO} {a : Addr} (h : ORep ι H o a) {xs : List V} : H a ≠ some (.tup xs) := by
  intro q
  cases o with
  | lst ds => obtain ⟨_, e, _⟩ := h; rw [q] at e; cases e
  | fls ds => obtain ⟨_, _, e, _⟩ := h; rw [q] at e; cases e
  | dic ds => obtain ⟨_, e, _⟩ := h; rw [q] at e; cases e
  | ins C ds => obtain ⟨_, _, e, _⟩ := h; rw [q] at e; cases e
  | xd d ds => obtain ⟨_, _, e, _⟩ := h; rw [q] at e; cases e
/-- carried to a later heap where its own place is as it was -/
theorem ORep.mono {ι ι' : List Addr} {H H' : Hp} (l : Later ι H ι' H') {o : MO} {a : Addr} (e : H' a = H a) (h : ORep ι H o a) : ORep ι' H' o a := by
  cases o with
  | lst ds => obtain ⟨_, q, r⟩ := h; exact ⟨_, e.trans q, r.mono l⟩
  | fls ds => obtain ⟨_, _, q, r⟩ := h; exact ⟨_, _, e.trans q, r.mono l⟩
  | dic ds => obtain ⟨_, q, r⟩ := h; exact ⟨_, e.trans q, r.mono l⟩
  | ins C ds => obtain ⟨_, _, q, r⟩ := h; exact ⟨_, _, e.trans q, r.mono l⟩
  | xd d ds => obtain ⟨z, _, q, r⟩ := h; exact ⟨z, _, e.trans q, r.mono l⟩

structure Rel (ι : List Addr) (M : Mem) (H : Hp) : Prop where
  len : ι.length = M.length
  nd : ι.Nodup
  ob : ∀ (n : Nat) (a : Addr) (o : MO), ι[n]? = some a → M[n]? = some o → ORep ι H o a
theorem Rel.at {ι : List Addr} {M : Mem} {H : Hp} (R : Rel ι M H) {n : Nat} {o : MO} (h : M[n]? = some o) : ∃ a, ι[n]? = some a ∧ ORep ι H o a := by
  have hn := (List.getElem?_eq_some_iff.mp h).1
  have : n < ι.length := by rw [R.len]; exact hn
  exact ⟨ι[n], List.getElem?_eq_getElem this, R.ob n _ o (List.getElem?_eq_getElem this) h⟩
theorem Rel.has {ι : List Addr} {M : Mem} {H : Hp} (R : Rel ι M H) {n : Nat} {a : Addr} (h : ι[n]? = some a) : ∃ o, M[n]? = some o := by
  have hn := (List.getElem?_eq_some_iff.mp h).1
  have : n < M.length := by rw [← R.len]; exact hn
  exact ⟨_, List.getElem?_eq_getElem this⟩
theorem later_new {ι : List Addr} {H : Hp} {p : Addr} {u : HO} (hp : H p = none) : Later ι H ι (upd H p u) :=
  ⟨⟨[], by simp⟩, fun a xs h => by rw [upd_ne (ne_of_none h hp)]; exact h⟩
theorem later_newI {ι : List Addr} {H : Hp} {p : Addr} {u : HO} (hp : H p = none) : Later ι H (ι ++ [p]) (upd H p u) :=
  ⟨⟨[p], rfl⟩, fun a xs h => by rw [upd_ne (ne_of_none h hp)]; exact h⟩
theorem Rel.ne_new {ι : List Addr} {M : Mem} {H : Hp} (R : Rel ι M H) {p : Addr} (hp : H p = none) {n : Nat} {a : Addr} (h : ι[n]? = some a) : a ≠ p := by
  obtain ⟨o, ho⟩ := R.has h
  obtain ⟨u, hu⟩ := (R.ob n a o h ho).there
  exact ne_of_none hu hp
/-- a new thing that has no number -/
theorem Rel.new {ι : List Addr} {M : Mem} {H : Hp} (R : Rel ι M H) {p : Addr} {u : HO} (hp : H p = none) : Rel ι M (upd H p u) :=
  ⟨R.len, R.nd, fun n a o h ho => (R.ob n a o h ho).mono (later_new hp) (upd_ne (R.ne_new hp h))⟩
/-- a new thing with the next number -/
theorem Rel.push {ι : List Addr} {M : Mem} {H : Hp} (R : Rel ι M H) {p : Addr} {u : HO} {o : MO} (hp : H p = none) (h : ORep (ι ++ [p]) (upd H p u) o p) : Rel (ι ++ [p]) (M ++ [o]) (upd H p u) := by
  refine ⟨by simp [R.len], ?_, fun n a o' h1 h2 => ?_⟩
  · refine List.nodup_append.mpr ⟨R.nd, by simp, fun a ha b hb => ?_⟩
    obtain ⟨n, hn⟩ := List.mem_iff_getElem?.mp ha
    have : b = p := by simpa using hb
    rw [this]
    exact R.ne_new hp hn
  · by_cases hn : n < ι.length
    · rw [List.getElem?_append_left hn] at h1
      rw [List.getElem?_append_left (by rw [← R.len]; exact hn)] at h2
      exact (R.ob n a o' h1 h2).mono (later_newI hp) (upd_ne (R.ne_new hp h1))
    · have hl : n = ι.length := by
        have := (List.getElem?_eq_some_iff.mp h1).1
        simp at this; omega
      subst hl
      have e1 : a = p := by simpa using h1.symm
      have e2 : o' = o := by
        rw [R.len] at h2
        simpa using h2.symm
      subst e1; subst e2
      exact h
theorem Rel.lookup {ι : List Addr} {M : Mem} {H : Hp} (R : Rel ι M H) {p : Addr} : (ι ++ [p])[M.length]? = some p := by
  rw [← R.len]; simp
theorem later_set {ι : List Addr} {H : Hp} {p : Addr} {u : HO} (hn : ∀ xs, H p ≠ some (.tup xs)) : Later ι H ι (upd H p u) :=
  ⟨⟨[], by simp⟩, fun a xs h => by rw [upd_ne (fun e : a = p => hn xs (by rw [← e]; exact h))]; exact h⟩
/-- the object with number n changes -/
theorem Rel.set {ι : List Addr} {M : Mem} {H : Hp} (R : Rel ι M H) {n : Nat} {p : Addr} {u : HO} {o : MO} (hn : ι[n]? = some p) (h : ORep ι (upd H p u) o p) : Rel ι (M.set n o) (upd H p u) := by
  obtain ⟨o0, ho0⟩ := R.has hn
  have nt : ∀ xs, H p ≠ some (.tup xs) := fun xs => (R.ob n p o0 hn ho0).notup
  refine ⟨by simp [R.len], R.nd, fun m a o' h1 h2 => ?_⟩
  by_cases hm : m = n
  · subst hm
    rw [hn] at h1; cases h1
    have : m < M.length := (List.getElem?_eq_some_iff.mp ho0).1
    rw [List.getElem?_set_self this] at h2; cases h2
    exact h
  · rw [List.getElem?_set_ne (Ne.symm hm)] at h2
    have : a ≠ p := fun e => hm (by
      subst e
      obtain ⟨h3, e3⟩ := List.getElem?_eq_some_iff.mp h1
      obtain ⟨h4, e4⟩ := List.getElem?_eq_some_iff.mp hn
      exact (List.getElem_inj R.nd).mp (e3.trans e4.symm))
    exact (R.ob m a o' h1 h2).mono (later_set nt) (upd_ne this)
theorem Rel.nottup {ι : List Addr} {M : Mem} {H : Hp} (R : Rel ι M H) {n : Nat} {p : Addr} (hn : ι[n]? = some p) : ∀ xs, H p ≠ some (.tup xs) := by
  obtain ⟨o0, ho0⟩ := R.has hn
  exact fun xs => (R.ob n p o0 hn ho0).notup

/-! ## slots -/
def SRep (ι : List Addr) (H : Hp) (ρ : Sl) (σ : St) : Prop := ρ.length = σ.length ∧ ∀ (i : Nat) (d : D), ρ[i]? = some (some d) → ∃ v, σ[i]? = some (some v) ∧ Rep ι H d v
theorem SRep.mono {ι ι' : List Addr} {H H' : Hp} (l : Later ι H ι' H') {ρ : Sl} {σ : St} (h : SRep ι H ρ σ) : SRep ι' H' ρ σ :=
  ⟨h.1, fun i d e => let ⟨v, a, b⟩ := h.2 i d e; ⟨v, a, b.mono l⟩⟩
theorem SRep.set {ι : List Addr} {H : Hp} {ρ : Sl} {σ : St} (h : SRep ι H ρ σ) {d : D} {v : V} (r : Rep ι H d v) (i : Nat) : SRep ι H (ρ.set i (some d)) (σ.set i (some v)) := by
  refine ⟨by simp [h.1], fun j e q => ?_⟩
  by_cases hj : j = i
  · subst hj
    have hl : j < ρ.length := by have := (List.getElem?_eq_some_iff.mp q).1; simpa using this
    rw [List.getElem?_set_self hl] at q; cases q
    exact ⟨v, List.getElem?_set_self (h.1 ▸ hl), r⟩
  · rw [List.getElem?_set_ne (Ne.symm hj)] at q ⊢
    exact h.2 j e q
theorem SRep.unset {ι : List Addr} {H : Hp} {ρ : Sl} {σ : St} (h : SRep ι H ρ σ) (i : Nat) : SRep ι H (ρ.set i none) (σ.set i none) := by
  refine ⟨by simp [h.1], fun j e q => ?_⟩
  by_cases hj : j = i
  · subst hj
    have hl : j < ρ.length := by have := (List.getElem?_eq_some_iff.mp q).1; simpa using this
    rw [List.getElem?_set_self hl] at q; cases q
  · rw [List.getElem?_set_ne (Ne.symm hj)] at q ⊢
    exact h.2 j e q
/-- a slot that is forgotten -/
theorem SRep.forget {ι : List Addr} {H : Hp} {ρ : Sl} {σ : St} (h : SRep ι H ρ σ) (i : Nat) (o : Option V) : SRep ι H (ρ.set i none) (σ.set i o) := by
  refine ⟨by simp [h.1], fun j e q => ?_⟩
  by_cases hj : j = i
  · subst hj
    have hl : j < ρ.length := by have := (List.getElem?_eq_some_iff.mp q).1; simpa using this
    rw [List.getElem?_set_self hl] at q; cases q
  · rw [List.getElem?_set_ne (Ne.symm hj)] at q ⊢
    exact h.2 j e q

/-! ## what is wanted -/
abbrev PD := D → Mem → Prop
abbrev XP := Value → List (Str × D) → Mem → Prop
abbrev ME := Sl → Mem → PD → XP → Prop
abbrev MT := Sl → Mem → (Bool → Mem → Prop) → XP → Prop
abbrev MA := Sl → Mem → (List D → Mem → Prop) → XP → Prop
structure AEnds where
  nx : Sl → Mem → Prop
  rt : PD
  bk : Sl → Mem → Prop := fun _ _ => False
  ct : Sl → Mem → Prop := fun _ _ => False
  ex : Value → List (Str × D) → Sl → Mem → Prop := fun _ _ _ _ => False
abbrev MS := Sl → Mem → AEnds → Prop
def AEnds.xp (A : AEnds) (ρ : Sl) : XP := fun c fs M => A.ex c fs ρ M

def XRep (ι : List Addr) (H : Hp) (c : Value) (fs : List (Str × D)) (cls : Value) (dd : Option Addr) : Prop :=
  cls = c ∧ ((dd = none ∧ fs = []) ∨ ∃ a gs, dd = some a ∧ fs ≠ [] ∧ a ∉ ι ∧ H a = some (.xd gs) ∧ FRep ι H fs gs)
def Cl (ι : List Addr) (H : Hp) (P : PD) (Q : VK) : Prop := ∀ d M' ι' H' v, P d M' → Later ι H ι' H' → Rel ι' M' H' → Rep ι' H' d v → Q v H'
def ClB (ι : List Addr) (H : Hp) (P : Bool → Mem → Prop) (Q : Bool → Hp → Prop) : Prop := ∀ b M' ι' H', P b M' → Later ι H ι' H' → Rel ι' M' H' → Q b H'
def ClA (ι : List Addr) (H : Hp) (P : List D → Mem → Prop) (Q : List V → Hp → Prop) : Prop := ∀ ds M' ι' H' vs, P ds M' → Later ι H ι' H' → Rel ι' M' H' → Reps ι' H' ds vs → Q vs H'
def ClX (ι : List Addr) (H : Hp) (E : XP) (R : Value → Option Addr → Hp → Prop) : Prop := ∀ c fs M' ι' H' cls dd, E c fs M' → Later ι H ι' H' → Rel ι' M' H' → XRep ι' H' c fs cls dd → R cls dd H'
def ClS (ι : List Addr) (H : Hp) (P : Sl → Mem → Prop) (Q : St → Hp → Prop) : Prop := ∀ ρ M' ι' H' σ, P ρ M' → Later ι H ι' H' → Rel ι' M' H' → SRep ι' H' ρ σ → Q σ H'
def ClSX (ι : List Addr) (H : Hp) (E : Value → List (Str × D) → Sl → Mem → Prop) (W : WX) : Prop :=
  ∀ c fs ρ M' ι' H' σ cls dd, E c fs ρ M' → Later ι H ι' H' → Rel ι' M' H' → SRep ι' H' ρ σ → XRep ι' H' c fs cls dd → W cls dd σ H'
structure ClE (ι : List Addr) (H : Hp) (A : AEnds) (D : Ends) (W : WX) : Prop where
  nx : ClS ι H A.nx D.nx
  rt : Cl ι H A.rt D.rt
  bk : ClS ι H A.bk D.bk
  ct : ClS ι H A.ct D.ct
  ex : ClSX ι H A.ex W
section
variable {ι ι' : List Addr} {H H' : Hp}
theorem Cl.mono (l : Later ι H ι' H') {P : PD} {Q : VK} (h : Cl ι H P Q) : Cl ι' H' P Q := fun d M' i h' v p k r q => h d M' i h' v p (l.trans k) r q
theorem ClB.mono (l : Later ι H ι' H') {P : Bool → Mem → Prop} {Q : Bool → Hp → Prop} (h : ClB ι H P Q) : ClB ι' H' P Q := fun d M' i h' p k r => h d M' i h' p (l.trans k) r
theorem ClA.mono (l : Later ι H ι' H') {P : List D → Mem → Prop} {Q : List V → Hp → Prop} (h : ClA ι H P Q) : ClA ι' H' P Q := fun d M' i h' v p k r q => h d M' i h' v p (l.trans k) r q
theorem ClX.mono (l : Later ι H ι' H') {E : XP} {R : Value → Option Addr → Hp → Prop} (h : ClX ι H E R) : ClX ι' H' E R := fun c fs M' i h' v dd p k r q => h c fs M' i h' v dd p (l.trans k) r q
theorem ClS.mono (l : Later ι H ι' H') {P : Sl → Mem → Prop} {Q : St → Hp → Prop} (h : ClS ι H P Q) : ClS ι' H' P Q := fun d M' i h' v p k r q => h d M' i h' v p (l.trans k) r q
theorem ClSX.mono (l : Later ι H ι' H') {E : Value → List (Str × D) → Sl → Mem → Prop} {W : WX} (h : ClSX ι H E W) : ClSX ι' H' E W := fun c fs ρ M' i h' v cl dd p k r q x => h c fs ρ M' i h' v cl dd p (l.trans k) r q x
theorem ClE.mono (l : Later ι H ι' H') {A : AEnds} {D : Ends} {W : WX} (h : ClE ι H A D W) : ClE ι' H' A D W := ⟨h.nx.mono l, h.rt.mono l, h.bk.mono l, h.ct.mono l, h.ex.mono l⟩
end
theorem ClSX.at {ι : List Addr} {H : Hp} {A : AEnds} {W : WX} {ρ : Sl} {σ : St} (h : ClSX ι H A.ex W) (hs : SRep ι H ρ σ) : ClX ι H (A.xp ρ) (fun cls dd H' => W cls dd σ H') :=
  fun c fs M' i h' cls dd p k r q => h c fs ρ M' i h' σ cls dd p k r (hs.mono k) q

/-! ## readings -/
def TE' (W : WX) (m : ME) : TE := fun σ H Q => ∃ ι M ρ P E, Rel ι M H ∧ SRep ι H ρ σ ∧ m ρ M P E ∧ Cl ι H P Q ∧ ClX ι H E (fun c d H' => W c d σ H')
def TT' (W : WX) (m : MT) : TT := fun σ H Q => ∃ ι M ρ P E, Rel ι M H ∧ SRep ι H ρ σ ∧ m ρ M P E ∧ ClB ι H P Q ∧ ClX ι H E (fun c d H' => W c d σ H')
def TA' (W : WX) (m : MA) : TA := fun σ H Q => ∃ ι M ρ P E, Rel ι M H ∧ SRep ι H ρ σ ∧ m ρ M P E ∧ ClA ι H P Q ∧ ClX ι H E (fun c d H' => W c d σ H')
def TS' (W : WX) (m : MS) : TS := fun D σ H => ∃ ι M ρ A, Rel ι M H ∧ SRep ι H ρ σ ∧ m ρ M A ∧ ClE ι H A D W
structure CE (X : Cx) (W : WX) (e : Expr) (m : ME) : Prop where
  pe : PE X e (TE' W m)
structure CT (X : Cx) (W : WX) (e : Expr) (m : MT) : Prop where
  pt : PT X e (TT' W m)
structure CA (X : Cx) (W : WX) (es : List Expr) (m : MA) : Prop where
  pa : PA X es (TA' W m)
structure CS (X : Cx) (W : WX) (s : Stmt) (m : MS) : Prop where
  ps : PS X s (TS' W m)
structure CSs (X : Cx) (W : WX) (s : List Stmt) (m : MS) : Prop where
  ps : PSs X s (TS' W m)
theorem pe_imp {X : Cx} {e : Expr} {t t' : TE} (h : PE X e t) (i : ∀ σ H Q, t' σ H Q → t σ H Q) : PE X e t' := ⟨fun pins s σ H Q I q => h.run pins s σ H Q I (i _ _ _ q)⟩
theorem pt_imp {X : Cx} {e : Expr} {t t' : TT} (h : PT X e t) (i : ∀ σ H Q, t' σ H Q → t σ H Q) : PT X e t' := ⟨fun pins s σ H Q I q => h.run pins s σ H Q I (i _ _ _ q)⟩
theorem pa_imp {X : Cx} {e : List Expr} {t t' : TA} (h : PA X e t) (i : ∀ σ H Q, t' σ H Q → t σ H Q) : PA X e t' := ⟨fun pos pins s σ H Q I q => h.run pos pins s σ H Q I (i _ _ _ q)⟩
theorem ps_imp {X : Cx} {e : Stmt} {t t' : TS} (h : PS X e t) (i : ∀ D σ H, t' D σ H → t D σ H) : PS X e t' := ⟨fun pins s σ H Q I q => h.run pins s σ H Q I (i _ _ _ q)⟩
theorem pss_imp {X : Cx} {e : List Stmt} {t t' : TS} (h : PSs X e t) (i : ∀ D σ H, t' D σ H → t D σ H) : PSs X e t' := ⟨fun pins s σ H Q I q => h.run pins s σ H Q I (i _ _ _ q)⟩
/-- a part is asked; what comes of it goes on -/
theorem te_in {W : WX} {m : ME} {σ : St} {H : Hp} {Q : VK} {ι : List Addr} {M : Mem} {ρ : Sl} {P : PD} {E : XP} (R : Rel ι M H) (S : SRep ι H ρ σ) (h : m ρ M P E) (x : ClX ι H E (fun c d H' => W c d σ H')) (k : Cl ι H P Q) : TE' W m σ H Q := ⟨ι, M, ρ, P, E, R, S, h, k, x⟩
theorem tt_in {W : WX} {m : MT} {σ : St} {H : Hp} {Q : Bool → Hp → Prop} {ι : List Addr} {M : Mem} {ρ : Sl} {P : Bool → Mem → Prop} {E : XP} (R : Rel ι M H) (S : SRep ι H ρ σ) (h : m ρ M P E) (x : ClX ι H E (fun c d H' => W c d σ H')) (k : ClB ι H P Q) : TT' W m σ H Q := ⟨ι, M, ρ, P, E, R, S, h, k, x⟩
theorem ta_in {W : WX} {m : MA} {σ : St} {H : Hp} {Q : List V → Hp → Prop} {ι : List Addr} {M : Mem} {ρ : Sl} {P : List D → Mem → Prop} {E : XP} (R : Rel ι M H) (S : SRep ι H ρ σ) (h : m ρ M P E) (x : ClX ι H E (fun c d H' => W c d σ H')) (k : ClA ι H P Q) : TA' W m σ H Q := ⟨ι, M, ρ, P, E, R, S, h, k, x⟩
theorem ts_in {W : WX} {m : MS} {σ : St} {H : Hp} {D : Ends} {ι : List Addr} {M : Mem} {ρ : Sl} {A : AEnds} (R : Rel ι M H) (S : SRep ι H ρ σ) (h : m ρ M A) (x : ClE ι H A D W) : TS' W m D σ H := ⟨ι, M, ρ, A, R, S, h, x⟩
end AL
namespace AL
open PySem L2

section
variable {X : Cx} {W : WX} {a b c e : Expr} {es : List Expr} {m m1 m2 m3 : ME} {pos : Pos}
/-! ## names, constants -/
def mV (i : Nat) : ME := fun ρ M P _ => match ρ[i]? with
  | some (some d) => P d M
  | _ => False
def mC (d : D) : ME := fun _ M P _ => P d M
theorem ce_of {t : TE} (h : PE X e t) (i : ∀ σ H Q ι M ρ P E, Rel ι M H → SRep ι H ρ σ → m ρ M P E → Cl ι H P Q → ClX ι H E (fun c d H' => W c d σ H') → t σ H Q) : CE X W e m :=
  ⟨pe_imp h fun σ H Q ⟨ι, M, ρ, P, E, R, S, q, k, x⟩ => i σ H Q ι M ρ P E R S q k x⟩
theorem cv (i : Nat) {x : Str} {pos : Pos} (hN : X.N[i]? = some x := by rfl) (hv : Vis X.env.scope x := by first | exact Or.inl rfl | exact Or.inr (Or.inl rfl) | exact Or.inr (Or.inr rfl)) (hd : (x == ("__debug__" : Str)) = false := by decide)
    (hcd : (x == ("__classdict__" : Str)) = false := by decide) : CE X W (.Name x pos) (mV i) :=
  ce_of (pe_var hN hv hd hcd) fun σ H Q ι M ρ P E R S q k _ => by
    unfold mV at q
    split at q
    · rename_i d e1
      obtain ⟨v, e2, r⟩ := S.2 i d e1
      exact ⟨v, e2, k d M ι H v q .refl R r⟩
    · exact q.elim
theorem ce_c {d : D} {v : V} (h : PE X e (tC v)) (r : ∀ ι H, Rep ι H d v) : CE X W e (mC d) :=
  ce_of h fun σ H Q ι M ρ P E R S q k _ => k d M ι H v q .refl R (r _ _)
theorem c_int {i : Int} {j : Nat} : CE X W (.Constant (.int i) j pos) (mC (.int i)) := ce_c pe_int fun _ _ => .int i
theorem c_bl {b : Bool} {j : Nat} : CE X W (.Constant (.bool b) j pos) (mC (.bl b)) := ce_c pe_bl fun _ _ => .bl b
theorem c_non {j : Nat} : CE X W (.Constant .none j pos) (mC .non) := ce_c pe_non fun _ _ => .non
theorem c_str {x : Str} {j : Nat} : CE X W (.Constant (.str x) j pos) (mC (.str x)) := ce_c pe_str fun _ _ => .str x
/-- a global: an int or a text of the module -/
theorem c_gi {x : Str} {i : Int} (hm : ∃ t, X.mg x = some (.int i t)) (hg : Gl X x := by rfl) (hd : (x == ("__debug__" : Str)) = false := by decide) : CE X W (.Name x pos) (mC (.int i)) := by
  obtain ⟨t, h⟩ := hm
  exact ce_c (v := .int i) (pe_glob hg h ⟨t, rfl⟩ hd) fun _ _ => .int i
theorem c_gs {x z : Str} (hm : ∃ t, X.mg x = some (.str z t)) (hg : Gl X x := by rfl) (hd : (x == ("__debug__" : Str)) = false := by decide) : CE X W (.Name x pos) (mC (.str z)) := by
  obtain ⟨t, h⟩ := hm
  exact ce_c (v := .str z) (pe_glob hg h ⟨t, rfl⟩ hd) fun _ _ => .str z
theorem c_ga {x : Str} {a : Addr} (hm : X.mg x = some (.ref a)) (hg : Gl X x := by rfl) (hd : (x == ("__debug__" : Str)) = false := by decide) : CE X W (.Name x pos) (mC (.adr a)) :=
  ce_c (v := .ref a) (pe_glob hg hm rfl hd) fun _ _ => .adr a
theorem c_ty {x : Str} {n : String} (hm : X.mg x = none) (hv : bootBuiltins x = some (.type n)) (hg : Gl X x := by rfl) (hn : x ≠ "__name__" := by decide) (hd : (x == ("__debug__" : Str)) = false := by decide) : CE X W (.Name x pos) (mC (.ty n)) :=
  ce_c (v := .ty n) (pe_bltn hg hm hv rfl hn hd) fun _ _ => .ty n

/-! ## operators by values -/
abbrev A2 := D → D → Mem → PD → Prop
def rA2 (a : A2) : R2 := fun x y H Q => ∃ ι M dx dy P, Rel ι M H ∧ Rep ι H dx x ∧ Rep ι H dy y ∧ a dx dy M P ∧ Cl ι H P Q
def OpA (X : Cx) (f : Value → Value → Sem Value) (a : A2) : Prop := OpR X f (rA2 a)
def m2' (a : A2) (m1 m2 : ME) : ME := fun ρ M P E => m1 ρ M (fun x M1 => m2 ρ M1 (fun y M2 => a x y M2 P) E) E
theorem te2 {r : A2} {σ : St} {H : Hp} {Q : VK} {ι : List Addr} {M : Mem} {ρ : Sl} {P : PD} {E : XP} (R : Rel ι M H) (S : SRep ι H ρ σ) (q : m2' r m1 m2 ρ M P E) (k : Cl ι H P Q) (x : ClX ι H E (fun c d H' => W c d σ H')) :
    tOp (rA2 r) (TE' W m1) (TE' W m2) σ H Q :=
  te_in R S q x fun d1 M1 ι1 H1 v1 q1 l1 R1 r1 => te_in R1 (S.mono l1) q1 (x.mono l1) fun d2 M2 ι2 H2 v2 q2 l2 R2 r2 => ⟨ι2, M2, d1, d2, P, R2, r1.mono l2, r2, q2, k.mono (l1.trans l2)⟩
theorem ce_op {op : Operator} {r : A2} (ho : OpA X (binaryOp op) r) (ha : CE X W a m1) (hb : CE X W b m2) : CE X W (.BinOp a op b pos) (m2' r m1 m2) :=
  ce_of (pe_op ho ha.pe hb.pe) fun _ _ _ _ _ _ _ _ R S q k x => te2 R S q k x
theorem ce_cmp {op : CmpOp} {r : A2} (ho : OpA X (compareOp op) r) (ha : CE X W a m1) (hb : CE X W b m2) (hm : behindInMarks op b = false) : CE X W (.Compare a [op] [b] pos) (m2' r m1 m2) :=
  ce_of (pe_cmpR ho ha.pe hb.pe hm) fun _ _ _ _ _ _ _ _ R S q k x => te2 R S q k x
def mTest (m : ME) : MT := fun ρ M P E => m ρ M (fun x M1 => match x with
  | .bl b => P b M1
  | _ => False) E
theorem ct_of {t : TT} {m : MT} (h : PT X e t) (i : ∀ σ H Q ι M ρ P E, Rel ι M H → SRep ι H ρ σ → m ρ M P E → ClB ι H P Q → ClX ι H E (fun c d H' => W c d σ H') → t σ H Q) : CT X W e m :=
  ⟨pt_imp h fun σ H Q ⟨ι, M, ρ, P, E, R, S, q, k, x⟩ => i σ H Q ι M ρ P E R S q k x⟩
theorem cl_test {ι : List Addr} {H : Hp} {P : Bool → Mem → Prop} {Q : Bool → Hp → Prop} (k : ClB ι H P Q) : Cl ι H (fun x M1 => match x with
  | .bl b => P b M1
  | _ => False) (fun x H' => ∃ k, x = .bl k ∧ Q k H') := fun d M' ι' H' v p l R r => by
  cases r with
  | bl b => exact ⟨b, rfl, k b M' ι' H' p l R⟩
  | _ => exact p.elim
theorem ct_cmp {op : CmpOp} {r : A2} (ho : OpA X (compareOp op) r) (ha : CE X W a m1) (hb : CE X W b m2) (hm : behindInMarks op b = false) : CT X W (.Compare a [op] [b] pos) (mTest (m2' r m1 m2)) :=
  ct_of (pt_cmpR ho ha.pe hb.pe hm) fun _ _ _ _ _ _ P _ R S q k x => te2 R S q (cl_test k) x

def aAdd : A2 := fun x y M P => match x with
  | .int i => (match y with
    | .int j => P (.int (i + j)) M
    | _ => False)
  | .str s => (match y with
    | .str t => s.length + t.length ≤ sizeLine ∧ P (.str (s ++ t)) M
    | _ => False)
  | .tup s => (match y with
    | .tup t => s.length + t.length ≤ sizeLine ∧ P (.tup (s ++ t)) M
    | _ => False)
  | .ref m => (match y with
    | .ref n => ∃ s t, M[m]? = some (.lst s) ∧ M[n]? = some (.lst t) ∧ s.length + t.length ≤ sizeLine ∧ P (.ref M.length) (M ++ [.lst (s ++ t)])
    | _ => False)
  | _ => False
theorem cl_new {ι : List Addr} {H : Hp} {M : Mem} {P : PD} {Q : VK} (R : Rel ι M H) (k : Cl ι H P Q) {ds : List D} {vs : List V} (r : Reps ι H ds vs) (q : P (.ref M.length) (M ++ [.lst ds])) (p : Addr) (hp : H p = none) : Q (.ref p) (upd H p (.lst vs)) :=
  k _ _ _ _ _ q (later_newI hp) (R.push hp ⟨vs, upd_same, r.mono (later_newI hp)⟩) (.ref R.lookup)
theorem cl_tup {ι : List Addr} {H : Hp} {M : Mem} {P : PD} {Q : VK} (R : Rel ι M H) (k : Cl ι H P Q) {ds : List D} {vs : List V} (r : Reps ι H ds vs) (q : P (.tup ds) M) (p : Addr) (hp : H p = none) : Q (.ref p) (upd H p (.tup vs)) :=
  k _ _ _ _ _ q (later_new hp) (R.new hp) (.tup upd_same (r.mono (later_new hp)))
theorem Rel.lstAt {ι : List Addr} {M : Mem} {H : Hp} (R : Rel ι M H) {n : Nat} {a : Addr} {ds : List D} (h : ι[n]? = some a) (e : M[n]? = some (.lst ds)) : ∃ vs, H a = some (.lst vs) ∧ Reps ι H ds vs := R.ob n a _ h e
theorem opA_add : OpA X (binaryOp .Add) aAdd := by
  intro pins s σ H x y v u Q I rx ry h
  obtain ⟨ι, M, dx, dy, P, R, hx, hy, ha, k⟩ := h
  cases hx with
  | int i => cases hy with
    | int j => exact op_add pins s σ H _ _ v u Q I rx ry ⟨i, j, rfl, rfl, k _ _ _ _ _ ha .refl R (.int _)⟩
    | _ => exact ha.elim
  | str i => cases hy with
    | str j => exact op_add_str pins s σ H _ _ v u Q I rx ry ⟨i, j, rfl, rfl, ha.1, k _ _ _ _ _ ha.2 .refl R (.str _)⟩
    | _ => exact ha.elim
  | tup h1 r1 => cases hy with
    | tup h2 r2 =>
      refine op_catA pins s σ H _ _ v u Q I rx ry ⟨_, _, _, _, rfl, rfl, .of h1, .of h2, by rw [← r1.length, ← r2.length]; exact ha.1, fun e => ?_, fun _ e => ?_, fun _ _ p hp => ?_⟩
      · subst e
        cases r1
        exact k _ _ _ _ _ (by simpa using ha.2) .refl R (.tup h2 r2)
      · subst e
        cases r2
        exact k _ _ _ _ _ (by simpa using ha.2) .refl R (.tup h1 r1)
      · exact cl_tup R k (r1.append r2) ha.2 p hp
    | _ => exact ha.elim
  | ref h1 => cases hy with
    | ref h2 =>
      obtain ⟨s1, t1, e1, e2, hl, q⟩ := ha
      obtain ⟨vs, q1, r1⟩ := R.lstAt h1 e1
      obtain ⟨us, q2, r2⟩ := R.lstAt h2 e2
      exact op_cat pins s σ H _ _ v u Q I rx ry ⟨_, _, _, _, rfl, rfl, q1, q2, by rw [← r1.length, ← r2.length]; exact hl, fun p hp => cl_new R k (r1.append r2) q p hp⟩
    | _ => exact ha.elim
  | _ => exact ha.elim
/-- ints alone -/
def aII (C : Int → Int → Prop) (g : Int → Int → D) : A2 := fun x y M P => match x with
  | .int i => (match y with
    | .int j => C i j ∧ P (g i j) M
    | _ => False)
  | _ => False
def aI0 (g : Int → Int → D) : A2 := fun x y M P => match x with
  | .int i => (match y with
    | .int j => P (g i j) M
    | _ => False)
  | _ => False
theorem opA_II {f : Value → Value → Sem Value} {C : Int → Int → Prop} {g : Int → Int → D} {gv : Int → Int → V} (ho : OpR X f (rI C gv)) (hg : ∀ ι H i j, Rep ι H (g i j) (gv i j)) : OpA X f (aII C g) := by
  intro pins s σ H x y v u Q I rx ry h
  obtain ⟨ι, M, dx, dy, P, R, hx, hy, ha, k⟩ := h
  cases hx with
  | int i => cases hy with
    | int j => exact ho pins s σ H _ _ v u Q I rx ry ⟨i, j, rfl, rfl, ha.1, k _ _ _ _ _ ha.2 .refl R (hg _ _ _ _)⟩
    | _ => exact ha.elim
  | _ => exact ha.elim
theorem opA_I0 {f : Value → Value → Sem Value} {g : Int → Int → D} {gv : Int → Int → V} (ho : OpR X f (rI0 gv)) (hg : ∀ ι H i j, Rep ι H (g i j) (gv i j)) : OpA X f (aI0 g) := by
  intro pins s σ H x y v u Q I rx ry h
  obtain ⟨ι, M, dx, dy, P, R, hx, hy, ha, k⟩ := h
  cases hx with
  | int i => cases hy with
    | int j => exact ho pins s σ H _ _ v u Q I rx ry ⟨i, j, rfl, rfl, k _ _ _ _ _ ha .refl R (hg _ _ _ _)⟩
    | _ => exact ha.elim
  | _ => exact ha.elim
def aSub : A2 := aI0 fun i j => .int (i - j)
def aMul : A2 := aII (fun i j => i.natAbs.log2 + j.natAbs.log2 < 1000000) fun i j => .int (i * j)
def aDiv : A2 := aII (fun _ j => 0 < j ∧ j.natAbs.log2 < 9000) fun i j => .int (i / j)
def aMod : A2 := aII (fun _ j => 0 < j) fun i j => .int (i % j)
def aPow : A2 := aII CPow fun i j => .int (i ^ j.toNat)
theorem opA_sub : OpA X (binaryOp .Sub) aSub := opA_I0 op_sub fun _ _ _ _ => .int _
theorem opA_mul : OpA X (binaryOp .Mult) aMul := opA_II op_mulW fun _ _ _ _ => .int _
theorem opA_div : OpA X (binaryOp .FloorDiv) aDiv := opA_II op_fdivW fun _ _ _ _ => .int _
theorem opA_mod : OpA X (binaryOp .Mod) aMod := opA_II op_mod fun _ _ _ _ => .int _
theorem opA_pow : OpA X (binaryOp .Pow) aPow := opA_II op_pow fun _ _ _ _ => .int _
def aLt : A2 := aI0 fun i j => .bl (decide (i < j))
def aLe : A2 := aI0 fun i j => .bl (decide (i ≤ j))
def aGt : A2 := aI0 fun i j => .bl (decide (j < i))
def aGe : A2 := aI0 fun i j => .bl (decide (j ≤ i))
theorem opA_lt : OpA X (compareOp .Lt) aLt := opA_I0 op_lt fun _ _ _ _ => .bl _
theorem opA_le : OpA X (compareOp .LtE) aLe := opA_I0 op_le fun _ _ _ _ => .bl _
theorem opA_gt : OpA X (compareOp .Gt) aGt := opA_I0 op_gt fun _ _ _ _ => .bl _
theorem opA_ge : OpA X (compareOp .GtE) aGe := opA_I0 op_ge fun _ _ _ _ => .bl _

/-! ## == of data -/
mutual
inductive DR (M : Mem) : D → PyData → Prop
  | non : DR M .non .none
  | bl (b : Bool) : DR M (.bl b) (.bool b)
  | int (i : Int) : DR M (.int i) (.int i)
  | str (x : Str) : DR M (.str x) (.str x)
  | tup {ds : List D} {ps : List PyData} (h : DRs M ds ps) : DR M (.tup ds) (.tuple ps)
  | lst {n : Nat} {ds : List D} {ps : List PyData} (e : M[n]? = some (.lst ds)) (h : DRs M ds ps) : DR M (.ref n) (.list ps)
inductive DRs (M : Mem) : List D → List PyData → Prop
  | nil : DRs M [] []
  | cons {d : D} {p : PyData} {ds : List D} {ps : List PyData} (h : DR M d p) (r : DRs M ds ps) : DRs M (d :: ds) (p :: ps)
end
mutual
theorem DR.dp {K : PySem.W.Frag} {ι : List Addr} {M : Mem} {H : Hp} (R : Rel ι M H) : ∀ {d : D} {p : PyData} {v : V}, DR M d p → Rep ι H d v → Dp K H v p
  | _, _, _, .non, .non => .non
  | _, _, _, .bl b, .bl _ => .bl b
  | _, _, _, .int i, .int _ => .int i
  | _, _, _, .str x, .str _ => .str x
  | _, _, _, .tup h, .tup e r => .tup (.of e) (DRs.dp R h r)
  | _, _, _, .lst e h, .ref q => by
    obtain ⟨vs, q1, r1⟩ := R.lstAt q e
    exact .lst (.of q1) (DRs.dp R h r1)
theorem DRs.dp {K : PySem.W.Frag} {ι : List Addr} {M : Mem} {H : Hp} (R : Rel ι M H) : ∀ {ds : List D} {ps : List PyData} {vs : List V}, DRs M ds ps → Reps ι H ds vs → DpAll K H vs ps
  | _, _, _, .nil, .nil => .nil
  | _, _, _, .cons h r, .cons a b => .cons (DR.dp R h a) (DRs.dp R r b)
end
/-- data that stands without the store -/
def py? : D → Option PyData
  | .non => some .none
  | .bl b => some (.bool b)
  | .int i => some (.int i)
  | .str x => some (.str x)
  | _ => none
theorem py?_dr {M : Mem} {d : D} {p : PyData} (h : py? d = some p) : DR M d p := by
  cases d with
  | non => cases h; exact .non
  | bl b => cases h; exact .bl b
  | int i => cases h; exact .int i
  | str x => cases h; exact .str x
  | _ => cases h
def eqG (g : Bool → Bool) : A2 := fun x y M P => match x, y with
  | .int i, .int j => P (.bl (g (decide (i = j)))) M
  | .str a, .str b => P (.bl (g (decide (a = b)))) M
  | x, y => ∃ p q, DR M x p ∧ DR M y q ∧ SeqAt.shaped p = true ∧ SeqAt.shaped q = true ∧ P (.bl (g (PyData.eqv p q))) M
def aEq : A2 := eqG id
def aNe : A2 := eqG Bool.not
theorem dec_strV {a b : Str} : decide (V.str a = V.str b) = decide (a = b) := by
  rw [Bool.eq_iff_iff]
  simp
theorem dec_intV {a b : Int} : decide (V.int a = V.int b) = decide (a = b) := by
  rw [Bool.eq_iff_iff]
  simp
theorem opA_eq (hu : X.A.units + 64 < cLine) : OpA X (compareOp .Eq) aEq := by
  intro pins s σ H x y v u Q I rx ry h
  obtain ⟨ι, M, dx, dy, P, R, hx, hy, ha, k⟩ := h
  unfold aEq eqG at ha
  split at ha
  · cases hx; cases hy
    exact op_eq pins s σ H _ _ v u Q I rx ry ⟨rfl, by rw [dec_intV]; exact k _ _ _ _ _ ha .refl R (.bl _)⟩
  · cases hx; cases hy
    exact op_eq pins s σ H _ _ v u Q I rx ry ⟨rfl, by rw [dec_strV]; exact k _ _ _ _ _ ha .refl R (.bl _)⟩
  · obtain ⟨p, q, h1, h2, s1, s2, z⟩ := ha
    exact op_eqD hu pins s σ H _ _ v u Q I rx ry ⟨p, q, h1.dp R hx, h2.dp R hy, s1, s2, k _ _ _ _ _ z .refl R (.bl _)⟩
theorem opA_ne (hu : X.A.units + 64 < cLine) : OpA X (compareOp .NotEq) aNe := by
  intro pins s σ H x y v u Q I rx ry h
  obtain ⟨ι, M, dx, dy, P, R, hx, hy, ha, k⟩ := h
  unfold aNe eqG at ha
  split at ha
  · cases hx; cases hy
    exact op_ne pins s σ H _ _ v u Q I rx ry ⟨rfl, by rw [dec_intV]; exact k _ _ _ _ _ ha .refl R (.bl _)⟩
  · cases hx; cases hy
    exact op_ne pins s σ H _ _ v u Q I rx ry ⟨rfl, by rw [dec_strV]; exact k _ _ _ _ _ ha .refl R (.bl _)⟩
  · obtain ⟨p, q, h1, h2, s1, s2, z⟩ := ha
    exact op_neD hu pins s σ H _ _ v u Q I rx ry ⟨p, q, h1.dp R hx, h2.dp R hy, s1, s2, k _ _ _ _ _ z .refl R (.bl _)⟩

/-! ## in -/
def fv : D → Option V
  | .non => some .non
  | .bl b => some (.bl b)
  | .int i => some (.int i)
  | .str x => some (.str x)
  | _ => none
def fvs : List D → Option (List V)
  | [] => some []
  | d :: ds => match fv d, fvs ds with
    | some v, some vs => some (v :: vs)
    | _, _ => none
theorem fv_rep {ι : List Addr} {H : Hp} {d : D} {v w : V} (h : fv d = some w) (r : Rep ι H d v) : v = w ∧ flatV w = true := by
  cases r with
  | non => cases h; exact ⟨rfl, rfl⟩
  | bl => cases h; exact ⟨rfl, rfl⟩
  | int => cases h; exact ⟨rfl, rfl⟩
  | str => cases h; exact ⟨rfl, rfl⟩
  | _ => cases h
theorem fvs_rep {ι : List Addr} {H : Hp} : ∀ {ds : List D} {vs ws : List V}, fvs ds = some ws → Reps ι H ds vs → vs = ws ∧ ws.all flatV = true
  | _, _, _, h, .nil => by cases h; exact ⟨rfl, rfl⟩
  | d :: ds, _, ws, h, .cons a b => by
    simp only [fvs] at h
    split at h
    · rename_i v vs e1 e2
      cases h
      obtain ⟨h1, h2⟩ := fv_rep e1 a
      obtain ⟨h3, h4⟩ := fvs_rep e2 b
      exact ⟨by rw [h1, h3], by simp [h2, h4]⟩
    · cases h
def inG (g : Bool → Bool) : A2 := fun x y M P => match y with
  | .str t => (match x with
    | .str s => P (.bl (g (!(Builtin.Str.occurrences t s 0 t.length 1).isEmpty))) M
    | _ => False)
  | .tup ds => (match fv x, fvs ds with
    | some v, some vs => P (.bl (g (inV v vs))) M
    | _, _ => False)
  | .ref n => ∃ ds, M[n]? = some (.lst ds) ∧ (match fv x, fvs ds with
    | some v, some vs => P (.bl (g (inV v vs))) M
    | _, _ => False)
  | _ => False
def aIn : A2 := inG id
def aNotIn : A2 := inG Bool.not
theorem inG_ok {f : Value → Value → Sem Value} {neg : Bool} {g : Bool → Bool} (hg : ∀ b, g b = if neg then !b else b) (h1 : OpR X f (rIn X.K neg)) (h2 : OpR X f (fun x y H Q => ∃ i j, x = .str i ∧ y = .str j ∧ Q (.bl (g (!(Builtin.Str.occurrences j i 0 j.length 1).isEmpty))) H)) : OpA X f (inG g) := by
  intro pins s σ H x y v u Q I rx ry h
  obtain ⟨ι, M, dx, dy, P, R, hx, hy, ha, k⟩ := h
  cases hy with
  | str t => cases hx with
    | str z => exact h2 pins s σ H _ _ v u Q I rx ry ⟨z, t, rfl, rfl, k _ _ _ _ _ ha .refl R (.bl _)⟩
    | _ => exact ha.elim
  | tup e r =>
    simp only [inG] at ha
    split at ha
    · rename_i w ws e1 e2
      obtain ⟨q1, q2⟩ := fv_rep e1 hx
      obtain ⟨q3, q4⟩ := fvs_rep e2 r
      subst q1; subst q3
      refine h1 pins s σ H _ _ v u Q I rx ry ⟨_, _, rfl, .inr (.of e), q2, q4, ?_⟩
      rw [← hg]
      exact k _ _ _ _ _ ha .refl R (.bl _)
    · exact ha.elim
  | ref h =>
    obtain ⟨ds, em, ha⟩ := ha
    obtain ⟨vs, e, r⟩ := R.lstAt h em
    split at ha
    · rename_i w ws e1 e2
      obtain ⟨q1, q2⟩ := fv_rep e1 hx
      obtain ⟨q3, q4⟩ := fvs_rep e2 r
      subst q1; subst q3
      refine h1 pins s σ H _ _ v u Q I rx ry ⟨_, _, rfl, .inl (.of e), q2, q4, ?_⟩
      rw [← hg]
      exact k _ _ _ _ _ ha .refl R (.bl _)
    · exact ha.elim
  | _ => exact ha.elim
theorem opA_in : OpA X (compareOp .In) aIn := inG_ok (neg := false) (fun _ => rfl) op_in_seq op_in_str
theorem opA_notIn : OpA X (compareOp .NotIn) aNotIn := inG_ok (neg := true) (fun _ => rfl) op_notIn_seq op_notIn_str

/-! ## is -/
def isNon : D → Bool
  | .non => true
  | _ => false
/-- with None on the right, or two bools -/
def isG (g : Bool → Bool) : A2 := fun x y M P => match y with
  | .non => P (.bl (g (isNon x))) M
  | .bl b => (match x with
    | .bl a => P (.bl (g (a == b))) M
    | _ => False)
  | _ => False
def aIs : A2 := isG id
def aIsNot : A2 := isG Bool.not
theorem isNon_rep {ι : List Addr} {H : Hp} {d : D} {v : V} (r : Rep ι H d v) : decide (v = .non) = isNon d := by
  cases r <;> rfl
theorem isG_ok {f : Value → Value → Sem Value} {g : Bool → Bool} (h1 : OpR X f (fun x y H Q => y = .non ∧ Q (.bl (g (decide (x = .non)))) H)) (h2 : OpR X f (fun x y H Q => ∃ a b : Bool, x = .bl a ∧ y = .bl b ∧ Q (.bl (g (decide (a = b)))) H)) : OpA X f (isG g) := by
  intro pins s σ H x y v u Q I rx ry h
  obtain ⟨ι, M, dx, dy, P, R, hx, hy, ha, k⟩ := h
  cases hy with
  | non => exact h1 pins s σ H _ _ v u Q I rx ry ⟨rfl, by rw [isNon_rep hx]; exact k _ _ _ _ _ ha .refl R (.bl _)⟩
  | bl b => cases hx with
    | bl a =>
      have z : decide (a = b) = (a == b) := by cases a <;> cases b <;> rfl
      refine h2 pins s σ H _ _ v u Q I rx ry ⟨a, b, rfl, rfl, ?_⟩
      rw [z]
      exact k _ _ _ _ _ ha .refl R (.bl _)
    | _ => exact ha.elim
  | _ => exact ha.elim
theorem opA_is : OpA X (compareOp .Is) aIs := isG_ok op_isN op_isBl
theorem opA_isNot : OpA X (compareOp .IsNot) aIsNot := isG_ok op_notN op_notBl
end
end AL
namespace AL
open PySem L2
section
variable {X : Cx} {W : WX} {a b c e o : Expr} {es : List Expr} {m m1 m2 m3 : ME} {n n1 n2 : MT} {ma ma1 : MA} {pos : Pos}

/-! ## argument lists, displays -/
def mNil : MA := fun _ M P _ => P [] M
def mCons (m : ME) (r : MA) : MA := fun ρ M P E => m ρ M (fun x M1 => r ρ M1 (fun xs M2 => P (x :: xs) M2) E) E
theorem ca_of {t : TA} (h : PA X es t) (i : ∀ σ H Q ι M ρ P E, Rel ι M H → SRep ι H ρ σ → ma ρ M P E → ClA ι H P Q → ClX ι H E (fun c d H' => W c d σ H') → t σ H Q) : CA X W es ma :=
  ⟨pa_imp h fun σ H Q ⟨ι, M, ρ, P, E, R, S, q, k, x⟩ => i σ H Q ι M ρ P E R S q k x⟩
theorem ca_nil : CA X W [] mNil := ca_of pa_nil fun σ H Q ι M ρ P E R S q k _ => k [] M ι H [] q .refl R .nil
theorem ca_cons (ha : CE X W e m) (hr : CA X W es ma) (hs : starEach (e :: es) X.env = (false, eval e X.env) :: starEach es X.env := by rfl) : CA X W (e :: es) (mCons m ma) :=
  ca_of (pa_cons ha.pe hr.pa hs) fun σ H Q ι M ρ P E R S q k x =>
    te_in R S q x fun d1 M1 ι1 H1 v1 q1 l1 R1 r1 => ta_in R1 (S.mono l1) q1 (x.mono l1) fun d2 M2 ι2 H2 v2 q2 l2 R2 r2 => k _ _ _ _ _ q2 (l1.trans l2) R2 (.cons (r1.mono l2) r2)
def mTup (ma : MA) : ME := fun ρ M P E => ma ρ M (fun xs M1 => xs.length ≤ sizeLine ∧ P (.tup xs) M1) E
def mLst (ma : MA) : ME := fun ρ M P E => ma ρ M (fun xs M1 => xs.length ≤ sizeLine ∧ P (.ref M1.length) (M1 ++ [.lst xs])) E
theorem c_tup {k : Nat} (h : CA X W es ma) : CE X W (.Tuple es k pos) (mTup ma) :=
  ce_of (pe_tup h.pa) fun σ H Q ι M ρ P E R S q k x =>
    ta_in R S q x fun ds M1 ι1 H1 vs q1 l1 R1 r1 => ⟨by rw [← r1.length]; exact q1.1, fun p hp => cl_tup R1 (k.mono l1) r1 q1.2 p hp⟩
theorem c_lst (h : CA X W es ma) : CE X W (.List es pos) (mLst ma) :=
  ce_of (pe_lst h.pa) fun σ H Q ι M ρ P E R S q k x =>
    ta_in R S q x fun ds M1 ι1 H1 vs q1 l1 R1 r1 => ⟨by rw [← r1.length]; exact q1.1, fun p hp => cl_new R1 (k.mono l1) r1 q1.2 p hp⟩

/-! ## subscripts -/
def atI' {α : Type} (xs : List α) (i : Int) : Option α := match i with
  | .ofNat k => xs[k]?
  | .negSucc k => if k < xs.length then xs[xs.length - (k + 1)]? else none
theorem atI_eq {α : Type} (xs : List α) (i : Int) : atI xs i = atI' xs i := by
  unfold atI ixN atI'
  cases i with
  | ofNat k =>
    simp only [Int.ofNat_eq_natCast]
    by_cases h : k < xs.length
    · have h' : ((k : Int) < (xs.length : Int)) := by omega
      simp [h']
    · have h' : ¬ ((k : Int) < (xs.length : Int)) := by omega
      simp [h', List.getElem?_eq_none (Nat.le_of_not_lt h)]
  | negSucc k =>
    have h0 : ¬ (0 ≤ Int.negSucc k) := by omega
    rw [if_neg h0]
    by_cases h : k < xs.length
    · have h' : -(xs.length : Int) ≤ Int.negSucc k := by omega
      rw [if_pos h']
      show _ = if k < xs.length then xs[xs.length - (k + 1)]? else none
      rw [if_pos h]
      have : (Int.negSucc k + (xs.length : Int)).toNat = xs.length - (k + 1) := by omega
      simp [this]
    · have h' : ¬ (-(xs.length : Int) ≤ Int.negSucc k) := by omega
      rw [if_neg h']
      show _ = if k < xs.length then xs[xs.length - (k + 1)]? else none
      rw [if_neg h]
      rfl
theorem Reps.atI {ι : List Addr} {H : Hp} {ds : List D} {vs : List V} {i : Int} {d : D} (r : Reps ι H ds vs) (h : atI' ds i = some d) : ∃ v, L2.atI vs i = some v ∧ Rep ι H d v := by
  rw [atI_eq]
  cases i with
  | ofNat k => exact r.get h
  | negSucc k =>
    unfold atI' at h ⊢
    rw [← r.length]
    by_cases hk : k < ds.length
    · simp only [hk, if_true] at h ⊢
      exact r.get h
    · simp only [hk, if_false] at h
      cases h
def aIx : A2 := fun x y M P => match y with
  | .int i => (match x with
    | .tup ds => (match atI' ds i with
      | some d => P d M
      | none => False)
    | .ref n => (match M[n]? with
      | some (.lst ds) => (match atI' ds i with
        | some d => P d M
        | none => False)
      | _ => False)
    | .str z => z.length ≤ sizeLine ∧ (match atI' z.cps.toList i with
      | some c => P (.str ⟨#[c]⟩) M
      | none => False)
    | _ => False)
  | _ => False
theorem ixA : IxR X (rA2 aIx) := by
  intro value slice pins s σ H x y v u Q I rx ry h
  obtain ⟨ι, M, dx, dy, P, R, hx, hy, ha, k⟩ := h
  cases hy with
  | int i => cases hx with
    | tup e r =>
      simp only [aIx] at ha
      split at ha
      · rename_i d q
        obtain ⟨w, q1, q2⟩ := r.atI q
        exact ix_tup value slice pins s σ H _ _ v u Q I rx ry ⟨_, _, i, w, rfl, rfl, .of e, q1, k _ _ _ _ _ ha .refl R q2⟩
      · exact ha.elim
    | ref e =>
      simp only [aIx] at ha
      split at ha
      · rename_i ds em
        split at ha
        · rename_i d q
          obtain ⟨vs, e1, r⟩ := R.lstAt e em
          obtain ⟨w, q1, q2⟩ := r.atI q
          exact ix_list value slice pins s σ H _ _ v u Q I rx ry ⟨_, _, i, w, rfl, rfl, .of e1, q1, k _ _ _ _ _ ha .refl R q2⟩
        · exact ha.elim
      · exact ha.elim
    | str z =>
      simp only [aIx] at ha
      obtain ⟨hl, ha⟩ := ha
      split at ha
      · rename_i d q
        exact ix_str value slice pins s σ H _ _ v u Q I rx ry ⟨z, i, d, rfl, rfl, hl, by rw [atI_eq]; exact q, k _ _ _ _ _ ha .refl R (.str _)⟩
      · exact ha.elim
    | _ => exact ha.elim
  | _ => exact ha.elim
theorem c_ix (ha : CE X W a m1) (hb : CE X W b m2) (hs : PlainIx b := by exact fun _ _ => rfl) : CE X W (.Subscript a b pos) (m2' aIx m1 m2) :=
  ce_of (pe_ix ixA ha.pe hb.pe hs) fun _ _ _ _ _ _ _ _ R S q k x => te2 R S q k x

/-! ## slices -/
abbrev MO' := Sl → Mem → (Option Int → Mem → Prop) → XP → Prop
def mNoPart : MO' := fun _ M P _ => P none M
def mPart (m : ME) : MO' := fun ρ M P E => m ρ M (fun x M1 => match x with
  | .int i => P (some i) M1
  | _ => False) E
def TO' (W : WX) (m : MO') : TO := fun σ H Q => ∃ ι M ρ P E, Rel ι M H ∧ SRep ι H ρ σ ∧ m ρ M P E ∧ (∀ o M' ι' H', P o M' → Later ι H ι' H' → Rel ι' M' H' → Q o H') ∧ ClX ι H E (fun c d H' => W c d σ H')
structure CO (X : Cx) (W : WX) (e : Option Expr) (m : MO') : Prop where
  po : PO X e (TO' W m)
theorem po_imp {e : Option Expr} {t t' : TO} (h : PO X e t) (i : ∀ σ H Q, t' σ H Q → t σ H Q) : PO X e t' := ⟨fun pins s σ H Q I q => h.run pins s σ H Q I (i _ _ _ q)⟩
theorem co_none : CO X W none mNoPart := ⟨po_imp po_none fun σ H Q ⟨ι, M, ρ, P, E, R, S, q, k, x⟩ => k _ M ι H q .refl R⟩
theorem co_some (h : CE X W e m) : CO X W (some e) (mPart m) := ⟨po_imp (po_some h.pe) fun σ H Q ⟨ι, M, ρ, P, E, R, S, q, k, x⟩ =>
  te_in R S q x fun d M1 ι1 H1 v q1 l1 R1 r1 => by
    cases r1 with
    | int i => exact ⟨i, rfl, k _ _ _ _ q1 l1 R1⟩
    | _ => exact q1.elim⟩
abbrev A3 := D → Option Int → Option Int → Mem → PD → Prop
/-- where a slice begins and how many items it has -/
def cutD {α : Type} (xs : List α) (lo hi : Option Int) : List α := (xs.drop (HT.sIx xs.length 0 lo)).take (HT.sIx xs.length xs.length hi - HT.sIx xs.length 0 lo)
def aSl : A3 := fun x lo hi M P => match x with
  | .tup ds => P (.tup (cutD ds lo hi)) M
  | .ref n => (match M[n]? with
    | some (.lst ds) => P (.ref M.length) (M ++ [.lst (cutD ds lo hi)])
    | some (.fls ds) => P (.ref M.length) (M ++ [.lst (cutD ds lo hi)])
    | _ => False)
  | .str z => z.length ≤ sizeLine ∧ P (.str (cutS z lo hi)) M
  | _ => False
def rA3 (a : A3) : V → Option Int → Option Int → Hp → VK → Prop := fun x lo hi H Q => ∃ ι M dx P, Rel ι M H ∧ Rep ι H dx x ∧ a dx lo hi M P ∧ Cl ι H P Q
theorem cut_reps {ι : List Addr} {H : Hp} {ds : List D} {vs : List V} (r : Reps ι H ds vs) (lo hi : Option Int) : Reps ι H (cutD ds lo hi) (cutV vs lo hi) := by
  unfold cutD cutV
  rw [← r.length]
  exact (r.drop _).take _
theorem slA : SlR X (rA3 aSl) := by
  intro pins s σ H x v vl vu lo hi sl Q I rx hs pl pu h
  obtain ⟨ι, M, dx, P, R, hx, ha, k⟩ := h
  cases hx with
  | tup e r =>
    rename_i ds t vs
    refine sl_tupA pins s σ H _ v vl vu lo hi sl Q I rx hs pl pu ⟨_, _, rfl, .of e, fun w => ?_, fun _ p hp => cl_tup R k (cut_reps r lo hi) ha p hp⟩
    have z : cutD ds lo hi = ds := by
      unfold cutD
      rw [r.length, w.1, w.2, ← r.length]
      simp
    have ha' : P (.tup (cutD ds lo hi)) M := ha
    rw [z] at ha'
    exact k _ _ _ _ _ ha' .refl R (.tup e r)
  | ref e =>
    simp only [aSl] at ha
    split at ha
    · rename_i ds em
      obtain ⟨vs, e1, r⟩ := R.lstAt e em
      exact sl_list pins s σ H _ v vl vu lo hi sl Q I rx hs pl pu ⟨_, _, rfl, .of e1, fun p hp => cl_new R k (cut_reps r lo hi) ha p hp⟩
    · rename_i ds em
      obtain ⟨o, vs, e1, r⟩ := R.ob _ _ _ e em
      exact sl_list pins s σ H _ v vl vu lo hi sl Q I rx hs pl pu ⟨_, _, rfl, .inl (.inr ⟨o, e1⟩), fun p hp => cl_new R k (cut_reps r lo hi) ha p hp⟩
    · exact ha.elim
  | str z => exact sl_str pins s σ H _ v vl vu lo hi sl Q I rx hs pl pu ⟨z, rfl, ha.1, k _ _ _ _ _ ha.2 .refl R (.str _)⟩
  | _ => exact ha.elim
def mSl (m : ME) (l h : MO') : ME := fun ρ M P E => m ρ M (fun x M1 => l ρ M1 (fun lo M2 => h ρ M2 (fun hi M3 => aSl x lo hi M3 P) E) E) E
theorem c_slice {lo hi : Option Expr} {l h : MO'} {p2 : Pos} (he : CE X W e m) (hl : CO X W lo l) (hh : CO X W hi h) : CE X W (.Subscript e (.Slice lo hi none p2) pos) (mSl m l h) :=
  ce_of (pe_slice slA he.pe hl.po hh.po) fun σ H Q ι M ρ P E R S q k x =>
    te_in R S q x fun d M1 ι1 H1 v q1 l1 R1 r1 => ⟨ι1, M1, ρ, _, E, R1, S.mono l1, q1, fun lo M2 ι2 H2 q2 l2 R2 => ⟨ι2, M2, ρ, _, E, R2, S.mono (l1.trans l2), q2, fun hi M3 ι3 H3 q3 l3 R3 =>
      ⟨ι3, M3, d, P, R3, r1.mono (l2.trans l3), q3, k.mono (l1.trans (l2.trans l3))⟩, x.mono (l1.trans l2)⟩, x.mono l1⟩

/-! ## truth, and, or, not, if -/
def tru : D → Mem → Option Bool := fun x M => match x with
  | .non => some false
  | .bl b => some b
  | .int i => some (i != 0)
  | .str z => if z.length ≤ sizeLine then some ((z.length : Int) != 0) else none
  | .tup ds => some (!ds.isEmpty)
  | .ref n => (match M[n]? with
    | some (.lst ds) => some (!ds.isEmpty)
    | some (.dic ds) => some (!ds.isEmpty)
    | _ => none)
  | _ => none
theorem reps_empty {ι : List Addr} {H : Hp} {ds : List D} {vs : List V} (r : Reps ι H ds vs) : ds.isEmpty = vs.isEmpty := by cases r <;> rfl
theorem freps_empty {κ : Type} {ι : List Addr} {H : Hp} {ds : List (κ × D)} {vs : List (κ × V)} (r : FRep ι H ds vs) : ds.isEmpty = vs.isEmpty := by cases r <;> rfl
theorem tru_rep {K : PySem.W.Frag} {ι : List Addr} {M : Mem} {H : Hp} (R : Rel ι M H) {d : D} {v : V} {b : Bool} (r : Rep ι H d v) (h : tru d M = some b) : TruV K v H b := by
  cases r with
  | non => cases h; rfl
  | bl b => cases h; rfl
  | int i => cases h; rfl
  | str z =>
    simp only [tru] at h
    split at h
    · rename_i hl; cases h; exact ⟨hl, rfl⟩
    · cases h
  | tup e r => cases h; exact .inr (.inl ⟨_, .of e, by rw [reps_empty r]⟩)
  | ref e =>
    simp only [tru] at h
    split at h
    · rename_i ds em
      cases h
      obtain ⟨vs, e1, r⟩ := R.lstAt e em
      exact .inl ⟨_, .of e1, by rw [reps_empty r]⟩
    · rename_i ds em
      cases h
      obtain ⟨kv, e1, r⟩ := R.ob _ _ _ e em
      exact .inr (.inr ⟨_, e1, by rw [freps_empty r]⟩)
    · cases h
  | _ => cases h
def mTru (m : ME) : MT := fun ρ M P E => m ρ M (fun x M1 => match tru x M1 with
  | some b => P b M1
  | none => False) E
theorem tru_of {ι : List Addr} {M : Mem} {d : D} {P : Bool → Mem → Prop} (q : match tru d M with
  | some b => P b M
  | none => False) : ∃ b, tru d M = some b ∧ P b M := by
  split at q
  · rename_i b e; exact ⟨b, e, q⟩
  · exact q.elim
theorem ct_tru (ha : CE X W a m) (he : ∀ whole, isTrue a X.env whole = (do let v ← whole; standAt a.pos; holding [v] (truthy v)) := by exact fun _ => rfl) : CT X W a (mTru m) :=
  ct_of (pt_truth ha.pe he) fun σ H Q ι M ρ P E R S q k x => te_in R S q x fun d M1 ι1 H1 v q1 l1 R1 r1 => by
    obtain ⟨b, e1, q2⟩ := tru_of (ι := ι1) q1
    exact ⟨b, tru_rep R1 r1 e1, k _ _ _ _ q2 l1 R1⟩
/-- a test by its value -/
theorem ct_val (ha : CE X W a m) (h : PT X a (tTest (TE' W m))) : CT X W a (mTest m) :=
  ct_of h fun σ H Q ι M ρ P E R S q k x => te_in R S q x (cl_test k)
def mNot (n : MT) : MT := fun ρ M P E => n ρ M (fun b M1 => P (!b) M1) E
theorem ct_not (h : CT X W a n) : CT X W (.UnaryOp .Not a pos) (mNot n) :=
  ct_of (pt_not h.pt) fun σ H Q ι M ρ P E R S q k x => tt_in R S q x fun b M1 ι1 H1 q1 l1 R1 => k _ _ _ _ q1 l1 R1
structure CW (X : Cx) (W : WX) (e : Expr) (m : MT) : Prop where
  pw : PW X e (TT' W m)
theorem pw_imp {t t' : TT} (h : PW X e t) (i : ∀ σ H Q, t' σ H Q → t σ H Q) : PW X e t' := ⟨fun whole pins s σ H Q I q => h.run whole pins s σ H Q I (i _ _ _ q)⟩
theorem cw_of {t : TT} {m : MT} (h : PW X e t) (i : ∀ σ H Q ι M ρ P E, Rel ι M H → SRep ι H ρ σ → m ρ M P E → ClB ι H P Q → ClX ι H E (fun c d H' => W c d σ H') → t σ H Q) : CW X W e m :=
  ⟨pw_imp h fun σ H Q ⟨ι, M, ρ, P, E, R, S, q, k, x⟩ => i σ H Q ι M ρ P E R S q k x⟩
def mAnd (n1 n2 : MT) : MT := fun ρ M P E => n1 ρ M (fun b M1 => match b with
  | true => n2 ρ M1 P E
  | false => P false M1) E
def mOr (n1 n2 : MT) : MT := fun ρ M P E => n1 ρ M (fun b M1 => match b with
  | true => P true M1
  | false => n2 ρ M1 P E) E
theorem cw_and1 (h : CT X W a n) : CW X W (.BoolOp .And [a] pos) n := ⟨pw_and1 h.pt⟩
theorem cw_or1 (h : CT X W a n) : CW X W (.BoolOp .Or [a] pos) n := ⟨pw_or1 h.pt⟩
theorem cw_and (h1 : CT X W a n1) (h2 : CW X W (.BoolOp .And (b :: es) pos) n2) : CW X W (.BoolOp .And (a :: b :: es) pos) (mAnd n1 n2) :=
  cw_of (pw_and h1.pt h2.pw) fun σ H Q ι M ρ P E R S q k x => tt_in R S q x fun b M1 ι1 H1 q1 l1 R1 => by
    cases b with
    | true => exact iteT (tt_in R1 (S.mono l1) q1 (x.mono l1) (k.mono l1))
    | false => exact iteF (k _ _ _ _ q1 l1 R1)
theorem cw_or (h1 : CT X W a n1) (h2 : CW X W (.BoolOp .Or (b :: es) pos) n2) : CW X W (.BoolOp .Or (a :: b :: es) pos) (mOr n1 n2) :=
  cw_of (pw_or h1.pt h2.pw) fun σ H Q ι M ρ P E R S q k x => tt_in R S q x fun b M1 ι1 H1 q1 l1 R1 => by
    cases b with
    | true => exact iteT (k _ _ _ _ q1 l1 R1)
    | false => exact iteF (tt_in R1 (S.mono l1) q1 (x.mono l1) (k.mono l1))
theorem ct_w (h : CW X W e n) : CT X W e n := ⟨h.pw.pt⟩
/-- and, or, not as values, by truth -/
def mAndV (m1 m2 : ME) : ME := fun ρ M P E => m1 ρ M (fun x M1 => match tru x M1 with
  | some true => m2 ρ M1 P E
  | some false => P x M1
  | none => False) E
def mOrV (m1 m2 : ME) : ME := fun ρ M P E => m1 ρ M (fun x M1 => match tru x M1 with
  | some true => P x M1
  | some false => m2 ρ M1 P E
  | none => False) E
def mNotV (m1 : ME) : ME := fun ρ M P E => m1 ρ M (fun x M1 => match tru x M1 with
  | some b => P (.bl (!b)) M1
  | none => False) E
theorem c_one {op : BoolOp} (ha : CE X W a m) : CE X W (.BoolOp op [a] pos) m := ⟨pe_one ha.pe⟩
theorem c_and (ha : CE X W a m1) (hb : CE X W (.BoolOp .And (b :: es) pos) m2) : CE X W (.BoolOp .And (a :: b :: es) pos) (mAndV m1 m2) :=
  ce_of (pe_andT ha.pe hb.pe) fun σ H Q ι M ρ P E R S q k x => te_in R S q x fun d M1 ι1 H1 v q1 l1 R1 r1 => by
    split at q1
    · rename_i e; exact ⟨true, tru_rep R1 r1 e, iteT (te_in R1 (S.mono l1) q1 (x.mono l1) (k.mono l1))⟩
    · rename_i e; exact ⟨false, tru_rep R1 r1 e, iteF (k _ _ _ _ _ q1 l1 R1 r1)⟩
    · exact q1.elim
theorem c_or (ha : CE X W a m1) (hb : CE X W (.BoolOp .Or (b :: es) pos) m2) : CE X W (.BoolOp .Or (a :: b :: es) pos) (mOrV m1 m2) :=
  ce_of (pe_orT ha.pe hb.pe) fun σ H Q ι M ρ P E R S q k x => te_in R S q x fun d M1 ι1 H1 v q1 l1 R1 r1 => by
    split at q1
    · rename_i e; exact ⟨true, tru_rep R1 r1 e, iteT (k _ _ _ _ _ q1 l1 R1 r1)⟩
    · rename_i e; exact ⟨false, tru_rep R1 r1 e, iteF (te_in R1 (S.mono l1) q1 (x.mono l1) (k.mono l1))⟩
    · exact q1.elim
theorem c_not (ha : CE X W a m) : CE X W (.UnaryOp .Not a pos) (mNotV m) :=
  ce_of (pe_notT ha.pe) fun σ H Q ι M ρ P E R S q k x => te_in R S q x fun d M1 ι1 H1 v q1 l1 R1 r1 => by
    obtain ⟨b, e, q2⟩ := tru_of (ι := ι1) (P := fun b M1 => P (.bl (!b)) M1) q1
    exact ⟨b, tru_rep R1 r1 e, k _ _ _ _ _ q2 l1 R1 (.bl _)⟩
def mIf (n : MT) (m1 m2 : ME) : ME := fun ρ M P E => n ρ M (fun b M1 => match b with
  | true => m1 ρ M1 P E
  | false => m2 ρ M1 P E) E
theorem c_if (hc : CT X W c n) (ha : CE X W a m1) (hb : CE X W b m2) : CE X W (.IfExp c a b pos) (mIf n m1 m2) :=
  ce_of (pe_ifExp hc.pt ha.pe hb.pe) fun σ H Q ι M ρ P E R S q k x => tt_in R S q x fun b M1 ι1 H1 q1 l1 R1 => by
    cases b with
    | true => exact iteT (te_in R1 (S.mono l1) q1 (x.mono l1) (k.mono l1))
    | false => exact iteF (te_in R1 (S.mono l1) q1 (x.mono l1) (k.mono l1))
def mNeg (m1 : ME) : ME := fun ρ M P E => m1 ρ M (fun x M1 => match x with
  | .int i => P (.int (-i)) M1
  | _ => False) E
theorem c_neg (ha : CE X W a m) : CE X W (.UnaryOp .USub a pos) (mNeg m) :=
  ce_of (pe_un un_neg ha.pe) fun σ H Q ι M ρ P E R S q k x => te_in R S q x fun d M1 ι1 H1 v q1 l1 R1 r1 => by
    cases r1 with
    | int i => exact ⟨i, rfl, k _ _ _ _ _ q1 l1 R1 (.int _)⟩
    | _ => exact q1.elim
/-- a < b <= c -/
def m3' (r1 r2 : A2) (m1 m2 : ME) (m3 : ME) : ME := fun ρ M P E => m1 ρ M (fun x M1 => m2 ρ M1 (fun y M2 => r1 x y M2 (fun z M3 => match z with
  | .bl true => m3 ρ M3 (fun w M4 => r2 y w M4 P) E
  | .bl false => P (.bl false) M3
  | _ => False)) E) E
theorem c_chain {op op' : CmpOp} {r r' : A2} {mx my mz : ME} (ho : OpA X (compareOp op) r) (ho' : OpA X (compareOp op') r') (ha : CE X W a mx) (hb : CE X W b my) (hc : CE X W c mz) (hm : lastMarks [op, op'] [b, c] = false := by rfl) :
    CE X W (.Compare a [op, op'] [b, c] pos) (m3' r r' mx my mz) :=
  ce_of (pe_chain ho ho' ha.pe hb.pe hc.pe hm) fun σ H Q ι M ρ P E R S q k x =>
    te_in R S q x fun d1 M1 ι1 H1 v1 q1 l1 R1 r1 => te_in R1 (S.mono l1) q1 (x.mono l1) fun d2 M2 ι2 H2 v2 q2 l2 R2 r2 => ⟨ι2, M2, d1, d2, _, R2, r1.mono l2, r2, q2, fun d3 M3 ι3 H3 v3 q3 l3 R3 r3 => by
      have l13 := l1.trans (l2.trans l3)
      cases r3 with
      | bl b => cases b with
        | true => exact ⟨true, rfl, iteT (te_in R3 (S.mono l13) q3 (x.mono l13) fun d4 M4 ι4 H4 v4 q4 l4 R4 r4 => ⟨ι4, M4, d2, d4, P, R4, r2.mono (l3.trans l4), r4, q4, k.mono (l13.trans l4)⟩)⟩
        | false => exact ⟨false, rfl, iteF (k _ _ _ _ _ q3 l13 R3 (.bl _))⟩
      | _ => exact q3.elim⟩
end
end AL
namespace AL
open PySem L2
section
variable {X : Cx} {W : WX} {a b c e o tg iter : Expr} {es : List Expr} {m m1 m2 m3 : ME} {n n1 n2 : MT} {ma ma1 : MA} {pos : Pos} {st : Stmt} {sts sts' : List Stmt} {k k1 k2 : MS}

/-! ## statements -/
theorem cs_of {t : TS} (h : PS X st t) (i : ∀ D σ H ι M ρ A, Rel ι M H → SRep ι H ρ σ → k ρ M A → ClE ι H A D W → t D σ H) : CS X W st k :=
  ⟨ps_imp h fun D σ H ⟨ι, M, ρ, A, R, S, q, x⟩ => i D σ H ι M ρ A R S q x⟩
theorem css_of {t : TS} (h : PSs X sts t) (i : ∀ D σ H ι M ρ A, Rel ι M H → SRep ι H ρ σ → k ρ M A → ClE ι H A D W → t D σ H) : CSs X W sts k :=
  ⟨pss_imp h fun D σ H ⟨ι, M, ρ, A, R, S, q, x⟩ => i D σ H ι M ρ A R S q x⟩
def kNext : MS := fun ρ M A => A.nx ρ M
def kSeq (k1 k2 : MS) : MS := fun ρ M A => k1 ρ M { A with nx := fun ρ' M' => k2 ρ' M' A }
theorem cs_nil : CSs X W [] kNext := css_of pss_nil fun D σ H ι M ρ A R S q x => x.nx _ _ _ _ _ q .refl R S
theorem cs_one (h : CS X W st k) : CSs X W [st] k := ⟨pss_one h.ps⟩
theorem cs_cons (h1 : CS X W st k1) (h2 : CSs X W sts k2) : CSs X W (st :: sts) (kSeq k1 k2) :=
  css_of (pss_cons h1.ps h2.ps) fun D σ H ι M ρ A R S q x => ts_in R S q ⟨fun ρ' M' ι' H' σ' q' l R' S' => ts_in R' S' q' (x.mono l), x.rt, x.bk, x.ct, x.ex⟩
theorem cs_pass : CS X W (.Pass pos) kNext := cs_of ps_pass fun D σ H ι M ρ A R S q x => x.nx _ _ _ _ _ q .refl R S
def kBreak : MS := fun ρ M A => A.bk ρ M
def kCont : MS := fun ρ M A => A.ct ρ M
theorem cs_break : CS X W (.Break pos) kBreak := cs_of ps_break fun D σ H ι M ρ A R S q x => x.bk _ _ _ _ _ q .refl R S
theorem cs_continue : CS X W (.Continue pos) kCont := cs_of ps_continue fun D σ H ι M ρ A R S q x => x.ct _ _ _ _ _ q .refl R S
def kExpr (m : ME) : MS := fun ρ M A => m ρ M (fun _ M1 => A.nx ρ M1) (A.xp ρ)
theorem cs_expr (he : CE X W e m) (hs : swapsWith e none pos.line X.env = pure false := by rfl) : CS X W (.Expr e pos) (kExpr m) :=
  cs_of (ps_expr he.pe hs) fun D σ H ι M ρ A R S q x => te_in R S q (x.ex.at S) fun d M' ι' H' v q' l R' r => x.nx _ _ _ _ _ q' l R' (S.mono l)
def kRet (m : ME) : MS := fun ρ M A => m ρ M A.rt (A.xp ρ)
theorem cs_ret (he : CE X W e m) : CS X W (.Return (some e) pos) (kRet m) :=
  cs_of (ps_ret he.pe) fun D σ H ι M ρ A R S q x => te_in R S q (x.ex.at S) x.rt
def kRetN : MS := fun ρ M A => A.rt .non M
theorem cs_retN : CS X W (.Return none pos) kRetN := cs_of ps_retN fun D σ H ι M ρ A R S q x => x.rt _ _ _ _ _ q .refl R .non
def kIf (n : MT) (k1 k2 : MS) : MS := fun ρ M A => n ρ M (fun b M1 => match b with
  | true => k1 ρ M1 A
  | false => k2 ρ M1 A) (A.xp ρ)
theorem cs_if (hc : CT X W c n) (ha : CSs X W sts k1) (hb : CSs X W sts' k2) : CS X W (.If c sts sts' pos) (kIf n k1 k2) :=
  cs_of (ps_if hc.pt ha.ps hb.ps) fun D σ H ι M ρ A R S q x => tt_in R S q (x.ex.at S) fun b M1 ι1 H1 q1 l1 R1 => by
    cases b with
    | true => exact iteT (ts_in R1 (S.mono l1) q1 (x.mono l1))
    | false => exact iteF (ts_in R1 (S.mono l1) q1 (x.mono l1))
/-- what the proof never comes to -/
def kNever : MS := fun _ _ _ => False
theorem cs_never : CS X W st kNever := cs_of ps_never fun D σ H ι M ρ A R S q x => q
theorem css_never : CSs X W sts kNever := css_of pss_never fun D σ H ι M ρ A R S q x => q

/-! ## targets -/
abbrev MG := D → Sl → Option Sl
def TG' (g : MG) : TG := fun v σ H Q => ∃ ι M ρ d ρ', Rel ι M H ∧ SRep ι H ρ σ ∧ Rep ι H d v ∧ g d ρ = some ρ' ∧ ∀ σ', SRep ι H ρ' σ' → Q σ' H
structure CG (X : Cx) (t : Expr) (g : MG) : Prop where
  pg : PG X t (TG' g)
def TGs' (g : List D → Sl → Option Sl) : TGs := fun vs σ H Q => ∃ ι M ρ ds ρ', Rel ι M H ∧ SRep ι H ρ σ ∧ Reps ι H ds vs ∧ g ds ρ = some ρ' ∧ ∀ σ', SRep ι H ρ' σ' → Q σ' H
structure CGs (X : Cx) (ts : List Expr) (g : List D → Sl → Option Sl) : Prop where
  pg : PGs X ts (TGs' g)
theorem pg_imp {t t' : TG} (h : PG X tg t) (i : ∀ v σ H Q, t' v σ H Q → t v σ H Q) : PG X tg t' := ⟨fun pins s σ H v u Q I r q => h.run pins s σ H v u Q I r (i _ _ _ _ q)⟩
theorem pgs_imp {ts : List Expr} {t t' : TGs} (h : PGs X ts t) (i : ∀ v σ H Q, t' v σ H Q → t v σ H Q) : PGs X ts t' := ⟨fun pins s σ H v u Q I r q => h.run pins s σ H v u Q I r (i _ _ _ _ q)⟩
def gN (i : Nat) : MG := fun d ρ => some (ρ.set i (some d))
theorem g_name (i : Nat) {x : Str} (hN : X.N.Nodup) (hi : X.N[i]? = some x := by rfl) (hx : Loc X.env.scope x := by first | exact Or.inl rfl | exact Or.inr rfl) (hf : X.fn x = true ∨ X.env.scope.names.lookup x = some .local := by first | exact .inl rfl | exact .inr rfl) : CG X (.Name x pos) (gN i) :=
  ⟨pg_imp (pg_name hN hi hx hf) fun v σ H Q ⟨ι, M, ρ, d, ρ', R, S, r, e, q⟩ => by
    cases e
    exact q _ (S.set r i)⟩
def gNil' : List D → Sl → Option Sl := fun ds ρ => match ds with
  | [] => some ρ
  | _ => none
def gCons' (g : MG) (r : List D → Sl → Option Sl) : List D → Sl → Option Sl := fun ds ρ => match ds with
  | [] => none
  | d :: ds => (match g d ρ with
    | some ρ1 => r ds ρ1
    | none => none)
theorem gs_nil : CGs X [] gNil' := ⟨pgs_imp pgs_nil fun vs σ H Q ⟨ι, M, ρ, ds, ρ', R, S, r, e, q⟩ => by
  cases r with
  | nil => cases e; exact ⟨rfl, q _ S⟩
  | cons => cases e⟩
theorem gs_cons {t : Expr} {ts : List Expr} {g : MG} {r : List D → Sl → Option Sl} (h1 : CG X t g) (h2 : CGs X ts r) (hs : (assignEach (t :: ts) X.env).map (·.2) = assign t X.env :: (assignEach ts X.env).map (·.2) := by rfl) : CGs X (t :: ts) (gCons' g r) :=
  ⟨pgs_imp (pgs_cons h1.pg h2.pg hs) fun vs σ H Q ⟨ι, M, ρ, ds, ρ', R, S, rr, e, q⟩ => by
    cases rr with
    | nil => cases e
    | cons a b =>
      simp only [gCons'] at e
      split at e
      · rename_i ρ1 e1
        exact ⟨_, _, rfl, ι, M, ρ, _, ρ1, R, S, a, e1, fun σ1 S1 => ⟨ι, M, ρ1, _, ρ', R, S1, b, e, q⟩⟩
      · cases e⟩
def gTup' (n : Nat) (r : List D → Sl → Option Sl) : MG := fun d ρ => match d with
  | .tup ds => if ds.length = n then r ds ρ else none
  | _ => none
theorem g_tup {k n : Nat} {r : List D → Sl → Option Sl} (hc : X.calm = true) (h : CGs X es r) (hn : (assignEach es X.env).length = n := by rfl) (hst : (assignEach es X.env).findIdx? (·.1) = none := by rfl) : CG X (.Tuple es k pos) (gTup' n r) :=
  ⟨pg_imp (pg_tup hc h.pg hn hst) fun v σ H Q ⟨ι, M, ρ, d, ρ', R, S, rr, e, q⟩ => by
    cases rr with
    | tup h1 r1 =>
      simp only [gTup'] at e
      split at e
      · rename_i hl
        exact ⟨_, _, rfl, .of h1, by rw [← r1.length]; exact hl, ι, M, ρ, _, ρ', R, S, r1, e, q⟩
      · cases e
    | _ => cases e⟩

/-! ## stores -/
def kSet (i : Nat) (m : ME) : MS := fun ρ M A => m ρ M (fun d M1 => A.nx (ρ.set i (some d)) M1) (A.xp ρ)
theorem cs_set (i : Nat) {x : Str} {pos' : Pos} (hN : X.N.Nodup) (he : CE X W e m) (hi : X.N[i]? = some x := by rfl) (hx : Loc X.env.scope x := by first | exact Or.inl rfl | exact Or.inr rfl) (hs : swapsWith e (some (.Name x pos')) pos.line X.env = pure false := by rfl) (hf : X.fn x = true ∨ X.env.scope.names.lookup x = some .local := by first | exact .inl rfl | exact .inr rfl) :
    CS X W (.Assign [.Name x pos'] e pos) (kSet i m) :=
  cs_of (ps_set hN hi hx he.pe hs hf) fun D σ H ι M ρ A R S q x => te_in R S q (x.ex.at S) fun d M' ι' H' v q' l R' r => x.nx _ _ _ _ _ q' l R' ((S.mono l).set r i)
def kAsg (g : MG) (m : ME) : MS := fun ρ M A => m ρ M (fun d M1 => match g d ρ with
  | some ρ' => A.nx ρ' M1
  | none => False) (A.xp ρ)
theorem cs_asg {g : MG} (he : CE X W e m) (hg : CG X tg g) (hs : swapsWithSole [tg] e pos.line X.env = pure false := by rfl) (hw : swappedStores [tg] e X.env = pure none := by rfl) (h1 : (assignEach [tg] X.env).map (·.2) = [assign tg X.env] := by rfl) : CS X W (.Assign [tg] e pos) (kAsg g m) :=
  cs_of (ps_asg he.pe hg.pg hs hw h1) fun D σ H ι M ρ A R S q x => te_in R S q (x.ex.at S) fun d M' ι' H' v q' l R' r => by
    split at q'
    · rename_i ρ' e
      exact ⟨ι', M', ρ, d, ρ', R', S.mono l, r, e, fun σ' S' => x.nx _ _ _ _ _ q' l R' S'⟩
    · exact q'.elim
def kPar2 (i j : Nat) (ma : MA) : MS := fun ρ M A => ma ρ M (fun ds M1 => match ds with
  | [d, e] => A.nx ((ρ.set i (some d)).set j (some e)) M1
  | _ => False) (A.xp ρ)
theorem cs_par2 (i j : Nat) {x y : Str} {px py pt : Pos} {kt k2 pt2} (hc : X.calm = true) (hN : X.N.Nodup) (ha : CA X W [a, b] ma) (hi : X.N[i]? = some x := by rfl) (hj : X.N[j]? = some y := by rfl) (hij : i ≠ j := by decide) (hx : X.env.scope.names.lookup x = some .local := by rfl) (hy : X.env.scope.names.lookup y = some .local := by rfl)
    (hw : swappedStores [.Tuple [.Name x px, .Name y py] kt pt] (.Tuple [a, b] k2 pt2) X.env = pure (some [x, y]) := by rfl) (hs : swapsWithSole [.Tuple [.Name x px, .Name y py] kt pt] (.Tuple [a, b] k2 pt2) pos.line X.env = pure false := by rfl) :
    CS X W (.Assign [.Tuple [.Name x px, .Name y py] kt pt] (.Tuple [a, b] k2 pt2) pos) (kPar2 i j ma) :=
  cs_of (ps_par hc hN hi hj hij hx hy ha.pa hw hs) fun D σ H ι M ρ A R S q x => ta_in R S q (x.ex.at S) fun ds M' ι' H' vs q' l R' r => by
    cases r with
    | nil => exact q'.elim
    | cons r1 r => cases r with
      | nil => exact q'.elim
      | cons r2 r => cases r with
        | nil => exact ⟨_, _, rfl, x.nx _ _ _ _ _ q' l R' (((S.mono l).set r1 i).set r2 j)⟩
        | cons => exact q'.elim
def kPar3 (i j h : Nat) (ma : MA) : MS := fun ρ M A => ma ρ M (fun ds M1 => match ds with
  | [d, e, f] => A.nx (((ρ.set i (some d)).set j (some e)).set h (some f)) M1
  | _ => False) (A.xp ρ)
theorem cs_par3 (i j h : Nat) {x y z : Str} {px py pz pt : Pos} {kt k2 pt2} (hc : X.calm = true) (hN : X.N.Nodup) (ha : CA X W [a, b, c] ma) (hi : X.N[i]? = some x := by rfl) (hj : X.N[j]? = some y := by rfl) (hl : X.N[h]? = some z := by rfl) (hij : i ≠ j := by decide) (hil : i ≠ h := by decide) (hjl : j ≠ h := by decide)
    (hx : X.env.scope.names.lookup x = some .local := by rfl) (hy : X.env.scope.names.lookup y = some .local := by rfl) (hz : X.env.scope.names.lookup z = some .local := by rfl)
    (hw : swappedStores [.Tuple [.Name x px, .Name y py, .Name z pz] kt pt] (.Tuple [a, b, c] k2 pt2) X.env = pure (some [x, y, z]) := by rfl) (hs : swapsWithSole [.Tuple [.Name x px, .Name y py, .Name z pz] kt pt] (.Tuple [a, b, c] k2 pt2) pos.line X.env = pure false := by rfl) :
    CS X W (.Assign [.Tuple [.Name x px, .Name y py, .Name z pz] kt pt] (.Tuple [a, b, c] k2 pt2) pos) (kPar3 i j h ma) :=
  cs_of (ps_par3 hc hN hi hj hl hij hil hjl hx hy hz ha.pa hw hs) fun D σ H ι M ρ A R S q x => ta_in R S q (x.ex.at S) fun ds M' ι' H' vs q' l R' r => by
    cases r with
    | nil => exact q'.elim
    | cons r1 r => cases r with
      | nil => exact q'.elim
      | cons r2 r => cases r with
        | nil => exact q'.elim
        | cons r3 r => cases r with
          | nil => exact ⟨_, _, _, rfl, x.nx _ _ _ _ _ q' l R' ((((S.mono l).set r1 i).set r2 j).set r3 h)⟩
          | cons => exact q'.elim
/-- o[i] = e of a list -/
def kSub (m mo mi : ME) : MS := fun ρ M A => m ρ M (fun d M1 => mo ρ M1 (fun o M2 => mi ρ M2 (fun i M3 => match o with
  | .ref n => (match M3[n]? with
    | some (.lst ds) => (match i with
      | .int z => (match ixN ds.length z with
        | some j => A.nx ρ (M3.set n (.lst (ds.set j d)))
        | none => False)
      | _ => False)
    | _ => False)
  | _ => False) (A.xp ρ)) (A.xp ρ)) (A.xp ρ)
theorem Rel.setL {ι : List Addr} {M : Mem} {H : Hp} (R : Rel ι M H) {n : Nat} {p : Addr} {ds : List D} {vs : List V} (hn : ι[n]? = some p) (r : Reps ι H ds vs) : Rel ι (M.set n (.lst ds)) (upd H p (.lst vs)) ∧ Later ι H ι (upd H p (.lst vs)) :=
  have l : Later ι H ι (upd H p (.lst vs)) := later_set (R.nottup hn)
  ⟨R.set hn ⟨vs, upd_same, r.mono l⟩, l⟩
theorem cs_sub {i : Expr} {mi mo : ME} {p' : Pos} (he : CE X W e m) (ho : CE X W o mo) (hi : CE X W i mi) (ha : ∀ v, assign (.Subscript o i p') X.env v = (do
      let ov ← holding [v] (eval o X.env)
      let iv ← holding [v, ov] (eval i X.env)
      standAt p'
      holding [v, ov, iv] (setItem ov iv v)
      release [v, ov, iv] []) := by intro _; rfl)
    (hs : swapsWithSole [.Subscript o i p'] e pos.line X.env = pure false := by rfl) (hw : swappedStores [.Subscript o i p'] e X.env = pure none := by rfl) : CS X W (.Assign [.Subscript o i p'] e pos) (kSub m mo mi) :=
  cs_of (ps_asg he.pe (pg_sub ho.pe hi.pe set_list ha) hs hw) fun D σ H ι M ρ A R S q x =>
    te_in R S q (x.ex.at S) fun d M1 ι1 H1 v q1 l1 R1 r1 => te_in R1 (S.mono l1) q1 ((x.mono l1).ex.at (S.mono l1)) fun d2 M2 ι2 H2 v2 q2 l2 R2 r2 =>
      te_in R2 (S.mono (l1.trans l2)) q2 ((x.mono (l1.trans l2)).ex.at (S.mono (l1.trans l2))) fun d3 M3 ι3 H3 v3 q3 l3 R3 r3 => by
        have r2' := r2.mono l3
        cases r2' with
        | ref h =>
          simp only at q3
          split at q3
          · rename_i ds em
            split at q3
            · rename_i z
              split at q3
              · rename_i j ej
                obtain ⟨vs, e1, rv⟩ := R3.lstAt h em
                cases r3
                have l13 := l1.trans (l2.trans l3)
                obtain ⟨R4, l4⟩ := R3.setL h (rv.set (r1.mono (l2.trans l3)) j)
                exact ⟨_, vs, z, j, rfl, rfl, e1, by rw [← rv.length]; exact ej, x.nx _ _ _ _ _ q3 (l13.trans l4) R4 (S.mono (l13.trans l4))⟩
              · exact q3.elim
            · exact q3.elim
          · exact q3.elim
        | _ => exact q3.elim

/-! ## what is walked -/
structure AIt where
  items : List D
  live : Mem → Prop
def IRep (J : It) (it : AIt) (ι0 : List Addr) (H0 : Hp) : Prop := ∃ (G : Hp → Prop) (Y : Nat → Hp → V → Hp → Prop), Walk J it.items.length G Y ∧
  (∀ ι H M, Later ι0 H0 ι H → Rel ι M H → it.live M → G H) ∧
  ∀ i ι H M x H', Later ι0 H0 ι H → Rel ι M H → it.live M → Y i H x H' → ∃ d, it.items[i]? = some d ∧ Later ι H ι H' ∧ Rel ι M H' ∧ Rep ι H' d x
abbrev MI := Sl → Mem → (AIt → Mem → Prop) → XP → Prop
def TI' (W : WX) (mi : MI) : TI := fun σ H R => ∃ ι M ρ P E, Rel ι M H ∧ SRep ι H ρ σ ∧ mi ρ M P E ∧ (∀ it M' ι' H' J, P it M' → Later ι H ι' H' → Rel ι' M' H' → IRep J it ι' H' → R J H') ∧ ClX ι H E (fun c d H' => W c d σ H')
structure CI (X : Cx) (W : WX) (tg iter : Expr) (m : MI) : Prop where
  pi : PI X tg iter (TI' W m)
/-- the turns -/
def forA (live : Mem → Prop) (g : MG) (body : MS) (A : AEnds) : List D → Sl → Mem → Prop
  | [], ρ, M => live M ∧ A.nx ρ M
  | x :: xs, ρ, M => live M ∧ (match g x ρ with
    | some ρ1 => body ρ1 M { A with nx := forA live g body A xs, ct := forA live g body A xs, bk := A.nx }
    | none => False)
def kFor (mi : MI) (g : MG) (body : MS) : MS := fun ρ M A => mi ρ M (fun it M1 => forA it.live g body A it.items ρ M1) (A.xp ρ)
theorem cs_for {g : MG} {body : List Stmt} {mi : MI} (hp : PassesOwn (model X.prog X.w) X.A X.env X.xe) (hc : X.calm = true) (hi : CI X W tg iter mi) (hg : CG X tg g) (hb : CSs X W body k) (hs : ∀ x, foldedSetIterable iter X.env x = pure x := by intro _; rfl) : CS X W (.For tg iter body [] pos) (kFor mi g k) :=
  cs_of (ps_for hp hc hi.pi hg.pg hb.ps hs) fun D σ H ι M ρ A R S q x =>
    ⟨ι, M, ρ, _, _, R, S, q, fun it M1 ι1 H1 J q1 l1 R1 ⟨G, Y, w, hG, hY⟩ => by
      refine for_it w (fun i σ' H' => ∃ ι' M' ρ', Later ι1 H1 ι' H' ∧ Rel ι' M' H' ∧ SRep ι' H' ρ' σ' ∧ forA it.live g k A (it.items.drop i) ρ' M') ⟨ι1, M1, ρ, .refl, R1, S.mono l1, q1⟩ ?_ ?_ ?_
      · rintro i σ' H' _ ⟨ι', M', ρ', l, R', S', q'⟩
        refine hG ι' H' M' l R' ?_
        cases hd : it.items.drop i with
        | nil => rw [hd] at q'; exact q'.1
        | cons y ys => rw [hd] at q'; exact q'.1
      · rintro i y σ' H' H2 hi2 ⟨ι', M', ρ', l, R', S', q'⟩ hy
        have hd : it.items.drop i = it.items[i] :: it.items.drop (i + 1) := List.drop_eq_getElem_cons hi2
        rw [hd] at q'
        obtain ⟨hl, q'⟩ := q'
        obtain ⟨d, e1, l2, R2, r2⟩ := hY i ι' H' M' y H2 l R' hl hy
        have e2 : it.items[i] = d := by
          rw [List.getElem?_eq_getElem hi2] at e1
          exact Option.some.inj e1
        rw [e2] at q'
        split at q'
        · rename_i ρ1 eg
          refine ⟨ι', M', ρ', d, ρ1, R2, S'.mono l2, r2, eg, fun σ3 S3 => ts_in R2 S3 q' ?_⟩
          have l02 := l.trans l2
          exact ⟨fun ρ4 M4 ι4 H4 σ4 q4 l4 R4 S4 => ⟨ι4, M4, ρ4, l02.trans l4, R4, S4, q4⟩, x.rt.mono (l1.trans l02), x.nx.mono (l1.trans l02), fun ρ4 M4 ι4 H4 σ4 q4 l4 R4 S4 => ⟨ι4, M4, ρ4, l02.trans l4, R4, S4, q4⟩, x.ex.mono (l1.trans l02)⟩
        · exact q'.elim
      · rintro σ' H' ⟨ι', M', ρ', l, R', S', q'⟩
        rw [List.drop_length] at q'
        exact x.nx _ _ _ _ _ q'.2 (l1.trans l) R' S', x.ex.at S⟩

/-! ### a sequence -/
def aIter : D → Mem → (AIt → Mem → Prop) → Prop := fun x M P => match x with
  | .tup ds => P ⟨ds, fun _ => True⟩ M
  | .str z => P ⟨z.cps.toList.map fun c => .str ⟨#[c]⟩, fun _ => True⟩ M
  | .ref n => (match M[n]? with
    | some (.lst ds) => P ⟨ds, fun M' => M'[n]? = some (.lst ds)⟩ M
    | some (.fls ds) => P ⟨ds, fun M' => M'[n]? = some (.fls ds)⟩ M
    | _ => False)
  | _ => False
def iSeq (m : ME) : MI := fun ρ M P E => m ρ M (fun x M1 => aIter x M1 P) E
theorem irep_list {K : PySem.W.Frag} {ι : List Addr} {H : Hp} {n : Nat} {a : Addr} {ds : List D} {vs : List V} (e : ι[n]? = some a) (r : Reps ι H ds vs) : IRep (Itl K a) ⟨ds, fun M' => M'[n]? = some (.lst ds)⟩ ι H := by
  refine ⟨fun H' => ∃ us, us.length = ds.length ∧ SqL K H' a us, fun i H1 x H2 => H2 = H1 ∧ ∀ xs, SqL K H1 a xs → xs[i]? = some x, ⟨fun i H' hi ⟨us, hl, hs⟩ => ⟨us, us[i]'(by rw [hl]; exact hi), hs, List.getElem?_eq_getElem _⟩, fun H' ⟨us, hl, hs⟩ => ⟨us, hs, by rw [hl]; exact Nat.le_refl _⟩, fun i H1 x H2 hi _ y => y⟩, fun ι' H' M' l R' hm => ?_, fun i ι' H' M' x H2 l R' hm y => ?_⟩
  · obtain ⟨us, h1, h2⟩ := R'.lstAt (l.at e) hm
    exact ⟨us, h2.length.symm, .of h1⟩
  · obtain ⟨rfl, hx⟩ := y
    obtain ⟨us, h1, h2⟩ := R'.lstAt (l.at e) hm
    obtain ⟨d, h3, h4⟩ := h2.get' (hx us (.of h1))
    exact ⟨d, h3, .refl, R', h4⟩
theorem irep_fls {K : PySem.W.Frag} {ι : List Addr} {H : Hp} {n : Nat} {a : Addr} {ds : List D} (e : ι[n]? = some a) : IRep (Itl K a) ⟨ds, fun M' => M'[n]? = some (.fls ds)⟩ ι H := by
  refine ⟨fun H' => ∃ us, us.length = ds.length ∧ SqL K H' a us, fun i H1 x H2 => H2 = H1 ∧ ∀ xs, SqL K H1 a xs → xs[i]? = some x, ⟨fun i H' hi ⟨us, hl, hs⟩ => ⟨us, us[i]'(by rw [hl]; exact hi), hs, List.getElem?_eq_getElem _⟩, fun H' ⟨us, hl, hs⟩ => ⟨us, hs, by rw [hl]; exact Nat.le_refl _⟩, fun i H1 x H2 hi _ y => y⟩, fun ι' H' M' l R' hm => ?_, fun i ι' H' M' x H2 l R' hm y => ?_⟩
  · obtain ⟨o, us, h1, h2⟩ := R'.ob _ _ _ (l.at e) hm
    exact ⟨us, h2.length.symm, .inl (.inr ⟨o, h1⟩)⟩
  · obtain ⟨rfl, hx⟩ := y
    obtain ⟨o, us, h1, h2⟩ := R'.ob _ _ _ (l.at e) hm
    obtain ⟨d, h3, h4⟩ := h2.get' (hx us (.inl (.inr ⟨o, h1⟩)))
    exact ⟨d, h3, .refl, R', h4⟩
theorem irep_tup {K : PySem.W.Frag} {ι : List Addr} {H : Hp} {a : Addr} {ds : List D} {vs : List V} (e : H a = some (.tup vs)) (r : Reps ι H ds vs) : IRep (Itt K a) ⟨ds, fun _ => True⟩ ι H := by
  have w := walk_tup (K := K) (a := a) (xs := vs)
  rw [← r.length] at w
  refine ⟨_, _, w, fun ι' H' M' l R' hm => .of (l.tup _ _ e), fun i ι' H' M' x H2 l R' hm y => ?_⟩
  obtain ⟨rfl, hx⟩ := y
  obtain ⟨d, h3, h4⟩ := (r.mono l).get' hx
  exact ⟨d, h3, .refl, R', h4⟩
theorem irep_str {ι : List Addr} {H : Hp} {z : Str} : IRep (Its z) ⟨z.cps.toList.map fun c => .str ⟨#[c]⟩, fun _ => True⟩ ι H := by
  have w := walk_str (z := z)
  have hl : (z.cps.toList.map fun c => D.str ⟨#[c]⟩).length = z.cps.size := by simp
  refine ⟨_, _, by rw [← hl] at w; exact w, fun _ _ _ _ _ _ => trivial, fun i ι' H' M' x H2 l R' hm y => ?_⟩
  obtain ⟨rfl, c, hc, rfl⟩ := y
  exact ⟨.str ⟨#[c]⟩, by simp [hc], .refl, R', .str _⟩
theorem ci_seq (he : CE X W e m) : CI X W tg e (iSeq m) := by
  refine ⟨⟨fun pins s σ H R0 I h => ?_⟩⟩
  obtain ⟨ι, M, ρ, P, E, R, S, q, k, x⟩ := h
  refine thn (he.pe.run pins s σ H (fun v H' => ∃ M' ι' d, Later ι H ι' H' ∧ Rel ι' M' H' ∧ Rep ι' H' d v ∧ aIter d M' P) I (te_in R S q x fun d M1 ι1 H1 v q1 l1 R1 r1 => ⟨M1, ι1, d, l1, R1, r1, q1⟩)) fun v s1 ⟨y, H1, I1, r1, M1, ι1, d, l1, R1, rd, q1⟩ => ?_
  cases rd with
  | tup e1 r2 =>
    cases r1
    obtain ⟨its, rv, p, hz⟩ := I1.tuple (SqT.of e1)
    refine wpAny_pyIter_tuple (show s1.heap.IsTuple _ its.toArray from p) ?_
    refine ⟨s1.heap.objs.size, [s1.heap.objs.size], _, _, H1, rfl, I1.kept (t' := s1.toks) fun b o e => Heap.get?_push_of_some _ e, turn_tuple _ _, ⟨_, Heap.get?_push_size _ rfl, rfl, rfl⟩, fun b hb => ?_, k _ _ _ _ _ q1 l1 R1 (irep_tup e1 r2)⟩
    have e : b = s1.heap.objs.size := by simpa using hb
    subst e
    exact I1.fpOk (Nat.le_refl _) (I1.hok.fresh (Nat.le_refl _))
  | str z =>
    obtain ⟨t, rfl⟩ := r1
    cases ha : z.cps.all (· < 128)
    · exact wpAny_pyIter_wide ha (pi_one (tk := s1.toks) I1 _ (turn_str _ z t "str_iterator" (.inr rfl)) ⟨_, Heap.get?_push_size _ rfl, rfl, rfl⟩ (k _ _ _ _ _ q1 l1 R1 irep_str))
    · exact wpAny_pyIter_ascii ha (pi_one (tk := s1.toks) I1 _ (turn_str _ z t "str_ascii_iterator" (.inl rfl)) ⟨_, Heap.get?_push_size _ rfl, rfl, rfl⟩ (k _ _ _ _ _ q1 l1 R1 irep_str))
  | ref e1 =>
    cases r1
    rename_i n a _
    have fin : (∃ xs, SqL X.K H1 a xs) → R0 (Itl X.K a) H1 → wpAny (model X.prog X.w) X.A (pyIter (.ref a)) (PIE X pins σ tg R0) X.xe s1 := fun ⟨xs, hq⟩ q => by
      obtain ⟨its, rv, p, hz⟩ := I1.list hq
      refine wpAny_pyIter_list p.isList ?_
      refine ⟨s1.heap.objs.size, [s1.heap.objs.size], _, _, H1, rfl, I1.kept (t' := s1.toks) fun b o e => Heap.get?_push_of_some _ e, turn_list a _, ⟨_, Heap.get?_push_size _ rfl, rfl, rfl⟩, fun b hb => ?_, q⟩
      have e : b = s1.heap.objs.size := by simpa using hb
      subst e
      exact I1.fpOk (Nat.le_refl _) (I1.hok.fresh (Nat.le_refl _))
    simp only [aIter] at q1
    split at q1
    · rename_i ds em
      obtain ⟨us, h1, h2⟩ := R1.lstAt e1 em
      exact fin ⟨us, .of h1⟩ (k _ _ _ _ _ q1 l1 R1 (irep_list e1 h2))
    · rename_i ds em
      obtain ⟨o, us, h1, h2⟩ := R1.ob _ _ _ e1 em
      exact fin ⟨us, .inl (.inr ⟨o, h1⟩)⟩ (k _ _ _ _ _ q1 l1 R1 (irep_fls e1))
    · exact q1.elim
  | _ => exact q1.elim
/-! ### range, enumerate, reversed -/
def iRange1 (m : ME) : MI := fun ρ M P E => m ρ M (fun x M1 => match x with
  | .int j => (-(2 ^ 62) ≤ j ∧ j < 2 ^ 62) ∧ P ⟨(List.range j.toNat).map fun i => .int (i : Nat), fun _ => True⟩ M1
  | _ => False) E
def iRange2 (m m2 : ME) : MI := fun ρ M P E => m ρ M (fun x M1 => m2 ρ M1 (fun y M2 => match x, y with
  | .int i, .int j => (-(2 ^ 62) ≤ i ∧ i < 2 ^ 62 ∧ -(2 ^ 62) ≤ j ∧ j < 2 ^ 62) ∧ P ⟨(List.range (j - i).toNat).map fun k => .int (i + (k : Nat)), fun _ => True⟩ M2
  | _, _ => False) E) E
theorem irep_rng {ι : List Addr} {H : Hp} {lo : Int} {n : Nat} : IRep (Itr lo n) ⟨(List.range n).map fun k => .int (lo + (k : Nat)), fun _ => True⟩ ι H := by
  have w := walk_range (lo := lo) (n := n)
  have hl : ((List.range n).map fun k => D.int (lo + (k : Nat))).length = n := by simp
  refine ⟨fun _ => True, fun i H1 x H2 => i < n ∧ H2 = H1 ∧ x = .int (lo + (i : Nat)), ⟨fun i H hi _ => w.goes i H (by rw [← hl]; exact hi) trivial, fun H _ => by show n ≤ _; exact Nat.le_of_eq hl.symm, fun i H x H' hi _ y => ⟨by rw [← hl]; exact hi, y⟩⟩, fun _ _ _ _ _ _ => trivial, fun i ι' H' M' x H2 l R' hm y => ?_⟩
  obtain ⟨hi, rfl, rfl⟩ := y
  exact ⟨.int (lo + (i : Nat)), by simp [hi], .refl, R', .int _⟩
theorem ci_range1 {p : Pos} (hm : X.mg "range" = none) (ha : CE X W a m) (hg : Gl X "range" := by rfl) (hs : starEach [a] X.env = [(false, eval a X.env)] := by rfl) : CI X W tg (.Call (.Name "range" p) [a] [] pos) (iRange1 m) := by
  refine ⟨⟨fun pins s σ H R0 I h => (pi_range1 hg hm (ca_cons ha ca_nil hs).pa hs).run pins s σ H R0 I ?_⟩⟩
  obtain ⟨ι, M, ρ, P, E, R, S, q, k, x⟩ := h
  refine ta_in (W := W) R S (P := fun ds M1 => match ds with
    | [x] => (match x with
      | .int j => (-(2 ^ 62) ≤ j ∧ j < 2 ^ 62) ∧ P ⟨(List.range j.toNat).map fun i => .int (i : Nat), fun _ => True⟩ M1
      | _ => False)
    | _ => False) (E := E) ?_ x fun ds M1 ι1 H1 vs q1 l1 R1 r1 => ?_
  · exact q
  · cases r1 with
    | nil => exact q1.elim
    | cons r2 r3 => cases r3 with
      | nil => cases r2 with
        | int j =>
          refine ⟨j, rfl, q1.1.1, q1.1.2, k _ _ _ _ _ q1.2 l1 R1 ?_⟩
          have := irep_rng (ι := ι1) (H := H1) (lo := 0) (n := j.toNat)
          simpa using this
        | _ => exact q1.elim
      | cons => exact q1.elim
theorem ci_range2 {p : Pos} {m2 : ME} (hm : X.mg "range" = none) (ha : CE X W a m) (hb : CE X W b m2) (hg : Gl X "range" := by rfl) (hs : starEach [a, b] X.env = [(false, eval a X.env), (false, eval b X.env)] := by rfl) (hs2 : starEach [b] X.env = [(false, eval b X.env)] := by rfl) :
    CI X W tg (.Call (.Name "range" p) [a, b] [] pos) (iRange2 m m2) := by
  refine ⟨⟨fun pins s σ H R0 I h => (pi_range2 hg hm (ca_cons ha (ca_cons hb ca_nil hs2) (by rw [hs, hs2])).pa hs hs2).run pins s σ H R0 I ?_⟩⟩
  obtain ⟨ι, M, ρ, P, E, R, S, q, k, x⟩ := h
  refine ta_in (W := W) R S (P := fun ds M1 => match ds with
    | [x, y] => (match x, y with
      | .int i, .int j => (-(2 ^ 62) ≤ i ∧ i < 2 ^ 62 ∧ -(2 ^ 62) ≤ j ∧ j < 2 ^ 62) ∧ P ⟨(List.range (j - i).toNat).map fun k => .int (i + (k : Nat)), fun _ => True⟩ M1
      | _, _ => False)
    | _ => False) (E := E) ?_ x fun ds M1 ι1 H1 vs q1 l1 R1 r1 => ?_
  · exact q
  · cases r1 with
    | nil => exact q1.elim
    | cons r2 r3 => cases r3 with
      | nil => exact q1.elim
      | cons r4 r5 => cases r5 with
        | nil => cases r2 with
          | int i => cases r4 with
            | int j => exact ⟨i, j, rfl, q1.1, k _ _ _ _ _ q1.2 l1 R1 irep_rng⟩
            | _ => exact q1.elim
          | _ => exact q1.elim
        | cons => exact q1.elim
/-- enumerate of a list -/
def iEnum' (m : ME) : MI := fun ρ M P E => m ρ M (fun x M1 => match x with
  | .ref n => (match M1[n]? with
    | some (.lst ds) => P ⟨ds.zipIdx.map fun p => .tup [.int (p.2 : Nat), p.1], fun M' => M'[n]? = some (.lst ds)⟩ M1
    | _ => False)
  | _ => False) E
theorem pair_in {ι : List Addr} {M : Mem} {H : Hp} {T : Addr} {x y : V} {d e : D} (R : Rel ι M H) (hT : H T = none) (hx : Rep ι H d x) (hy : Rep ι H e y) : Later ι H ι (upd H T (.tup [x, y])) ∧ Rel ι M (upd H T (.tup [x, y])) ∧ Rep ι (upd H T (.tup [x, y])) (.tup [d, e]) (.ref T) :=
  ⟨later_new hT, R.new hT, .tup upd_same (.cons (hx.mono (later_new hT)) (.cons (hy.mono (later_new hT)) .nil))⟩
theorem irep_enum {K : PySem.W.Frag} {ι : List Addr} {H : Hp} {n : Nat} {a : Addr} {ds : List D} (e : ι[n]? = some a) : IRep (Ite K a) ⟨ds.zipIdx.map fun p => .tup [.int (p.2 : Nat), p.1], fun M' => M'[n]? = some (.lst ds)⟩ ι H := by
  have hl : (ds.zipIdx.map fun p => D.tup [.int (p.2 : Nat), p.1]).length = ds.length := by simp
  refine ⟨fun H' => ∃ us, us.length = ds.length ∧ SqL K H' a us, fun i H1 v H2 => ∃ T x, v = .ref T ∧ H1 T = none ∧ H2 = upd H1 T (.tup [.int (i : Nat), x]) ∧ ∀ xs, SqL K H1 a xs → xs[i]? = some x,
    ⟨fun i H' hi ⟨us, h1, hs⟩ => ⟨us, us[i]'(by rw [h1, ← hl]; exact hi), hs, List.getElem?_eq_getElem _⟩, fun H' ⟨us, h1, hs⟩ => ⟨us, hs, by rw [h1]; exact Nat.le_of_eq hl.symm⟩, fun i H1 x H2 hi _ y => y⟩, fun ι' H' M' l R' hm => ?_, fun i ι' H' M' x H2 l R' hm y => ?_⟩
  · obtain ⟨us, h1, h2⟩ := R'.lstAt (l.at e) hm
    exact ⟨us, h2.length.symm, .of h1⟩
  · obtain ⟨T, x, rfl, hT, rfl, hx⟩ := y
    obtain ⟨us, h1, h2⟩ := R'.lstAt (l.at e) hm
    obtain ⟨d, h3, h4⟩ := h2.get' (hx us (.of h1))
    refine ⟨.tup [.int (i : Nat), d], ?_, pair_in R' hT (.int _) h4⟩
    simp [h3]
theorem ci_enum {p tp : Pos} {elts : List Expr} {kk : Nat} (hm : X.mg "enumerate" = none) (ha : CE X W a m) (hg : Gl X "enumerate" := by rfl) (hs : starEach [a] X.env = [(false, eval a X.env)] := by rfl) : CI X W (.Tuple elts kk tp) (.Call (.Name "enumerate" p) [a] [] pos) (iEnum' m) := by
  refine ⟨⟨fun pins s σ H R0 I h => (pi_enum hg hm (ca_cons ha ca_nil hs).pa hs).run pins s σ H R0 I ?_⟩⟩
  obtain ⟨ι, M, ρ, P, E, R, S, q, k, x⟩ := h
  refine ta_in (W := W) R S (P := fun ds M1 => match ds with
    | [x] => (match x with
      | .ref n => (match M1[n]? with
        | some (.lst ds) => P ⟨ds.zipIdx.map fun p => .tup [.int (p.2 : Nat), p.1], fun M' => M'[n]? = some (.lst ds)⟩ M1
        | _ => False)
      | _ => False)
    | _ => False) (E := E) ?_ x fun ds M1 ι1 H1 vs q1 l1 R1 r1 => ?_
  · exact q
  · cases r1 with
    | nil => exact q1.elim
    | cons r2 r3 => cases r3 with
      | nil => cases r2 with
        | ref e1 =>
          simp only at q1
          split at q1
          · rename_i ds em
            obtain ⟨us, h1, h2⟩ := R1.lstAt e1 em
            exact ⟨_, us, rfl, .of h1, k _ _ _ _ _ q1 l1 R1 (irep_enum e1)⟩
          · exact q1.elim
        | _ => exact q1.elim
      | cons => exact q1.elim
/-- reversed of a list -/
def iRev' (m : ME) : MI := fun ρ M P E => m ρ M (fun x M1 => match x with
  | .ref n => (match M1[n]? with
    | some (.lst ds) => P ⟨ds.reverse, fun M' => M'[n]? = some (.lst ds)⟩ M1
    | _ => False)
  | _ => False) E
theorem lt_rev {i n : Nat} (h : i < n) : n - 1 - i < n := by omega
theorem irep_rev {K : PySem.W.Frag} {ι : List Addr} {H : Hp} {n : Nat} {a : Addr} {ds : List D} {N : Nat} (hN : N = ds.length) (e : ι[n]? = some a) : IRep (Itv K a N) ⟨ds.reverse, fun M' => M'[n]? = some (.lst ds)⟩ ι H := by
  subst hN
  have hl : ds.reverse.length = ds.length := by simp
  refine ⟨fun H' => ∃ us, us.length = ds.length ∧ SqL K H' a us, fun i H1 x H2 => i < ds.length ∧ H2 = H1 ∧ ∀ xs, SqL K H1 a xs → xs[ds.length - 1 - i]? = some x,
    ⟨fun i H' hi ⟨us, h1, hs⟩ => ⟨by rw [← hl]; exact hi, us, us[ds.length - 1 - i]'(by rw [h1]; exact lt_rev (by rw [← hl]; exact hi)), hs, List.getElem?_eq_getElem _⟩, fun H' ⟨us, h1, hs⟩ => Nat.le_of_eq hl.symm, fun i H1 x H2 hi _ y => ⟨by rw [← hl]; exact hi, y⟩⟩, fun ι' H' M' l R' hm => ?_, fun i ι' H' M' x H2 l R' hm y => ?_⟩
  · obtain ⟨us, h1, h2⟩ := R'.lstAt (l.at e) hm
    exact ⟨us, h2.length.symm, .of h1⟩
  · obtain ⟨hi, rfl, hx⟩ := y
    obtain ⟨us, h1, h2⟩ := R'.lstAt (l.at e) hm
    obtain ⟨d, h3, h4⟩ := h2.get' (hx us (.of h1))
    exact ⟨d, by rw [List.getElem?_reverse hi]; exact h3, .refl, R', h4⟩
theorem ci_rev {p : Pos} (hm : X.mg "reversed" = none) (ha : CE X W a m) (hg : Gl X "reversed" := by rfl) (hs : starEach [a] X.env = [(false, eval a X.env)] := by rfl) : CI X W tg (.Call (.Name "reversed" p) [a] [] pos) (iRev' m) := by
  refine ⟨⟨fun pins s σ H R0 I h => (pi_reversed hg hm (ca_cons ha ca_nil hs).pa hs).run pins s σ H R0 I ?_⟩⟩
  obtain ⟨ι, M, ρ, P, E, R, S, q, k, x⟩ := h
  refine ta_in (W := W) R S (P := fun ds M1 => match ds with
    | [x] => (match x with
      | .ref n => (match M1[n]? with
        | some (.lst ds) => P ⟨ds.reverse, fun M' => M'[n]? = some (.lst ds)⟩ M1
        | _ => False)
      | _ => False)
    | _ => False) (E := E) ?_ x fun ds M1 ι1 H1 vs q1 l1 R1 r1 => ?_
  · exact q
  · cases r1 with
    | nil => exact q1.elim
    | cons r2 r3 => cases r3 with
      | nil => cases r2 with
        | ref e1 =>
          simp only at q1
          split at q1
          · rename_i ds em
            obtain ⟨us, h1, h2⟩ := R1.lstAt e1 em
            exact ⟨_, us, rfl, .of h1, k _ _ _ _ _ q1 l1 R1 (irep_rev h2.length.symm e1)⟩
          · exact q1.elim
        | _ => exact q1.elim
      | cons => exact q1.elim

/-! ## while -/
def whA (n : MT) (body : MS) (A : AEnds) : Nat → Sl → Mem → Prop
  | 0, _, _ => False
  | f + 1, ρ, M => n ρ M (fun b M1 => match b with
    | true => body ρ M1 { A with nx := whA n body A f, ct := whA n body A f, bk := A.nx }
    | false => A.nx ρ M1) (A.xp ρ)
def kWhile (n : MT) (body : MS) : MS := fun ρ M A => ∃ f, whA n body A f ρ M
theorem cs_while {body : List Stmt} (hp : PassesOwn (model X.prog X.w) X.A X.env X.xe) (hc : CT X W c n) (hb : CSs X W body k) : CS X W (.While c body [] pos) (kWhile n k) :=
  cs_of (ps_while hp hc.pt hb.ps) fun D σ H ι M ρ A R S q x => by
    obtain ⟨f0, q⟩ := q
    refine ⟨fun f σ' H' => ∃ ι' M' ρ', Later ι H ι' H' ∧ Rel ι' M' H' ∧ SRep ι' H' ρ' σ' ∧ whA n k A f ρ' M', ⟨f0, ι, M, ρ, .refl, R, S, q⟩, ?_⟩
    rintro f σ' H' ⟨ι', M', ρ', l, R', S', q'⟩
    cases f with
    | zero => exact q'.elim
    | succ f =>
      refine tt_in R' S' q' ((x.mono l).ex.at S') fun b M1 ι1 H1 q1 l1 R1 => ?_
      have l01 := l.trans l1
      cases b with
      | true =>
        refine iteT ⟨fun σ2 H2 => ∃ ι2 M2 ρ2, Later ι H ι2 H2 ∧ Rel ι2 M2 H2 ∧ SRep ι2 H2 ρ2 σ2 ∧ whA n k A f ρ2 M2, fun σ2 H2 z => ⟨f, Nat.lt_succ_self f, z⟩, ts_in R1 (S'.mono l1) q1 ?_⟩
        exact ⟨fun ρ4 M4 ι4 H4 σ4 q4 l4 R4 S4 => ⟨ι4, M4, ρ4, l01.trans l4, R4, S4, q4⟩, x.rt.mono l01, x.nx.mono l01, fun ρ4 M4 ι4 H4 σ4 q4 l4 R4 S4 => ⟨ι4, M4, ρ4, l01.trans l4, R4, S4, q4⟩, x.ex.mono l01⟩
      | false => exact iteF (x.nx _ _ _ _ _ q1 l01 R1 (S'.mono l1))
end
end AL
/-! list(reversed(a list)) -/
namespace AL
open PySem L2 PySem.Spec PyProof.Rows RT
section
variable {prog : Program} {w : World} {A : Around} {E : Value → Shared → Prop} {s : Shared}
theorem ext_rev {R : Result → Shared → Prop} {it l S : Addr} {items : Array Value} {res : Value} {c₀ : Nat} (hh : A.handled = none) (hit : s.heap.IsRevIter it l ((items.size : Int) - 1)) (hl : s.heap.IsList l items) (hne : l ≠ it)
    (hSi : S ≠ it) (hSl : S ≠ l) (hn : items.size ≤ sizeLine) (hS : s.heap.get? S = some { cls := .type "list", data := .seq #[] c₀ })
    (hR : ∀ h' tk acc' c', (∀ b o, b ≠ S → b ≠ it → s.heap.get? b = some o → h'.get? b = some o) → h'.get? S = some { cls := .type "list", dict := none, data := .seq acc' c', slots := #[] } →
      ItemsOf (fun i v => items[items.size - 1 - i]? = some v) acc' items.size → R (.ok (.ret res)) { s with heap := h', toks := tk }) :
    wpAny (model prog w) A.in1 (Builtin.List.listExtendWith (.ref S) (.ref it) res)
      (fun fin s' => match fin with | .done f => R (.ok f) s' | .again c' => c'.quiet = true ∧ codeAny (model prog w) A c' R s') (fun e s' => R (.error e) s') s := by
  have W := (Walks.listRev (prog := prog) (w := w) (A := A.in1) hh it l hne items).toS
  have hSf : S ∉ [it, l] := by simp only [List.mem_cons, List.not_mem_nil, or_false, not_or]; exact ⟨hSi, hSl⟩
  have hT : s.TypeIs (.ref it) "list_reverseiterator" := hit.typeIs
  have q1 : Builtin.List.listSameRef (.ref S) (.ref it) = false := by simp [Builtin.List.listSameRef, hSi]
  unfold Builtin.List.listExtendWith
  refine wpAny_bind (wpAny_typeOf hT ?_)
  rw [if_neg (by rw [q1]; decide)]
  refine wpAny_bind (wpAny_pyIter_revIter hit ?_)
  refine wpAny_bind (wpAny_holding ?_)
  unfold Builtin.List.listLengthHint
  refine wpAny_bind (wpAny_specialOf hT nolen_lri ?_)
  show wpAny _ A.in1 (specialOf (Value.ref it) (Str.ofString "__length_hint__") >>= _) _ _ _
  refine wpAny_bind (wpAny_specialOf hT hint_lri ?_)
  generalize hid : ("list_reverseiterator.__length_hint__" : String) = id0
  wp_delta
  rw [show splitId id0 = some ("list_reverseiterator", "__length_hint__") from by subst hid; decide +kernel]
  subst hid
  refine wpAny_bind (wpAny_isInstance (b := true) hT (by rw [isSubtype_type]; kernel_rfl) ?_)
  refine wpAny_pure ?_
  rw [if_neg (by decide)]
  have e0 : ((items.size : Nat) : Int) - 1 - ((0 : Nat) : Int) = (items.size : Int) - 1 := by omega
  refine wpAny_pure ⟨plainId_quiet F.plain_extend_loop _, codeAny_extend_loopS W hn _ hSf _ items.size 0 _ _ _ rfl (Nat.zero_le _) ⟨Nat.zero_le _, by rw [e0]; exact hit, hl⟩ hS (ItemsOf.nil _) fun s' acc' c' hm hS' hacc => ?_⟩
  rw [Moved.eq_with hm]
  refine hR s'.heap s'.toks acc' c' (fun b o hb hb2 e => hm.heap b o (fun hmem => ?_) e) hS' hacc
  rcases List.mem_cons.mp hmem with e' | hmem
  · exact hb e'
  · exact hb2 (List.mem_singleton.mp hmem)
theorem call_list_rev {it l : Addr} {items : Array Value} {Q : Value → Shared → Prop} (hh : A.handled = none) (hit : s.heap.IsRevIter it l ((items.size : Int) - 1)) (hl : s.heap.IsList l items) (hne : l ≠ it) (hn : items.size ≤ sizeLine)
    (hQ : ∀ h' tk acc' c', (∀ b o, b ≠ it → s.heap.get? b = some o → h'.get? b = some o) →
      h'.get? s.heap.objs.size = some { cls := .type "list", dict := none, data := .seq acc' c', slots := #[] } → ItemsOf (fun i v => items[items.size - 1 - i]? = some v) acc' items.size → Q (.ref s.heap.objs.size) { s with heap := h', toks := tk }) :
    wpAny (model prog w) A (call (.type "list") [.ref it]) Q E s := by
  obtain ⟨oi, hoi, _⟩ := id hit
  obtain ⟨ol, hol, _⟩ := id hl
  have hSi : s.heap.objs.size ≠ it := Nat.ne_of_gt (Heap.lt_size hoi)
  have hSl : s.heap.objs.size ≠ l := Nat.ne_of_gt (Heap.lt_size hol)
  refine callType_codes (Q₁ := fun obj s₁ => obj = .ref s.heap.objs.size ∧ s₁ = { s with heap := s.heap.push { cls := .type "list", data := .seq #[] } }) F.called_list (F.typeCall_list_1 _) F.entry_list_init
    (code_list_new _ ⟨rfl, rfl⟩) fun obj s₁ h₁ => ?_
  obtain ⟨rfl, rfl⟩ := h₁
  have hS : (s.heap.push { cls := .type "list", data := .seq #[] }).get? s.heap.objs.size = some { cls := .type "list", data := .seq #[] } := Heap.get?_push_size _ rfl
  refine ⟨⟨_, hS, rfl⟩, F.args_list_init_2 _ _, ?_⟩
  show wpAny _ _ (do let old ← Builtin.List.listItems (.ref s.heap.objs.size); Builtin.List.listUpdate (.ref s.heap.objs.size) (fun _ => #[]); letGo old.toList.reverse; Builtin.List.listExtendWith (.ref s.heap.objs.size) (.ref it) .none) _ _ _
  refine wpAny_bind ?_
  unfold Builtin.List.listItems
  refine wpAny_bind (wpAny_seqItems hS rfl (wpAny_pure ?_))
  show wpAny _ _ (updateSeq s.heap.objs.size (fun _ => #[]) >>= fun _ => letGo (#[] : Array Value).toList.reverse >>= fun _ => Builtin.List.listExtendWith (.ref s.heap.objs.size) (.ref it) .none) _ _ _
  refine wpAny_bind (wpAny_updateSeq hS rfl ?_)
  have hS₂ := Heap.get?_update_self (Obj.mapSeq (fun _ => (#[] : Array Value))) hS rfl
  have oth : ∀ b o, b ≠ s.heap.objs.size → (s.heap.push { cls := .type "list", data := .seq #[] }).get? b = some o → ((s.heap.push { cls := .type "list", data := .seq #[] }).update s.heap.objs.size (Obj.mapSeq (fun _ => (#[] : Array Value)))).get? b = some o :=
    fun b o hb e => (Heap.get?_update_other _ _ (Ne.symm hb)).trans e
  refine wpAny_bind (wpAny_letGo ?_)
  refine ext_rev (A := A.in1) (s := { s with heap := (s.heap.push { cls := .type "list", data := .seq #[] }).update s.heap.objs.size (Obj.mapSeq (fun _ => (#[] : Array Value))) }) hh (hit.at fun o e => oth _ _ (Ne.symm hSi) (Heap.get?_push_of_some _ e)) (items := items) ?_ hne hSi hSl hn hS₂ fun h' tk acc' c' hk hS' hacc => ?_
  · obtain ⟨o, h1, h2, h3⟩ := hl
    exact ⟨o, oth _ _ (Ne.symm hSl) (Heap.get?_push_of_some _ h1), h2, h3⟩
  · exact ⟨rfl, hQ h' tk acc' c' (fun b o hb e => hk b o (Nat.ne_of_lt (Heap.lt_size e)) hb (oth b o (Nat.ne_of_lt (Heap.lt_size e)) (Heap.get?_push_of_some _ e))) hS' hacc⟩
end
/-- list(reversed(e)) -/
def tLstRev (K : PySem.W.Frag) (te : TE) : TE := fun σ H Q => te σ H fun v H1 => ∃ (a : Addr) (xs : List V), v = .ref a ∧ SqL K H1 a xs ∧ ∀ q, H1 q = none → Q (.ref q) (upd H1 q (.lst xs.reverse))
theorem pe_lstRev {X : Cx} {e : Expr} {te : TE} {p p2 pos pos2 : Pos} (hc : X.calm = true) (hg : Gl X "list") (hm : X.mg "list" = none) (hg2 : Gl X "reversed") (hm2 : X.mg "reversed" = none) (he : PE X e te)
    (hs : starEach [e] X.env = (false, eval e X.env) :: starEach [] X.env := by rfl)
    (hs2 : starEach [.Call (.Name "reversed" p2) [e] [] pos2] X.env = (false, eval (.Call (.Name "reversed" p2) [e] [] pos2) X.env) :: starEach [] X.env := by rfl) :
    PE X (.Call (.Name "list" p) [.Call (.Name "reversed" p2) [e] [] pos2] [] pos) (tLstRev X.K te) := by
  refine ⟨fun pins s σ H Q I h => ?_⟩
  refine Call_ (ld_blt I hg hm boot_list (PyProof.Rows.callWith_type1 (args_cons (Call_ (ld_blt I hg2 hm2 PyProof.Rows.boot_reversed (PyProof.Rows.callWith_type1 (args_cons (thn (he.run pins s σ H _ I h) fun u s1 ⟨v, H1, I1, r1, q1⟩ => args_nil ?_) hs) hs rfl))) hs2) hs2 rfl))
  obtain ⟨a, xs, ev, hq, q⟩ := q1
  subst ev
  obtain rfl : u = Value.ref a := r1
  obtain ⟨its, rv, p', hz⟩ := I1.list hq
  refine call_reversed_list p'.isList (args_nil ?_)
  have k0 : ∀ b o, s1.heap.get? b = some o → (s1.heap.push (revObj a ((its.toArray.size : Int) - 1))).get? b = some o := fun b o e => Heap.get?_push_of_some _ e
  have I2 : L2.Inv X pins σ H1 { s1 with heap := s1.heap.push (revObj a ((its.toArray.size : Int) - 1)) } := I1.kept (t' := s1.toks) k0
  obtain ⟨f0, f1, f2, f3, f4, f5⟩ := I1.fpOk (H' := H1) (b := s1.heap.objs.size) (Nat.le_refl _) (I1.hok.fresh (Nat.le_refl _))
  have hl := p'.isList
  obtain ⟨ol, hol, _⟩ := id hl
  have hne : a ≠ s1.heap.objs.size := Nat.ne_of_lt (Heap.lt_size hol)
  have hn : its.toArray.size ≤ sizeLine := by rw [List.size_toArray, ← rv.length]; exact hz
  refine call_list_rev (s := { s1 with heap := s1.heap.push (revObj a ((its.toArray.size : Int) - 1)) }) (I1.ok.hd hc) ⟨_, Heap.get?_push_size _ rfl, rfl, rfl⟩ (hl.push _) hne hn fun h' tk acc c' hk hS hi => ?_
  -- the iterator has turned, the new list stands
  have fS : H1 (s1.heap.push (revObj a ((its.toArray.size : Int) - 1))).objs.size = none := I2.hok.fresh (Nat.le_refl _)
  have szl : acc.toList.length ≤ sizeLine := by rw [Array.length_toList, hi.1]; exact hn
  have rr : Vals xs.reverse acc.toList := vals_rev rv hi
  refine ⟨.ref _, upd H1 (s1.heap.push (revObj a ((its.toArray.size : Int) - 1))).objs.size (.lst xs.reverse), I2.turnedNew (t' := tk) (ch := [s1.heap.objs.size]) (fun b o hb e => hk b o (fun z => hb (by simp [z])) e) (fun b hb => ?_) (Nat.le_refl _) ?_, rfl, q _ fS⟩
  · have e : b = s1.heap.objs.size := by simpa using hb
    subst e
    exact ⟨f0, f1, f2, f3, f4, f5⟩
  · refine ⟨by rw [List.length_reverse]; exact hz, acc.toList, c', rr, ?_⟩
    rw [Array.toArray_toList]
    exact hS
section
variable {X : Cx} {W : WX} {e : Expr} {m : ME}
def mLstRev (m : ME) : ME := fun ρ M P E => m ρ M (fun x M1 => match x with
  | .ref n => (match M1[n]? with
    | some (.lst ds) => P (.ref M1.length) (M1 ++ [.lst ds.reverse])
    | _ => False)
  | _ => False) E
theorem c_lstRev {p p2 pos pos2 : Pos} (hc : X.calm = true) (hm : X.mg "list" = none) (hm2 : X.mg "reversed" = none) (he : CE X W e m) (hg : Gl X "list" := by rfl) (hg2 : Gl X "reversed" := by rfl)
    (hs : starEach [e] X.env = (false, eval e X.env) :: starEach [] X.env := by rfl)
    (hs2 : starEach [.Call (.Name "reversed" p2) [e] [] pos2] X.env = (false, eval (.Call (.Name "reversed" p2) [e] [] pos2) X.env) :: starEach [] X.env := by rfl) :
    CE X W (.Call (.Name "list" p) [.Call (.Name "reversed" p2) [e] [] pos2] [] pos) (mLstRev m) :=
  ce_of (pe_lstRev hc hg hm hg2 hm2 he.pe hs hs2) fun σ H Q ι M ρ P E R S q k x => te_in R S q x fun d M1 ι1 H1 v q1 l1 R1 r1 => by
    cases r1 with
    | ref e1 =>
      simp only at q1
      split at q1
      · rename_i ds em
        obtain ⟨vs, h1, r⟩ := R1.lstAt e1 em
        exact ⟨_, vs, rfl, .of h1, fun p hp => cl_new R1 (k.mono l1) r.reverse q1 p hp⟩
      · exact q1.elim
    | _ => exact q1.elim
end
end AL
namespace AL
open PySem L2
section
variable {X : Cx} {W : WX} {a b c e o tg iter elt : Expr} {es ifs : List Expr} {m m1 m2 m3 : ME} {n n1 n2 : MT} {ma ma1 : MA} {pos p : Pos} {x : Str}

/-! ## calls of built-ins by values -/
abbrev AC := List D → Mem → PD → Prop
def rAC (a : AC) : List V → Hp → VK → Prop := fun xs H Q => ∃ ι M ds P, Rel ι M H ∧ Reps ι H ds xs ∧ a ds M P ∧ Cl ι H P Q
def CallA (X : Cx) (f : Value) (a : AC) : Prop := CallR X f (rAC a)
def mCall (a : AC) (ma : MA) : ME := fun ρ M P E => ma ρ M (fun xs M1 => a xs M1 P) E
theorem c_callB {id : String} {a : AC} (hc : CallA X (.builtin id) a) (hv : bootBuiltins x = some (.builtin id)) (hm : X.mg x = none) (ha : CA X W (e :: es) ma) (hg : Gl X x := by rfl) (hn : x ≠ "__name__" := by decide) (hdb : (x == ("__debug__" : Str)) = false := by decide)
    (he : starEach (e :: es) X.env = (false, eval e X.env) :: starEach es X.env := by rfl) (hpl : (backTo pos (starEach es X.env)).any (·.1) = false := by rfl) : CE X W (.Call (.Name x p) (e :: es) [] pos) (mCall a ma) :=
  ce_of (pe_callB hc hg hm hv ha.pa hn hdb he hpl) fun σ H Q ι M ρ P E R S q k x => ta_in R S q x fun ds M1 ι1 H1 vs q1 l1 R1 r1 => ⟨ι1, M1, ds, P, R1, r1, q1, k.mono l1⟩
theorem c_callT {T : String} {a : AC} (hc : CallA X (.type T) a) (hv : bootBuiltins x = some (.type T)) (hm : X.mg x = none) (ha : CA X W (e :: es) ma) (hg : Gl X x := by rfl) (hn : x ≠ "__name__" := by decide) (hdb : (x == ("__debug__" : Str)) = false := by decide)
    (he : starEach (e :: es) X.env = (false, eval e X.env) :: starEach es X.env := by rfl) (hpl : (backTo pos (starEach es X.env)).any (·.1) = false := by rfl) : CE X W (.Call (.Name x p) (e :: es) [] pos) (mCall a ma) :=
  ce_of (pe_callTy hc hg hm hv ha.pa hn hdb he hpl) fun σ H Q ι M ρ P E R S q k x => ta_in R S q x fun ds M1 ι1 H1 vs q1 l1 R1 r1 => ⟨ι1, M1, ds, P, R1, r1, q1, k.mono l1⟩
/-- of one argument -/
def a1 (f : D → Mem → PD → Prop) : AC := fun ds M P => match ds with
  | [d] => f d M P
  | _ => False
def a2 (f : D → D → Mem → PD → Prop) : AC := fun ds M P => match ds with
  | [d, e] => f d e M P
  | _ => False
theorem a1_of {ι : List Addr} {M : Mem} {H : Hp} {f : D → Mem → PD → Prop} {ds : List D} {vs : List V} {P : PD} (r : Reps ι H ds vs) (h : a1 f ds M P) : ∃ d v, vs = [v] ∧ Rep ι H d v ∧ f d M P := by
  cases r with
  | nil => exact h.elim
  | cons r1 r2 => cases r2 with
    | nil => exact ⟨_, _, rfl, r1, h⟩
    | cons => exact h.elim
theorem a2_of {ι : List Addr} {M : Mem} {H : Hp} {f : D → D → Mem → PD → Prop} {ds : List D} {vs : List V} {P : PD} (r : Reps ι H ds vs) (h : a2 f ds M P) : ∃ d e v u, vs = [v, u] ∧ Rep ι H d v ∧ Rep ι H e u ∧ f d e M P := by
  cases r with
  | nil => exact h.elim
  | cons r1 r2 => cases r2 with
    | nil => exact h.elim
    | cons r3 r4 => cases r4 with
      | nil => exact ⟨_, _, _, _, rfl, r1, r3, h⟩
      | cons => exact h.elim
def fLen : D → Mem → PD → Prop := fun x M P => match x with
  | .str z => z.length ≤ sizeLine ∧ P (.int z.length) M
  | .tup ds => P (.int ds.length) M
  | .ref n => (match M[n]? with
    | some (.lst ds) => P (.int ds.length) M
    | some (.fls ds) => P (.int ds.length) M
    | _ => False)
  | _ => False
theorem call_lenA : CallA X (.builtin "len") (a1 fLen) := by
  intro pins s σ H xs us Q I r h
  obtain ⟨ι, M, ds, P, R, rs, ha, k⟩ := h
  obtain ⟨d, v, rfl, rd, q⟩ := a1_of rs ha
  cases rd with
  | str z => exact call_len pins s σ H _ us Q I r ⟨_, _, rfl, ⟨q.1, rfl⟩, k _ _ _ _ _ q.2 .refl R (.int _)⟩
  | tup e1 r1 => exact call_len pins s σ H _ us Q I r ⟨_, _, rfl, .inr ⟨_, .of e1, rfl⟩, by rw [← r1.length]; exact k _ _ _ _ _ q .refl R (.int _)⟩
  | ref e1 =>
    simp only [fLen] at q
    split at q
    · rename_i ds em
      obtain ⟨vs, h1, r1⟩ := R.lstAt e1 em
      exact call_len pins s σ H _ us Q I r ⟨_, _, rfl, .inl ⟨_, .of h1, rfl⟩, by rw [← r1.length]; exact k _ _ _ _ _ q .refl R (.int _)⟩
    · rename_i ds em
      obtain ⟨o, vs, h1, r1⟩ := R.ob _ _ _ e1 em
      exact call_len pins s σ H _ us Q I r ⟨_, _, rfl, .inl ⟨_, .inl (.inr ⟨o, h1⟩), rfl⟩, by rw [← r1.length]; exact k _ _ _ _ _ q .refl R (.int _)⟩
    · exact q.elim
  | _ => exact q.elim
def fAbs : D → Mem → PD → Prop := fun x M P => match x with
  | .int i => P (.int (if i < 0 then -i else i)) M
  | _ => False
theorem call_absA : CallA X (.builtin "abs") (a1 fAbs) := by
  intro pins s σ H xs us Q I r h
  obtain ⟨ι, M, ds, P, R, rs, ha, k⟩ := h
  obtain ⟨d, v, rfl, rd, q⟩ := a1_of rs ha
  cases rd with
  | int i => exact call_abs pins s σ H _ us Q I r ⟨i, rfl, k _ _ _ _ _ q .refl R (.int _)⟩
  | _ => exact q.elim
def fInt : D → Mem → PD → Prop := fun x M P => match x with
  | .int i => P (.int i) M
  | .bl b => P (.int (if b then 1 else 0)) M
  | .str z => ∃ i, PySem.intText? z = some i ∧ z.length ≤ 640 ∧ P (.int i) M
  | _ => False
theorem call_intA : CallA X (.type "int") (a1 fInt) := by
  intro pins s σ H xs us Q I r h
  obtain ⟨ι, M, ds, P, R, rs, ha, k⟩ := h
  obtain ⟨d, v, rfl, rd, q⟩ := a1_of rs ha
  cases rd with
  | int i => exact call_int1 pins s σ H _ us Q I r (.inl ⟨i, rfl, k _ _ _ _ _ q .refl R (.int _)⟩)
  | bl b => exact call_int1 pins s σ H _ us Q I r (.inr ⟨b, rfl, k _ _ _ _ _ q .refl R (.int _)⟩)
  | str z =>
    obtain ⟨i, h1, h2, q⟩ := q
    exact call_int_str pins s σ H _ us Q I r ⟨z, i, rfl, h1, h2, k _ _ _ _ _ q .refl R (.int _)⟩
  | _ => exact q.elim
/-- str of an int (texts: see below) -/
def fStrI : D → Mem → PD → Prop := fun x M P => match x with
  | .int i => i.natAbs.log2 < 1920 ∧ P (.str (toString i)) M
  | _ => False
theorem call_strA : CallA X (.type "str") (a1 fStrI) := by
  intro pins s σ H xs us Q I r h
  obtain ⟨ι, M, ds, P, R, rs, ha, k⟩ := h
  obtain ⟨d, v, rfl, rd, q⟩ := a1_of rs ha
  cases rd with
  | int i => exact call_str_int pins s σ H _ us Q I r ⟨i, rfl, q.1, k _ _ _ _ _ q.2 .refl R (.str _)⟩
  | _ => exact q.elim
def fMax : D → D → Mem → PD → Prop := fun x y M P => match x, y with
  | .int i, .int j => P (.int (if j > i then j else i)) M
  | _, _ => False
def fMin : D → D → Mem → PD → Prop := fun x y M P => match x, y with
  | .int i, .int j => P (.int (if j < i then j else i)) M
  | _, _ => False
theorem call_maxA (hc : X.calm = true) : CallA X (.builtin "max") (a2 fMax) := by
  intro pins s σ H xs us Q I r h
  obtain ⟨ι, M, ds, P, R, rs, ha, k⟩ := h
  obtain ⟨d, e, v, u, rfl, rd, re, q⟩ := a2_of rs ha
  cases rd with
  | int i => cases re with
    | int j => exact call_max2 hc pins s σ H _ us Q I r ⟨i, j, rfl, k _ _ _ _ _ q .refl R (.int _)⟩
    | _ => exact q.elim
  | _ => exact q.elim
theorem call_minA (hc : X.calm = true) : CallA X (.builtin "min") (a2 fMin) := by
  intro pins s σ H xs us Q I r h
  obtain ⟨ι, M, ds, P, R, rs, ha, k⟩ := h
  obtain ⟨d, e, v, u, rfl, rd, re, q⟩ := a2_of rs ha
  cases rd with
  | int i => cases re with
    | int j => exact call_min2 hc pins s σ H _ us Q I r ⟨i, j, rfl, k _ _ _ _ _ q .refl R (.int _)⟩
    | _ => exact q.elim
  | _ => exact q.elim
/-- list(..) of a list, a tuple -/
def fList : D → Mem → PD → Prop := fun x M P => match x with
  | .tup ds => P (.ref M.length) (M ++ [.lst ds])
  | .ref n => (match M[n]? with
    | some (.lst ds) => P (.ref M.length) (M ++ [.lst ds])
    | _ => False)
  | _ => False
theorem call_listA : CallA X (.type "list") (a1 fList) := by
  intro pins s σ H xs us Q I r h
  obtain ⟨ι, M, ds, P, R, rs, ha, k⟩ := h
  obtain ⟨d, v, rfl, rd, q⟩ := a1_of rs ha
  cases rd with
  | tup e1 r1 => exact call_list_of pins s σ H _ us Q I r ⟨_, _, rfl, .inr (.of e1), fun p hp => cl_new R k r1 q p hp⟩
  | ref e1 =>
    simp only [fList] at q
    split at q
    · rename_i ds em
      obtain ⟨vs, h1, r1⟩ := R.lstAt e1 em
      exact call_list_of pins s σ H _ us Q I r ⟨_, _, rfl, .inl (.of h1), fun p hp => cl_new R k r1 q p hp⟩
    · exact q.elim
  | _ => exact q.elim
def fTuple : D → Mem → PD → Prop := fun x M P => match x with
  | .tup ds => P (.tup ds) M
  | .ref n => (match M[n]? with
    | some (.lst ds) => P (.tup ds) M
    | _ => False)
  | _ => False
theorem call_tupleA : CallA X (.type "tuple") (a1 fTuple) := by
  intro pins s σ H xs us Q I r h
  obtain ⟨ι, M, ds, P, R, rs, ha, k⟩ := h
  obtain ⟨d, v, rfl, rd, q⟩ := a1_of rs ha
  cases rd with
  | tup e1 r1 => exact call_tuple_of pins s σ H _ us Q I r ⟨_, _, rfl, .inr ⟨.of e1, k _ _ _ _ _ q .refl R (.tup e1 r1)⟩⟩
  | ref e1 =>
    simp only [fTuple] at q
    split at q
    · rename_i ds em
      obtain ⟨vs, h1, r1⟩ := R.lstAt e1 em
      exact call_tuple_of pins s σ H _ us Q I r ⟨_, _, rfl, .inl ⟨.of h1, fun p hp => cl_tup R k r1 q p hp⟩⟩
    · exact q.elim
  | _ => exact q.elim
/-- the ints, the bools of a list -/
def ints? : List D → Option (List Int)
  | [] => some []
  | .int i :: r => (ints? r).map (i :: ·)
  | _ => none
def bls? : List D → Option (List Bool)
  | [] => some []
  | .bl i :: r => (bls? r).map (i :: ·)
  | _ => none
theorem ints_rep {ι : List Addr} {H : Hp} : ∀ {ds : List D} {vs : List V} {ns : List Int}, ints? ds = some ns → Reps ι H ds vs → vs = ns.map V.int
  | _, _, _, h, .nil => by cases h; rfl
  | _, _, _, h, .cons r1 r2 => by
    cases r1 with
    | int i =>
      simp only [ints?, Option.map_eq_some_iff] at h
      obtain ⟨l, h1, rfl⟩ := h
      rw [ints_rep h1 r2]; rfl
    | _ => cases h
theorem bls_rep {ι : List Addr} {H : Hp} : ∀ {ds : List D} {vs : List V} {ns : List Bool}, bls? ds = some ns → Reps ι H ds vs → vs = ns.map V.bl
  | _, _, _, h, .nil => by cases h; rfl
  | _, _, _, h, .cons r1 r2 => by
    cases r1 with
    | bl i =>
      simp only [bls?, Option.map_eq_some_iff] at h
      obtain ⟨l, h1, rfl⟩ := h
      rw [bls_rep h1 r2]; rfl
    | _ => cases h
theorem ints?_map (ns : List Int) : ints? (ns.map D.int) = some ns := by induction ns with
  | nil => rfl
  | cons i r ih => simp [ints?, ih]
theorem bls?_map (ns : List Bool) : bls? (ns.map D.bl) = some ns := by induction ns with
  | nil => rfl
  | cons i r ih => simp [bls?, ih]
theorem reps_ints {ι : List Addr} {H : Hp} : ∀ ns : List Int, Reps ι H (ns.map D.int) (ns.map V.int)
  | [] => .nil
  | i :: r => .cons (.int i) (reps_ints r)
def fBls (g : List Bool → Bool) : D → Mem → PD → Prop := fun x M P => match x with
  | .ref n => (match M[n]? with
    | some (.lst ds) => (match bls? ds with
      | some bs => P (.bl (g bs)) M
      | none => False)
    | _ => False)
  | _ => False
theorem call_allA (hc : X.calm = true) : CallA X (.builtin "all") (a1 (fBls fun bs => bs.all id)) := by
  intro pins s σ H xs us Q I r h
  obtain ⟨ι, M, ds, P, R, rs, ha, k⟩ := h
  obtain ⟨d, v, rfl, rd, q⟩ := a1_of rs ha
  cases rd with
  | ref e1 =>
    simp only [fBls] at q
    split at q
    · rename_i ds em
      split at q
      · rename_i bs eb
        obtain ⟨vs, h1, r1⟩ := R.lstAt e1 em
        exact cr_all hc pins s σ H _ us Q I r ⟨_, bs, rfl, .of (by rw [← bls_rep eb r1]; exact h1), k _ _ _ _ _ q .refl R (.bl _)⟩
      · exact q.elim
    · exact q.elim
  | _ => exact q.elim
theorem call_anyA (hc : X.calm = true) : CallA X (.builtin "any") (a1 (fBls fun bs => bs.any id)) := by
  intro pins s σ H xs us Q I r h
  obtain ⟨ι, M, ds, P, R, rs, ha, k⟩ := h
  obtain ⟨d, v, rfl, rd, q⟩ := a1_of rs ha
  cases rd with
  | ref e1 =>
    simp only [fBls] at q
    split at q
    · rename_i ds em
      split at q
      · rename_i bs eb
        obtain ⟨vs, h1, r1⟩ := R.lstAt e1 em
        exact cr_any hc pins s σ H _ us Q I r ⟨_, bs, rfl, .of (by rw [← bls_rep eb r1]; exact h1), k _ _ _ _ _ q .refl R (.bl _)⟩
      · exact q.elim
    · exact q.elim
  | _ => exact q.elim
def fInts (g : List Int → D → Prop) : D → Mem → PD → Prop := fun x M P => match x with
  | .ref n => (match M[n]? with
    | some (.lst ds) => (match ints? ds with
      | some ns => ∀ d, g ns d → P d M
      | none => False)
    | _ => False)
  | _ => False
def fSum : D → Mem → PD → Prop := fInts fun ns d => d = .int ns.sum
theorem call_sumA (hc : X.calm = true) : CallA X (.builtin "sum") (a1 fSum) := by
  intro pins s σ H xs us Q I r h
  obtain ⟨ι, M, ds, P, R, rs, ha, k⟩ := h
  obtain ⟨d, v, rfl, rd, q⟩ := a1_of rs ha
  cases rd with
  | ref e1 =>
    simp only [fSum, fInts] at q
    split at q
    · rename_i ds em
      split at q
      · rename_i bs eb
        obtain ⟨vs, h1, r1⟩ := R.lstAt e1 em
        exact cr_sum hc pins s σ H _ us Q I r ⟨_, bs, rfl, .of (by rw [← ints_rep eb r1]; exact h1), k _ _ _ _ _ (q _ rfl) .refl R (.int _)⟩
      · exact q.elim
    · exact q.elim
  | _ => exact q.elim

/-! ## isinstance -/
/-- the kind of a plain value -/
def kind? : D → Mem → Option String := fun x M => match x with
  | .non => some "NoneType"
  | .bl _ => some "bool"
  | .int _ => some "int"
  | .str _ => some "str"
  | .tup _ => some "tuple"
  | .ref n => (match M[n]? with
    | some (.lst _) => some "list"
    | some (.fls _) => some "list"
    | some (.dic _) => some "dict"
    | _ => none)
  | _ => none
theorem kind_ty {K : PySem.W.Frag} {ι : List Addr} {M : Mem} {H : Hp} {d : D} {v : V} {t : String} (R : Rel ι M H) (r : Rep ι H d v) (h : kind? d M = some t) : TyX K H v (.type t) := by
  cases r with
  | non => cases h; exact .base .non
  | bl b => cases h; exact .base (.bl b)
  | int b => cases h; exact .base (.int b)
  | str b => cases h; exact .base (.str b)
  | tup e r => cases h; exact .base (.tup e)
  | ref e =>
    simp only [kind?] at h
    split at h
    · rename_i ds em; cases h
      obtain ⟨vs, h1, _⟩ := R.lstAt e em
      exact .base (.lst h1)
    · rename_i ds em; cases h
      obtain ⟨o, vs, h1, _⟩ := R.ob _ _ _ e em
      exact .base (.frz h1)
    · rename_i ds em; cases h
      obtain ⟨kv, h1, _⟩ := R.ob _ _ _ e em
      exact .base (.dK h1)
    · cases h
  | _ => cases h
def kitsB (a : String) : List D → Option Bool
  | [] => some false
  | .ty b :: r => (match kitB a b with
    | some true => some true
    | some false => kitsB a r
    | none => none)
  | _ => none
/-- a plain value and built-in types -/
def fIsi : D → D → Mem → PD → Prop := fun x y M P => match kind? x M with
  | some t => (match y with
    | .ty n => (match kitB t n with
      | some b => P (.bl b) M
      | none => False)
    | .tup cs => (match kitsB t cs with
      | some b => P (.bl b) M
      | none => False)
    | _ => False)
  | none => False
theorem kits_rep {K : PySem.W.Frag} {ι : List Addr} {H : Hp} {a : String} : ∀ {cs : List D} {vs : List V} {b : Bool}, kitsB a cs = some b → Reps ι H cs vs → (∃ us, Paired ClsV vs us ∧ PySem.W.kitAny K (.type a) us = some b) ∨ b = true
  | _, _, _, h, .nil => by cases h; exact .inl ⟨[], .nil, rfl⟩
  | _, _, b, h, .cons r1 r2 => by
    cases r1 with
    | ty n =>
      simp only [kitsB] at h
      split at h
      · rename_i e; cases h; exact .inr rfl
      · rename_i e
        rcases kits_rep (K := K) h r2 with ⟨us, h1, h2⟩ | h1
        · exact .inl ⟨.type n :: us, .cons (.ty n) h1, kitAny_cons (kit_ty e) (fun _ => h2) (fun z => nomatch z)⟩
        · exact .inr h1
      · cases h
    | _ => cases h
theorem kits_rep' {K : PySem.W.Frag} {ι : List Addr} {H : Hp} {a : String} : ∀ {cs : List D} {vs : List V} {b : Bool}, (∀ c ∈ cs, ∃ n, c = .ty n) → kitsB a cs = some b → Reps ι H cs vs → ∃ us, Paired ClsV vs us ∧ PySem.W.kitAny K (.type a) us = some b
  | _, _, _, _, h, .nil => by cases h; exact ⟨[], .nil, rfl⟩
  | c :: cs, _, b, hc, h, .cons r1 r2 => by
    cases r1 with
    | ty n =>
      simp only [kitsB] at h
      have rest : ∀ {cs : List D} {vs : List V}, (∀ c ∈ cs, ∃ n, c = .ty n) → Reps ι H cs vs → ∃ us, Paired ClsV vs us := by
        intro cs vs hc r
        induction cs generalizing vs with
        | nil => cases r; exact ⟨[], .nil⟩
        | cons c cs ih =>
          cases r with
          | cons r1 r2 =>
            obtain ⟨n, rfl⟩ := hc c (by simp)
            cases r1
            obtain ⟨us, h⟩ := ih (fun c hm => hc c (by simp [hm])) r2
            exact ⟨.type n :: us, .cons (.ty n) h⟩
      split at h
      · rename_i e; cases h
        obtain ⟨us, h1⟩ := rest (fun c hm => hc c (by simp [hm])) r2
        exact ⟨.type n :: us, .cons (.ty n) h1, kitAny_cons (r := true) (kit_ty e) (fun z => nomatch z) (fun _ => rfl)⟩
      · rename_i e
        obtain ⟨us, h1, h2⟩ := kits_rep' (K := K) (fun c hm => hc c (by simp [hm])) h r2
        exact ⟨.type n :: us, .cons (.ty n) h1, kitAny_cons (kit_ty e) (fun _ => h2) (fun z => nomatch z)⟩
      · cases h
    | _ => cases h
def allTy : List D → Bool
  | [] => true
  | .ty _ :: r => allTy r
  | _ => false
theorem allTy_ok : ∀ {cs : List D}, allTy cs = true → ∀ c ∈ cs, ∃ n, c = .ty n
  | [], _, _, h => nomatch h
  | c :: cs, h, d, hd => by
    cases c with
    | ty n =>
      rcases List.mem_cons.mp hd with rfl | hd
      · exact ⟨n, rfl⟩
      · exact allTy_ok (cs := cs) h d hd
    | _ => cases h
def fIsT : D → D → Mem → PD → Prop := fun x y M P => match kind? x M with
  | some t => (match y with
    | .ty n => (match kitB t n with
      | some b => P (.bl b) M
      | none => False)
    | .tup cs => allTy cs = true ∧ (match kitsB t cs with
      | some b => P (.bl b) M
      | none => False)
    | _ => False)
  | none => False
theorem call_isiA : CallA X (.builtin "isinstance") (a2 fIsT) := by
  intro pins s σ H xs us Q I r h
  obtain ⟨ι, M, ds, P, R, rs, ha, k⟩ := h
  obtain ⟨d, e, v, u, rfl, rd, re, q⟩ := a2_of rs ha
  simp only [fIsT] at q
  split at q
  · rename_i t et
    have ty := kind_ty (K := X.K) R rd et
    cases re with
    | ty n =>
      simp only at q
      split at q
      · rename_i b eb
        exact call_isi pins s σ H _ us Q I r ⟨_, _, _, _, b, rfl, .ty n, ty, kit_ty eb, k _ _ _ _ _ q .refl R (.bl _)⟩
      · exact q.elim
    | tup e1 r1 =>
      obtain ⟨q0, q⟩ := q
      split at q
      · rename_i b eb
        obtain ⟨ws, h1, h2⟩ := kits_rep' (K := X.K) (allTy_ok q0) eb r1
        exact call_isiT pins s σ H _ us Q I r ⟨_, _, _, _, _, b, rfl, e1, h1, ty, h2, k _ _ _ _ _ q .refl R (.bl _)⟩
      · exact q.elim
    | _ => exact q.elim
  · exact q.elim

/-! ## methods of built-in types -/
abbrev AM := D → List D → Mem → PD → Prop
def rAM (a : AM) : V → List V → Hp → VK → Prop := fun x xs H Q => ∃ ι M d ds P, Rel ι M H ∧ Rep ι H d x ∧ Reps ι H ds xs ∧ a d ds M P ∧ Cl ι H P Q
def MtA (X : Cx) (id : String) (a : AM) : Prop := MtR X id (rAM a)
def isTy (T : String) : D → Mem → Prop := fun x M => match x with
  | .str _ => T = "str"
  | .ref n => (match M[n]? with
    | some (.lst _) => T = "list"
    | some (.dic _) => T = "dict"
    | _ => False)
  | _ => False
theorem isTy_v {K : PySem.W.Frag} {ι : List Addr} {M : Mem} {H : Hp} {T : String} {d : D} {v : V} (R : Rel ι M H) (r : Rep ι H d v) (h : isTy T d M) : tyV K T v H := by
  cases r with
  | str z => exact h
  | ref e =>
    simp only [isTy] at h
    split at h
    · rename_i ds em
      obtain ⟨vs, h1, _⟩ := R.lstAt e em
      exact .inl ⟨h, _, .of h1⟩
    · rename_i ds em
      obtain ⟨kv, h1, _⟩ := R.ob _ _ _ e em
      exact .inr (.inr (.inl ⟨h, .inl ⟨_, h1⟩⟩))
    · exact h.elim
  | _ => exact h.elim
def mMeth (T : String) (a : AM) (mo : ME) (ma : MA) : ME := fun ρ M P E => mo ρ M (fun x M1 => isTy T x M1 ∧ ma ρ M1 (fun xs M2 => a x xs M2 P) E) E
def mMeth0 (T : String) (a : AM) (mo : ME) : ME := fun ρ M P E => mo ρ M (fun x M1 => isTy T x M1 ∧ a x [] M1 P) E
theorem c_bm {T id : String} {name : Str} {a : AM} {mo : ME} {apos cpos : Pos} (pa : PlainAttrs T) (slot : Slot T name id) (hty : typeOf (.builtin id) = pure (.type "method_descriptor")) (hm : MtA X id a) (ho : CE X W o mo) (ha : CA X W (e :: es) ma)
    (hbase : attributeBase o name X.env (eval o X.env) = eval o X.env := by rfl)
    (hfew : ((backTo cpos (starEach (e :: es) X.env)).all (fun x => !x.1) && (backToKw cpos (keywordEach [] X.env)).all (fun x => x.1.isSome)
      && decide ((e :: es).length + ([] : List Keyword).length + (if ([] : List Keyword).isEmpty then 0 else 1) < 30)) = true := by rfl)
    (hline : (apos.endLine == cpos.line) = true := by rfl) (hs : starEach (e :: es) X.env = (false, eval e X.env) :: starEach es X.env := by rfl) (hplain : (backTo cpos (starEach es X.env)).any (·.1) = false := by rfl) :
    CE X W (.Call (.Attribute o name apos) (e :: es) [] cpos) (mMeth T a mo ma) :=
  ce_of (pe_bm pa slot hty hm ho.pe ha.pa hbase hfew hline hs hplain) fun σ H Q ι M ρ P E R S q k x => te_in R S q x fun d M1 ι1 H1 v q1 l1 R1 r1 =>
    ⟨isTy_v R1 r1 q1.1, ta_in R1 (S.mono l1) q1.2 (x.mono l1) fun ds M2 ι2 H2 vs q2 l2 R2 r2 => ⟨ι2, M2, d, ds, P, R2, r1.mono l2, r2, q2, k.mono (l1.trans l2)⟩⟩
theorem c_bm0 {T id : String} {name : Str} {a : AM} {mo : ME} {apos cpos : Pos} (pa : PlainAttrs T) (slot : Slot T name id) (hty : typeOf (.builtin id) = pure (.type "method_descriptor")) (hm : MtA X id a) (ho : CE X W o mo)
    (hbase : attributeBase o name X.env (eval o X.env) = eval o X.env := by rfl) (hline : (apos.endLine == cpos.line) = true := by rfl) : CE X W (.Call (.Attribute o name apos) [] [] cpos) (mMeth0 T a mo) :=
  ce_of (pe_bm0 pa slot hty hm ho.pe hbase hline) fun σ H Q ι M ρ P E R S q k x => te_in R S q x fun d M1 ι1 H1 v q1 l1 R1 r1 =>
    ⟨isTy_v R1 r1 q1.1, ⟨ι1, M1, d, [], P, R1, r1, .nil, q1.2, k.mono l1⟩⟩
def oneArg (f : D → Prop) (ds : List D) : Prop := match ds with
  | [d] => f d
  | _ => False
theorem oneArg_of {ι : List Addr} {H : Hp} {f : D → Prop} {ds : List D} {vs : List V} (r : Reps ι H ds vs) (h : oneArg f ds) : ∃ d v, ds = [d] ∧ vs = [v] ∧ Rep ι H d v ∧ f d := by
  cases r with
  | nil => exact h.elim
  | cons r1 r2 => cases r2 with
    | nil => exact ⟨_, _, rfl, rfl, r1, h⟩
    | cons => exact h.elim
def onList (f : Nat → List D → Prop) (x : D) (M : Mem) : Prop := match x with
  | .ref n => (match M[n]? with
    | some (.lst ds) => f n ds
    | _ => False)
  | _ => False
theorem onList_of {ι : List Addr} {M : Mem} {H : Hp} {f : Nat → List D → Prop} {x : D} {v : V} (R : Rel ι M H) (r : Rep ι H x v) (h : onList f x M) : ∃ n a ds vs, ι[n]? = some a ∧ v = .ref a ∧ M[n]? = some (.lst ds) ∧ H a = some (.lst vs) ∧ Reps ι H ds vs ∧ f n ds := by
  cases r with
  | ref e =>
    simp only [onList] at h
    split at h
    · rename_i ds em
      obtain ⟨vs, h1, h2⟩ := R.lstAt e em
      exact ⟨_, _, ds, vs, e, rfl, em, h1, h2, h⟩
    · exact h.elim
  | _ => exact h.elim
def aAppend : AM := fun x xs M P => onList (fun n ds => ds.length < sizeLine ∧ oneArg (fun d => P .non (M.set n (.lst (ds ++ [d])))) xs) x M
theorem mtA_append : MtA X "list.append" aAppend := by
  intro pins s σ H x xs v us Q I rx rs h
  obtain ⟨ι, M, d, ds, P, R, rd, rds, ha, k⟩ := h
  obtain ⟨n, a, es, vs, e, rfl, em, h1, h2, hl, q⟩ := onList_of R rd ha
  obtain ⟨y, w, rfl, rfl, ry, q⟩ := oneArg_of rds q
  obtain ⟨R', l'⟩ := R.setL e (h2.append (.cons ry .nil))
  exact mt_append pins s σ H _ _ v us Q I rx rs ⟨_, _, _, rfl, rfl, h1, by rw [← h2.length]; exact hl, k _ _ _ _ _ q l' R' .non⟩
def aExtend : AM := fun x xs M P => onList (fun n ds => oneArg (fun d => onList (fun _ es => ds.length + es.length ≤ sizeLine ∧ P .non (M.set n (.lst (ds ++ es)))) d M) xs) x M
theorem mtA_extend : MtA X "list.extend" aExtend := by
  intro pins s σ H x xs v us Q I rx rs h
  obtain ⟨ι, M, d, ds, P, R, rd, rds, ha, k⟩ := h
  obtain ⟨n, a, es, vs, e, rfl, em, h1, h2, q⟩ := onList_of R rd ha
  obtain ⟨y, w, rfl, rfl, ry, q⟩ := oneArg_of rds q
  obtain ⟨n2, a2, es2, vs2, e2, rfl, em2, h12, h22, hl, q⟩ := onList_of R ry q
  obtain ⟨R', l'⟩ := R.setL e (h2.append h22)
  exact mt_extend pins s σ H _ _ v us Q I rx rs ⟨_, _, _, _, rfl, rfl, h1, h12, by rw [← h2.length, ← h22.length]; exact hl, k _ _ _ _ _ q l' R' .non⟩
theorem Reps.dropLast {ι : List Addr} {H : Hp} {ds : List D} {vs : List V} (r : Reps ι H ds vs) : Reps ι H ds.dropLast vs.dropLast := by
  rw [List.dropLast_eq_take, List.dropLast_eq_take, ← r.length]
  exact r.take _
def aPop : AM := fun x xs M P => onList (fun n ds => xs.isEmpty = true ∧ (match ds[ds.length - 1]? with
  | some d => P d (M.set n (.lst ds.dropLast))
  | none => False)) x M
theorem mtA_pop : MtA X "list.pop" aPop := by
  intro pins s σ H x xs v us Q I rx rs h
  obtain ⟨ι, M, d, ds, P, R, rd, rds, ha, k⟩ := h
  obtain ⟨n, a, es, vs, e, rfl, em, h1, h2, hl, q⟩ := onList_of R rd ha
  have hx : xs = [] := by
    cases rds with
    | nil => rfl
    | cons => cases hl
  split at q
  · rename_i y ey
    obtain ⟨w, e1, rw'⟩ := h2.get ey
    obtain ⟨R', l'⟩ := R.setL e h2.dropLast
    exact mt_pop pins s σ H _ _ v us Q I rx rs ⟨_, _, w, rfl, hx, h1, by rw [← h2.length]; exact e1, k _ _ _ _ _ q l' R' (rw'.mono l')⟩
  · exact q.elim
/-! texts -/
def aSplit : AM := fun x xs M P => match x with
  | .str s => oneArg (fun d => match d with
    | .str t => ((t.length == 0) = false ∧ s.length + 2 ≤ sizeLine) ∧ P (.ref M.length) (M ++ [.lst ((Txt.split s t).map .str)])
    | _ => False) xs
  | _ => False
theorem reps_strs {ι : List Addr} {H : Hp} : ∀ ns : List Str, Reps ι H (ns.map D.str) (ns.map V.str)
  | [] => .nil
  | i :: r => .cons (.str i) (reps_strs r)
theorem mtA_split : MtA X "str.split" aSplit := by
  intro pins s σ H x xs v us Q I rx rs h
  obtain ⟨ι, M, d, ds, P, R, rd, rds, ha, k⟩ := h
  cases rd with
  | str z =>
    obtain ⟨y, w, rfl, rfl, ry, q⟩ := oneArg_of rds ha
    cases ry with
    | str t => exact mt_split pins s σ H _ _ v us Q I rx rs ⟨z, t, rfl, rfl, q.1.1, q.1.2, fun p hp => cl_new R k (reps_strs _) q.2 p hp⟩
    | _ => exact q.elim
  | _ => exact ha.elim
def strs? : List D → Option (List Str)
  | [] => some []
  | .str i :: r => (strs? r).map (i :: ·)
  | _ => none
theorem strs_rep {ι : List Addr} {H : Hp} : ∀ {ds : List D} {vs : List V} {ns : List Str}, strs? ds = some ns → Reps ι H ds vs → vs = ns.map V.str
  | _, _, _, h, .nil => by cases h; rfl
  | _, _, _, h, .cons r1 r2 => by
    cases r1 with
    | str i =>
      simp only [strs?, Option.map_eq_some_iff] at h
      obtain ⟨l, h1, rfl⟩ := h
      rw [strs_rep h1 r2]; rfl
    | _ => cases h
theorem strs?_map (ns : List Str) : strs? (ns.map D.str) = some ns := by induction ns with
  | nil => rfl
  | cons i r ih => simp [strs?, ih]
def aJoin : AM := fun x xs M P => match x with
  | .str s => oneArg (fun d => onList (fun _ ds => match strs? ds with
    | some ys => (ys.map (·.length)).sum + ys.length * s.length ≤ 16777216 ∧ P (.str (Txt.join s ys)) M
    | none => False) d M) xs
  | _ => False
theorem mtA_join : MtA X "str.join" aJoin := by
  intro pins s σ H x xs v us Q I rx rs h
  obtain ⟨ι, M, d, ds, P, R, rd, rds, ha, k⟩ := h
  cases rd with
  | str z =>
    obtain ⟨y, w, rfl, rfl, ry, q⟩ := oneArg_of rds ha
    obtain ⟨n2, a2, es2, vs2, e2, rfl, em2, h12, h22, q⟩ := onList_of R ry q
    split at q
    · rename_i ys ey
      have := strs_rep ey h22
      subst this
      exact mt_join pins s σ H _ _ v us Q I rx rs ⟨z, _, ys, rfl, rfl, .inl (.of h12), q.1, k _ _ _ _ _ q.2 .refl R (.str _)⟩
    · exact q.elim
  | _ => exact ha.elim
def aUpper : AM := fun x xs M P => match x with
  | .str s => xs.isEmpty = true ∧ s.length ≤ 5592405 ∧ P (.str (Txt.upper s)) M
  | _ => False
theorem mtA_upper : MtA X "str.upper" aUpper := by
  intro pins s σ H x xs v us Q I rx rs h
  obtain ⟨ι, M, d, ds, P, R, rd, rds, ha, k⟩ := h
  cases rd with
  | str z =>
    obtain ⟨h0, h1, q⟩ := ha
    have hx : xs = [] := by
      cases rds with
      | nil => rfl
      | cons => cases h0
    exact mt_upper pins s σ H _ _ v us Q I rx rs ⟨z, rfl, hx, h1, k _ _ _ _ _ q .refl R (.str _)⟩
  | _ => exact ha.elim
end
end AL
namespace AL
open PySem L2
section
variable {X : Cx} {W : WX} {a b c e o tg iter elt : Expr} {es ifs : List Expr} {m m1 m2 m3 : ME} {n n1 n2 : MT} {ma ma1 : MA} {pos p : Pos} {x : Str}
/-! ## comprehensions -/
def OnlyAt (vs : List Nat) (σ σ' : St) : Prop := σ'.length = σ.length ∧ ∀ i : Nat, i ∉ vs → σ'[i]? = σ[i]?
theorem OnlyAt.refl {vs : List Nat} {σ : St} : OnlyAt vs σ σ := ⟨rfl, fun _ _ => rfl⟩
theorem OnlyAt.trans {vs us : List Nat} {σ σ1 σ2 : St} (a : OnlyAt vs σ σ1) (b : OnlyAt us σ1 σ2) : OnlyAt (vs ++ us) σ σ2 :=
  ⟨b.1.trans a.1, fun i hi => by
    have h1 : i ∉ vs := fun z => hi (List.mem_append_left _ z)
    have h2 : i ∉ us := fun z => hi (List.mem_append_right _ z)
    exact (b.2 i h2).trans (a.2 i h1)⟩
theorem wipe_get (σ : St) (i : Nat) : ∀ vs : List Nat, (wipe σ vs)[i]? = if i ∈ vs then (if i < σ.length then some none else none) else σ[i]?
  | [] => by simp [wipe]
  | v :: vs => by
    have ih := wipe_get σ i vs
    show ((wipe σ vs).set v none)[i]? = _
    by_cases hi : i = v
    · subst hi
      by_cases hl : i < σ.length
      · rw [List.getElem?_set_self (by rw [wipe_length]; exact hl)]
        simp [hl]
      · rw [List.getElem?_eq_none (by simp [wipe_length]; omega)]
        simp [hl]
    · rw [List.getElem?_set_ne (Ne.symm hi), ih]
      simp [hi]
theorem wipe_only {vs us : List Nat} {σ σ' : St} (h : OnlyAt us (wipe σ vs) σ') (hs : ∀ i ∈ us, i ∈ vs) : wipe σ' vs = wipe σ vs := by
  have hl : σ'.length = σ.length := by rw [h.1, wipe_length]
  refine List.ext_getElem? fun i => ?_
  rw [wipe_get, wipe_get, hl]
  by_cases hi : i ∈ vs
  · simp [hi]
  · rw [if_neg hi, if_neg hi, h.2 i (fun z => hi (hs i z)), wipe_get, if_neg hi]
def TGc (g : MG) (vs : List Nat) : TG := fun v σ H Q => ∃ ι M ρ d ρ', Rel ι M H ∧ SRep ι H ρ σ ∧ Rep ι H d v ∧ g d ρ = some ρ' ∧ ∀ σ', SRep ι H ρ' σ' → OnlyAt vs σ σ' → Q σ' H
structure CGc (X : Cx) (t : Expr) (g : MG) (vs : List Nat) : Prop where
  pg : PG X t (TGc g vs)
def TGsc (g : List D → Sl → Option Sl) (us : List Nat) : TGs := fun vs σ H Q => ∃ ι M ρ ds ρ', Rel ι M H ∧ SRep ι H ρ σ ∧ Reps ι H ds vs ∧ g ds ρ = some ρ' ∧ ∀ σ', SRep ι H ρ' σ' → OnlyAt us σ σ' → Q σ' H
structure CGsc (X : Cx) (ts : List Expr) (g : List D → Sl → Option Sl) (vs : List Nat) : Prop where
  pg : PGs X ts (TGsc g vs)
theorem gc_name (i : Nat) {x : Str} (hN : X.N.Nodup) (hi : X.N[i]? = some x := by rfl) (hx : Loc X.env.scope x := by first | exact Or.inl rfl | exact Or.inr rfl) (hf : X.fn x = true ∨ X.env.scope.names.lookup x = some .local := by first | exact .inl rfl | exact .inr rfl) : CGc X (.Name x pos) (gN i) [i] :=
  ⟨pg_imp (pg_name hN hi hx hf) fun v σ H Q ⟨ι, M, ρ, d, ρ', R, S, r, e, q⟩ => by
    cases e
    refine q _ (S.set r i) ⟨by simp, fun j hj => ?_⟩
    rw [List.getElem?_set_ne (fun z => hj (by simp [z]))]⟩
theorem gcs_nil : CGsc X [] gNil' [] := ⟨pgs_imp pgs_nil fun vs σ H Q ⟨ι, M, ρ, ds, ρ', R, S, r, e, q⟩ => by
  cases r with
  | nil => cases e; exact ⟨rfl, q _ S .refl⟩
  | cons => cases e⟩
theorem gcs_cons {t : Expr} {ts : List Expr} {g : MG} {r : List D → Sl → Option Sl} {us vs : List Nat} (h1 : CGc X t g us) (h2 : CGsc X ts r vs) (hs : (assignEach (t :: ts) X.env).map (·.2) = assign t X.env :: (assignEach ts X.env).map (·.2) := by rfl) : CGsc X (t :: ts) (gCons' g r) (us ++ vs) :=
  ⟨pgs_imp (pgs_cons h1.pg h2.pg hs) fun vs σ H Q ⟨ι, M, ρ, ds, ρ', R, S, rr, e, q⟩ => by
    cases rr with
    | nil => cases e
    | cons a b =>
      simp only [gCons'] at e
      split at e
      · rename_i ρ1 e1
        exact ⟨_, _, rfl, ι, M, ρ, _, ρ1, R, S, a, e1, fun σ1 S1 o1 => ⟨ι, M, ρ1, _, ρ', R, S1, b, e, fun σ2 S2 o2 => q σ2 S2 (o1.trans o2)⟩⟩
      · cases e⟩
theorem gc_tup {k n : Nat} {r : List D → Sl → Option Sl} {vs : List Nat} (hc : X.calm = true) (h : CGsc X es r vs) (hn : (assignEach es X.env).length = n := by rfl) (hst : (assignEach es X.env).findIdx? (·.1) = none := by rfl) : CGc X (.Tuple es k pos) (gTup' n r) vs :=
  ⟨pg_imp (pg_tup hc h.pg hn hst) fun v σ H Q ⟨ι, M, ρ, d, ρ', R, S, rr, e, q⟩ => by
    cases rr with
    | tup h1 r1 =>
      simp only [gTup'] at e
      split at e
      · rename_i hl
        exact ⟨_, _, rfl, .of h1, by rw [← r1.length]; exact hl, ι, M, ρ, _, ρ', R, S, r1, e, q⟩
      · cases e
    | _ => cases e⟩
abbrev W0 : WX := fun _ _ _ _ => False
abbrev noX : XP := fun _ _ _ => False
structure CTs (X : Cx) (W : WX) (es : List Expr) (n : MT) : Prop where
  pt : PTs X es (TT' W n)
def nYes : MT := fun _ M P _ => P true M
theorem cts_nil : CTs X W [] nYes := ⟨⟨fun pins s σ H Q I ⟨ι, M, ρ, P, E, R, S, q, k, x⟩ => (pts_nil (X := X)).run pins s σ H Q I (k _ _ _ _ q .refl R)⟩⟩
theorem cts_one (h : CT X W c n) : CTs X W [c] n := ⟨pts_one h.pt⟩
def wipeA (ρ : Sl) : List Nat → Sl
  | [] => ρ
  | v :: vs => (wipeA ρ vs).set v none
theorem wipeA_rep {ι : List Addr} {H : Hp} {ρ : Sl} {σ : St} (h : SRep ι H ρ σ) : ∀ vs : List Nat, SRep ι H (wipeA ρ vs) (wipe σ vs)
  | [] => h
  | v :: vs => (wipeA_rep h vs).unset v
/-- the turns; the new list has the number id -/
def lcA (live : Mem → Prop) (g : MG) (n : MT) (m : ME) (id : Nat) (ρ : Sl) (P : Mem → Prop) : List D → Mem → Prop
  | [], M => live M ∧ P M
  | x :: xs, M => live M ∧ (match g x ρ with
    | some ρ1 => n ρ1 M (fun b M1 => match b with
      | true => m ρ1 M1 (fun y M2 => match M2[id]? with
        | some (.lst acc) => acc.length < sizeLine ∧ lcA live g n m id ρ P xs (M2.set id (.lst (acc ++ [y])))
        | _ => False) noX
      | false => lcA live g n m id ρ P xs M1) noX
    | none => False)
def mLc (mi : MI) (g : MG) (n : MT) (m : ME) (vs : List Nat) : ME := fun ρ M P E => mi ρ M (fun it M1 => lcA it.live g n m M1.length (wipeA ρ vs) (fun M' => P (.ref M1.length) M') it.items (M1 ++ [.lst []])) E
theorem lc_read {mi : MI} {g : MG} {vs us : List Nat} {σ : St} {H : Hp} {Q : VK} {ι : List Addr} {M : Mem} {ρ : Sl} {P : PD} {E : XP} (hs : ∀ i ∈ us, i ∈ vs) (R : Rel ι M H) (S : SRep ι H ρ σ) (q : mLc mi g n m vs ρ M P E) (k : Cl ι H P Q) (x : ClX ι H E (fun c d H' => W c d σ H')) :
    tLc (TI' W mi) (TGc g us) (TT' W0 n) (TE' W0 m) vs σ H Q := by
  refine ⟨ι, M, ρ, _, E, R, S, q, fun it M1 ι1 H1 J q1 l1 R1 ⟨G, Y, w, hG, hY⟩ => fun D hD => ?_, x⟩
  have lD : Later ι1 H1 (ι1 ++ [D]) (upd H1 D (.lst [])) := later_newI hD
  have RD : Rel (ι1 ++ [D]) (M1 ++ [.lst []]) (upd H1 D (.lst [])) := R1.push hD ⟨[], upd_same, .nil⟩
  have aD : (ι1 ++ [D])[M1.length]? = some D := R1.lookup
  refine lc_it w (fun i H' => ∃ ι' M', Later (ι1 ++ [D]) (upd H1 D (.lst [])) ι' H' ∧ Rel ι' M' H' ∧ lcA it.live g n m M1.length (wipeA ρ vs) (fun M' => P (.ref M1.length) M') (it.items.drop i) M') ⟨_, _, .refl, RD, q1⟩ ?_ ?_ ?_
  · rintro i H' _ ⟨ι', M', l, R', q'⟩
    refine hG ι' H' M' (lD.trans l) R' ?_
    cases hd : it.items.drop i with
    | nil => rw [hd] at q'; exact q'.1
    | cons y ys => rw [hd] at q'; exact q'.1
  · rintro i y H' H2 hi2 ⟨ι', M', l, R', q'⟩ hy
    have hd : it.items.drop i = it.items[i] :: it.items.drop (i + 1) := List.drop_eq_getElem_cons hi2
    rw [hd] at q'
    obtain ⟨hl, q'⟩ := q'
    obtain ⟨d, e1, l2, R2, r2⟩ := hY i ι' H' M' y H2 (lD.trans l) R' hl hy
    have e2 : it.items[i] = d := by
      rw [List.getElem?_eq_getElem hi2] at e1
      exact Option.some.inj e1
    rw [e2] at q'
    have l1' : Later ι H ι' H2 := l1.trans (lD.trans (l.trans l2))
    split at q'
    · rename_i ρ1 eg
      refine ⟨ι', M', wipeA ρ vs, d, ρ1, R2, wipeA_rep (S.mono l1') vs, r2, eg, fun σ3 S3 o3 => ⟨wipe_only o3 hs, ?_⟩⟩
      refine tt_in R2 S3 q' (fun _ _ _ _ _ _ _ z => z.elim) fun b M4 ι4 H4 q4 l4 R4 => ?_
      cases b with
      | true =>
        refine iteT (te_in R4 (S3.mono l4) q4 (fun _ _ _ _ _ _ _ z => z.elim) fun y' M5 ι5 H5 v5 q5 l5 R5 r5 => ?_)
        have l05 : Later (ι1 ++ [D]) (upd H1 D (.lst [])) ι5 H5 := l.trans (l2.trans (l4.trans l5))
        split at q5
        · rename_i acc ea
          obtain ⟨us5, h5, rr5⟩ := R5.lstAt (l05.at aD) ea
          obtain ⟨R6, l6⟩ := R5.setL (l05.at aD) (rr5.append (.cons r5 .nil))
          exact ⟨us5, h5, by rw [← rr5.length]; exact q5.1, ι5, _, l05.trans l6, R6, q5.2⟩
        · exact q5.elim
      | false => exact iteF ⟨ι4, M4, l.trans (l2.trans l4), R4, q4⟩
    · exact q'.elim
  · rintro H' ⟨ι', M', l, R', q'⟩
    rw [List.drop_length] at q'
    exact k _ _ _ _ _ q'.2 (l1.trans (lD.trans l)) R' (.ref (l.at aD))
theorem c_lc {scope : Scope} {own : List (Str × Nat)} {mi : MI} {g : MG} {us : List Nat} (hc : X.calm = true) (hN : X.N.Nodup) (hi : CI X W tg iter mi) (ok : BlkOk X.N X.env.scope scope own)
    (hg : ∀ (s : Shared) (H : Hp) (C : Addr) (cl : List (Str × Addr)) (fp : List Addr), CGc (X.blk s H scope (compEnvC scope cl C X.env) fp) tg g us)
    (ht : ∀ (s : Shared) (H : Hp) (C : Addr) (cl : List (Str × Addr)) (fp : List Addr), CTs (X.blk s H scope (compEnvC scope cl C X.env) fp) W0 ifs n)
    (he : ∀ (s : Shared) (H : Hp) (C : Addr) (cl : List (Str × Addr)) (fp : List Addr), CE (X.blk s H scope (compEnvC scope cl C X.env) fp) W0 elt m) (hu : ∀ i ∈ us, i ∈ own.map (·.2) := by decide) (hs : ∀ x, foldedSetIterable iter X.env x = pure x := by intro _; rfl) :
    CE X W (.ListComp elt [⟨tg, iter, ifs, 0⟩] scope pos) (mLc mi g n m (own.map (·.2))) :=
  ce_of (pe_lc hc hN hi.pi ok (fun s H C cl fp => (hg s H C cl fp).pg) (fun s H C cl fp => (ht s H C cl fp).pt) (fun s H C cl fp => (he s H C cl fp).pe) hs) fun σ H Q ι M ρ P E R S q k x => lc_read hu R S q k x
/-- name = [..] on one line -/
theorem cs_setLc (i : Nat) {y : Str} {py spos : Pos} {scope : Scope} {own : List (Str × Nat)} {mi : MI} {g : MG} {us : List Nat} (hc : X.calm = true) (hN : X.N.Nodup) (hi : CI X W tg iter mi) (ok : BlkOk X.N X.env.scope scope own)
    (hg : ∀ (s : Shared) (H : Hp) (C : Addr) (cl : List (Str × Addr)) (fp : List Addr), CGc (X.blk s H scope (compEnvC scope cl C X.env) fp) tg g us)
    (ht : ∀ (s : Shared) (H : Hp) (C : Addr) (cl : List (Str × Addr)) (fp : List Addr), CTs (X.blk s H scope (compEnvC scope cl C X.env) fp) W0 ifs n)
    (he : ∀ (s : Shared) (H : Hp) (C : Addr) (cl : List (Str × Addr)) (fp : List Addr), CE (X.blk s H scope (compEnvC scope cl C X.env) fp) W0 elt m)
    (hsw : swapsWith (.ListComp elt [⟨tg, iter, ifs, 0⟩] scope pos) (some (.Name y py)) spos.line X.env = pure true) (hy : X.N[i]? = some y := by rfl) (hyl : X.env.scope.names.lookup y = some .local := by rfl)
    (hu : ∀ i ∈ us, i ∈ own.map (·.2) := by decide) (hs : ∀ x, foldedSetIterable iter X.env x = pure x := by intro _; rfl) :
    CS X W (.Assign [.Name y py] (.ListComp elt [⟨tg, iter, ifs, 0⟩] scope pos) spos) (kSet i (mLc mi g n m (own.map (·.2)))) :=
  cs_of (ps_setLc hc hN hy hyl hsw hi.pi ok (fun s H C cl fp => (hg s H C cl fp).pg) (fun s H C cl fp => (ht s H C cl fp).pt) (fun s H C cl fp => (he s H C cl fp).pe) hs) fun D σ H ι M ρ A R S q x =>
    lc_read hu R S q (fun d M' ι' H' v q' l R' r => x.nx _ _ _ _ _ q' l R' ((S.mono l).set r i)) (x.ex.at S)
end
end AL
/-! Defs called where no repr is under way (guards = []): their promise, their rule, the law's end. -/
namespace AL
open PySem L2 PySem.Spec PyProof.Rows
structure FnG (P : Program) (w : World) (K : PySem.W.Frag) (mg : Str → Option Value) (base : Heap) (k : Nat) (f : Addr) (fd : FuncData) (ps : List Str) (sp : Sp) : Prop where
  len : ∀ vs H Q E, sp vs H Q E → vs.length = ps.length
  run : ∀ (A : Around) (fr : List Env) (s : Shared) (H : Hp) (args : Args) (us : List Value) (vs : List V) (Q : VK) (E : XK), Room k A → A.guards = some [] → Env0 P w K mg base A fr s H → BindsTo s fd args (ps.zip us) → Vals vs us → sp vs H Q E →
    codeAny (model P w) A (.call (.ref f) args) (CR (L2N.CX P w) fr P w H s Q E) s
theorem FnG.up {P : Program} {w : World} {K : PySem.W.Frag} {mg : Str → Option Value} {base : Heap} {j k : Nat} {f : Addr} {fd : FuncData} {ps : List Str} {sp : Sp} (F : FnG P w K mg base j f fd ps sp) (h : j ≤ k) : FnG P w K mg base k f fd ps sp :=
  ⟨F.len, fun A fr s H args us vs Q E hr => F.run A fr s H args us vs Q E (hr.mono h)⟩
section
variable {P : Program} {w : World} {K : PySem.W.Frag} {mg : Str → Option Value} {base : Heap}
/-- a def of the text: a reading for each entry -/
theorem fng_of {k : Nat} {f : Addr} {x qual : Str} {params : Arguments} {body : List Stmt} {scope : Scope} {dvs : List V} {kws : List (Str × V)} {fd : FuncData} {N ps : List Str} {sp : Sp} (F : FunD K x qual params body scope dvs kws f fd) (S : FnScope N ps scope)
    (len : ∀ vs H Q E, sp vs H Q E → vs.length = ps.length)
    (hb : ∀ (cdv : Value) (A : Around) (fr : List Env) (s : Shared) (H : Hp) (vs : List V) (Q : VK) (E : XK), Room k (A.deeper (envOfC qual scope s.heap.objs.size f cdv)) → (A.deeper (envOfC qual scope s.heap.objs.size f cdv)).guards = some [] → sp vs H Q E →
      ∃ t, PSs (cxOf (L2N.CX P w) P w K mg base N qual scope f cdv A fr s H E) body t ∧ t { nx := fun _ H' => Q .non H', rt := Q } (start N vs) H) :
    FnG P w K mg base (k + 1) f fd ps sp := by
  obtain ⟨oc, od, dV, kV, doc, pm, an, cdv, ct, osl, efd, lk, code, _, _⟩ := F.ex
  subst efd
  constructor
  · exact len
  intro A fr s H args us vs Q E room gd env bind rel want
  have inHeap := fun b o (e : base.get? b = some o) => (env.bs b o e).1
  have names : ∀ y ∈ ps.zip us, scope.names.lookup y.1 = some .local ∨ (scope.names.lookup y.1 = some .cell ∧ ((cellsFrom (s.heap.objs.size + 1) scope.names []).lookup y.1).isSome = true) := by
    rintro ⟨y, v⟩ hy
    cases S.par y (List.of_mem_zip hy).1 with
    | inl q => exact Or.inl q
    | inr q => exact Or.inr ⟨q, PySem.W.cellsFrom_some _ _ _ (Or.inl q)⟩
  have KH : K.In s.heap := env.mod.kin.keeps inHeap
  refine codeAny_call_function room.depth (KH _ _ lk) rfl S.co S.gen rfl (PySem.W.codeRec_of KH code) (bind _ _ _ _ ?_)
  refine wpAny_newFunctionEnv_cells S.kind names fun e1 he1 s1 entry => ?_
  subst he1
  refine ⟨(env.mod.nolimit.keeps inHeap).keeps entry.toInCall.keep, codeAny_func ?_⟩
  have ⟨t, derived, reading⟩ := hb cdv A fr s H vs Q E (room.deeper _) gd want
  have I := inv_start (CX := L2N.CX P w) (P := P) (w := w) (K := K) (mg := mg) (base := base) (N := N) (qual := qual) (E := E) S room.hd env (len _ _ _ _ want) rel entry
  refine wpAny_mono (derived.run [] s1 (start N vs) H _ I reading) ?_ (fun _ _ z => z)
  intro flow s2 done
  match flow, done with
  | .ret u, ⟨v, _, H2, J, rv, q⟩ => exact ⟨v, H2, J.os, J.bare, J.base, J.hok, rv, q⟩
  | .next, ⟨_, H2, J, q⟩ => exact ⟨V.non, H2, J.os, J.bare, J.base, J.hok, rfl, q⟩
  | .brk, ⟨_, _, _, q⟩ => exact q.elim
  | .cont, ⟨_, _, _, q⟩ => exact q.elim
end
section
variable {X : Cx} {k : Nat} {f : Addr} {fd : FuncData} {ps : List Str} {sp : Sp} {dvs : List V} {ds : List Value} {E : L2.St → XK}
/-- such a def is called -/
theorem go_fng {pins : List (Addr × Obj)} {σ : L2.St} {H : Hp} {s : Shared} {Q : VK} {us : List Value} {vs : List V} (F : FnG X.prog X.w X.K X.mg X.base k f fd ps sp) (room : Room k X.A) (gd : X.A.guards = some []) (bs : Binds X.K fd ps ds) (dv : Vals dvs ds) (px : PassesAt (L2N.CX X.prog X.w) X σ (E σ))
    (I : L2.Inv X pins σ H s) (rel : Vals vs us) (want : sp (vs ++ dvs) H Q (E σ)) : wpAny (model X.prog X.w) X.A (call (.ref f) us) (EP X pins σ Q) X.xe s := by
  have all := rel.append dv
  have many : (us ++ ds).length = ps.length := all.length ▸ F.len _ _ _ _ want
  refine wpAny_call (codeAny_mono (F.run X.A X.stack s H ⟨us, []⟩ _ _ Q (E σ) room gd I.env0 (bs s us I.kIn many) all want) ?_)
  intro res s2 z
  match res, z with
  | .error e, z => exact px pins H s e s2 I z
  | .ok (.ret u), z => exact I.after z
  | .ok .next, z => exact z.elim
  | .ok .brk, z => exact z.elim
  | .ok .cont, z => exact z.elim
end

/-! ## the law's own call -/
theorem callerA_room : callerA.guards = some [] := rfl
/-- the script stands; nothing else is tracked -/
theorem start_law {P : Program} {w : World} {K : PySem.W.Frag} {mg mb : Str → Option Value} {k : Nat} {fa a : Addr} {fd : FuncData} {x : Str} {sp : Sp} {s : Shared} {vs : List Value} {H : Hp}
    (KX : K.In s.heap) (g : s.heap.Ns mainGlobals mg) (b : s.heap.Ns builtinsNs mb) (bb : ∀ x : Str, x ≠ "__name__" → mb x = bootBuiltins x) (lim : s.heap.NoLimit) (gens : s.gens = #[])
    (ha : s.heap.get? a = some { cls := .type "list", data := .seq vs.toArray }) (room : Room k callerA)
    (F : ∀ base : Heap, K.In base → base.Ns mainGlobals mg → FnG P w K mg base k fa fd [x] sp) (bind : ∀ (s : Shared) (u : Value), BindsTo s fd ⟨[u], []⟩ [(x, u)])
    (only : ∀ c u, H c = some u → c = a ∧ ∃ o xs, u = .frz o (.lst xs)) (hok : HOk P w H s.heap) (notK : H a ≠ none → K.lookup a = none)
    (want : sp [.ref a] H (fun v _ => v = .bl true) fun _ _ _ => False) :
    codeAny (model P w) callerA (.call (.ref fa) ⟨[.ref a], []⟩) (fun r s' => r = .ok (.ret (.bool true)) ∧ OldK s.heap s'.heap ∧ s'.os = s.os ∧ AllBare s'.gens) s := by
  have free : ∀ {c : Addr}, c ≠ a → H c = none := fun {c} hc => by
    cases e : H c with
    | none => rfl
    | some u => exact absurd (only c u e).1 hc
  have ofDict : ∀ {c : Addr} {o : Obj} {es : Array DictEntry} {ep : Nat}, s.heap.get? c = some o → o.data = .dict es ep → c ≠ a := fun {c o es ep} e d z => by
    subst z
    rw [ha] at e
    cases e
    cases d
  have tells : ∀ {c : Addr} {m : Str → Option Value}, s.heap.Ns c m → (hidT s.heap H).Ns c m := fun {c m} z => by
    obtain ⟨o, es, ep, e, d, r⟩ := z
    exact ⟨o, es, ep, hidT_get e (free (ofDict e d)), d, r⟩
  have KB : K.In (hidT s.heap H) := fun c o e => hidT_get (KX c o e) (by
    cases q : H c with
    | none => rfl
    | some u =>
      obtain ⟨z, _⟩ := only c u q
      subst z
      rw [notK (by rw [q]; exact fun y => nomatch y)] at e
      cases e)
  obtain ⟨ml, l1, l2⟩ := lim
  have md : Mod K mg (hidT s.heap H) := { kin := KB, glob := tells g, blt := ⟨mb, tells b, bb⟩, nolimit := ⟨ml, tells l1, l2⟩ }
  have env : Env0 P w K mg (hidT s.heap H) callerA [] s H :=
    { frames := rfl, mod := md, bs := fun c o e => of_hidT e, bsz := Nat.le_of_eq (hidT_size _ _), funs := trivial, frf := fun c hc => (nomatch hc), hok := hok, bare := AllBare.of_eq gens }
  refine codeAny_mono ((F _ KB (tells g)).run callerA [] s H ⟨[.ref a], []⟩ [.ref a] [.ref a] _ _ room rfl env (bind s (.ref a)) (.cons rfl .nil) want) ?_
  intro res s2 z
  match res, z with
  | .ok (.ret u), ⟨v, H2, os2, bare2, un, hok2, rv, q⟩ =>
    have q' : v = V.bl true := q
    subst q'
    have eu : u = Value.bool true := rv
    subst eu
    refine ⟨rfl, OldK.of_keep fun c o e => ?_, os2, bare2⟩
    cases qc : H c with
    | none => exact un.keep c o e qc (fun y => nomatch y) (fun y => nomatch y)
    | some u =>
      obtain ⟨z1, ob, xs, z2⟩ := only c u qc
      subst z2
      have same := (hok c _ qc).1
      rw [e] at same
      cases same
      exact (hok2 c _ (un.frzs c _ _ qc)).1
  | .error e, ⟨_, _, _, _, _, _, _, _, _, _, _, _, bad⟩ => exact bad.elim
  | .ok .next, z => exact z.elim
  | .ok .brk, z => exact z.elim
  | .ok .cont, z => exact z.elim
/-- THE END: the law's promise makes the row's walk -/
theorem law_end {l : PySem.W.OpenLaw} {n k : Nat} {q : Program} {loose : List Str} {XP : (Str → Option Value) → Heap → Prop} {YP : World → Heap → Prop} {d : DefRec} {x : Str}
    (hn : l.most = some n) (hn2 : n ≤ sizeLine) (hdf : d.params.defaults = []) (room : Room k callerA)
    (F : ∀ (w : World) (mg : Str → Option Value) (fa : Addr) (h : Heap), YP w h → h.Ns mainGlobals mg → mg d.name = some (.ref fa) →
      ∃ (K : PySem.W.Frag) (fd : FuncData) (sp : Sp), K.In h ∧ (∀ (s : Shared) (u : Value), BindsTo s fd ⟨[u], []⟩ [(x, u)]) ∧
        (∀ (H : Hp) (a : Addr) (o : Obj) (ns : List Int), ns.length ≤ n → H a = some (.frz o (.lst (ns.map V.int))) → sp [.ref a] H (fun v _ => v = .bl true) fun _ _ _ => False) ∧ (∀ a o, K.lookup a = some o → o.cls ≠ .type "list") ∧
        ∀ base : Heap, K.In base → base.Ns mainGlobals mg → FnG l.prog w K mg base k fa fd [x] sp) :
    PySem.W.WalkO q loose XP YP l.row.toRowW d [] (fun f vs => PySem.call f vs) := by
  refine Att.attach_call hn hdf fun w s0 s1 mg mb fa o pm cd doc a vs ns G Y ho hd hcd hmg hobj hints hlen hg => ?_
  obtain ⟨K, fd, sp, KX, bind, want, nolist, FF⟩ := F w mg fa _ Y G.T.g hmg
  have rv := vals_ints hints
  have notK : K.lookup a = none := by
    cases e : K.lookup a with
    | none => rfl
    | some ob =>
      have e2 := KX a ob e
      rw [hobj] at e2
      cases e2
      exact absurd rfl (nolist a _ e)
  let H : Hp := fun c => if c = a then some (.frz { cls := .type "list", data := .seq vs.toArray } (.lst (ns.map V.int))) else none
  have Ha : H a = some (.frz { cls := .type "list", data := .seq vs.toArray } (.lst (ns.map V.int))) := if_pos rfl
  have Hn : ∀ c, c ≠ a → H c = none := fun c hc => if_neg hc
  refine start_law (H := H) KX G.T.g G.T.b G.T.builtins G.T.nolimit hg hobj room FF bind (fun c u e => ?_) (fun c u e => ?_) (fun _ => notK) (want H a _ ns hlen Ha)
  · by_cases hc : c = a
    · subst hc
      rw [Ha] at e
      cases e
      exact ⟨rfl, _, _, rfl⟩
    · rw [Hn c hc] at e
      cases e
  · by_cases hc : c = a
    · subst hc
      rw [Ha] at e
      cases e
      exact ⟨hobj, by rw [List.length_map]; exact Nat.le_trans hlen hn2, vs, _, rv, hobj⟩
    · rw [Hn c hc] at e
      cases e
end AL
/-! isinstance of a caught error that has a dict of its own -/
namespace AL
open PySem PySem.W
section
variable {prog : Program} {w : World} {A : Around} {E : Value → Shared → Prop} {s : Shared} {K : Frag} {x D : Addr} {ox : Obj} {od : Option Obj}
theorem find_data {C : Addr} {n : Str} {at1 gt1 : Value} (hc : (clsIn K C).isSome = true) (h1 : findIn K (.ref C) n = some (some at1)) (h2 : specialIn K at1 "__get__" = some (some gt1)) (h3 : takesIn K at1 = some true) : findObj K C od n = some (.bind gt1 at1) := by
  cases e : clsIn K C with
  | none => rw [e] at hc; cases hc
  | some cd => simp only [findObj, e, Option.bind_some, h1, h2, h3]
theorem exc_class {Q : Option Value → Shared → Prop} (T : L2.ExcC K D) (X : K.In s.heap) (I : InstAt s.heap x ox D od) (h : Q (some (.ref D)) { s with toks := s.toks + 1 }) : wpAny (model prog w) A (getAttr? (.ref x) "__class__") Q E s := by
  have hc : (clsIn K D).isSome = true := by
    obtain ⟨cd, e, _⟩ := any_some T.hd
    rw [e]; exact Option.isSome_some
  have found := find_data (od := od) hc T.ha T.hn T.ht
  obtain ⟨hp, g, d, t, os⟩ := s
  have kindAt := I.type (M := model prog w); have ownGet := looks_findIn (M := model prog w) X T.hg; have noHook := looks_findIn (M := model prog w) X T.hk
  have place := looks_find (M := model prog w) X I found
  have isExc : Looks (model prog w) hp (isInstance (.ref x) (.type "BaseException")) true := kindAt.andThen (looks_subIn X T.hs)
  have f1 : (Value.builtin "BaseException.__getattribute__" == Value.builtin "object.__getattribute__") = false := by decide +kernel
  have f2 : (onTheHeap (Value.ref D) && Value.builtin "BaseException.__getattribute__" == Value.builtin "object.__getattribute__") = false := by simp only [f1, Bool.and_false]
  unfold getAttr? getAttrBy? getAttrBy; refine wpAny_bind (wpAny_mkText (wpAny_bind (wpAny_attempt (wpAny_holding (wpAny_bind (kindAt.at (wpAny_bind (ownGet.at ?_))))))))
  show wpAny _ _ (if (onTheHeap (Value.ref D) && Value.builtin "BaseException.__getattribute__" == Value.builtin "object.__getattribute__") = true then _ else _) _ _ _; rw [f2, if_neg Bool.false_ne_true]
  unfold getAttrByItsOwn hookBefore; refine wpAny_bind ?_; rw [if_pos (show onTheHeap (Value.ref D) = true from rfl)]
  refine noHook.at (wpAny_bind (wpAny_attempt (wpAny_holding ?_))); unfold callGetattribute
  rw [show (false && onTheHeap (Value.builtin "BaseException.__getattribute__")) = false from rfl, if_neg Bool.false_ne_true]; unfold boundAndCalled
  rw [PySem.F.excAttr_ValueError.ga.bind (.ref x)]; refine wpAny_bind (wpAny_pure ?_)
  show wpAny _ _ (call (.builtin "BaseException.__getattribute__") [.ref x, .str "__class__" t]) _ _ _; refine wpAny_call (codeAny_call_builtin PySem.F.excAttr_ValueError.ga.plain PySem.F.entry_bexc_ga ?_)
  refine @check_slot (model prog w) _ _ ⟨hp, g, d, t + 1, os⟩ "BaseException.__getattribute__" "BaseException" "__getattribute__" (.ref x) [.str "__class__" t] [] _ (by decide +kernel) (by decide +kernel) isExc (PySem.F.args_bexc_ga (.ref x) (.str "__class__" t)) ?_
  unfold Builtin.«object.__getattribute__»; refine wpAny_bind (wpAny_of_eq (a := ((Value.ref x : Value), [Value.str "__class__" t])) (by first | rfl | (simp only [slotArgs]; rfl)) ?_)
  refine wpAny_bind (wpAny_pure (wpAny_bind (kindAt.at (wpAny_bind (place.at ?_)))))
  show wpAny _ _ (holding [Value.builtin "object.__class__"] (call (.builtin "getset_descriptor.__get__") [.builtin "object.__class__", .ref x, .ref D]) >>= ret) _ _ _; refine wpAny_bind (wpAny_holding (wpAny_call (class_get (s := ⟨hp, g, d, t + 1, os⟩) (ox := ox) (od := od) X I T.hm (wpAny_pure ?_))))
  show wpAny _ _ (handedOut (.ref D)) _ _ _; rw [handedOut_of (v := .ref D) rfl]
  first
    | exact wpAny_pure (wpAny_pure h)
    | exact wpAny_pure (wpAny_bind (wpAny_pure (wpAny_pure h)))
    | exact wpAny_pure h
theorem exc_kit (T : L2.ExcC K D) : KitX K (.ref x) (.ref D) (fun h => InstAt h x ox D od) where
  ty := fun _ _ _ J => J.type
  it := fun _ _ X _ => by
    obtain ⟨cd, e, _⟩ := any_some T.hd
    unfold clsIn at e
    split at e
    · rename_i ho
      exact fun A' Q' E' s' k q => by
        unfold isType loadHead; exact wpAny_bind (wpAny_loadPart (k _ _ (X _ _ ho)) (wpAny_pure q))
    · cases e
  ne := fun h tp dd its n sl X htp => by
    obtain ⟨cd, e, _⟩ := any_some T.hd
    cases q : (Value.ref D == Value.ref tp) with
    | false => rfl
    | true =>
      have z : D = tp := Value.ref.inj (beq_iff_eq.mp q)
      unfold clsIn at e
      split at e
      · rename_i ho
        rw [z] at ho
        have y := htp.symm.trans (X _ _ ho)
        cases y
      · cases e
  ca := fun X J k => exc_class T X J k
end
end AL
namespace AL
open PySem L2 PySem.Spec PyProof.Rows
/-! ## defs -/
abbrev WPn := List D → Mem → PD → XP → Prop
def spA (n : Nat) (wp : WPn) : Sp := fun vs H Q E => ∃ ι M ds P F, Rel ι M H ∧ Reps ι H ds vs ∧ (ds.length = n ∧ wp ds M P F) ∧ Cl ι H P Q ∧ ClX ι H F E
theorem spA_len {n : Nat} {wp : WPn} {vs : List V} {H : Hp} {Q : VK} {E : XK} (h : spA n wp vs H Q E) : vs.length = n := by
  obtain ⟨ι, M, ds, P, F, R, r, hl, _⟩ := h
  rw [← r.length, hl.1]
def Lens (n : Nat) (wp : WPn) : Prop := ∀ ds M P E, wp ds M P E → ds.length = n
def wp1 (f : D → Mem → PD → XP → Prop) : WPn := fun ds M P E => match ds with
  | [a] => f a M P E
  | _ => False
def wp2 (f : D → D → Mem → PD → XP → Prop) : WPn := fun ds M P E => match ds with
  | [a, b] => f a b M P E
  | _ => False
def wp3 (f : D → D → D → Mem → PD → XP → Prop) : WPn := fun ds M P E => match ds with
  | [a, b, c] => f a b c M P E
  | _ => False
def wp4 (f : D → D → D → D → Mem → PD → XP → Prop) : WPn := fun ds M P E => match ds with
  | [a, b, c, d] => f a b c d M P E
  | _ => False
theorem wp1_of {f : D → Mem → PD → XP → Prop} {ds : List D} {M : Mem} {P : PD} {E : XP} (h : wp1 f ds M P E) : ∃ a, ds = [a] ∧ f a M P E := by
  match ds, h with
  | [a], h => exact ⟨a, rfl, h⟩
theorem wp2_of {f : D → D → Mem → PD → XP → Prop} {ds : List D} {M : Mem} {P : PD} {E : XP} (h : wp2 f ds M P E) : ∃ a b, ds = [a, b] ∧ f a b M P E := by
  match ds, h with
  | [a, b], h => exact ⟨a, b, rfl, h⟩
theorem wp3_of {f : D → D → D → Mem → PD → XP → Prop} {ds : List D} {M : Mem} {P : PD} {E : XP} (h : wp3 f ds M P E) : ∃ a b c, ds = [a, b, c] ∧ f a b c M P E := by
  match ds, h with
  | [a, b, c], h => exact ⟨a, b, c, rfl, h⟩
theorem wp4_of {f : D → D → D → D → Mem → PD → XP → Prop} {ds : List D} {M : Mem} {P : PD} {E : XP} (h : wp4 f ds M P E) : ∃ a b c d, ds = [a, b, c, d] ∧ f a b c d M P E := by
  match ds, h with
  | [a, b, c, d], h => exact ⟨a, b, c, d, rfl, h⟩
theorem lens1 {f : D → Mem → PD → XP → Prop} : Lens 1 (wp1 f) := fun ds M P E h => by obtain ⟨a, rfl, _⟩ := wp1_of h; rfl
theorem lens2 {f : D → D → Mem → PD → XP → Prop} : Lens 2 (wp2 f) := fun ds M P E h => by obtain ⟨a, b, rfl, _⟩ := wp2_of h; rfl
theorem lens3 {f : D → D → D → Mem → PD → XP → Prop} : Lens 3 (wp3 f) := fun ds M P E h => by obtain ⟨a, b, c, rfl, _⟩ := wp3_of h; rfl
theorem lens4 {f : D → D → D → D → Mem → PD → XP → Prop} : Lens 4 (wp4 f) := fun ds M P E h => by obtain ⟨a, b, c, d, rfl, _⟩ := wp4_of h; rfl
/-- a def of the module, by its name -/
structure AF (P : Program) (w : World) (K : PySem.W.Frag) (mg : Str → Option Value) (base : Heap) (k : Nat) (x : Str) (n : Nat) (wp : WPn) : Prop where
  ex : ∃ f fd ps, FnG P w K mg base k f fd ps (spA n wp) ∧ mg x = some (.ref f) ∧ PySem.W.keepIn K (.ref f) = true ∧ Binds K fd ps [] ∧ Lens n wp
def mFn (wp : WPn) (ma : MA) : ME := fun ρ M P E => ma ρ M (fun ds M1 => wp ds M1 P E) E
def tFnA (W : WX) (n : Nat) (wp : WPn) (t : TA) : TE := fun σ H Q => t σ H fun vs H1 => spA n wp vs H1 Q (WE W σ)
section
variable {X : Cx} {W : WX} {e o : Expr} {es : List Expr} {m mo : ME} {ma : MA} {pos p apos : Pos} {x : Str} {k n : Nat} {wp : WPn} {nb : MS}
theorem pe_fnA {t : TA} (F : AF X.prog X.w X.K X.mg X.base k x n wp) (room : Room k X.A) (gd : X.A.guards = some []) (tk : L2N.Takes X W) (ha : PA X (e :: es) t) (hg : Gl X x := by rfl) (hdb : (x == ("__debug__" : Str)) = false := by decide)
    (he : starEach (e :: es) X.env = (false, eval e X.env) :: starEach es X.env := by rfl) (hpl : (backTo pos (starEach es X.env)).any (·.1) = false := by rfl) : PE X (.Call (.Name x p) (e :: es) [] pos) (tFnA W n wp t) := by
  obtain ⟨f, fd, ps, G, hm, hk, hb, hl⟩ := F.ex
  constructor
  intro pins s σ H Q I h
  exact wpAny_Call_Name_kw (ld_glob I hg hm (PySem.W.callWith_K (h₀ := X.base) I.ok.mod.kin hk (thn (ha.run pos pins s σ H _ I h) fun us s1 ⟨vs, H1, I1, r, q⟩ => ⟨I1.kIn, go_fng (dvs := []) (ds := []) (E := WE W) G room gd hb .nil (L2N.passAt tk σ) I1 r (by rw [List.append_nil]; exact q)⟩) he hpl) hdb)
theorem c_call (F : AF X.prog X.w X.K X.mg X.base k x n wp) (room : Room k X.A) (gd : X.A.guards = some []) (tk : L2N.Takes X W) (ha : CA X W (e :: es) ma) (hg : Gl X x := by rfl) (hdb : (x == ("__debug__" : Str)) = false := by decide)
    (he : starEach (e :: es) X.env = (false, eval e X.env) :: starEach es X.env := by rfl) (hpl : (backTo pos (starEach es X.env)).any (·.1) = false := by rfl) : CE X W (.Call (.Name x p) (e :: es) [] pos) (mFn wp ma) :=
  ce_of (pe_fnA F room gd tk ha.pa hg hdb he hpl) fun σ H Q ι M ρ P E R S q k x => ta_in R S q x fun ds M1 ι1 H1 vs q1 l1 R1 r1 => by
    obtain ⟨_, _, _, _, _, _, _, hl⟩ := F.ex
    exact ⟨ι1, M1, ds, P, E, R1, r1, ⟨hl _ _ _ _ q1, q1⟩, k.mono l1, x.mono l1⟩
end
def startA (n : Nat) (ds : List D) : Sl := ds.map some ++ List.replicate (n - ds.length) none
theorem startA_rep {ι : List Addr} {H : Hp} {N : List Str} {ds : List D} {vs : List V} (r : Reps ι H ds vs) : SRep ι H (startA N.length ds) (L2.start N vs) := by
  unfold startA L2.start
  refine ⟨by simp [r.length], fun i d e => ?_⟩
  by_cases hi : i < ds.length
  · rw [List.getElem?_append_left (by simpa using hi), List.getElem?_map] at e
    rw [List.getElem?_append_left (by rw [List.length_map, ← r.length]; exact hi), List.getElem?_map]
    cases q : ds[i]? with
    | none => rw [q] at e; cases e
    | some d' =>
      rw [q] at e
      cases e
      obtain ⟨v, h1, h2⟩ := r.get q
      exact ⟨v, by rw [h1]; rfl, h2⟩
  · rw [List.getElem?_append_right (by simpa using hi)] at e
    have := List.mem_of_getElem? e
    simp at this
/-- what a def's body is to reach -/
def ends (P : PD) (E : XP) : AEnds where
  nx := fun _ M => P .non M
  rt := P
  ex := fun c fs _ M => E c fs M
theorem ends_ok {ι : List Addr} {H : Hp} {P : PD} {F : XP} {Q : VK} {E : XK} (k : Cl ι H P Q) (x : ClX ι H F E) : ClE ι H (ends P F) { nx := fun _ H' => Q .non H', rt := Q } (fun cls d _ H => E cls d H) :=
  ⟨fun ρ M' ι' H' σ q l R _ => k _ _ _ _ _ q l R .non, k, fun _ _ _ _ _ q => q.elim, fun _ _ _ _ _ q => q.elim, fun c fs ρ M' ι' H' σ cls dd q l R _ z => x c fs M' ι' H' cls dd q l R z⟩
section
variable {P : Program} {w : World} {K : PySem.W.Frag} {mg : Str → Option Value} {base : Heap} {k : Nat} {x qual : Str} {params : Arguments} {body : List Stmt} {scope : Scope} {f : Addr} {fd : FuncData} {N ps : List Str} {wp : WPn} {nb : MS}
theorem fng_mk {dvs : List V} {kws : List (Str × V)} (F : FunD K x qual params body scope dvs kws f fd) (S : FnScope N ps scope)
    (hb : ∀ (cdv : Value) (A : Around) (fr : List Env) (s : Shared) (H : Hp) (E : XK), Room k (A.deeper (envOfC qual scope s.heap.objs.size f cdv)) → (A.deeper (envOfC qual scope s.heap.objs.size f cdv)).guards = some [] →
      CSs (cxOf (L2N.CX P w) P w K mg base N qual scope f cdv A fr s H E) (fun cls d _ H => E cls d H) body nb)
    (hw : ∀ ds M P E, ds.length = ps.length → wp ds M P E → nb (startA N.length ds) M (ends P E)) : FnG P w K mg base (k + 1) f fd ps (spA ps.length wp) :=
  fng_of F S (fun vs H Q E h => spA_len h) fun cdv A fr s H vs Q E room gd ⟨ι, M, ds, Pd, F, R, r, ⟨hl, q⟩, k, x⟩ =>
    ⟨_, (hb cdv A fr s H E room gd).ps, ts_in R (startA_rep r) (hw ds M Pd F hl q) (ends_ok k x)⟩
end

/-! ## raise -/
section
variable {P : Program} {w : World} {K : PySem.W.Frag} {mg : Str → Option Value} {base : Heap}
/-- C.__init__(self, f): self.f = f -/
def spI (C : Addr) (f : Str) : Sp := fun vs H Q _ => ∃ (a : Addr) (v : V), vs = [.ref a, v] ∧ H a = some (exo a C none) ∧ ∀ dx, H dx = none → dx ≠ a → Q .non (upd (upd H dx (exd dx [(f, v)])) a (exo a C (some dx)))
structure XC (P : Program) (w : World) (K : PySem.W.Frag) (mg : Str → Option Value) (base : Heap) (x : Str) (C : Addr) (f : Str) : Prop where
  T : OexC K C
  mgC : mg x = some (.ref C)
  init : ∃ fI fd, PySem.W.findIn K (.ref C) "__init__" = some (some (.ref fI)) ∧ PySem.W.typeIn K (.ref fI) = some (.type "function") ∧ FnG P w K mg base 1 fI fd ["self", f] (spI C f) ∧ Binds K fd ["self", f] []
theorem init_ok {C f : Addr} {fl x qual : Str} {params : Arguments} {scope : Scope} {fd : FuncData} {p1 p2 p3 p4 : Pos} (T : OexC K C) (no : PySem.W.findIn K (.ref C) fl = some none) (F : FunD K x qual params [.Assign [.Attribute (.Name "self" p1) fl p2] (.Name fl p3) p4] scope [] [] f fd)
    (S : FnScope ["self", fl] ["self", fl] scope) (h1 : scope.names.lookup ("self" : Str) = some NameKind.local) (h2 : scope.names.lookup fl = some NameKind.local) (h3 : (fl == ("__debug__" : Str)) = false) (h4 : (fl == ("__classdict__" : Str)) = false) : FnG P w K mg base 1 f fd ["self", fl] (spI C fl) := by
  refine fng_of F S (fun vs H Q E ⟨a, v, h, _⟩ => by rw [h]; rfl) fun cdv A fr s H vs Q E room gd ⟨a, v, hv, ha, hq⟩ => ?_
  refine ⟨_, pss_one (ps_ost (pe_var (i := 0) rfl (Or.inl h1)) (pe_var (i := 1) rfl (Or.inl h2) h3 h4)), ?_⟩
  subst hv
  exact ⟨v, rfl, .ref a, rfl, a, C, rfl, T, no, Or.inl ⟨ha, fun dx n ne => hq dx n ne⟩⟩
end
section
variable {X : Cx} {W : WX} {e o : Expr} {es : List Expr} {m mo : ME} {ma : MA} {pos p apos : Pos} {x : Str}
/-- C(e) as an exception -/
def tMkX (C : Addr) (f : Str) (ta : TA) : L2.St → Hp → XK → Prop := fun σ H Q => ta σ H fun vs H1 => ∃ v, vs = [v] ∧ ∀ d, H1 d = none → ∀ H2, (∀ b, b ≠ d → H2 b = H1 b) → H2 d = some (.xd [(f, v)]) → Q (.ref C) (some d) H2
theorem pmkX {C : Addr} {f : Str} {ta : TA} (T : XC X.prog X.w X.K X.mg X.base x C f) (room : Room 2 X.A) (gd : X.A.guards = some []) (ha : PA X [e] ta) (hg : Gl X x := by rfl) (hdb : (x == ("__debug__" : Str)) = false := by decide)
    (he : starEach [e] X.env = (false, eval e X.env) :: starEach [] X.env := by rfl) (hpl : (backTo pos (starEach [] X.env)).any (·.1) = false := by rfl) : L2N.PMk X (.Call (.Name x p) [e] [] pos) (tMkX C f ta) := by
  intro pins s σ H Q I h
  obtain ⟨nm, q, N, bs, bm, sn, sub, ab, col, dd, k0, k1, k2, k3, k5, hC, hbm⟩ := T.T.cls
  obtain ⟨fI, fd, iC, tI, G, hb⟩ := T.init
  refine wpAny_Call_Name_kw (ld_glob I hg T.mgC (PySem.W.callWith_K (h₀ := X.base) I.ok.mod.kin T.T.kC (thn (ha.run pos pins s σ H _ I h) fun us s1 ⟨vs, H1, I1, rv, v, ev, want⟩ => ⟨I1.kIn, ?_⟩) he hpl) hdb)
  subst ev
  obtain ⟨u, eu, ru⟩ := vals1 rv
  subst eu
  obtain ⟨hp, g, dr, tk, os⟩ := s1
  let h2 : Heap := (hp.push (PySem.W.kdv_tup [u])).push (PySem.HandSPX.excO C hp.objs.size)
  have stands : ∀ b o, hp.get? b = some o → h2.get? b = some o := fun b o z => Heap.get?_push_of_some _ (Heap.get?_push_of_some _ z)
  have up : hp.objs.size ≤ hp.objs.size + 1 := Nat.le_succ _
  have at2 : h2.get? (hp.objs.size + 1) = some (PySem.HandSPX.excO C hp.objs.size) := by heap_get
  have fresh : H1 (hp.objs.size + 1) = none := I1.hok.fresh up
  have I2 : L2.Inv X pins σ (upd H1 (hp.objs.size + 1) (exo (hp.objs.size + 1) C none)) ⟨h2, g, dr, tk, os⟩ := I1.laid (t' := tk) (a := hp.objs.size + 1) (o := exo (hp.objs.size + 1) C none) (h' := h2) stands up (exo_ok at2)
  have line1 : [u].length ≤ sizeLine := by show 1 ≤ sizeLine; decide
  have bd := hb ⟨h2, g, dr, tk, os⟩ [Value.ref (hp.objs.size + 1), u] I2.kIn rfl
  refine wpAny_call (PySem.HandSPX.call_own PySem.F.excBase_ValueError (fun Y => PySem.HandSPX.refsVE_contains Y bm hbm) (I1.kIn _ _ hC) (PySem.W.looks_findIn I1.kIn iC) (fun self => PySem.W.bind_fn I1.kIn self tI) line1 (codeAny_mono
    (G.run _ X.stack _ _ ⟨[Value.ref (hp.objs.size + 1), u], []⟩ [Value.ref (hp.objs.size + 1), u] [V.ref (hp.objs.size + 1), v] (fun v' H3 => v' = .non ∧ ∃ d, H1 d = none ∧ d ≠ hp.objs.size + 1 ∧ H3 = upd (upd (upd H1 (hp.objs.size + 1) (exo (hp.objs.size + 1) C none)) d (exd d [(f, v)])) (hp.objs.size + 1) (exo (hp.objs.size + 1) C (some d)))
      (fun _ _ _ => False) (room.make C [u] []) gd (I2.env0.make C [u] []) bd (.cons rfl (.cons ru .nil)) ⟨_, v, rfl, upd_same, fun dx n1 n2 => ⟨rfl, dx, by rw [upd_ne n2] at n1; exact n1, n2, rfl⟩⟩) ?_))
  intro res s3 z
  match res, z with
  | .error er, ⟨_, _, _, _, _, _, _, _, _, _, _, _, bad⟩ => exact bad.elim
  | .ok .next, z => exact z.elim
  | .ok .brk, z => exact z.elim
  | .ok .cont, z => exact z.elim
  | .ok (.ret u3), ⟨v3, H3, os3, bare3, un3, hok3, rv3, ev3, d, hd1, hda, eH⟩ =>
    subst ev3
    obtain ⟨hp3, g3, dr3, tk3, os'⟩ := s3
    have ea : H3 (hp.objs.size + 1) = some (exo (hp.objs.size + 1) C (some d)) := by rw [eH]; exact upd_same
    have ed : H3 d = some (exd d [(f, v)]) := by rw [eH, upd_ne hda]; exact upd_same
    obtain ⟨t0, G3, J, keepG, gone, there, na⟩ := mk_end0 (d2 := dr3) (t2 := tk3) I1 up stands un3 hok3 os3 bare3 ea ed hd1
    refine ⟨rv3, hp.objs.size + 1, _, _, ⟨G3, g3, dr3, tk3, os'⟩, _, .ref C, some d, rfl, J, keepG, gone, there, ⟨rfl, rfl, fun vs e => ?_⟩, rfl, rfl, na, rfl, bare3, raises_own T.T.exC T.T.tyC, want d hd1 _ (fun b hb => ?_) upd_same⟩
    · cases e; rfl
    · rw [upd_ne hb]
      unfold del
      by_cases hba : b = hp.objs.size + 1
      · rw [if_pos hba, hba, fresh]
      · rw [if_neg hba, eH, upd_ne hba, upd_ne hb, upd_ne hba]
/-- raise C(e) -/
def kRaise (C : Addr) (f : Str) (ma : MA) : MS := fun ρ M A => ma ρ M (fun ds M1 => match ds with
  | [d] => A.ex (.ref C) [(f, d)] ρ M1
  | _ => False) (A.xp ρ)
theorem cs_raise {C : Addr} {f : Str} {pos2 : Pos} (hc : X.calm = true) (T : XC X.prog X.w X.K X.mg X.base x C f) (room : Room 2 X.A) (gd : X.A.guards = some []) (tk : L2N.Takes X W) (ha : CA X W [e] ma) (hg : Gl X x := by rfl) (hdb : (x == ("__debug__" : Str)) = false := by decide)
    (he : starEach [e] X.env = (false, eval e X.env) :: starEach [] X.env := by rfl) (hpl : (backTo pos (starEach [] X.env)).any (·.1) = false := by rfl) : CS X W (.Raise (some (.Call (.Name x p) [e] [] pos)) none pos2) (kRaise C f ma) :=
  cs_of (L2N.ps_raise hc tk (pmkX T room gd ha.pa hg hdb he hpl)) fun D σ H ι M ρ A R S q x => ta_in R S q (x.ex.at S) fun ds M1 ι1 H1 vs q1 l1 R1 r1 => by
    cases r1 with
    | nil => exact q1.elim
    | cons ra rb => cases rb with
      | nil =>
        refine ⟨_, rfl, fun d hd H2 keep ed => ?_⟩
        have dn : d ∉ ι1 := fun hm => by
          obtain ⟨n, hn⟩ := List.mem_iff_getElem?.mp hm
          exact R1.ne_new hd hn rfl
        have l2 : Later ι1 H1 ι1 H2 := ⟨⟨[], by simp⟩, fun a xs h => by rw [keep a (ne_of_none h hd)]; exact h⟩
        have R2 : Rel ι1 M1 H2 := ⟨R1.len, R1.nd, fun n a o h ho => (R1.ob n a o h ho).mono l2 (keep a (R1.ne_new hd h))⟩
        exact x.ex _ _ ρ M1 ι1 H2 σ (.ref C) (some d) q1 (l1.trans l2) R2 (S.mono (l1.trans l2)) ⟨rfl, .inr ⟨d, _, rfl, by simp, dn, ed, .cons (ra.mono l2) .nil⟩⟩
      | cons => exact q1.elim
end
end AL
namespace AL
open PySem L2 PySem.Spec PyProof.Rows
section
variable {X : Cx} {W : WX} {e o : Expr} {es : List Expr} {m mo : ME} {ma : MA} {pos p apos : Pos} {x n : Str} {nb : MS}
/-! ## try .. except X as n -/
def AEnds.behind (A : AEnds) (i : Nat) : AEnds where
  nx := fun ρ M => A.nx (ρ.set i none) M
  rt := A.rt
  bk := fun ρ M => A.bk (ρ.set i none) M
  ct := fun ρ M => A.ct (ρ.set i none) M
def kTryAs (i : Nat) (exm : Value → Option Bool) (nb : MS) (ns : Addr → Value → Option Addr → MS) : MS := fun ρ M A =>
  nb ρ M { A with ex := fun c fs ρ' M' => ∃ b, exm c = some b ∧ (match b with
    | true => ∀ a, (match fs with
      | [] => ns a c none (ρ'.set i (some (.err a M'.length))) M' (A.behind i)
      | _ :: _ => ∀ d, ns a c (some d) (ρ'.set i (some (.err a M'.length))) (M' ++ [.xd d fs]) (A.behind i))
    | false => A.ex c fs ρ' M') }
theorem cs_try_as (i : Nat) {c : Value} {body suite : List Stmt} {b₀ : Stmt} {np pos' : Pos} {ns : Addr → Value → Option Addr → MS} (hN : X.N.Nodup) (hc : Names X x c) (tk : L2N.Takes X W)
    (hb : ∀ (W' : WX) (pn : List (Addr × Obj)) (xe : Value → Shared → Prop), L2N.Takes (X.tr pn xe) W' → PassesOwn (model X.prog X.w) X.A X.env xe → CSs (X.tr pn xe) W' body nb)
    (hsu : ∀ (a : Addr) (oe : Obj) (cls : Value) (d : Option Addr) (pn : List (Addr × Obj)), L2N.Zn cls d oe → (∃ vs, oe.data = .fields vs) → CSs (X.suite a ((a, oe) :: pn)) W0 (b₀ :: suite) (ns a cls d))
    (hi : X.N[i]? = some n := by rfl) (hln : X.env.kindOf n = some .local := by rfl) (hs : X.stack = X.env :: X.outer := by rfl) (hf : X.env.frame = some X.env.locals := by rfl) :
    CS X W (.Try body [.ExceptHandler (some (.Name x np)) (some n) (b₀ :: suite) pos'] [] [] pos) (kTryAs i (fun c' => PySem.W.exmOne X.K c' c) nb ns) :=
  cs_of (L2N.ps_try_as (tb := fun W' => TS' W' nb) (ts := fun a cls d => TS' W0 (ns a cls d)) hs hf hN hi hln hc tk (fun W' pn xe t1 t2 => (hb W' pn xe t1 t2).ps) (fun a oe cls d pn z f => (hsu a oe cls d pn z f).ps)) fun D σ H ι M ρ A R S q x => by
    refine ts_in R S q ⟨x.nx, x.rt, x.bk, x.ct, fun c' fs ρ' M' ι' H' σ' cls dd ⟨b, eb, q'⟩ l R' S' z => ?_⟩
    obtain ⟨zc, z⟩ := z
    subst zc
    refine ⟨b, eb, fun hb a ha => ?_, fun hb => ?_⟩
    · subst hb
      have q' := q' a
      have fin : ∀ {ι2 : List Addr} {M2 : Mem} {d2 : Option Addr}, Rel ι2 M2 H' → Later ι' H' ι2 H' → ns a cls d2 (ρ'.set i (some (.err a M'.length))) M2 (A.behind i) →
          TS' W0 (ns a cls d2) { nx := fun σ' H' => D.nx (σ'.set i none) H', rt := D.rt, bk := fun σ' H' => D.bk (σ'.set i none) H', ct := fun σ' H' => D.ct (σ'.set i none) H' } (σ'.set i (some (.ref a))) H' := fun {ι2 M2 d2} R2 l2 q2 => by
        have l02 := l.trans l2
        refine ts_in R2 ((S'.mono l2).set (.err a _) i) q2 ⟨fun ρ3 M3 ι3 H3 σ3 q3 l3 R3 S3 => x.nx _ _ _ _ _ q3 (l02.trans l3) R3 (S3.unset i), x.rt.mono l02, fun ρ3 M3 ι3 H3 σ3 q3 l3 R3 S3 => x.bk _ _ _ _ _ q3 (l02.trans l3) R3 (S3.unset i), fun ρ3 M3 ι3 H3 σ3 q3 l3 R3 S3 => x.ct _ _ _ _ _ q3 (l02.trans l3) R3 (S3.unset i), fun _ _ _ _ _ _ _ _ _ q3 => q3.elim⟩
      rcases z with ⟨z1, z2⟩ | ⟨d, gs, z1, z2, z3, z4, z5⟩
      · subst z1; subst z2
        exact fin R' .refl q'
      · subst z1
        cases fs with
        | nil => exact absurd rfl z2
        | cons f r =>
          have l2 : Later ι' H' (ι' ++ [d]) H' := ⟨⟨[d], rfl⟩, fun _ _ h => h⟩
          have R2 : Rel (ι' ++ [d]) (M' ++ [.xd d (f :: r)]) H' := by
            refine ⟨by simp [R'.len], ?_, fun m b o' h1 h2 => ?_⟩
            · refine List.nodup_append.mpr ⟨R'.nd, by simp, fun b hb c hc => ?_⟩
              have : c = d := by simpa using hc
              rw [this]
              exact fun e => z3 (e ▸ hb)
            · by_cases hm : m < ι'.length
              · rw [List.getElem?_append_left hm] at h1
                rw [List.getElem?_append_left (by rw [← R'.len]; exact hm)] at h2
                exact (R'.ob m b o' h1 h2).mono l2 rfl
              · have hl : m = ι'.length := by
                  have := (List.getElem?_eq_some_iff.mp h1).1
                  simp at this; omega
                subst hl
                have e1 : b = d := by simpa using h1.symm
                have e2 : o' = .xd d (f :: r) := by
                  rw [R'.len] at h2
                  simpa using h2.symm
                subst e1; subst e2
                exact ⟨rfl, gs, z4, z5.mono l2⟩
          exact fin R2 l2 (q' d)
    · subst hb
      exact x.ex _ _ _ _ _ _ _ _ _ q' l R' S' ⟨rfl, z⟩

/-! ## what a suite asks of its error -/
def XfOk (K : PySem.W.Frag) (cls : Value) (f : Str) : Prop := ∃ C, cls = .ref C ∧ XfC K C ∧ PySem.W.findIn K (.ref C) f = some none
/-- e.f -/
def mXf (K : PySem.W.Frag) (a : Addr) (cls : Value) (d : Option Addr) (f : Str) (m : ME) : ME := fun ρ M P E => XfOk K cls f ∧ m ρ M (fun x M1 => match x with
  | .err a' n => a' = a ∧ (match M1[n]? with
    | some (.xd dd fs) => d = some dd ∧ (match fs.lookup f with
      | some y => P y M1
      | none => False)
    | _ => False)
  | _ => False) E
theorem c_xf {a : Addr} {oe : Obj} {cls : Value} {d : Option Addr} {pn : List (Addr × Obj)} {f : Str} (hz : Zc cls d oe) (hf : ∃ vs, oe.data = .fields vs) (he : CE (X.suite a ((a, oe) :: pn)) W e m) (hb : attributeBase e f X.env (eval e X.env) = eval e X.env := by rfl) :
    CE (X.suite a ((a, oe) :: pn)) W (.Attribute e f pos) (mXf X.K a cls d f m) := by
  refine ⟨⟨fun pins s σ H Q I h => ?_⟩⟩
  obtain ⟨ι, M, ρ, P, E, R, S, ⟨⟨C, ec, T, no⟩, q⟩, k, x⟩ := h
  refine (pe_xf (C := C) T no hz hf he.pe hb).run pins s σ H Q I ?_
  refine te_in R S q x fun y M1 ι1 H1 v q1 l1 R1 r1 => ?_
  cases r1 with
  | err a' n =>
    obtain ⟨ea, q1⟩ := q1
    split at q1
    · rename_i dd fs em
      obtain ⟨ed, q1⟩ := q1
      split at q1
      · rename_i y ey
        have hn : n < ι1.length := by rw [R1.len]; exact (List.getElem?_eq_some_iff.mp em).1
        obtain ⟨z1, gs, z2, z3⟩ := R1.ob n _ _ (List.getElem?_eq_getElem hn) em
        rw [z1] at z2
        obtain ⟨w, w1, w2⟩ := z3.look ey
        exact ⟨by rw [ea], ec, dd, gs, w, ed, z2, w1, k _ _ _ _ _ q1 l1 R1 w2⟩
      · exact q1.elim
    · exact q1.elim
  | _ => exact q1.elim
/-- the classes that isinstance is asked for -/
def cls? : D → Option Value
  | .ty n => some (.type n)
  | .adr C => some (.ref C)
  | _ => none
def clss? : List D → Option (List Value)
  | [] => some []
  | d :: ds => match cls? d, clss? ds with
    | some v, some vs => some (v :: vs)
    | _, _ => none
theorem cls_rep {ι : List Addr} {H : Hp} {d : D} {v : V} {u : Value} (h : cls? d = some u) (r : Rep ι H d v) : ClsV v u := by
  cases r with
  | ty n => cases h; exact .ty n
  | adr C => cases h; exact .own C
  | _ => cases h
theorem clss_rep {ι : List Addr} {H : Hp} : ∀ {ds : List D} {vs : List V} {us : List Value}, clss? ds = some us → Reps ι H ds vs → Paired ClsV vs us
  | _, _, _, h, .nil => by cases h; exact .nil
  | _, _, _, h, .cons r1 r2 => by
    simp only [clss?] at h
    split at h
    · rename_i v vs e1 e2
      cases h
      exact .cons (cls_rep e1 r1) (clss_rep e2 r2)
    · cases h
/-- isinstance(e, ..), e the suite's error -/
def fIsE (K : PySem.W.Frag) (a : Addr) (cls : Value) (d : Option Addr) : D → D → Mem → PD → Prop := fun x y M P => match x with
  | .err a' n => a' = a ∧ (∃ C, cls = .ref C ∧ ExcC K C) ∧ (d = none ∨ ∃ dd fs, d = some dd ∧ M[n]? = some (.xd dd fs)) ∧ (match y with
    | .tup cs => ∃ us b, clss? cs = some us ∧ PySem.W.kitAny K cls us = some b ∧ P (.bl b) M
    | y => ∃ u b, cls? y = some u ∧ PySem.W.kitOne K cls u = some b ∧ P (.bl b) M)
  | _ => False
theorem call_isE' {a : Addr} {oe : Obj} {cls : Value} {d : Option Addr} {pn : List (Addr × Obj)} (hz : Zc cls d oe) (hf : ∃ vs, oe.data = .fields vs) : CallA (X.suite a ((a, oe) :: pn)) (.builtin "isinstance") (a2 (fIsE X.K a cls d)) := by
  intro pins s σ H xs us Q I r h
  obtain ⟨ι, M, ds, P, R, rs, ha, k⟩ := h
  obtain ⟨d1, d2, v, u, rfl, rd, re, q⟩ := a2_of rs ha
  cases rd with
  | err a' n =>
    obtain ⟨rfl, ⟨C, ec, T⟩, hd, q⟩ := q
    subst ec
    obtain ⟨u1, u2, rfl, r1, r2⟩ := vals2 r
    cases r1
    obtain ⟨hget, _⟩ := I.pin (a', oe) (List.mem_append.mpr (.inl List.mem_cons_self))
    obtain ⟨vs, hv⟩ := hf
    have J : ∃ od, PySem.W.InstAt s.heap a' oe C od := by
      have notC : PySem.W.notCls oe = true := by unfold PySem.W.notCls; rw [hv] <;> rfl
      rcases hd with e | ⟨dd, fs, e, em⟩
      · exact ⟨none, hget, hz.1, notC, by rw [hz.2, e]; trivial⟩
      · have hn : n < ι.length := by rw [R.len]; exact (List.getElem?_eq_some_iff.mp em).1
        obtain ⟨z1, gs, z2, _⟩ := R.ob n _ _ (List.getElem?_eq_getElem hn) em
        rw [z1] at z2
        obtain ⟨mA, hns, _⟩ := (show ObjOk X.prog X.w H s.heap dd (.xd gs) from I.hok dd _ z2)
        obtain ⟨od, ho, _⟩ := lookIn_ns hns
        exact ⟨some od, hget, hz.1, notC, by rw [hz.2, e]; exact ho⟩
    obtain ⟨od, J⟩ := J
    have one : ∀ {y : D} {cv : Value} {b : Bool}, cls? y = some cv → Rep ι H y u → PySem.W.kitOne X.K (.ref C) cv = some b → P (.bl b) M → wpAny (model X.prog X.w) (X.suite a' ((a', oe) :: pn)).A (call (.builtin "isinstance") [.ref a', u2]) (EP (X.suite a' ((a', oe) :: pn)) pins σ Q) (X.suite a' ((a', oe) :: pn)).xe s := fun {y cv b} h1 h2 h3 h4 => by
      have e2 := (cls_rep h1 h2).eq r2
      subst e2
      exact PySem.W.kia_one (exc_kit T) I.kIn J h3 (fun z => nomatch z) fun tk => ⟨.bl b, H, I.kept (t' := tk) fun _ _ z => z, rfl, k _ _ _ _ _ h4 .refl R (.bl _)⟩
    cases re with
    | tup e1 rt =>
      obtain ⟨ws, b, h1, h2, h3⟩ := q
      have kk := clss_rep h1 rt
      cases r2
      obtain ⟨_, its, rv, o, g1, g2, n2, g3⟩ := (show ObjOk X.prog X.w H s.heap _ (.tup _) from I.hok _ _ e1)
      have e3 := ClsV.all kk rv
      subst e3
      obtain ⟨oc, od2, dt, sl⟩ := o
      simp only at g2 g3
      subst g2 g3
      exact PySem.W.kia_tup (exc_kit T) I.kIn J g1 h2 (fun z => nomatch z) fun tk => ⟨.bl b, H, I.kept (t' := tk) fun _ _ z => z, rfl, k _ _ _ _ _ h3 .refl R (.bl _)⟩
    | ty n2 =>
      obtain ⟨cv, b, h1, h2, h3⟩ := q
      exact one h1 (.ty n2) h2 h3
    | adr C2 =>
      obtain ⟨cv, b, h1, h2, h3⟩ := q
      exact one h1 (.adr C2) h2 h3
    | non => obtain ⟨cv, b, h1, _⟩ := q; cases h1
    | bl => obtain ⟨cv, b, h1, _⟩ := q; cases h1
    | int => obtain ⟨cv, b, h1, _⟩ := q; cases h1
    | str => obtain ⟨cv, b, h1, _⟩ := q; cases h1
    | err => obtain ⟨cv, b, h1, _⟩ := q; cases h1
    | ref => obtain ⟨cv, b, h1, _⟩ := q; cases h1
  | _ => exact q.elim
end

/-! ## repr of data -/
def keyP : Key → PyData
  | .inl i => .int i
  | .inr x => .str x
mutual
inductive DS (M : Mem) : D → PyData → Prop
  | non : DS M .non .none
  | bl (b : Bool) : DS M (.bl b) (.bool b)
  | int (i : Int) : DS M (.int i) (.int i)
  | str (x : Str) : DS M (.str x) (.str x)
  | tup {ds : List D} {ps : List PyData} (h : DSs M ds ps) : DS M (.tup ds) (.tuple ps)
  | lst {n : Nat} {ds : List D} {ps : List PyData} (e : M[n]? = some (.lst ds)) (h : DSs M ds ps) : DS M (.ref n) (.list ps)
  | dic {n : Nat} {kvs : List (Key × D)} {ps : List PyData} (e : M[n]? = some (.dic kvs)) (h : DSs M (kvs.map (·.2)) ps) : DS M (.ref n) (.dict ((kvs.map fun kv => keyP kv.1).zip ps))
inductive DSs (M : Mem) : List D → List PyData → Prop
  | nil : DSs M [] []
  | cons {d : D} {p : PyData} {ds : List D} {ps : List PyData} (h : DS M d p) (r : DSs M ds ps) : DSs M (d :: ds) (p :: ps)
end
theorem DSs.length {M : Mem} : ∀ {ds : List D} {ps : List PyData}, DSs M ds ps → ds.length = ps.length
  | _, _, .nil => rfl
  | _, _, .cons _ r => congrArg (· + 1) r.length
section
variable {X : Cx} {pins : List (Addr × Obj)} {σ : L2.St} {H : Hp} {s : Shared} {ι : List Addr} {M : Mem}
def Tracked (H : Hp) (as : List Addr) : Prop := ∀ a ∈ as, H a ≠ none
theorem Tracked.app {H : Hp} {as bs : List Addr} (h1 : Tracked H as) (h2 : Tracked H bs) : Tracked H (as ++ bs) := fun a ha => (List.mem_append.mp ha).elim (h1 a) (h2 a)
theorem keys_read {h : Heap} : ∀ {ks : List Key} {us : List Value}, Paired (fun k u => keyIs k u = true) ks us → ReadsAll h us (ks.map keyP) []
  | _, _, .nil => .nil
  | _, _, .cons (a := k) (b := u) r t => by
    have rest := keys_read (h := h) t
    have one : Reads h u (keyP k) [] := by
      rcases keyIs_shape r with ⟨i, tk, rfl, rfl⟩ | ⟨x, tk, rfl, rfl⟩
      · exact .int i tk
      · exact .str x tk
    have := ReadsAll.cons one rest
    simpa using this
theorem pairs_split {P : Program} {w : World} : ∀ {es : List DictEntry} {vs : List (Key × Value)}, Pairs (mixKind P w) es vs → Paired (fun k u => keyIs k u = true) (vs.map (·.1)) (es.map (·.key)) ∧ es.map (·.val) = vs.map (·.2)
  | _, _, .nil => ⟨.nil, rfl⟩
  | _, _, .cons h1 h2 h3 => by
    obtain ⟨a, b⟩ := pairs_split h3
    exact ⟨.cons h1 a, by simp [h2, b]⟩
theorem kv_split : ∀ {kvs : List (Key × V)} {vs : List (Key × Value)}, KV kvs vs → kvs.map (·.1) = vs.map (·.1) ∧ Vals (kvs.map (·.2)) (vs.map (·.2))
  | _, _, .nil => ⟨rfl, .nil⟩
  | _, _, .cons r t => by
    obtain ⟨a, b⟩ := kv_split t
    exact ⟨by simp [r.1, a], .cons r.2 b⟩
theorem frep_split {κ : Type} {ι : List Addr} {H : Hp} : ∀ {ds : List (κ × D)} {vs : List (κ × V)}, FRep ι H ds vs → ds.map (·.1) = vs.map (·.1) ∧ Reps ι H (ds.map (·.2)) (vs.map (·.2))
  | _, _, .nil => ⟨rfl, .nil⟩
  | _, _, .cons r t => by
    obtain ⟨a, b⟩ := frep_split t
    exact ⟨by simp [a], .cons r b⟩
theorem zip_fst {kvs : List (Key × D)} {ps : List PyData} (h : (kvs.map (·.2)).length = ps.length) : ((kvs.map fun kv => keyP kv.1).zip ps).map (·.1) = (kvs.map (·.1)).map keyP := by
  rw [List.length_map] at h
  rw [List.map_fst_zip (by simp [h]), List.map_map]
  rfl
theorem zip_snd {kvs : List (Key × D)} {ps : List PyData} (h : (kvs.map (·.2)).length = ps.length) : ((kvs.map fun kv => keyP kv.1).zip ps).map (·.2) = ps := by
  rw [List.length_map] at h
  rw [List.map_snd_zip (by simp [h])]
mutual
theorem DS.reads (I : L2.Inv X pins σ H s) (R : Rel ι M H) : ∀ {d : D} {p : PyData} {v : V} {u : Value}, DS M d p → Rep ι H d v → RelV v u → ∃ as, Reads s.heap u p as ∧ Tracked H as
  | _, _, _, _, .non, .non, r => by cases r; exact ⟨_, .none, fun _ h => nomatch h⟩
  | _, _, _, _, .bl b, .bl _, r => by cases r; exact ⟨_, .bool b, fun _ h => nomatch h⟩
  | _, _, _, _, .int i, .int _, r => by obtain ⟨t, rfl⟩ := r; exact ⟨_, .int i t, fun _ h => nomatch h⟩
  | _, _, _, _, .str x, .str _, r => by obtain ⟨t, rfl⟩ := r; exact ⟨_, .str x t, fun _ h => nomatch h⟩
  | _, _, _, _, .tup h, .tup e q, r => by
    cases r
    obtain ⟨its, rv, ⟨o, ho, hc, n, hd⟩, _⟩ := I.tuple (SqT.of e)
    obtain ⟨as, hr, ht⟩ := DSs.reads I R h q rv
    exact ⟨as, .tuple ho hc hd hr, ht⟩
  | _, _, _, _, .lst em h, .ref e, r => by
    cases r
    obtain ⟨vs, h1, q⟩ := R.lstAt e em
    obtain ⟨_, its, n, rv, ho⟩ := (show ObjOk X.prog X.w H s.heap _ (.lst vs) from I.hok _ _ h1)
    obtain ⟨as, hr, ht⟩ := DSs.reads I R h q rv
    exact ⟨_, .list ho rfl rfl hr, fun a ha => (List.mem_cons.mp ha).elim (fun z => by rw [z, h1]; exact fun y => nomatch y) (ht a)⟩
  | _, _, _, _, .dic em h, .ref e, r => by
    cases r
    obtain ⟨kv, h1, q⟩ := R.ob _ _ _ e em
    obtain ⟨_, hs, vs, hkv, o, es, ep, ho, hx, hdt, _, hp, _⟩ := (show ObjOk X.prog X.w H s.heap _ (.dK kv) from I.hok _ _ h1)
    obtain ⟨k1, k2⟩ := frep_split q
    obtain ⟨k3, k4⟩ := kv_split hkv
    obtain ⟨k5, k6⟩ := pairs_split hp
    obtain ⟨as, hr, ht⟩ := DSs.reads I R h k2 k4
    have hl := h.length
    refine ⟨_, .dict ho hx.1 hdt (as := []) (bs := as) ?_ ?_, fun a ha => ?_⟩
    · rw [zip_fst hl, k1, k3]
      exact keys_read k5
    · rw [zip_snd hl, k6]
      exact hr
    · simp only [List.append_nil, List.cons_append, List.nil_append, List.mem_cons] at ha
      exact ha.elim (fun z => by rw [z, h1]; exact fun y => nomatch y) (ht a)
theorem DSs.reads (I : L2.Inv X pins σ H s) (R : Rel ι M H) : ∀ {ds : List D} {ps : List PyData} {vs : List V} {us : List Value}, DSs M ds ps → Reps ι H ds vs → Vals vs us → ∃ as, ReadsAll s.heap us ps as ∧ Tracked H as
  | _, _, _, _, .nil, .nil, .nil => ⟨[], .nil, fun _ h => nomatch h⟩
  | _, _, _, _, .cons h1 h2, .cons a b, .cons r1 r2 => by
    obtain ⟨as, q1, t1⟩ := DS.reads I R h1 a r1
    obtain ⟨bs, q2, t2⟩ := DSs.reads I R h2 b r2
    exact ⟨_, .cons q1 q2, t1.app t2⟩
end
/-- repr(x) of a list, a tuple, a dict -/
def fRepr : D → Mem → PD → Prop := fun x M P => ∃ p, DS M x p ∧ p.showable = true ∧ p.depth ≤ 40 ∧ p.shown.length ≤ sizeLine ∧ (∀ i, x ≠ .int i) ∧ (∀ z, x ≠ .str z) ∧ x ≠ .non ∧ (∀ b, x ≠ .bl b) ∧ P (.str p.shown) M
theorem call_reprA (gd : X.A.guards = some []) (hu : X.A.units + 64 < cLine) (sys : ∃ o, X.K.lookup sysModules = some o) : CallA X (.builtin "repr") (a1 fRepr) := by
  intro pins s σ H xs us Q I r h
  obtain ⟨ι, M, ds, P, R, rs, ha, k⟩ := h
  obtain ⟨d, v, rfl, rd, p, hp, hs, hd, hz, n1, n2, n3, n4, q⟩ := a1_of rs ha
  obtain ⟨u, rfl, ru⟩ := vals1 r
  obtain ⟨as, hr, ht⟩ := DS.reads I R hp rd ru
  obtain ⟨o, ho⟩ := sys
  have free : H sysModules = none := (I.bs sysModules o (I.mod.kin _ _ ho)).2
  have hsm : p.hasDict = true → sysModules ∉ as := fun _ hm => ht _ hm free
  have ok : ∀ a, u = .ref a → wpAny (model X.prog X.w) X.A (call (.builtin "repr") [u]) (EP X pins σ Q) X.xe s := fun a ea => by
    subst ea
    refine repr_of_reads' hr hs hsm gd (by omega) (fun _ _ z => z) (fun h' t tk keep => ?_) hz
    exact ⟨.str p.shown, H, I.kept (t' := tk) keep, ⟨_, rfl⟩, k _ _ _ _ _ q .refl R (.str _)⟩
  cases rd with
  | int i => exact absurd rfl (n1 i)
  | str z => exact absurd rfl (n2 z)
  | non => exact absurd rfl n3
  | bl b => exact absurd rfl (n4 b)
  | tup e q => exact ok _ ru
  | ref e => exact ok _ ru
  | ty => cases hp
  | adr => cases hp
  | err => cases hp
end
end AL
namespace AL
open PySem L2 PySem.Spec PyProof.Rows
section
variable {X : Cx} {W : WX} {a b c e o : Expr} {m m1 m2 : ME} {pos : Pos}
/-! ## text * int -/
def aMulS : A2 := fun x y M P => match x with
  | .str s => (match y with
    | .int j => (2 ≤ j ∧ j ≤ 1000 ∧ s.length ≤ 1000 ∧ (s.length == 0) = false) ∧ P (.str ⟨(List.replicate j.toNat s.cps).foldl (· ++ ·) #[]⟩) M
    | _ => False)
  | _ => False
theorem opA_mulS : OpA X (binaryOp .Mult) aMulS := by
  intro pins s σ H x y v u Q I rx ry h
  obtain ⟨ι, M, dx, dy, P, R, hx, hy, ha, k⟩ := h
  cases hx with
  | str z => cases hy with
    | int j =>
      obtain ⟨⟨h1, h2, h3, h4⟩, q⟩ := ha
      obtain ⟨t, rfl⟩ := rx
      obtain ⟨t2, rfl⟩ := ry
      have n1 : ¬ j < 1 := by omega
      have n2 : (j == 1 || z.length == 0) = false := by
        rw [h4]
        have : (j == 1) = false := by
          rw [beq_eq_false_iff_ne]
          omega
        rw [this]
        rfl
      have hz : z.length * j.toNat ≤ 1000 * 1000 := Nat.mul_le_mul h3 (by omega)
      refine PySem.P.mul_str ?_ (fun _ _ => ?_) (fun _ _ => ?_) ?_
      · have a1 : ¬ j < -(2 ^ 63 : Int) := by omega
        have a2 : ¬ j ≥ 2 ^ 63 := by omega
        rw [decide_eq_false a1, decide_eq_false a2]
        rfl
      · have : (1000 : Int) ≤ (2 ^ 63 - 1) / j := by
          rw [Int.le_ediv_iff_mul_le (by omega)]
          omega
        omega
      · unfold Builtin.Str.tooLong
        rw [decide_eq_false_iff_not, sizeLine_eq]
        omega
      · rw [if_neg n1, if_neg (by rw [n2]; exact Bool.false_ne_true)]
        refine ⟨?_, ⟨.str _, _, I.kept (t' := s.toks + 1) fun _ _ z => z, ⟨_, rfl⟩, k _ _ _ _ _ q .refl R (.str _)⟩⟩
        show _ ≤ _
        rw [sizeLine_eq]
        have : ((List.replicate j.toNat z.cps).foldl (· ++ ·) #[]).size = j.toNat * z.cps.size := by
          have gen : ∀ (n : Nat) (acc : Array Nat), ((List.replicate n z.cps).foldl (· ++ ·) acc).size = acc.size + n * z.cps.size := by
            intro n
            induction n with
            | zero => intro acc; simp
            | succ n ih => intro acc; rw [List.replicate_succ, List.foldl_cons, ih, Array.size_append, Nat.succ_mul]; omega
          rw [gen]; simp
        show ((List.replicate j.toNat z.cps).foldl (· ++ ·) #[]).size ≤ _
        rw [this, Nat.mul_comm]
        exact Nat.le_trans hz (by decide)
    | _ => exact ha.elim
  | _ => exact ha.elim

/-! ## dict displays -/
def putD (kvs : List (Key × D)) (k : Key) (v : D) : List (Key × D) :=
  if (kvs.any fun kv => decide (kv.1 = k)) = true then kvs.map (fun kv => if kv.1 = k then (kv.1, v) else kv) else kvs ++ [(k, v)]
def mergeD (kvs more : List (Key × D)) : List (Key × D) := more.foldl (fun acc kv => putD acc kv.1 kv.2) kvs
theorem FRep.any {ι : List Addr} {H : Hp} {k : Key} : ∀ {ds : List (Key × D)} {vs : List (Key × V)}, FRep ι H ds vs → (ds.any fun kv => decide (kv.1 = k)) = (vs.any fun kv => decide (kv.1 = k))
  | _, _, .nil => rfl
  | _, _, .cons _ r => by rw [List.any_cons, List.any_cons, r.any]
theorem FRep.upd {ι : List Addr} {H : Hp} {k : Key} {d : D} {v : V} (h : Rep ι H d v) : ∀ {ds : List (Key × D)} {vs : List (Key × V)}, FRep ι H ds vs → FRep ι H (ds.map fun kv => if kv.1 = k then (kv.1, d) else kv) (vs.map fun kv => if kv.1 = k then (kv.1, v) else kv)
  | _, _, .nil => .nil
  | _, _, .cons (k := k') q r => by
    rw [List.map_cons, List.map_cons]
    by_cases e : k' = k
    · simp only [e, if_true]
      exact .cons h (r.upd h)
    · simp only [e, if_false]
      exact .cons q (r.upd h)
theorem FRep.append {ι : List Addr} {H : Hp} {κ : Type} : ∀ {ds es : List (κ × D)} {vs us : List (κ × V)}, FRep ι H ds vs → FRep ι H es us → FRep ι H (ds ++ es) (vs ++ us)
  | _, _, _, _, .nil, s => s
  | _, _, _, _, .cons h r, s => .cons h (r.append s)
theorem FRep.put {ι : List Addr} {H : Hp} {k : Key} {d : D} {v : V} {ds : List (Key × D)} {vs : List (Key × V)} (r : FRep ι H ds vs) (h : Rep ι H d v) : FRep ι H (putD ds k d) (putK vs k v) := by
  unfold putD putK
  rw [r.any]
  split
  · exact r.upd h
  · exact r.append (.cons h .nil)
theorem FRep.merge {ι : List Addr} {H : Hp} {more : List (Key × D)} {us : List (Key × V)} (r0 : FRep ι H more us) : ∀ {ds : List (Key × D)} {vs : List (Key × V)}, FRep ι H ds vs → FRep ι H (mergeD ds more) (mergeK vs us) := by
  induction r0 with
  | nil => exact fun r => r
  | cons h t ih => exact fun r => ih (r.put h)
def keyD : D → Option Key
  | .int i => some (.inl i)
  | .str x => some (.inr x)
  | _ => none
def keyDs : List (D × D) → Option (List (Key × D))
  | [] => some []
  | (k, v) :: r => match keyD k, keyDs r with
    | some k', some r' => some ((k', v) :: r')
    | _, _ => none
def mPairs : List (ME × ME) → Sl → Mem → (List (D × D) → Mem → Prop) → XP → Prop
  | [], _, M, P, _ => P [] M
  | (mk, mv) :: r, ρ, M, P, E => mk ρ M (fun x M1 => mv ρ M1 (fun y M2 => mPairs r ρ M2 (fun ps M3 => P ((x, y) :: ps) M3) E) E) E
inductive PRep (ι : List Addr) (H : Hp) : List (D × D) → List (V × V) → Prop
  | nil : PRep ι H [] []
  | cons {d e : D} {v u : V} {ds : List (D × D)} {vs : List (V × V)} (h : Rep ι H d v) (q : Rep ι H e u) (r : PRep ι H ds vs) : PRep ι H ((d, e) :: ds) ((v, u) :: vs)
theorem keyD_rep {ι : List Addr} {H : Hp} {d : D} {v : V} {k : Key} (e : keyD d = some k) (r : Rep ι H d v) : v = kV k := by
  cases r with
  | int i => cases e; rfl
  | str i => cases e; rfl
  | _ => cases e
theorem keyDs_rep {ι : List Addr} {H : Hp} : ∀ {ps : List (D × D)} {vs : List (V × V)} {kvs : List (Key × D)}, keyDs ps = some kvs → PRep ι H ps vs → ∃ us, vs = us.map (fun kv => (kV kv.1, kv.2)) ∧ FRep ι H kvs us
  | _, _, _, e, .nil => by cases e; exact ⟨[], rfl, .nil⟩
  | _, _, _, e, .cons h q r => by
    simp only [keyDs] at e
    split at e
    · rename_i k' r' e1 e2
      cases e
      obtain ⟨us, h1, h2⟩ := keyDs_rep e2 r
      rw [keyD_rep e1 h, h1]
      exact ⟨(k', _) :: us, rfl, .cons q h2⟩
    · cases e
def trsOf (W : WX) (trs : List (ME × ME)) : List (TE × TE) := trs.map fun p => (TE' W p.1, TE' W p.2)
theorem tp_in {W : WX} {σ : L2.St} {ρ : Sl} {E : XP} : ∀ {trs : List (ME × ME)} {ι : List Addr} {M : Mem} {H : Hp} {P : List (D × D) → Mem → Prop} {Q : List (V × V) → Hp → Prop}, Rel ι M H → SRep ι H ρ σ → mPairs trs ρ M P E → ClX ι H E (fun c d H' => W c d σ H') →
    (∀ ps M' ι' H' vs, P ps M' → Later ι H ι' H' → Rel ι' M' H' → PRep ι' H' ps vs → Q vs H') → tPairs (trsOf W trs) σ H Q
  | [], _, _, _, _, _, R, S, q, x, k => k [] _ _ _ [] q .refl R .nil
  | (mk, mv) :: r, ι, M, H, P, Q, R, S, q, x, k => te_in R S q x fun d1 M1 ι1 H1 v1 q1 l1 R1 r1 => te_in R1 (S.mono l1) q1 (x.mono l1) fun d2 M2 ι2 H2 v2 q2 l2 R2 r2 =>
      tp_in R2 (S.mono (l1.trans l2)) q2 (x.mono (l1.trans l2)) fun ps M3 ι3 H3 vs q3 l3 R3 r3 => k _ _ _ _ _ q3 (l1.trans (l2.trans l3)) R3 (.cons (r1.mono (l2.trans l3)) (r2.mono l3) r3)
structure CP (X : Cx) (W : WX) (pos : Pos) (ks : List (Option Expr)) (vs : List Expr) (trs : List (ME × ME)) : Prop where
  pp : PPs X pos ks vs (trsOf W trs)
theorem cp_nil : CP X W pos [] [] [] := ⟨pps_nil⟩
theorem cp_cons {k v : Expr} {ks : List (Option Expr)} {vs : List Expr} {mk mv : ME} {trs : List (ME × ME)} (hk : CE X W k mk) (hv : CE X W v mv) (hr : CP X W pos ks vs trs) : CP X W pos (some k :: ks) (v :: vs) ((mk, mv) :: trs) := ⟨pps_cons hk.pe hv.pe hr.pp⟩
def mDisp (trs : List (ME × ME)) : ME := fun ρ M P E => mPairs trs ρ (M ++ [.dic []]) (fun ps M1 => M1[M.length]? = some (.dic []) ∧ (match keyDs ps with
  | some kvs => kvs.length ≤ 15 ∧ P (.ref M.length) (M1.set M.length (.dic (mergeD [] kvs)))
  | none => False)) E
theorem c_disp {keys : List (Option Expr)} {values : List Expr} {trs : List (ME × ME)} (h : CP X W pos keys values trs) (hall : keys.all (·.isSome) = true := by rfl) (hl : keys.length = values.length := by rfl) (h0 : keys ≠ [] := by exact fun z => nomatch z) (h15 : keys.length ≤ 15 := by decide) :
    CE X W (.Dict keys values pos) (mDisp trs) :=
  ce_of (pe_disp h.pp hall hl h0 h15) fun σ H Q ι M ρ P E R S q k x => fun p hp => by
    have l1 : Later ι H (ι ++ [p]) (upd H p (.dK [])) := later_newI hp
    have R1 : Rel (ι ++ [p]) (M ++ [.dic []]) (upd H p (.dK [])) := R.push hp ⟨[], upd_same, .nil⟩
    have a1 : (ι ++ [p])[M.length]? = some p := R.lookup
    refine tp_in R1 (S.mono l1) q (x.mono l1) fun ps M2 ι2 H2 vs q2 l2 R2 r2 => ?_
    obtain ⟨e1, q2⟩ := q2
    obtain ⟨kv, e2, e3⟩ := R2.ob _ _ _ (l2.at a1) e1
    cases e3
    refine ⟨e2, ?_⟩
    split at q2
    · rename_i kvs ek
      obtain ⟨us, h1, h2⟩ := keyDs_rep ek r2
      refine ⟨us, h1, by rw [← h2.length]; exact q2.1, ?_⟩
      have nt := R2.nottup (l2.at a1)
      have l3 : Later ι2 H2 ι2 (upd H2 p (.dK (mergeK [] us))) := later_set nt
      exact k _ _ _ _ _ q2.2 (l1.trans (l2.trans l3)) (R2.set (l2.at a1) ⟨_, upd_same, (h2.mono l3).merge .nil⟩) (.ref ((l2.trans l3).at a1))
    · exact q2.elim
def mDNew : ME := fun _ M P _ => P (.ref M.length) (M ++ [.dic []])
theorem c_dnew : CE X W (.Dict [] [] pos) mDNew :=
  ce_of pe_dnewK fun σ H Q ι M ρ P E R S q k x => fun p hp => k _ _ _ _ _ q (later_newI hp) (R.push hp ⟨[], upd_same, .nil⟩) (.ref R.lookup)
end
/-! ## a def's promise: its own reading -/
def wpOf (n N : Nat) (m : MS) : WPn := fun ds M P E => ds.length = n ∧ m (startA N ds) M (ends P E)
theorem lensOf {n N : Nat} {m : MS} : Lens n (wpOf n N m) := fun _ _ _ _ h => h.1
end AL
namespace AL
open PySem L2
theorem takes0N {X : Cx} : L2N.Takes X W0 := fun _ _ x => by
  obtain ⟨_, _, _, _, _, _, _, _, _, _, _, _, _, _, _, _, z⟩ := x
  exact z.elim
end AL
/-! A head's Hook with tests of one's own. -/
namespace HX
open PySem PySem.Spec PyProof.Rows L2
abbrev AlX : Type := He.AlD × Bool
abbrev TB : Type := PySem.W.Frag → Bool
def obsX (fa : List He.Fa) (fn : List He.DefD) (ex : List TB) (K : PySem.W.Frag) : AlX := (He.obsD fa fn K, ex.all fun f => f K)
def valX (fn : List He.DefD) : AlX := (He.valD fn, true)
def SaysX (fa : List He.Fa) (fn : List He.DefD) (ex : List TB) (K : PySem.W.Frag) : Prop := obsX fa fn ex K = valX fn
def obsXG (n : Nat) (fa : List He.Fa) (fn : List He.DefD) (ex : List TB) (g : Addr → Option Obj) : AlX := obsX fa fn ex (He.frG g (He.asD g n ++ [sysModules]))
def hookX (n : Nat) (fa : List He.Fa) (fn : List He.DefD) (ex : List TB) : PySem.W.Hook where
  α := AlX
  obs := fun s => obsXG n fa fn ex s.heap.get?
  val := fun _ => valX fn
  says := fun _ h => ∃ K : PySem.W.Frag, K.In h ∧ SaysX fa fn ex K
  of := fun _ _ e => ⟨_, He.frG_in, e⟩
  keeps := fun _ _ _ ⟨K, hK, c⟩ k => ⟨K, PySem.W.Frag.In.keeps hK k, c⟩
theorem obsXG_eq {n : Nat} {fa : List He.Fa} {fn : List He.DefD} {ex : List TB} {g : Addr → Option Obj} {s : Shared} (h : ∀ a, g a = s.heap.get? a) : obsXG n fa fn ex g = (hookX n fa fn ex).obs s := by
  have e : g = s.heap.get? := funext h
  rw [e] <;> rfl
section
variable {fa : List He.Fa} {fn : List He.DefD} {ex : List TB} {K : PySem.W.Frag}
theorem SaysX.d (c : SaysX fa fn ex K) : He.SaysD fa fn K := congrArg (fun z : AlX => z.1) c
theorem SaysX.fact (c : SaysX fa fn ex K) (i : Nat) {f : He.Fa} (h : fa[i]? = some f := by rfl) : f.ok K = true := c.d.fact i h
theorem SaysX.def_ (c : SaysX fa fn ex K) (i : Nat) {d : He.DefD} (h : fn[i]? = some d := by rfl) : ∃ fd, FunD K d.name d.qual d.params d.body d.scope (d.dvs K) (d.kws K) (He.fAd K d.at_) fd := c.d.def_ i h
theorem SaysX.test (c : SaysX fa fn ex K) (i : Nat) {f : TB} (h : ex[i]? = some f := by rfl) : f K = true :=
  List.all_eq_true.mp (show (ex.all fun f => f K) = true from congrArg (fun z : AlX => z.2) c) f (List.mem_of_getElem? h)
end
/-! ## tests -/
def sysB : TB := fun K => (K.lookup sysModules).isSome
theorem sys_ok {K : PySem.W.Frag} (h : sysB K = true) : ∃ o, K.lookup sysModules = some o := Option.isSome_iff_exists.mp h
def noListB : TB := fun K => K.all fun p => decide (p.2.cls ≠ .type "list")
theorem look_mem {a : Addr} {o : Obj} : ∀ {K : PySem.W.Frag}, K.lookup a = some o → (a, o) ∈ K
  | [], h => nomatch h
  | (b, q) :: r, h => by
    rw [List.lookup_cons] at h
    cases e : (a == b) with
    | true =>
      rw [e] at h
      have : q = o := Option.some.inj h
      rw [this, beq_iff_eq.mp e]
      exact List.mem_cons_self
    | false =>
      rw [e] at h
      exact List.mem_cons_of_mem _ (look_mem h)
theorem noList_ok {K : PySem.W.Frag} (h : noListB K = true) : ∀ a o, K.lookup a = some o → o.cls ≠ .type "list" := fun a o e => of_decide_eq_true (List.all_eq_true.mp h (a, o) (look_mem e))
def clsB (K : PySem.W.Frag) (C : Addr) : Bool := match K.lookup C with
  | some ⟨.type "type", _, .cls cd, sl⟩ => (match cd.mro, sl.toList with
    | .ref C' :: bm, [_, _, _, _, some (.builtin n), _] => C' == C && (n == "ValueError.__new__" && (!cd.hasDel && (cd.hasDict && PySem.HandSPX.refsVE bm)))
    | _, _ => false)
  | _ => false
theorem clsB_ok {K : PySem.W.Frag} {C : Addr} (q : clsB K C = true) : ∃ nm q N bs bm sn sub ab col dd k0 k1 k2 k3 k5, K.lookup C = some (excClassObj nm q C N bs bm true sn sub ab col dd k0 k1 k2 k3 k5 "ValueError.__new__") ∧ PySem.HandSPX.refsVE bm = true := by
  unfold clsB at q
  split at q
  · rename_i dd cd sl ho
    split at q
    · rename_i C' bm k0 k1 k2 k3 n k5 hm hs
      simp only [Bool.and_eq_true, beq_iff_eq, Bool.not_eq_true'] at q
      obtain ⟨rfl, rfl, hdel, hdct, ht⟩ := q
      obtain ⟨nm, bs, mro, ns, qn, hd, sn, sub, ab, col, del⟩ := cd
      dsimp only at hm hdel hdct
      subst hm hdel hdct
      have hsl : sl = #[k0, k1, k2, k3, some (.builtin "ValueError.__new__"), k5] := by
        obtain ⟨l⟩ := sl
        simp only at hs
        rw [hs]
      subst hsl
      exact ⟨nm, qn, ns, bs, bm, sn, sub, ab, col, dd, k0, k1, k2, k3, k5, ho, ht⟩
    · cases q
  · cases q
/-- an exception class of the package, a ValueError, with an __init__ of its own -/
def oexB (x : Str) : TB := fun K => clsB K (He.ga K x) && (decide (PySem.W.findIn K (.ref (He.ga K x)) "__setattr__" = some (some (.builtin "object.__setattr__"))) && (decide (PySem.W.subIn K (.ref (He.ga K x)) (.type "BaseException") = some true) &&
  (decide (PySem.W.typeIn K (.ref (He.ga K x)) = some (.type "type")) && PySem.W.keepIn K (.ref (He.ga K x)))))
theorem oex_ok {K : PySem.W.Frag} {x : Str} (h : oexB x K = true) : OexC K (He.ga K x) := by
  obtain ⟨h1, h⟩ := Bool.and_eq_true_iff.mp h
  obtain ⟨h2, h⟩ := Bool.and_eq_true_iff.mp h
  obtain ⟨h3, h⟩ := Bool.and_eq_true_iff.mp h
  obtain ⟨h4, h5⟩ := Bool.and_eq_true_iff.mp h
  exact ⟨clsB_ok h1, of_decide_eq_true h2, of_decide_eq_true h3, of_decide_eq_true h4, h5⟩
def initB (x : Str) : TB := fun K => decide (PySem.W.findIn K (.ref (He.ga K x)) "__init__" = some (some (.ref (He.ma K (He.ga K x) "__init__")))) && decide (PySem.W.typeIn K (.ref (He.ma K (He.ga K x) "__init__")) = some (.type "function"))
theorem init_is {K : PySem.W.Frag} {x : Str} (h : initB x K = true) : PySem.W.findIn K (.ref (He.ga K x)) "__init__" = some (some (.ref (He.ma K (He.ga K x) "__init__"))) ∧ PySem.W.typeIn K (.ref (He.ma K (He.ga K x) "__init__")) = some (.type "function") :=
  let ⟨h1, h2⟩ := Bool.and_eq_true_iff.mp h
  ⟨of_decide_eq_true h1, of_decide_eq_true h2⟩
def xfB' (x : Str) : TB := fun K => L2.xfB K (He.ga K x)
def excB (x : Str) : TB := fun K => decide (PySem.W.findIn K (.ref (He.ga K x)) "__getattribute__" = some (some (.builtin "BaseException.__getattribute__"))) && (decide (PySem.W.findIn K (.ref (He.ga K x)) "__getattr__" = some none) &&
  (decide (PySem.W.subIn K (.ref (He.ga K x)) (.type "BaseException") = some true) && (PySem.W.hasDictIn K (He.ga K x) && (decide (PySem.W.findIn K (.ref (He.ga K x)) "__class__" = some (some (.builtin "object.__class__"))) &&
  (decide (PySem.W.specialIn K (.builtin "object.__class__") "__get__" = some (some (.builtin "getset_descriptor.__get__"))) && (decide (PySem.W.takesIn K (.builtin "object.__class__") = some true) && decide (PySem.W.mroIn K (He.ga K x) (.type "object") = some true)))))))
theorem exc_is {K : PySem.W.Frag} {x : Str} (h : excB x K = true) : ExcC K (He.ga K x) := by
  obtain ⟨h1, h⟩ := Bool.and_eq_true_iff.mp h
  obtain ⟨h2, h⟩ := Bool.and_eq_true_iff.mp h
  obtain ⟨h3, h⟩ := Bool.and_eq_true_iff.mp h
  obtain ⟨h4, h⟩ := Bool.and_eq_true_iff.mp h
  obtain ⟨h5, h⟩ := Bool.and_eq_true_iff.mp h
  obtain ⟨h6, h⟩ := Bool.and_eq_true_iff.mp h
  obtain ⟨h7, h8⟩ := Bool.and_eq_true_iff.mp h
  exact ⟨of_decide_eq_true h1, of_decide_eq_true h2, of_decide_eq_true h3, h4, of_decide_eq_true h5, of_decide_eq_true h6, of_decide_eq_true h7, of_decide_eq_true h8⟩
/-- isinstance of an instance of x, classes by names -/
inductive CN where
  | own (x : Str)
  | ty (n : String)
def CN.v (K : PySem.W.Frag) : CN → Value
  | .own x => .ref (He.ga K x)
  | .ty n => .type n
def kitAnyB (x : Str) (cs : List CN) (b : Bool) : TB := fun K => decide (PySem.W.kitAny K (.ref (He.ga K x)) (cs.map (CN.v K)) = some b)
theorem kitAny_is {K : PySem.W.Frag} {x : Str} {cs : List CN} {b : Bool} (h : kitAnyB x cs b K = true) : PySem.W.kitAny K (.ref (He.ga K x)) (cs.map (CN.v K)) = some b := of_decide_eq_true h
def kitOneB (x : Str) (c : CN) (b : Bool) : TB := fun K => decide (PySem.W.kitOne K (.ref (He.ga K x)) (c.v K) = some b)
theorem kitOne_is {K : PySem.W.Frag} {x : Str} {c : CN} {b : Bool} (h : kitOneB x c b K = true) : PySem.W.kitOne K (.ref (He.ga K x)) (c.v K) = some b := of_decide_eq_true h
end HX
/-! Readings: one step each, for the head of a goal. -/
namespace RD
open PySem L2 AL
section
variable {ρ : Sl} {M : Mem} {P : PD} {E : XP} {A : AEnds} {m m1 m2 m3 : ME} {n n1 n2 : MT} {ma : MA} {k k1 k2 : MS} {d e x y : D} {ds es : List D} {i j : Nat} {a b : Int} {s t : Str} {TP : Bool → Mem → Prop} {AP : List D → Mem → Prop}
/-! branches -/
def iteP (b : Bool) (X Y : Prop) : Prop := match b with
  | true => X
  | false => Y
theorem r_iteT {X Y : Prop} (h : X) : iteP true X Y := h
theorem r_iteF {X Y : Prop} (h : Y) : iteP false X Y := h
theorem r_iteNT {X Y : Prop} (h : Y) : iteP (!true) X Y := h
theorem r_iteNF {X Y : Prop} (h : X) : iteP (!false) X Y := h
theorem r_ite {b : Bool} {X Y : Prop} (h1 : b = true → X) (h2 : b = false → Y) : iteP b X Y := by
  cases b with
  | true => exact h1 rfl
  | false => exact h2 rfl
theorem r_iteD {p : Prop} [Decidable p] {X Y : Prop} (h1 : p → X) (h2 : ¬ p → Y) : iteP (decide p) X Y :=
  r_ite (fun h => h1 (of_decide_eq_true h)) (fun h => h2 (of_decide_eq_false h))
theorem r_iteN {p : Prop} [Decidable p] {X Y : Prop} (h1 : ¬ p → X) (h2 : p → Y) : iteP (!decide p) X Y :=
  r_ite (fun h => h1 (by simpa using h)) (fun h => h2 (by simpa using h))
theorem r_iteNN {p : Prop} [Decidable p] {X Y : Prop} (h1 : p → X) (h2 : ¬ p → Y) : iteP (!!decide p) X Y := by
  rw [Bool.not_not]
  exact r_iteD h1 h2
theorem r_len {xs : List D} {X : Prop} (h : xs.length ≤ sizeLine) (q : X) : xs.length ≤ sizeLine ∧ X := ⟨h, q⟩
theorem r_iteP {p : Prop} [Decidable p] {b : Bool} {X Y : Prop} (e : b = true ↔ p) (h1 : p → X) (h2 : ¬ p → Y) : iteP b X Y :=
  r_ite (fun h => h1 (e.mp h)) (fun h => h2 (fun z => by rw [e.mpr z] at h; cases h))
def subK (o i d : D) (M : Mem) (K : Mem → Prop) : Prop := match o with
  | .ref n => (match M[n]? with
    | some (.lst ds) => (match i with
      | .int z => (match ixN ds.length z with
        | some j => K (M.set n (.lst (ds.set j d)))
        | none => False)
      | _ => False)
    | _ => False)
  | _ => False
theorem r_subK {p jj : Nat} {z : Int} {K : Mem → Prop} (h0 : M[p]? = some (.lst ds)) (h1 : ixN ds.length z = some jj) (h : K (M.set p (.lst (ds.set jj d)))) : subK (.ref p) (.int z) d M K := by
  simp only [subK, h0, h1]
  exact h
def lrevK (x : D) (M : Mem) (P : PD) : Prop := match x with
  | .ref n => (match M[n]? with
    | some (.lst ds) => P (.ref M.length) (M ++ [.lst ds.reverse])
    | _ => False)
  | _ => False
theorem r_lrevK {p : Nat} (h0 : M[p]? = some (.lst ds)) (h : P (.ref M.length) (M ++ [.lst ds.reverse])) : lrevK (.ref p) M P := by
  simp only [lrevK, h0]
  exact h
def enumK (x : D) (M : Mem) (IP : AIt → Mem → Prop) : Prop := match x with
  | .ref n => (match M[n]? with
    | some (.lst ds) => IP ⟨ds.zipIdx.map fun p => .tup [.int (p.2 : Nat), p.1], fun M' => M'[n]? = some (.lst ds)⟩ M
    | _ => False)
  | _ => False
theorem r_enumK {p : Nat} {IP : AIt → Mem → Prop} (h0 : M[p]? = some (.lst ds)) (h : IP ⟨ds.zipIdx.map fun p => .tup [.int (p.2 : Nat), p.1], fun M' => M'[p]? = some (.lst ds)⟩ M) : enumK (.ref p) M IP := by
  simp only [enumK, h0]
  exact h
def truK (x : D) (M : Mem) (Q : Bool → Prop) : Prop := match tru x M with
  | some b => Q b
  | none => False
theorem r_truB {b : Bool} {Q : Bool → Prop} (h : Q b) : truK (.bl b) M Q := h
theorem r_truK {b : Bool} {Q : Bool → Prop} (e : tru x M = some b) (h : Q b) : truK x M Q := by
  simp only [truK, e]
  exact h
/-! a join: what holds behind the first statement -/
theorem r_seqJ (J : Sl → Mem → Prop) (h1 : ∀ NX : Sl → Mem → Prop, (∀ ρ' M', J ρ' M' → NX ρ' M') → k1 ρ M { A with nx := NX }) (h2 : ∀ ρ' M', J ρ' M' → k2 ρ' M' A) : kSeq k1 k2 ρ M A := h1 _ h2
/-! statements -/
theorem r_seq (h : k1 ρ M { A with nx := fun ρ' M' => k2 ρ' M' A }) : kSeq k1 k2 ρ M A := h
theorem r_next (h : A.nx ρ M) : kNext ρ M A := h
theorem r_set (h : m ρ M (fun d M1 => A.nx (ρ.set i (some d)) M1) (A.xp ρ)) : kSet i m ρ M A := h
theorem r_ret (h : m ρ M A.rt (A.xp ρ)) : kRet m ρ M A := h
theorem r_retN (h : A.rt .non M) : kRetN ρ M A := h
theorem r_expr (h : m ρ M (fun _ M1 => A.nx ρ M1) (A.xp ρ)) : kExpr m ρ M A := h
theorem r_brk (h : A.bk ρ M) : kBreak ρ M A := h
theorem r_cont (h : A.ct ρ M) : kCont ρ M A := h
theorem r_if (h : n ρ M (fun b M1 => iteP b (k1 ρ M1 A) (k2 ρ M1 A)) (A.xp ρ)) : kIf n k1 k2 ρ M A := h
theorem r_asg {g : MG} (h : m ρ M (fun d M1 => match g d ρ with
  | some ρ' => A.nx ρ' M1
  | none => False) (A.xp ρ)) : kAsg g m ρ M A := h
theorem r_par2 (h : ma ρ M (fun ds M1 => match ds with
  | [d, e] => A.nx ((ρ.set i (some d)).set j (some e)) M1
  | _ => False) (A.xp ρ)) : kPar2 i j ma ρ M A := h
theorem r_par3 {l : Nat} (h : ma ρ M (fun ds M1 => match ds with
  | [d, e, f] => A.nx (((ρ.set i (some d)).set j (some e)).set l (some f)) M1
  | _ => False) (A.xp ρ)) : kPar3 i j l ma ρ M A := h
theorem r_raise {C : Addr} {f : Str} (h : ma ρ M (fun ds M1 => match ds with
  | [d] => A.ex (.ref C) [(f, d)] ρ M1
  | _ => False) (A.xp ρ)) : kRaise C f ma ρ M A := h
theorem r_for {mi : MI} {g : MG} (h : mi ρ M (fun it M1 => forA it.live g k A it.items ρ M1) (A.xp ρ)) : kFor mi g k ρ M A := h
/-! expressions -/
theorem r_v (h : ρ[i]? = some (some d)) (q : P d M) : mV i ρ M P E := by
  unfold mV
  rw [h]
  exact q
theorem r_c (h : P d M) : mC d ρ M P E := h
theorem r_m2 {r : A2} (h : m1 ρ M (fun x M1 => m2 ρ M1 (fun y M2 => r x y M2 P) E) E) : m2' r m1 m2 ρ M P E := h
theorem r_nil (h : AP [] M) : mNil ρ M AP E := h
theorem r_cons (h : m ρ M (fun x M1 => ma ρ M1 (fun xs M2 => AP (x :: xs) M2) E) E) : mCons m ma ρ M AP E := h
theorem r_tup (h : ma ρ M (fun xs M1 => xs.length ≤ sizeLine ∧ P (.tup xs) M1) E) : mTup ma ρ M P E := h
theorem r_lst (h : ma ρ M (fun xs M1 => xs.length ≤ sizeLine ∧ P (.ref M1.length) (M1 ++ [.lst xs])) E) : mLst ma ρ M P E := h
theorem r_call {c : AC} (h : ma ρ M (fun xs M1 => c xs M1 P) E) : mCall c ma ρ M P E := h
theorem r_fn {w : WPn} (h : ma ρ M (fun ds M1 => w ds M1 P E) E) : mFn w ma ρ M P E := h
theorem r_meth {T : String} {c : AM} {mo : ME} (h : mo ρ M (fun x M1 => isTy T x M1 ∧ ma ρ M1 (fun xs M2 => c x xs M2 P) E) E) : mMeth T c mo ma ρ M P E := h
theorem r_meth0 {T : String} {c : AM} {mo : ME} (h : mo ρ M (fun x M1 => isTy T x M1 ∧ c x [] M1 P) E) : mMeth0 T c mo ρ M P E := h
theorem r_mif (h : n ρ M (fun b M1 => iteP b (m1 ρ M1 P E) (m2 ρ M1 P E)) E) : mIf n m1 m2 ρ M P E := h
theorem r_neg (h : m ρ M (fun x M1 => match x with
  | .int i => P (.int (-i)) M1
  | _ => False) E) : mNeg m ρ M P E := h
theorem r_andV (h : m1 ρ M (fun x M1 => truK x M1 (fun b => iteP b (m2 ρ M1 P E) (P x M1))) E) : mAndV m1 m2 ρ M P E := by
  have e : mAndV m1 m2 ρ M P E = m1 ρ M (fun x M1 => truK x M1 (fun b => iteP b (m2 ρ M1 P E) (P x M1))) E := by
    unfold mAndV
    congr 1
    funext x M1
    unfold truK iteP
    cases tru x M1 with
    | none => rfl
    | some b => cases b <;> rfl
  rw [e]
  exact h
theorem r_orV (h : m1 ρ M (fun x M1 => truK x M1 (fun b => iteP b (P x M1) (m2 ρ M1 P E))) E) : mOrV m1 m2 ρ M P E := by
  have e : mOrV m1 m2 ρ M P E = m1 ρ M (fun x M1 => truK x M1 (fun b => iteP b (P x M1) (m2 ρ M1 P E))) E := by
    unfold mOrV
    congr 1
    funext x M1
    unfold truK iteP
    cases tru x M1 with
    | none => rfl
    | some b => cases b <;> rfl
  rw [e]
  exact h
theorem r_notV (h : m1 ρ M (fun x M1 => truK x M1 (fun b => P (.bl (!b)) M1)) E) : mNotV m1 ρ M P E := h
/-! tests -/
theorem r_test (h : m ρ M (fun x M1 => match x with
  | .bl b => TP b M1
  | _ => False) E) : mTest m ρ M TP E := h
theorem r_mtru (h : m ρ M (fun x M1 => truK x M1 (fun b => TP b M1)) E) : mTru m ρ M TP E := h
theorem r_not (h : n ρ M (fun b M1 => TP (!b) M1) E) : mNot n ρ M TP E := h
theorem r_and (h : n1 ρ M (fun b M1 => iteP b (n2 ρ M1 TP E) (TP false M1)) E) : mAnd n1 n2 ρ M TP E := h
theorem r_or (h : n1 ρ M (fun b M1 => iteP b (TP true M1) (n2 ρ M1 TP E)) E) : mOr n1 n2 ρ M TP E := h
/-! by values -/
theorem r_addI (h : P (.int (a + b)) M) : aAdd (.int a) (.int b) M P := h
theorem r_addS (h : s.length + t.length ≤ sizeLine ∧ P (.str (s ++ t)) M) : aAdd (.str s) (.str t) M P := h
theorem r_addL {p q : Nat} (h1 : M[p]? = some (.lst ds)) (h2 : M[q]? = some (.lst es)) (h3 : ds.length + es.length ≤ sizeLine) (h : P (.ref M.length) (M ++ [.lst (ds ++ es)])) : aAdd (.ref p) (.ref q) M P := ⟨ds, es, h1, h2, h3, h⟩
theorem r_subI (h : P (.int (a - b)) M) : aSub (.int a) (.int b) M P := h
theorem r_mulI (h : (a.natAbs.log2 + b.natAbs.log2 < 1000000) ∧ P (.int (a * b)) M) : aMul (.int a) (.int b) M P := h
theorem r_divI (h : (0 < b ∧ b.natAbs.log2 < 9000) ∧ P (.int (a / b)) M) : aDiv (.int a) (.int b) M P := h
theorem r_modI (h : 0 < b ∧ P (.int (a % b)) M) : aMod (.int a) (.int b) M P := h
theorem r_powI (h : CPow a b ∧ P (.int (a ^ b.toNat)) M) : aPow (.int a) (.int b) M P := h
theorem r_ltI (h : P (.bl (decide (a < b))) M) : aLt (.int a) (.int b) M P := h
theorem r_leI (h : P (.bl (decide (a ≤ b))) M) : aLe (.int a) (.int b) M P := h
theorem r_gtI (h : P (.bl (decide (b < a))) M) : aGt (.int a) (.int b) M P := h
theorem r_geI (h : P (.bl (decide (b ≤ a))) M) : aGe (.int a) (.int b) M P := h
theorem r_eqI (h : P (.bl (decide (a = b))) M) : aEq (.int a) (.int b) M P := h
theorem r_neI (h : P (.bl (!decide (a = b))) M) : aNe (.int a) (.int b) M P := h
theorem r_eqS (h : P (.bl (decide (s = t))) M) : aEq (.str s) (.str t) M P := h
theorem r_neS (h : P (.bl (!decide (s = t))) M) : aNe (.str s) (.str t) M P := h
theorem r_isN (h : P (.bl (isNon x)) M) : aIs x .non M P := h
theorem r_isNotN (h : P (.bl (!isNon x)) M) : aIsNot x .non M P := h
theorem r_ixT (h1 : atI' ds a = some d) (h : P d M) : aIx (.tup ds) (.int a) M P := by
  show (match atI' ds a with
    | some d => P d M
    | none => False)
  rw [h1]
  exact h
theorem r_ixL {p : Nat} (h0 : M[p]? = some (.lst ds)) (h1 : atI' ds a = some d) (h : P d M) : aIx (.ref p) (.int a) M P := by
  show (match M[p]? with
    | some (.lst ds) => (match atI' ds a with
      | some d => P d M
      | none => False)
    | _ => False)
  rw [h0]
  show (match atI' ds a with
    | some d => P d M
    | none => False)
  rw [h1]
  exact h
theorem r_ixS {c : Nat} (h0 : s.length ≤ sizeLine) (h1 : atI' s.cps.toList a = some c) (h : P (.str ⟨#[c]⟩) M) : aIx (.str s) (.int a) M P := by
  refine ⟨h0, ?_⟩
  rw [h1]
  exact h
theorem r_a1 {f : D → Mem → PD → Prop} (h : f d M P) : a1 f [d] M P := h
theorem r_a2 {f : D → D → Mem → PD → Prop} (h : f d e M P) : a2 f [d, e] M P := h
theorem r_lenS (h0 : s.length ≤ sizeLine) (h : P (.int s.length) M) : fLen (.str s) M P := ⟨h0, h⟩
theorem r_lenT (h : P (.int ds.length) M) : fLen (.tup ds) M P := h
theorem r_lenL {p : Nat} (h0 : M[p]? = some (.lst ds)) (h : P (.int ds.length) M) : fLen (.ref p) M P := by
  show (match M[p]? with
    | some (.lst ds) => P (.int ds.length) M
    | some (.fls ds) => P (.int ds.length) M
    | _ => False)
  rw [h0]
  exact h
theorem r_abs (h : P (.int (if a < 0 then -a else a)) M) : fAbs (.int a) M P := h
theorem r_intI (h : P (.int a) M) : fInt (.int a) M P := h
theorem r_strI (h : a.natAbs.log2 < 1920 ∧ P (.str (toString a)) M) : fStrI (.int a) M P := h
theorem r_max (h : P (.int (if b > a then b else a)) M) : fMax (.int a) (.int b) M P := h
theorem r_min (h : P (.int (if b < a then b else a)) M) : fMin (.int a) (.int b) M P := h
theorem r_listT (h : P (.ref M.length) (M ++ [.lst ds])) : fList (.tup ds) M P := h
theorem r_listL {p : Nat} (h0 : M[p]? = some (.lst ds)) (h : P (.ref M.length) (M ++ [.lst ds])) : fList (.ref p) M P := by
  show (match M[p]? with
    | some (.lst ds) => P (.ref M.length) (M ++ [.lst ds])
    | _ => False)
  rw [h0]
  exact h
theorem r_tupT (h : P (.tup ds) M) : fTuple (.tup ds) M P := h
theorem r_tupL {p : Nat} (h0 : M[p]? = some (.lst ds)) (h : P (.tup ds) M) : fTuple (.ref p) M P := by
  show (match M[p]? with
    | some (.lst ds) => P (.tup ds) M
    | _ => False)
  rw [h0]
  exact h
theorem r_lstRev (h : m ρ M (fun x M1 => lrevK x M1 P) E) : mLstRev m ρ M P E := h
theorem r_slT {lo hi : Option Int} (h : P (.tup (cutD ds lo hi)) M) : aSl (.tup ds) lo hi M P := h
theorem r_slS {lo hi : Option Int} (h : s.length ≤ sizeLine ∧ P (.str (cutS s lo hi)) M) : aSl (.str s) lo hi M P := h
theorem r_slL {p : Nat} {lo hi : Option Int} (h0 : M[p]? = some (.lst ds)) (h : P (.ref M.length) (M ++ [.lst (cutD ds lo hi)])) : aSl (.ref p) lo hi M P := by
  simp only [aSl, h0]
  exact h
theorem r_slF {p : Nat} {lo hi : Option Int} (h0 : M[p]? = some (.fls ds)) (h : P (.ref M.length) (M ++ [.lst (cutD ds lo hi)])) : aSl (.ref p) lo hi M P := by
  simp only [aSl, h0]
  exact h
theorem r_msl {l h' : MO'} (h : m ρ M (fun x M1 => l ρ M1 (fun lo M2 => h' ρ M2 (fun hi M3 => aSl x lo hi M3 P) E) E) E) : mSl m l h' ρ M P E := h
theorem r_noPart {OP : Option Int → Mem → Prop} (h : OP none M) : mNoPart ρ M OP E := h
theorem r_part {OP : Option Int → Mem → Prop} (h : m ρ M (fun x M1 => match x with
  | .int i => OP (some i) M1
  | _ => False) E) : mPart m ρ M OP E := h
/-! methods -/
theorem r_tyL {p : Nat} (h : M[p]? = some (.lst ds)) : isTy "list" (.ref p) M := by
  show (match M[p]? with
    | some (.lst _) => "list" = "list"
    | some (.dic _) => "list" = "dict"
    | _ => False)
  rw [h]
theorem r_append {p : Nat} (h0 : M[p]? = some (.lst ds)) (h1 : ds.length < sizeLine) (h : P .non (M.set p (.lst (ds ++ [d])))) : aAppend (.ref p) [d] M P := by
  show (match M[p]? with
    | some (.lst ds) => ds.length < sizeLine ∧ P .non (M.set p (.lst (ds ++ [d])))
    | _ => False)
  rw [h0]
  exact ⟨h1, h⟩
theorem r_pop {p : Nat} (h0 : M[p]? = some (.lst (ds ++ [d]))) (h : P d (M.set p (.lst ds))) : aPop (.ref p) [] M P := by
  show (match M[p]? with
    | some (.lst ds) => ([] : List D).isEmpty = true ∧ (match ds[ds.length - 1]? with
      | some d => P d (M.set p (.lst ds.dropLast))
      | none => False)
    | _ => False)
  rw [h0]
  refine ⟨rfl, ?_⟩
  have e : (ds ++ [d])[(ds ++ [d]).length - 1]? = some d := by simp
  rw [e]
  simpa using h
theorem r_split (h1 : (t.length == 0) = false) (h2 : s.length + 2 ≤ sizeLine) (h : P (.ref M.length) (M ++ [.lst ((Txt.split s t).map .str)])) : aSplit (.str s) [.str t] M P := ⟨⟨h1, h2⟩, h⟩
theorem r_join {p : Nat} {ys : List Str} (h0 : M[p]? = some (.lst (ys.map .str))) (h1 : (ys.map (·.length)).sum + ys.length * s.length ≤ 16777216) (h : P (.str (Txt.join s ys)) M) : aJoin (.str s) [.ref p] M P := by
  show (match M[p]? with
    | some (.lst ds) => (match strs? ds with
      | some ys => (ys.map (·.length)).sum + ys.length * s.length ≤ 16777216 ∧ P (.str (Txt.join s ys)) M
      | none => False)
    | _ => False)
  rw [h0]
  show (match strs? (ys.map .str) with
      | some ys => (ys.map (·.length)).sum + ys.length * s.length ≤ 16777216 ∧ P (.str (Txt.join s ys)) M
      | none => False)
  rw [strs?_map]
  exact ⟨h1, h⟩
theorem r_upper (h1 : s.length ≤ 5592405) (h : P (.str (Txt.upper s)) M) : aUpper (.str s) [] M P := ⟨rfl, h1, h⟩
theorem r_ksub {mo mi : ME} (h : m ρ M (fun d M1 => mo ρ M1 (fun o M2 => mi ρ M2 (fun i M3 => subK o i d M3 (A.nx ρ)) (A.xp ρ)) (A.xp ρ)) (A.xp ρ)) : kSub m mo mi ρ M A := h
theorem r_pow6 (h : P (.int 1000000) M) : aPow (.int 10) (.int 6) M P := ⟨⟨by decide, by decide, by decide⟩, h⟩
theorem r_pow9 (h : P (.int 1000000000) M) : aPow (.int 10) (.int 9) M P := ⟨⟨by decide, by decide, by decide⟩, h⟩
theorem r_pow4 (h : P (.int 10000) M) : aPow (.int 10) (.int 4) M P := ⟨⟨by decide, by decide, by decide⟩, h⟩
/-! loops -/
section
variable {IP : AIt → Mem → Prop} {mi : MI}
theorem r_mlc {g : MG} {vs : List Nat} (h : mi ρ M (fun it M1 => lcA it.live g n m M1.length (wipeA ρ vs) (fun M' => P (.ref M1.length) M') it.items (M1 ++ [.lst []])) E) : mLc mi g n m vs ρ M P E := h
theorem r_iseq (h : m ρ M (fun x M1 => aIter x M1 IP) E) : iSeq m ρ M IP E := h
theorem r_iT (h : IP ⟨ds, fun _ => True⟩ M) : aIter (.tup ds) M IP := h
theorem r_iS (h : IP ⟨s.cps.toList.map fun c => .str ⟨#[c]⟩, fun _ => True⟩ M) : aIter (.str s) M IP := h
theorem r_iL {p : Nat} (h0 : M[p]? = some (.lst ds)) (h : IP ⟨ds, fun M' => M'[p]? = some (.lst ds)⟩ M) : aIter (.ref p) M IP := by
  simp only [aIter, h0]
  exact h
theorem r_iF {p : Nat} (h0 : M[p]? = some (.fls ds)) (h : IP ⟨ds, fun M' => M'[p]? = some (.fls ds)⟩ M) : aIter (.ref p) M IP := by
  simp only [aIter, h0]
  exact h
theorem r_rng1 (h : m ρ M (fun x M1 => match x with
  | .int j => (-(2 ^ 62) ≤ j ∧ j < 2 ^ 62) ∧ IP ⟨(List.range j.toNat).map fun i => .int (i : Nat), fun _ => True⟩ M1
  | _ => False) E) : iRange1 m ρ M IP E := h
theorem r_enum (h : m ρ M (fun x M1 => enumK x M1 IP) E) : iEnum' m ρ M IP E := h
end
theorem forA_inv {live : Mem → Prop} {g : MG} {body : MS} {A : AEnds} {items : List D} (I : Nat → Sl → Mem → Prop) (h0 : I 0 ρ M)
    (step : ∀ i x ρ M (K : Sl → Mem → Prop), items[i]? = some x → I i ρ M → (∀ ρ' M', I (i + 1) ρ' M' → K ρ' M') → live M ∧ ∃ ρ1, g x ρ = some ρ1 ∧ body ρ1 M { A with nx := K, ct := K, bk := A.nx })
    (fin : ∀ ρ M, I items.length ρ M → live M ∧ A.nx ρ M) : forA live g body A items ρ M := by
  suffices gen : ∀ (k : Nat) (ρ : Sl) (M : Mem), k ≤ items.length → I k ρ M → forA live g body A (items.drop k) ρ M from by
    have := gen 0 ρ M (Nat.zero_le _) h0
    rwa [List.drop_zero] at this
  intro k
  generalize hr : items.length - k = r
  induction r generalizing k with
  | zero =>
    intro ρ M hk hi
    have : k = items.length := by omega
    subst this
    rw [List.drop_length]
    exact fin ρ M hi
  | succ r ih =>
    intro ρ M hk hi
    have hk' : k < items.length := by omega
    rw [List.drop_eq_getElem_cons hk']
    obtain ⟨h1, ρ1, h2, h3⟩ := step k items[k] ρ M (forA live g body A (items.drop (k + 1))) (List.getElem?_eq_getElem hk') hi (fun ρ' M' h => ih (k + 1) (by omega) ρ' M' (by omega) h)
    refine ⟨h1, ?_⟩
    rw [h2]
    exact h3
theorem wh_inv {n : MT} {body : MS} {A : AEnds} (I : Nat → Sl → Mem → Prop) (f : Nat) (h0 : I f ρ M)
    (step : ∀ f ρ M (K : Sl → Mem → Prop), I (f + 1) ρ M → (∀ ρ' M', I f ρ' M' → K ρ' M') → n ρ M (fun b M1 => iteP b (body ρ M1 { A with nx := K, ct := K, bk := A.nx }) (A.nx ρ M1)) (A.xp ρ)) (h1 : ∀ ρ M, ¬ I 0 ρ M) : kWhile n body ρ M A := by
  refine ⟨f, ?_⟩
  induction f generalizing ρ M with
  | zero => exact absurd h0 (h1 _ _)
  | succ f ih => exact step f ρ M _ h0 fun ρ' M' h => ih h
theorem lc_map {live : Mem → Prop} {g : MG} {PM : Mem → Prop} {items : List D} (f : D → D) (out : List D) (ho : items.map f = out) (hl : items.length ≤ sizeLine) (hlive : ∀ acc, live (M ++ [.lst acc]))
    (hm : ∀ x ∈ items, ∃ ρ1, g x ρ = some ρ1 ∧ ∀ acc (Q : PD), Q (f x) (M ++ [.lst acc]) → m ρ1 (M ++ [.lst acc]) Q noX) (q : PM (M ++ [.lst out])) : lcA live g nYes m M.length ρ PM items (M ++ [.lst []]) := by
  subst ho
  suffices gen : ∀ (xs done : List D), items = done ++ xs → lcA live g nYes m M.length ρ PM xs (M ++ [.lst (done.map f)]) from gen items [] rfl
  intro xs
  induction xs with
  | nil =>
    intro done e
    rw [List.append_nil] at e
    subst e
    exact ⟨hlive _, q⟩
  | cons x xs ih =>
    intro done e
    obtain ⟨ρ1, h1, h2⟩ := hm x (by rw [e]; simp)
    refine ⟨hlive _, ?_⟩
    rw [h1]
    show m ρ1 _ _ noX
    refine h2 _ _ ?_
    have e1 : (M ++ [MO.lst (done.map f)])[M.length]? = some (.lst (done.map f)) := by simp
    rw [e1]
    refine ⟨?_, ?_⟩
    · rw [List.length_map]
      have : items.length = done.length + (xs.length + 1) := by rw [e]; simp
      omega
    · have e2 : (M ++ [MO.lst (done.map f)]).set M.length (.lst (done.map f ++ [f x])) = M ++ [.lst ((done ++ [x]).map f)] := by simp
      rw [e2]
      exact ih (done ++ [x]) (by rw [e]; simp)
end
/-! ## the store -/
theorem at_l {M L : Mem} {n : Nat} {o : MO} (h : M[n]? = some o) : (M ++ L)[n]? = some o := by
  rw [List.getElem?_append_left (List.getElem?_eq_some_iff.mp h).1]
  exact h
theorem at_end {M : Mem} {o : MO} : (M ++ [o])[M.length]? = some o := by simp
theorem at_set {M : Mem} {n : Nat} {o o' : MO} (h : M[n]? = some o') : (M.set n o)[n]? = some o := List.getElem?_set_self (List.getElem?_eq_some_iff.mp h).1
theorem at_ne {M : Mem} {n m : Nat} {o o' : MO} (hn : m ≠ n) (h : M[n]? = some o) : (M.set m o')[n]? = some o := by rw [List.getElem?_set_ne hn]; exact h
theorem at_lt {M : Mem} {n : Nat} {o : MO} (h : M[n]? = some o) : n < M.length := (List.getElem?_eq_some_iff.mp h).1
/-- the objects from number 6 on stand -/
def Kp (M M' : Mem) : Prop := M.length ≤ M'.length ∧ ∀ i o, 6 ≤ i → M[i]? = some o → M'[i]? = some o
theorem Kp.refl {M : Mem} : Kp M M := ⟨Nat.le_refl _, fun _ _ _ h => h⟩
theorem Kp.trans {M M1 M2 : Mem} (a : Kp M M1) (b : Kp M1 M2) : Kp M M2 := ⟨Nat.le_trans a.1 b.1, fun i o h6 h => b.2 i o h6 (a.2 i o h6 h)⟩
theorem Kp.new {M M1 : Mem} {p : Nat} {o : MO} (k : Kp M M1) (h : M.length ≤ p) : Kp M (M1.set p o) := ⟨by simpa using k.1, fun i o' h6 hi => at_ne (by have := at_lt hi; omega) (k.2 i o' h6 hi)⟩
theorem Kp.app {M L : Mem} : Kp M (M ++ L) := ⟨by simp, fun _ _ _ h => at_l h⟩
theorem Kp.set {M : Mem} {i : Nat} {o : MO} (h : i < 6) : Kp M (M.set i o) := ⟨by simp, fun j o' h6 hj => at_ne (by omega) hj⟩
/-- the bag of a law: object 5, its cells object 4 -/
def Bag (M : Mem) : Prop := ∃ (cells : List Int) (g x : Int), M[5]? = some (.lst [.ref 4, .int g, .int x]) ∧ M[4]? = some (.lst (cells.map D.int)) ∧ (∀ i ∈ cells, 0 ≤ i) ∧ 0 ≤ g ∧ 0 ≤ x ∧ x < 2147483647
theorem Bag.app {M L : Mem} (h : Bag M) : Bag (M ++ L) := by
  obtain ⟨c, g, x, h1, h2, h3⟩ := h
  exact ⟨c, g, x, at_l h1, at_l h2, h3⟩
theorem Bag.set {M : Mem} {i : Nat} {o : MO} (hi : 6 ≤ i) (h : Bag M) : Bag (M.set i o) := by
  obtain ⟨c, g, x, h1, h2, h3⟩ := h
  exact ⟨c, g, x, at_ne (by omega) h1, at_ne (by omega) h2, h3⟩
theorem Bag.len {M : Mem} (h : Bag M) : 6 ≤ M.length := by
  obtain ⟨c, g, x, h1, _⟩ := h
  exact at_lt h1
end RD
namespace K56
open PySem L2 PySem.Spec PyProof.Rows AL
def top (i : Nat) : Stmt := PySem.Challenge.pw_marksought_k56_parse_case.main.body.getD i (.Pass ⟨0, 0, 0, 0⟩)
structure Fx (P : Program) (w : World) (K : PySem.W.Frag) (mg : Str → Option Value) (base : Heap) : Prop where
  f_LookupError : mg "LookupError" = none
  f_ValueError : mg "ValueError" = none
  f_abs : mg "abs" = none
  f_all : mg "all" = none
  f_any : mg "any" = none
  f_enumerate : mg "enumerate" = none
  f_int : mg "int" = none
  f_isinstance : mg "isinstance" = none
  f_len : mg "len" = none
  f_list : mg "list" = none
  f_max : mg "max" = none
  f_min : mg "min" = none
  f_range : mg "range" = none
  f_repr : mg "repr" = none
  f_reversed : mg "reversed" = none
  f_str : mg "str" = none
  f_tuple : mg "tuple" = none
  i_MAX_READING : ∃ t, mg "MAX_READING" = some (.int 1000000 t)
  i_MAX_ROWS : ∃ t, mg "MAX_ROWS" = some (.int 40 t)
  s_FIGURES : ∃ t, mg "FIGURES" = some (.str "0123456789" t)
  m_Apart : mg "Apart" = some (.ref (He.ga K "Apart"))
  m_BadEdit : mg "BadEdit" = some (.ref (He.ga K "BadEdit"))
  m_BadEdits : mg "BadEdits" = some (.ref (He.ga K "BadEdits"))
  m_BadLog : mg "BadLog" = some (.ref (He.ga K "BadLog"))
  m_BadMarks : mg "BadMarks" = some (.ref (He.ga K "BadMarks"))
  m_BadNumber : mg "BadNumber" = some (.ref (He.ga K "BadNumber"))
  m_BadRanges : mg "BadRanges" = some (.ref (He.ga K "BadRanges"))
  m_BadReading : mg "BadReading" = some (.ref (He.ga K "BadReading"))
  m_BadSpan : mg "BadSpan" = some (.ref (He.ga K "BadSpan"))
  m_BadState : mg "BadState" = some (.ref (He.ga K "BadState"))
  m_BadText : mg "BadText" = some (.ref (He.ga K "BadText"))
  m_Busy : mg "Busy" = some (.ref (He.ga K "Busy"))
  m_MarkError : mg "MarkError" = some (.ref (He.ga K "MarkError"))
  m_NoMarks : mg "NoMarks" = some (.ref (He.ga K "NoMarks"))
  m_NoPlace : mg "NoPlace" = some (.ref (He.ga K "NoPlace"))
  m_NoRow : mg "NoRow" = some (.ref (He.ga K "NoRow"))
  m_NoVersion : mg "NoVersion" = some (.ref (He.ga K "NoVersion"))
  m_NothingToUndo : mg "NothingToUndo" = some (.ref (He.ga K "NothingToUndo"))
  m_Rejected : mg "Rejected" = some (.ref (He.ga K "Rejected"))
  m_TooFew : mg "TooFew" = some (.ref (He.ga K "TooFew"))
  m_TooLarge : mg "TooLarge" = some (.ref (He.ga K "TooLarge"))
  m_TooManyEdits : mg "TooManyEdits" = some (.ref (He.ga K "TooManyEdits"))
  m_TooManyRows : mg "TooManyRows" = some (.ref (He.ga K "TooManyRows"))
  m__law_bag : mg "_law_bag" = some (.ref (He.ga K "_law_bag"))
  m__law_draw : mg "_law_draw" = some (.ref (He.ga K "_law_draw"))
  m__law_due : mg "_law_due" = some (.ref (He.ga K "_law_due"))
  m__law_goes_on : mg "_law_goes_on" = some (.ref (He.ga K "_law_goes_on"))
  m__law_is_right : mg "_law_is_right" = some (.ref (He.ga K "_law_is_right"))
  m__law_long_text : mg "_law_long_text" = some (.ref (He.ga K "_law_long_text"))
  m__law_number : mg "_law_number" = some (.ref (He.ga K "_law_number"))
  m__law_odd_sign : mg "_law_odd_sign" = some (.ref (He.ga K "_law_odd_sign"))
  m__law_odd_text : mg "_law_odd_text" = some (.ref (He.ga K "_law_odd_text"))
  m__law_odd_word : mg "_law_odd_word" = some (.ref (He.ga K "_law_odd_word"))
  m__law_own_log : mg "_law_own_log" = some (.ref (He.ga K "_law_own_log"))
  m__law_own_ranges : mg "_law_own_ranges" = some (.ref (He.ga K "_law_own_ranges"))
  m__law_own_reading : mg "_law_own_reading" = some (.ref (He.ga K "_law_own_reading"))
  m__law_own_text : mg "_law_own_text" = some (.ref (He.ga K "_law_own_text"))
  m__law_pick : mg "_law_pick" = some (.ref (He.ga K "_law_pick"))
  m__law_row : mg "_law_row" = some (.ref (He.ga K "_law_row"))
  m__law_told : mg "_law_told" = some (.ref (He.ga K "_law_told"))
  m_goes_on : mg "goes_on" = some (.ref (He.ga K "goes_on"))
  m_is_state : mg "is_state" = some (.ref (He.ga K "is_state"))
  m_law : mg "law" = some (.ref (He.ga K "law"))
  m_number_of : mg "number_of" = some (.ref (He.ga K "number_of"))
  m_parse_case : mg "parse_case" = some (.ref (He.ga K "parse_case"))
  m_reading_of : mg "reading_of" = some (.ref (He.ga K "reading_of"))
  m_row_of : mg "row_of" = some (.ref (He.ga K "row_of"))
  u__law_bag : ∃ fd, FunD K "_law_bag" "_law_bag" (defArgs (top 36)) (defBody (top 36)) (defScope (top 36)) [] [] (He.ga K "_law_bag") fd
  u__law_draw : ∃ fd, FunD K "_law_draw" "_law_draw" (defArgs (top 37)) (defBody (top 37)) (defScope (top 37)) [] [] (He.ga K "_law_draw") fd
  u__law_due : ∃ fd, FunD K "_law_due" "_law_due" (defArgs (top 46)) (defBody (top 46)) (defScope (top 46)) [] [] (He.ga K "_law_due") fd
  u__law_goes_on : ∃ fd, FunD K "_law_goes_on" "_law_goes_on" (defArgs (top 45)) (defBody (top 45)) (defScope (top 45)) [] [] (He.ga K "_law_goes_on") fd
  u__law_is_right : ∃ fd, FunD K "_law_is_right" "_law_is_right" (defArgs (top 51)) (defBody (top 51)) (defScope (top 51)) [] [] (He.ga K "_law_is_right") fd
  u__law_long_text : ∃ fd, FunD K "_law_long_text" "_law_long_text" (defArgs (top 52)) (defBody (top 52)) (defScope (top 52)) [] [] (He.ga K "_law_long_text") fd
  u__law_number : ∃ fd, FunD K "_law_number" "_law_number" (defArgs (top 43)) (defBody (top 43)) (defScope (top 43)) [] [] (He.ga K "_law_number") fd
  u__law_odd_sign : ∃ fd, FunD K "_law_odd_sign" "_law_odd_sign" (defArgs (top 48)) (defBody (top 48)) (defScope (top 48)) [] [] (He.ga K "_law_odd_sign") fd
  u__law_odd_text : ∃ fd, FunD K "_law_odd_text" "_law_odd_text" (defArgs (top 49)) (defBody (top 49)) (defScope (top 49)) [] [] (He.ga K "_law_odd_text") fd
  u__law_odd_word : ∃ fd, FunD K "_law_odd_word" "_law_odd_word" (defArgs (top 47)) (defBody (top 47)) (defScope (top 47)) [] [] (He.ga K "_law_odd_word") fd
  u__law_own_log : ∃ fd, FunD K "_law_own_log" "_law_own_log" (defArgs (top 41)) (defBody (top 41)) (defScope (top 41)) [] [] (He.ga K "_law_own_log") fd
  u__law_own_ranges : ∃ fd, FunD K "_law_own_ranges" "_law_own_ranges" (defArgs (top 39)) (defBody (top 39)) (defScope (top 39)) [] [] (He.ga K "_law_own_ranges") fd
  u__law_own_reading : ∃ fd, FunD K "_law_own_reading" "_law_own_reading" (defArgs (top 40)) (defBody (top 40)) (defScope (top 40)) [] [] (He.ga K "_law_own_reading") fd
  u__law_own_text : ∃ fd, FunD K "_law_own_text" "_law_own_text" (defArgs (top 42)) (defBody (top 42)) (defScope (top 42)) [] [] (He.ga K "_law_own_text") fd
  u__law_pick : ∃ fd, FunD K "_law_pick" "_law_pick" (defArgs (top 38)) (defBody (top 38)) (defScope (top 38)) [] [] (He.ga K "_law_pick") fd
  u__law_row : ∃ fd, FunD K "_law_row" "_law_row" (defArgs (top 44)) (defBody (top 44)) (defScope (top 44)) [] [] (He.ga K "_law_row") fd
  u__law_told : ∃ fd, FunD K "_law_told" "_law_told" (defArgs (top 50)) (defBody (top 50)) (defScope (top 50)) [] [] (He.ga K "_law_told") fd
  u_goes_on : ∃ fd, FunD K "goes_on" "goes_on" (defArgs (top 33)) (defBody (top 33)) (defScope (top 33)) [] [] (He.ga K "goes_on") fd
  u_is_state : ∃ fd, FunD K "is_state" "is_state" (defArgs (top 27)) (defBody (top 27)) (defScope (top 27)) [] [] (He.ga K "is_state") fd
  u_law : ∃ fd, FunD K "law" "law" (defArgs (top 53)) (defBody (top 53)) (defScope (top 53)) [] [] (He.ga K "law") fd
  u_number_of : ∃ fd, FunD K "number_of" "number_of" (defArgs (top 30)) (defBody (top 30)) (defScope (top 30)) [] [] (He.ga K "number_of") fd
  u_parse_case : ∃ fd, FunD K "parse_case" "parse_case" (defArgs (top 34)) (defBody (top 34)) (defScope (top 34)) [] [] (He.ga K "parse_case") fd
  u_reading_of : ∃ fd, FunD K "reading_of" "reading_of" (defArgs (top 31)) (defBody (top 31)) (defScope (top 31)) [] [] (He.ga K "reading_of") fd
  u_row_of : ∃ fd, FunD K "row_of" "row_of" (defArgs (top 32)) (defBody (top 32)) (defScope (top 32)) [] [] (He.ga K "row_of") fd
  x_BadText : XC P w K mg base "BadText" (He.ga K "BadText") "index"
  sys : ∃ o, K.lookup sysModules = some o
section
variable {P : Program} {w : World} {K : PySem.W.Frag} {mg : Str → Option Value} {base : Heap}
abbrev s__law_bag : Stmt := top 36
theorem sc__law_bag : FnScope ["script", "cells", "mixed", "cell"] ["script"] (defScope s__law_bag) := ⟨rfl, rfl, rfl, by decide +kernel, rfl, by decide +kernel, by decide +kernel⟩
def n__law_bag (K : PySem.W.Frag) : MS := (kSeq (kSet 1 (mLc (iSeq (mSl (mV 0) mNoPart (mPart (mC (.int 63))))) (gN 3) nYes (mCall (a1 fAbs) (mCons (mV 3) mNil)) [3]))
  (kSeq (kSet 2 (m2' aAdd (mC (.int 2468)) (mCall (a1 fLen) (mCons (mV 1) mNil))))
  (kSeq (kFor (iSeq (mV 1)) (gN 3)
  (kSet 2 (m2' aMod (mCall (a1 fInt) (mCons (m2' aAdd (m2' aAdd (m2' aMul (mV 2) (mC (.int 48271))) (mV 3)) (mC (.int 7))) mNil)) (mC (.int 2147483647)))))
  (kRet (mLst (mCons (mLstRev (mCall (a1 fList) (mCons (mV 1) mNil))) (mCons (mC (.int 0)) (mCons (mV 2) mNil))))))))
abbrev wp__law_bag (K : PySem.W.Frag) : WPn := wpOf 1 4 (n__law_bag K)
theorem a__law_bag (D : Fx P w K mg base) : AF P w K mg base 2 "_law_bag" 1 (wp__law_bag K) := by
  obtain ⟨fd, F⟩ := D.u__law_bag
  exact ⟨_, fd, _, fng_mk F sc__law_bag (fun cdv A fr s H E room gd =>
  (cs_cons (cs_setLc 1 rfl sc__law_bag.nd (ci_seq (c_slice (cv 0) co_none (co_some c_int))) (blkOk_by (N := ["script", "cells", "mixed", "cell"]) (sc := defScope s__law_bag) (own := [(("cell" : Str), (3 : Nat))]) (by decide +kernel)) (fun s H C cl fp => (gc_name 3 sc__law_bag.nd)) (fun s H C cl fp => cts_nil) (fun s H C cl fp => (c_callB call_absA boot_abs D.f_abs (ca_cons (cv 3) ca_nil))) rfl)
  (cs_cons (cs_set 2 sc__law_bag.nd (ce_op opA_add c_int (c_callB call_lenA boot_len D.f_len (ca_cons (cv 1) ca_nil))))
  (cs_cons (cs_for (passes_of rfl) rfl (ci_seq (cv 1)) (g_name 3 sc__law_bag.nd)
  (cs_one (cs_set 2 sc__law_bag.nd (ce_op opA_mod (c_callT call_intA boot_int D.f_int (ca_cons (ce_op opA_add (ce_op opA_add (ce_op opA_mul (cv 2) c_int) (cv 3)) c_int) ca_nil)) c_int))))
  (cs_one (cs_ret (c_lst (ca_cons (c_lstRev rfl D.f_list D.f_reversed (c_callT call_listA boot_list D.f_list (ca_cons (cv 1) ca_nil))) (ca_cons c_int (ca_cons (cv 2) ca_nil)))))))))) (fun _ _ _ _ _ h => h.2), D.m__law_bag, F.kp, FunD.bindsN F (fun _ _ _ _ _ _ us hl => match us, hl with | [_], _ => rfl), lensOf⟩
abbrev s__law_draw : Stmt := top 37
theorem sc__law_draw : FnScope ["bag", "below", "cell", "found"] ["bag", "below"] (defScope s__law_draw) := ⟨rfl, rfl, rfl, by decide +kernel, rfl, by decide +kernel, by decide +kernel⟩
def n__law_draw (K : PySem.W.Frag) : MS := (kSeq (kWhile (mAnd (mTest (m2' aEq (m2' aIx (mV 0) (mC (.int 1))) (mC (.int 0)))) (mTest (m2' aNe (m2' aIx (mV 0) (mC (.int 0))) (mLst mNil))))
  (kSeq (kSet 2 (mMeth0 "list" aPop (m2' aIx (mV 0) (mC (.int 0)))))
  (kSub (mIf (mTest (m2' aGt (mV 2) (m2' aPow (mC (.int 10)) (mC (.int 9))))) (mV 2) (mC (.int 0))) (mV 0) (mC (.int 1)))))
  (kSeq (kIf (mTest (m2' aGt (m2' aIx (mV 0) (mC (.int 1))) (mC (.int 0)))) (kSeq (kSet 3 (m2' aMod (mCall (a1 fInt) (mCons (m2' aIx (mV 0) (mC (.int 1))) mNil)) (mV 1)))
  (kSeq (kSub (m2' aDiv (m2' aIx (mV 0) (mC (.int 1))) (mV 1)) (mV 0) (mC (.int 1)))
  (kRet (mV 3)))) kNext)
  (kSeq (kSub (m2' aMod (mCall (a1 fInt) (mCons (m2' aAdd (m2' aMul (m2' aIx (mV 0) (mC (.int 2))) (mC (.int 48271))) (mC (.int 11))) mNil)) (mC (.int 2147483647))) (mV 0) (mC (.int 2)))
  (kRet (m2' aMod (mCall (a1 fInt) (mCons (m2' aDiv (m2' aMod (mCall (a1 fInt) (mCons (m2' aMul (m2' aIx (mV 0) (mC (.int 2))) (m2' aIx (mV 0) (mC (.int 2)))) mNil)) (mC (.int 2147483629))) (mC (.int 7))) mNil)) (mV 1))))))
abbrev wp__law_draw (K : PySem.W.Frag) : WPn := wpOf 2 4 (n__law_draw K)
theorem a__law_draw (D : Fx P w K mg base) : AF P w K mg base 2 "_law_draw" 2 (wp__law_draw K) := by
  obtain ⟨fd, F⟩ := D.u__law_draw
  exact ⟨_, fd, _, fng_mk F sc__law_draw (fun cdv A fr s H E room gd =>
  (cs_cons (cs_while (passes_of rfl) (ct_w (cw_and (ct_cmp (opA_eq room.units) (c_ix (cv 0) c_int) c_int (nomark _)) (cw_and1 (ct_cmp (opA_ne room.units) (c_ix (cv 0) c_int) (c_lst ca_nil) (nomark _)))))
  (cs_cons (cs_set 2 sc__law_draw.nd (c_bm0 PySem.F.plainAttrs_list PySem.F.slot_list_pop PySem.F.type_list_pop mtA_pop (c_ix (cv 0) c_int)))
  (cs_one (cs_sub (c_if (ct_cmp opA_gt (cv 2) (ce_op opA_pow c_int c_int) (nomark _)) (cv 2) c_int) (cv 0) c_int))))
  (cs_cons (cs_if (ct_cmp opA_gt (c_ix (cv 0) c_int) c_int (nomark _)) (cs_cons (cs_set 3 sc__law_draw.nd (ce_op opA_mod (c_callT call_intA boot_int D.f_int (ca_cons (c_ix (cv 0) c_int) ca_nil)) (cv 1)))
  (cs_cons (cs_sub (ce_op opA_div (c_ix (cv 0) c_int) (cv 1)) (cv 0) c_int)
  (cs_one (cs_ret (cv 3))))) cs_nil)
  (cs_cons (cs_sub (ce_op opA_mod (c_callT call_intA boot_int D.f_int (ca_cons (ce_op opA_add (ce_op opA_mul (c_ix (cv 0) c_int) c_int) c_int) ca_nil)) c_int) (cv 0) c_int)
  (cs_one (cs_ret (ce_op opA_mod (c_callT call_intA boot_int D.f_int (ca_cons (ce_op opA_div (ce_op opA_mod (c_callT call_intA boot_int D.f_int (ca_cons (ce_op opA_mul (c_ix (cv 0) c_int) (c_ix (cv 0) c_int)) ca_nil)) c_int) c_int) ca_nil)) (cv 1)))))))) (fun _ _ _ _ _ h => h.2), D.m__law_draw, F.kp, FunD.bindsN F (fun _ _ _ _ _ _ us hl => match us, hl with | [_, _], _ => rfl), lensOf⟩
abbrev s__law_pick : Stmt := top 38
theorem sc__law_pick : FnScope ["bag", "some"] ["bag", "some"] (defScope s__law_pick) := ⟨rfl, rfl, rfl, by decide +kernel, rfl, by decide +kernel, by decide +kernel⟩
def n__law_pick (K : PySem.W.Frag) : MS := (kRet (m2' aIx (mV 1) (mFn (wp__law_draw K) (mCons (mV 0) (mCons (mCall (a1 fLen) (mCons (mV 1) mNil)) mNil)))))
abbrev wp__law_pick (K : PySem.W.Frag) : WPn := wpOf 2 2 (n__law_pick K)
theorem a__law_pick (D : Fx P w K mg base) : AF P w K mg base 3 "_law_pick" 2 (wp__law_pick K) := by
  obtain ⟨fd, F⟩ := D.u__law_pick
  exact ⟨_, fd, _, fng_mk F sc__law_pick (fun cdv A fr s H E room gd =>
  (cs_one (cs_ret (c_ix (cv 1) (c_call (a__law_draw D) (room.mono (by decide)) gd (L2N.takes_of rfl rfl rfl rfl) (ca_cons (cv 0) (ca_cons (c_callB call_lenA boot_len D.f_len (ca_cons (cv 1) ca_nil)) ca_nil))))))) (fun _ _ _ _ _ h => h.2), D.m__law_pick, F.kp, FunD.bindsN F (fun _ _ _ _ _ _ us hl => match us, hl with | [_, _], _ => rfl), lensOf⟩
abbrev s__law_own_ranges : Stmt := top 39
theorem sc__law_own_ranges : FnScope ["bag", "wide", "base", "b", "c", "a", "d"] ["bag"] (defScope s__law_own_ranges) := ⟨rfl, rfl, rfl, by decide +kernel, rfl, by decide +kernel, by decide +kernel⟩
def n__law_own_ranges (K : PySem.W.Frag) : MS := (kSeq (kSet 1 (mFn (wp__law_pick K) (mCons (mV 0) (mCons (mLst (mCons (mC (.int 1)) (mCons (mC (.int 4)) (mCons (mC (.int 20)) (mCons (mC (.int 300)) (mCons (m2' aPow (mC (.int 10)) (mC (.int 4))) (mCons (m2' aPow (mC (.int 10)) (mC (.int 6))) mNil))))))) mNil))))
  (kSeq (kSet 2 (mFn (wp__law_pick K) (mCons (mV 0) (mCons (mLst (mCons (mC (.int 0)) (mCons (mC (.int 0)) (mCons (m2' aSub (m2' aPow (mC (.int 10)) (mC (.int 6))) (mV 1)) (mCons (mFn (wp__law_draw K) (mCons (mV 0) (mCons (m2' aSub (m2' aAdd (m2' aPow (mC (.int 10)) (mC (.int 6))) (mC (.int 1))) (mV 1)) mNil))) mNil))))) mNil))))
  (kSeq (kSet 3 (mFn (wp__law_draw K) (mCons (mV 0) (mCons (mV 1) mNil))))
  (kSeq (kSet 4 (m2' aAdd (m2' aAdd (mV 3) (mC (.int 1))) (mFn (wp__law_pick K) (mCons (mV 0) (mCons (mLst (mCons (mC (.int 0)) (mCons (mFn (wp__law_draw K) (mCons (mV 0) (mCons (m2' aSub (mV 1) (mV 3)) mNil))) mNil))) mNil)))))
  (kSeq (kSet 5 (mFn (wp__law_pick K) (mCons (mV 0) (mCons (mLst (mCons (mV 3) (mCons (mC (.int 0)) (mCons (mC (.int 0)) (mCons (mFn (wp__law_draw K) (mCons (mV 0) (mCons (m2' aAdd (mV 3) (mC (.int 1))) mNil))) mNil))))) mNil))))
  (kSeq (kSet 6 (mFn (wp__law_pick K) (mCons (mV 0) (mCons (mLst (mCons (mV 4) (mCons (mV 1) (mCons (mV 1) (mCons (m2' aAdd (mV 4) (mFn (wp__law_draw K) (mCons (mV 0) (mCons (m2' aSub (m2' aAdd (mV 1) (mC (.int 1))) (mV 4)) mNil)))) mNil))))) mNil))))
  (kRet (mTup (mCons (m2' aAdd (mV 2) (mV 5)) (mCons (m2' aAdd (mV 2) (mV 3)) (mCons (m2' aAdd (mV 2) (mV 4)) (mCons (m2' aAdd (mV 2) (mV 6)) mNil))))))))))))
abbrev wp__law_own_ranges (K : PySem.W.Frag) : WPn := wpOf 1 7 (n__law_own_ranges K)
theorem a__law_own_ranges (D : Fx P w K mg base) : AF P w K mg base 4 "_law_own_ranges" 1 (wp__law_own_ranges K) := by
  obtain ⟨fd, F⟩ := D.u__law_own_ranges
  exact ⟨_, fd, _, fng_mk F sc__law_own_ranges (fun cdv A fr s H E room gd =>
  (cs_cons (cs_set 1 sc__law_own_ranges.nd (c_call (a__law_pick D) (room.mono (by decide)) gd (L2N.takes_of rfl rfl rfl rfl) (ca_cons (cv 0) (ca_cons (c_lst (ca_cons c_int (ca_cons c_int (ca_cons c_int (ca_cons c_int (ca_cons (ce_op opA_pow c_int c_int) (ca_cons (ce_op opA_pow c_int c_int) ca_nil))))))) ca_nil))))
  (cs_cons (cs_set 2 sc__law_own_ranges.nd (c_call (a__law_pick D) (room.mono (by decide)) gd (L2N.takes_of rfl rfl rfl rfl) (ca_cons (cv 0) (ca_cons (c_lst (ca_cons c_int (ca_cons c_int (ca_cons (ce_op opA_sub (ce_op opA_pow c_int c_int) (cv 1)) (ca_cons (c_call (a__law_draw D) (room.mono (by decide)) gd (L2N.takes_of rfl rfl rfl rfl) (ca_cons (cv 0) (ca_cons (ce_op opA_sub (ce_op opA_add (ce_op opA_pow c_int c_int) c_int) (cv 1)) ca_nil))) ca_nil))))) ca_nil))))
  (cs_cons (cs_set 3 sc__law_own_ranges.nd (c_call (a__law_draw D) (room.mono (by decide)) gd (L2N.takes_of rfl rfl rfl rfl) (ca_cons (cv 0) (ca_cons (cv 1) ca_nil))))
  (cs_cons (cs_set 4 sc__law_own_ranges.nd (ce_op opA_add (ce_op opA_add (cv 3) c_int) (c_call (a__law_pick D) (room.mono (by decide)) gd (L2N.takes_of rfl rfl rfl rfl) (ca_cons (cv 0) (ca_cons (c_lst (ca_cons c_int (ca_cons (c_call (a__law_draw D) (room.mono (by decide)) gd (L2N.takes_of rfl rfl rfl rfl) (ca_cons (cv 0) (ca_cons (ce_op opA_sub (cv 1) (cv 3)) ca_nil))) ca_nil))) ca_nil)))))
  (cs_cons (cs_set 5 sc__law_own_ranges.nd (c_call (a__law_pick D) (room.mono (by decide)) gd (L2N.takes_of rfl rfl rfl rfl) (ca_cons (cv 0) (ca_cons (c_lst (ca_cons (cv 3) (ca_cons c_int (ca_cons c_int (ca_cons (c_call (a__law_draw D) (room.mono (by decide)) gd (L2N.takes_of rfl rfl rfl rfl) (ca_cons (cv 0) (ca_cons (ce_op opA_add (cv 3) c_int) ca_nil))) ca_nil))))) ca_nil))))
  (cs_cons (cs_set 6 sc__law_own_ranges.nd (c_call (a__law_pick D) (room.mono (by decide)) gd (L2N.takes_of rfl rfl rfl rfl) (ca_cons (cv 0) (ca_cons (c_lst (ca_cons (cv 4) (ca_cons (cv 1) (ca_cons (cv 1) (ca_cons (ce_op opA_add (cv 4) (c_call (a__law_draw D) (room.mono (by decide)) gd (L2N.takes_of rfl rfl rfl rfl) (ca_cons (cv 0) (ca_cons (ce_op opA_sub (ce_op opA_add (cv 1) c_int) (cv 4)) ca_nil)))) ca_nil))))) ca_nil))))
  (cs_one (cs_ret (c_tup (ca_cons (ce_op opA_add (cv 2) (cv 5)) (ca_cons (ce_op opA_add (cv 2) (cv 3)) (ca_cons (ce_op opA_add (cv 2) (cv 4)) (ca_cons (ce_op opA_add (cv 2) (cv 6)) ca_nil)))))))))))))) (fun _ _ _ _ _ h => h.2), D.m__law_own_ranges, F.kp, FunD.bindsN F (fun _ _ _ _ _ _ us hl => match us, hl with | [_], _ => rfl), lensOf⟩
abbrev s__law_own_reading : Stmt := top 40
theorem sc__law_own_reading : FnScope ["bag", "ranges", "way", "at"] ["bag", "ranges"] (defScope s__law_own_reading) := ⟨rfl, rfl, rfl, by decide +kernel, rfl, by decide +kernel, by decide +kernel⟩
def n__law_own_reading (K : PySem.W.Frag) : MS := (kSeq (kPar2 2 3 (mCons (mFn (wp__law_draw K) (mCons (mV 0) (mCons (mC (.int 10)) mNil))) (mCons (mFn (wp__law_pick K) (mCons (mV 0) (mCons (mLst (mCons (mC (.int 0)) (mCons (mC (.int 0)) (mCons (mC (.int 1)) (mCons (mC (.int 2)) (mCons (mC (.int 2)) mNil)))))) mNil))) mNil)))
  (kSeq (kIf (mTest (m2' aEq (mV 2) (mC (.int 0)))) (kRet (mFn (wp__law_pick K) (mCons (mV 0) (mCons (mLst (mCons (mC (.int 0)) (mCons (m2' aPow (mC (.int 10)) (mC (.int 6))) (mCons (mFn (wp__law_draw K) (mCons (mV 0) (mCons (m2' aAdd (m2' aPow (mC (.int 10)) (mC (.int 6))) (mC (.int 1))) mNil))) mNil)))) mNil)))) kNext)
  (kSeq (kIf (mTest (m2' aLt (mV 2) (mC (.int 4)))) (kRet (mCall (a2 fMax) (mCons (mC (.int 0)) (mCons (mCall (a2 fMin) (mCons (m2' aPow (mC (.int 10)) (mC (.int 6))) (mCons (m2' aSub (m2' aAdd (mFn (wp__law_pick K) (mCons (mV 0) (mCons (mCall (a1 fList) (mCons (mV 1) mNil)) mNil))) (mV 3)) (mC (.int 1))) mNil))) mNil)))) kNext)
  (kRet (m2' aAdd (m2' aIx (mV 1) (mV 3)) (mFn (wp__law_draw K) (mCons (mV 0) (mCons (m2' aAdd (m2' aSub (m2' aIx (mV 1) (m2' aAdd (mV 3) (mC (.int 1)))) (m2' aIx (mV 1) (mV 3))) (mC (.int 1))) mNil))))))))
abbrev wp__law_own_reading (K : PySem.W.Frag) : WPn := wpOf 2 4 (n__law_own_reading K)
theorem a__law_own_reading (D : Fx P w K mg base) : AF P w K mg base 4 "_law_own_reading" 2 (wp__law_own_reading K) := by
  obtain ⟨fd, F⟩ := D.u__law_own_reading
  exact ⟨_, fd, _, fng_mk F sc__law_own_reading (fun cdv A fr s H E room gd =>
  (cs_cons (cs_par2 2 3 rfl sc__law_own_reading.nd (ca_cons (c_call (a__law_draw D) (room.mono (by decide)) gd (L2N.takes_of rfl rfl rfl rfl) (ca_cons (cv 0) (ca_cons c_int ca_nil))) (ca_cons (c_call (a__law_pick D) (room.mono (by decide)) gd (L2N.takes_of rfl rfl rfl rfl) (ca_cons (cv 0) (ca_cons (c_lst (ca_cons c_int (ca_cons c_int (ca_cons c_int (ca_cons c_int (ca_cons c_int ca_nil)))))) ca_nil))) ca_nil)))
  (cs_cons (cs_if (ct_cmp (opA_eq room.units) (cv 2) c_int (nomark _)) (cs_one (cs_ret (c_call (a__law_pick D) (room.mono (by decide)) gd (L2N.takes_of rfl rfl rfl rfl) (ca_cons (cv 0) (ca_cons (c_lst (ca_cons c_int (ca_cons (ce_op opA_pow c_int c_int) (ca_cons (c_call (a__law_draw D) (room.mono (by decide)) gd (L2N.takes_of rfl rfl rfl rfl) (ca_cons (cv 0) (ca_cons (ce_op opA_add (ce_op opA_pow c_int c_int) c_int) ca_nil))) ca_nil)))) ca_nil))))) cs_nil)
  (cs_cons (cs_if (ct_cmp opA_lt (cv 2) c_int (nomark _)) (cs_one (cs_ret (c_callB (call_maxA rfl) boot_max D.f_max (ca_cons c_int (ca_cons (c_callB (call_minA rfl) boot_min D.f_min (ca_cons (ce_op opA_pow c_int c_int) (ca_cons (ce_op opA_sub (ce_op opA_add (c_call (a__law_pick D) (room.mono (by decide)) gd (L2N.takes_of rfl rfl rfl rfl) (ca_cons (cv 0) (ca_cons (c_callT call_listA boot_list D.f_list (ca_cons (cv 1) ca_nil)) ca_nil))) (cv 3)) c_int) ca_nil))) ca_nil))))) cs_nil)
  (cs_one (cs_ret (ce_op opA_add (c_ix (cv 1) (cv 3)) (c_call (a__law_draw D) (room.mono (by decide)) gd (L2N.takes_of rfl rfl rfl rfl) (ca_cons (cv 0) (ca_cons (ce_op opA_add (ce_op opA_sub (c_ix (cv 1) (ce_op opA_add (cv 3) c_int)) (c_ix (cv 1) (cv 3))) c_int) ca_nil)))))))))) (fun _ _ _ _ _ h => h.2), D.m__law_own_reading, F.kp, FunD.bindsN F (fun _ _ _ _ _ _ us hl => match us, hl with | [_, _], _ => rfl), lensOf⟩
abbrev s__law_own_log : Stmt := top 41
theorem sc__law_own_log : FnScope ["bag", "ranges", "many", "low", "high", "start", "odd", "few", "rows", "state", "turn", "reading", "seen"] ["bag", "ranges", "many"] (defScope s__law_own_log) := ⟨rfl, rfl, rfl, by decide +kernel, rfl, by decide +kernel, by decide +kernel⟩
def n__law_own_log (K : PySem.W.Frag) : MS := (kSeq (kSet 3 (m2' aAdd (m2' aIx (mV 1) (mC (.int 0))) (mFn (wp__law_draw K) (mCons (mV 0) (mCons (m2' aAdd (m2' aSub (m2' aIx (mV 1) (mC (.int 1))) (m2' aIx (mV 1) (mC (.int 0)))) (mC (.int 1))) mNil)))))
  (kSeq (kSet 4 (m2' aAdd (m2' aIx (mV 1) (mC (.int 2))) (mFn (wp__law_draw K) (mCons (mV 0) (mCons (m2' aAdd (m2' aSub (m2' aIx (mV 1) (mC (.int 3))) (m2' aIx (mV 1) (mC (.int 2)))) (mC (.int 1))) mNil)))))
  (kSeq (kAsg (gTup' 4 (gCons' (gN 5) (gCons' (gN 6) (gCons' (gN 7) (gCons' (gN 8) gNil'))))) (mTup (mCons (mFn (wp__law_pick K) (mCons (mV 0) (mCons (mLst (mCons (mC (.str "on")) (mCons (mC (.str "off")) mNil))) mNil))) (mCons (mFn (wp__law_pick K) (mCons (mV 0) (mCons (mLst (mCons (mC (.int 0)) (mCons (mC (.int 0)) (mCons (mC (.int 0)) (mCons (mC (.int 0)) (mCons (mC (.int 1)) (mCons (mC (.int 9)) mNil))))))) mNil))) (mCons (m2' aAdd (mC (.int 1)) (mFn (wp__law_draw K) (mCons (mV 0) (mCons (mC (.int 5)) mNil)))) (mCons (mLst mNil) mNil))))))
  (kSeq (kSet 9 (mV 5))
  (kSeq (kFor (iRange1 (mV 2)) (gN 10)
  (kSeq (kSet 11 (mFn (wp__law_own_reading K) (mCons (mV 0) (mCons (mV 1) mNil))))
  (kSeq (kIf (mOr (mTest (m2' aLe (mV 11) (mV 3))) (mTest (m2' aGe (mV 11) (mV 4)))) (kSet 9 (mIf (mTest (m2' aLe (mV 11) (mV 3))) (mC (.str "on")) (mC (.str "off")))) kNext)
  (kSeq (kSet 12 (mIf (mTest (m2' aEq (mFn (wp__law_draw K) (mCons (mV 0) (mCons (mV 7) mNil))) (mC (.int 0)))) (mV 9) (mC .non)))
  (kSeq (kIf (mAnd (mTest (m2' aIsNot (mV 12) (mC .non))) (mTest (m2' aLt (mFn (wp__law_draw K) (mCons (mV 0) (mCons (mC (.int 9)) mNil))) (mV 6)))) (kSet 12 (mIf (mTest (m2' aEq (mV 9) (mC (.str "on")))) (mC (.str "off")) (mC (.str "on")))) kNext)
  (kExpr (mMeth "list" aAppend (mV 8) (mCons (mTup (mCons (mV 11) (mCons (mV 12) mNil))) mNil))))))))
  (kRet (mTup (mCons (mV 5) (mCons (mCall (a1 fTuple) (mCons (mV 8) mNil)) mNil)))))))))
abbrev wp__law_own_log (K : PySem.W.Frag) : WPn := wpOf 3 13 (n__law_own_log K)
theorem a__law_own_log (D : Fx P w K mg base) : AF P w K mg base 5 "_law_own_log" 3 (wp__law_own_log K) := by
  obtain ⟨fd, F⟩ := D.u__law_own_log
  exact ⟨_, fd, _, fng_mk F sc__law_own_log (fun cdv A fr s H E room gd =>
  (cs_cons (cs_set 3 sc__law_own_log.nd (ce_op opA_add (c_ix (cv 1) c_int) (c_call (a__law_draw D) (room.mono (by decide)) gd (L2N.takes_of rfl rfl rfl rfl) (ca_cons (cv 0) (ca_cons (ce_op opA_add (ce_op opA_sub (c_ix (cv 1) c_int) (c_ix (cv 1) c_int)) c_int) ca_nil)))))
  (cs_cons (cs_set 4 sc__law_own_log.nd (ce_op opA_add (c_ix (cv 1) c_int) (c_call (a__law_draw D) (room.mono (by decide)) gd (L2N.takes_of rfl rfl rfl rfl) (ca_cons (cv 0) (ca_cons (ce_op opA_add (ce_op opA_sub (c_ix (cv 1) c_int) (c_ix (cv 1) c_int)) c_int) ca_nil)))))
  (cs_cons (cs_asg (c_tup (ca_cons (c_call (a__law_pick D) (room.mono (by decide)) gd (L2N.takes_of rfl rfl rfl rfl) (ca_cons (cv 0) (ca_cons (c_lst (ca_cons c_str (ca_cons c_str ca_nil))) ca_nil))) (ca_cons (c_call (a__law_pick D) (room.mono (by decide)) gd (L2N.takes_of rfl rfl rfl rfl) (ca_cons (cv 0) (ca_cons (c_lst (ca_cons c_int (ca_cons c_int (ca_cons c_int (ca_cons c_int (ca_cons c_int (ca_cons c_int ca_nil))))))) ca_nil))) (ca_cons (ce_op opA_add c_int (c_call (a__law_draw D) (room.mono (by decide)) gd (L2N.takes_of rfl rfl rfl rfl) (ca_cons (cv 0) (ca_cons c_int ca_nil)))) (ca_cons (c_lst ca_nil) ca_nil))))) (g_tup rfl (gs_cons (g_name 5 sc__law_own_log.nd) (gs_cons (g_name 6 sc__law_own_log.nd) (gs_cons (g_name 7 sc__law_own_log.nd) (gs_cons (g_name 8 sc__law_own_log.nd) gs_nil))))))
  (cs_cons (cs_set 9 sc__law_own_log.nd (cv 5))
  (cs_cons (cs_for (passes_of rfl) rfl (ci_range1 D.f_range (cv 2)) (g_name 10 sc__law_own_log.nd)
  (cs_cons (cs_set 11 sc__law_own_log.nd (c_call (a__law_own_reading D) (room.mono (by decide)) gd (L2N.takes_of rfl rfl rfl rfl) (ca_cons (cv 0) (ca_cons (cv 1) ca_nil))))
  (cs_cons (cs_if (ct_w (cw_or (ct_cmp opA_le (cv 11) (cv 3) (nomark _)) (cw_or1 (ct_cmp opA_ge (cv 11) (cv 4) (nomark _))))) (cs_one (cs_set 9 sc__law_own_log.nd (c_if (ct_cmp opA_le (cv 11) (cv 3) (nomark _)) c_str c_str))) cs_nil)
  (cs_cons (cs_set 12 sc__law_own_log.nd (c_if (ct_cmp (opA_eq room.units) (c_call (a__law_draw D) (room.mono (by decide)) gd (L2N.takes_of rfl rfl rfl rfl) (ca_cons (cv 0) (ca_cons (cv 7) ca_nil))) c_int (nomark _)) (cv 9) c_non))
  (cs_cons (cs_if (ct_w (cw_and (ct_cmp opA_isNot (cv 12) c_non (nomark _)) (cw_and1 (ct_cmp opA_lt (c_call (a__law_draw D) (room.mono (by decide)) gd (L2N.takes_of rfl rfl rfl rfl) (ca_cons (cv 0) (ca_cons c_int ca_nil))) (cv 6) (nomark _))))) (cs_one (cs_set 12 sc__law_own_log.nd (c_if (ct_cmp (opA_eq room.units) (cv 9) c_str (nomark _)) c_str c_str))) cs_nil)
  (cs_one (cs_expr (c_bm PySem.F.plainAttrs_list PySem.F.slot_list_append PySem.F.type_list_append mtA_append (cv 8) (ca_cons (c_tup (ca_cons (cv 11) (ca_cons (cv 12) ca_nil))) ca_nil)))))))))
  (cs_one (cs_ret (c_tup (ca_cons (cv 5) (ca_cons (c_callT call_tupleA boot_tuple D.f_tuple (ca_cons (cv 8) ca_nil)) ca_nil))))))))))) (fun _ _ _ _ _ h => h.2), D.m__law_own_log, F.kp, FunD.bindsN F (fun _ _ _ _ _ _ us hl => match us, hl with | [_, _, _], _ => rfl), lensOf⟩
abbrev s__law_own_text : Stmt := top 42
theorem sc__law_own_text : FnScope ["ranges", "log", "words", "reading", "seen", "number"] ["ranges", "log"] (defScope s__law_own_text) := ⟨rfl, rfl, rfl, by decide +kernel, rfl, by decide +kernel, by decide +kernel⟩
def n__law_own_text (K : PySem.W.Frag) : MS := (kSeq (kSet 2 (m2' aAdd (mLc (iSeq (mV 0)) (gN 5) nYes (mCall (a1 fStrI) (mCons (mV 5) mNil)) [5]) (mLst (mCons (m2' aIx (mV 1) (mC (.int 0))) mNil))))
  (kSeq (kFor (iSeq (m2' aIx (mV 1) (mC (.int 1)))) (gTup' 2 (gCons' (gN 3) (gCons' (gN 4) gNil')))
  (kExpr (mMeth "list" aAppend (mV 2) (mCons (mIf (mTest (m2' aIs (mV 4) (mC .non))) (mCall (a1 fStrI) (mCons (mV 3) mNil)) (m2' aAdd (m2' aAdd (mCall (a1 fStrI) (mCons (mV 3) mNil)) (mC (.str ":"))) (mV 4))) mNil))))
  (kRet (mMeth "str" aJoin (mC (.str " ")) (mCons (mV 2) mNil)))))
abbrev wp__law_own_text (K : PySem.W.Frag) : WPn := wpOf 2 6 (n__law_own_text K)
theorem a__law_own_text (D : Fx P w K mg base) : AF P w K mg base 2 "_law_own_text" 2 (wp__law_own_text K) := by
  obtain ⟨fd, F⟩ := D.u__law_own_text
  exact ⟨_, fd, _, fng_mk F sc__law_own_text (fun cdv A fr s H E room gd =>
  (cs_cons (cs_set 2 sc__law_own_text.nd (ce_op opA_add (c_lc rfl sc__law_own_text.nd (ci_seq (cv 0)) (blkOk_by (N := ["ranges", "log", "words", "reading", "seen", "number"]) (sc := defScope s__law_own_text) (own := [(("number" : Str), (5 : Nat))]) (by decide +kernel)) (fun s H C cl fp => (gc_name 5 sc__law_own_text.nd)) (fun s H C cl fp => cts_nil) (fun s H C cl fp => (c_callT call_strA boot_str D.f_str (ca_cons (cv 5) ca_nil)))) (c_lst (ca_cons (c_ix (cv 1) c_int) ca_nil))))
  (cs_cons (cs_for (passes_of rfl) rfl (ci_seq (c_ix (cv 1) c_int)) (g_tup rfl (gs_cons (g_name 3 sc__law_own_text.nd) (gs_cons (g_name 4 sc__law_own_text.nd) gs_nil)))
  (cs_one (cs_expr (c_bm PySem.F.plainAttrs_list PySem.F.slot_list_append PySem.F.type_list_append mtA_append (cv 2) (ca_cons (c_if (ct_cmp opA_is (cv 4) c_non (nomark _)) (c_callT call_strA boot_str D.f_str (ca_cons (cv 3) ca_nil)) (ce_op opA_add (ce_op opA_add (c_callT call_strA boot_str D.f_str (ca_cons (cv 3) ca_nil)) c_str) (cv 4))) ca_nil)))))
  (cs_one (cs_ret (c_bm PySem.F.plainAttrs_str PySem.F.slot_str_join PySem.F.type_str_join mtA_join c_str (ca_cons (cv 2) ca_nil))))))) (fun _ _ _ _ _ h => h.2), D.m__law_own_text, F.kp, FunD.bindsN F (fun _ _ _ _ _ _ us hl => match us, hl with | [_, _], _ => rfl), lensOf⟩
abbrev s_number_of : Stmt := top 30
theorem sc_number_of : FnScope ["word", "most", "sign"] ["word", "most"] (defScope s_number_of) := ⟨rfl, rfl, rfl, by decide +kernel, rfl, by decide +kernel, by decide +kernel⟩
def n_number_of (K : PySem.W.Frag) : MS := (kSeq (kIf (mOr (mTest (m2' aEq (mV 0) (mC (.str "")))) (mOr (mTest (m2' aGt (mCall (a1 fLen) (mCons (mV 0) mNil)) (mV 1))) (mNot (mTru (mCall (a1 (fBls fun bs => bs.all id)) (mCons (mLc (iSeq (mV 0)) (gN 2) nYes (m2' aIn (mV 2) (mC (.str "0123456789"))) [2]) mNil)))))) (kRet (mC .non)) kNext)
  (kRet (mIf (mAnd (mTest (m2' aEq (m2' aIx (mV 0) (mC (.int 0))) (mC (.str "0")))) (mTest (m2' aNe (mV 0) (mC (.str "0"))))) (mC .non) (mCall (a1 fInt) (mCons (mV 0) mNil)))))
abbrev wp_number_of (K : PySem.W.Frag) : WPn := wpOf 2 3 (n_number_of K)
theorem a_number_of (D : Fx P w K mg base) : AF P w K mg base 2 "number_of" 2 (wp_number_of K) := by
  obtain ⟨fd, F⟩ := D.u_number_of
  exact ⟨_, fd, _, fng_mk F sc_number_of (fun cdv A fr s H E room gd =>
  (cs_cons (cs_if (ct_w (cw_or (ct_cmp (opA_eq room.units) (cv 0) c_str (nomark _)) (cw_or (ct_cmp opA_gt (c_callB call_lenA boot_len D.f_len (ca_cons (cv 0) ca_nil)) (cv 1) (nomark _)) (cw_or1 (ct_not (ct_tru (c_callB (call_allA rfl) boot_all D.f_all (ca_cons (c_lc rfl sc_number_of.nd (ci_seq (cv 0)) (blkOk_by (N := ["word", "most", "sign"]) (sc := defScope s_number_of) (own := [(("sign" : Str), (2 : Nat))]) (by decide +kernel)) (fun s H C cl fp => (gc_name 2 sc_number_of.nd)) (fun s H C cl fp => cts_nil) (fun s H C cl fp => (ce_cmp opA_in (cv 2) (c_gs D.s_FIGURES) (by rfl)))) ca_nil)))))))) (cs_one (cs_ret c_non)) cs_nil)
  (cs_one (cs_ret (c_if (ct_w (cw_and (ct_cmp (opA_eq room.units) (c_ix (cv 0) c_int) c_str (nomark _)) (cw_and1 (ct_cmp (opA_ne room.units) (cv 0) c_str (nomark _))))) c_non (c_callT call_intA boot_int D.f_int (ca_cons (cv 0) ca_nil))))))) (fun _ _ _ _ _ h => h.2), D.m_number_of, F.kp, FunD.bindsN F (fun _ _ _ _ _ _ us hl => match us, hl with | [_, _], _ => rfl), lensOf⟩
abbrev s_reading_of : Stmt := top 31
theorem sc_reading_of : FnScope ["word", "number"] ["word"] (defScope s_reading_of) := ⟨rfl, rfl, rfl, by decide +kernel, rfl, by decide +kernel, by decide +kernel⟩
def n_reading_of (K : PySem.W.Frag) : MS := (kSeq (kSet 1 (mFn (wp_number_of K) (mCons (mV 0) (mCons (mCall (a1 fLen) (mCons (mCall (a1 fStrI) (mCons (mC (.int 1000000)) mNil)) mNil)) mNil))))
  (kRet (mIf (mAnd (mTest (m2' aIsNot (mV 1) (mC .non))) (mTest (m2' aLe (mV 1) (mC (.int 1000000))))) (mV 1) (mC .non))))
abbrev wp_reading_of (K : PySem.W.Frag) : WPn := wpOf 1 2 (n_reading_of K)
theorem a_reading_of (D : Fx P w K mg base) : AF P w K mg base 3 "reading_of" 1 (wp_reading_of K) := by
  obtain ⟨fd, F⟩ := D.u_reading_of
  exact ⟨_, fd, _, fng_mk F sc_reading_of (fun cdv A fr s H E room gd =>
  (cs_cons (cs_set 1 sc_reading_of.nd (c_call (a_number_of D) (room.mono (by decide)) gd (L2N.takes_of rfl rfl rfl rfl) (ca_cons (cv 0) (ca_cons (c_callB call_lenA boot_len D.f_len (ca_cons (c_callT call_strA boot_str D.f_str (ca_cons (c_gi D.i_MAX_READING) ca_nil)) ca_nil)) ca_nil))))
  (cs_one (cs_ret (c_if (ct_w (cw_and (ct_cmp opA_isNot (cv 1) c_non (nomark _)) (cw_and1 (ct_cmp opA_le (cv 1) (c_gi D.i_MAX_READING) (nomark _))))) (cv 1) c_non))))) (fun _ _ _ _ _ h => h.2), D.m_reading_of, F.kp, FunD.bindsN F (fun _ _ _ _ _ _ us hl => match us, hl with | [_], _ => rfl), lensOf⟩
abbrev s_is_state : Stmt := top 27
theorem sc_is_state : FnScope ["value"] ["value"] (defScope s_is_state) := ⟨rfl, rfl, rfl, by decide +kernel, rfl, by decide +kernel, by decide +kernel⟩
def n_is_state (K : PySem.W.Frag) : MS := (kRet (mAndV (mCall (a2 fIsT) (mCons (mV 0) (mCons (mC (.ty "str")) mNil))) (m2' aIn (mV 0) (mTup (mCons (mC (.str "on")) (mCons (mC (.str "off")) mNil))))))
abbrev wp_is_state (K : PySem.W.Frag) : WPn := wpOf 1 1 (n_is_state K)
theorem a_is_state (D : Fx P w K mg base) : AF P w K mg base 2 "is_state" 1 (wp_is_state K) := by
  obtain ⟨fd, F⟩ := D.u_is_state
  exact ⟨_, fd, _, fng_mk F sc_is_state (fun cdv A fr s H E room gd =>
  (cs_one (cs_ret (c_and (c_callB call_isiA boot_isinstance D.f_isinstance (ca_cons (cv 0) (ca_cons (c_ty D.f_str boot_str) ca_nil))) (c_one (ce_cmp opA_in (cv 0) (c_tup (ca_cons c_str (ca_cons c_str ca_nil))) (by rfl))))))) (fun _ _ _ _ _ h => h.2), D.m_is_state, F.kp, FunD.bindsN F (fun _ _ _ _ _ _ us hl => match us, hl with | [_], _ => rfl), lensOf⟩
abbrev s_row_of : Stmt := top 32
theorem sc_row_of : FnScope ["word", "parts", "reading"] ["word"] (defScope s_row_of) := ⟨rfl, rfl, rfl, by decide +kernel, rfl, by decide +kernel, by decide +kernel⟩
def n_row_of (K : PySem.W.Frag) : MS := (kSeq (kSet 1 (mMeth "str" aSplit (mV 0) (mCons (mC (.str ":")) mNil)))
  (kSeq (kSet 2 (mFn (wp_reading_of K) (mCons (m2' aIx (mV 1) (mC (.int 0))) mNil)))
  (kSeq (kIf (mOr (mTest (m2' aIs (mV 2) (mC .non))) (mTest (m2' aGt (mCall (a1 fLen) (mCons (mV 1) mNil)) (mC (.int 2))))) (kRet (mC .non)) kNext)
  (kSeq (kIf (mTest (m2' aEq (mCall (a1 fLen) (mCons (mV 1) mNil)) (mC (.int 1)))) (kRet (mTup (mCons (mV 2) (mCons (mC .non) mNil)))) kNext)
  (kRet (mIf (mTru (mFn (wp_is_state K) (mCons (m2' aIx (mV 1) (mC (.int 1))) mNil))) (mTup (mCons (mV 2) (mCons (m2' aIx (mV 1) (mC (.int 1))) mNil))) (mC .non)))))))
abbrev wp_row_of (K : PySem.W.Frag) : WPn := wpOf 1 3 (n_row_of K)
theorem a_row_of (D : Fx P w K mg base) : AF P w K mg base 4 "row_of" 1 (wp_row_of K) := by
  obtain ⟨fd, F⟩ := D.u_row_of
  exact ⟨_, fd, _, fng_mk F sc_row_of (fun cdv A fr s H E room gd =>
  (cs_cons (cs_set 1 sc_row_of.nd (c_bm PySem.F.plainAttrs_str PySem.F.slot_str_split PySem.F.type_str_split mtA_split (cv 0) (ca_cons c_str ca_nil)))
  (cs_cons (cs_set 2 sc_row_of.nd (c_call (a_reading_of D) (room.mono (by decide)) gd (L2N.takes_of rfl rfl rfl rfl) (ca_cons (c_ix (cv 1) c_int) ca_nil)))
  (cs_cons (cs_if (ct_w (cw_or (ct_cmp opA_is (cv 2) c_non (nomark _)) (cw_or1 (ct_cmp opA_gt (c_callB call_lenA boot_len D.f_len (ca_cons (cv 1) ca_nil)) c_int (nomark _))))) (cs_one (cs_ret c_non)) cs_nil)
  (cs_cons (cs_if (ct_cmp (opA_eq room.units) (c_callB call_lenA boot_len D.f_len (ca_cons (cv 1) ca_nil)) c_int (nomark _)) (cs_one (cs_ret (c_tup (ca_cons (cv 2) (ca_cons c_non ca_nil))))) cs_nil)
  (cs_one (cs_ret (c_if (ct_tru (c_call (a_is_state D) (room.mono (by decide)) gd (L2N.takes_of rfl rfl rfl rfl) (ca_cons (c_ix (cv 1) c_int) ca_nil))) (c_tup (ca_cons (cv 2) (ca_cons (c_ix (cv 1) c_int) ca_nil))) c_non)))))))) (fun _ _ _ _ _ h => h.2), D.m_row_of, F.kp, FunD.bindsN F (fun _ _ _ _ _ _ us hl => match us, hl with | [_], _ => rfl), lensOf⟩
abbrev s_goes_on : Stmt := top 33
theorem sc_goes_on : FnScope ["numbers", "reading"] ["numbers", "reading"] (defScope s_goes_on) := ⟨rfl, rfl, rfl, by decide +kernel, rfl, by decide +kernel, by decide +kernel⟩
def n_goes_on (K : PySem.W.Frag) : MS := (kSeq (kIf (mTest (m2' aLt (mCall (a1 fLen) (mCons (mV 0) mNil)) (mC (.int 2)))) (kRet (mAndV (mOrV (m2' aEq (mV 0) (mLst mNil)) (m2' aLe (m2' aIx (mV 0) (mC (.int 0))) (mV 1))) (m2' aLt (mV 1) (mC (.int 1000000))))) kNext)
  (kRet (mIf (mTest (m2' aEq (mCall (a1 fLen) (mCons (mV 0) mNil)) (mC (.int 2)))) (m2' aLt (m2' aIx (mV 0) (mC (.int 1))) (mV 1)) (m2' aLe (m2' aIx (mV 0) (mC (.int 2))) (mV 1)))))
abbrev wp_goes_on (K : PySem.W.Frag) : WPn := wpOf 2 2 (n_goes_on K)
theorem a_goes_on (D : Fx P w K mg base) : AF P w K mg base 2 "goes_on" 2 (wp_goes_on K) := by
  obtain ⟨fd, F⟩ := D.u_goes_on
  exact ⟨_, fd, _, fng_mk F sc_goes_on (fun cdv A fr s H E room gd =>
  (cs_cons (cs_if (ct_cmp opA_lt (c_callB call_lenA boot_len D.f_len (ca_cons (cv 0) ca_nil)) c_int (nomark _)) (cs_one (cs_ret (c_and (c_or (ce_cmp (opA_eq room.units) (cv 0) (c_lst ca_nil) (nomark _)) (c_one (ce_cmp opA_le (c_ix (cv 0) c_int) (cv 1) (nomark _)))) (c_one (ce_cmp opA_lt (cv 1) (c_gi D.i_MAX_READING) (nomark _)))))) cs_nil)
  (cs_one (cs_ret (c_if (ct_cmp (opA_eq room.units) (c_callB call_lenA boot_len D.f_len (ca_cons (cv 0) ca_nil)) c_int (nomark _)) (ce_cmp opA_lt (c_ix (cv 0) c_int) (cv 1) (nomark _)) (ce_cmp opA_le (c_ix (cv 0) c_int) (cv 1) (nomark _))))))) (fun _ _ _ _ _ h => h.2), D.m_goes_on, F.kp, FunD.bindsN F (fun _ _ _ _ _ _ us hl => match us, hl with | [_, _], _ => rfl), lensOf⟩
abbrev s_parse_case : Stmt := top 34
theorem sc_parse_case : FnScope ["value", "words", "numbers", "rows", "index", "word", "reading", "row"] ["value"] (defScope s_parse_case) := ⟨rfl, rfl, rfl, by decide +kernel, rfl, by decide +kernel, by decide +kernel⟩
def n_parse_case (K : PySem.W.Frag) : MS := (kSeq (kIf (mNot (mTru (mCall (a2 fIsT) (mCons (mV 0) (mCons (mC (.ty "str")) mNil))))) (kRaise (He.ga K "BadText") "index" (mCons (mC .non) mNil)) kNext)
  (kSeq (kPar3 1 2 3 (mCons (mMeth "str" aSplit (mV 0) (mCons (mC (.str " ")) mNil)) (mCons (mLst mNil) (mCons (mLst mNil) mNil))))
  (kSeq (kFor (iEnum' (mV 1)) (gTup' 2 (gCons' (gN 4) (gCons' (gN 5) gNil')))
  (kIf (mTest (m2' aLt (mV 4) (mC (.int 4)))) (kSeq (kSet 6 (mFn (wp_reading_of K) (mCons (mV 5) mNil)))
  (kSeq (kIf (mOr (mTest (m2' aIs (mV 6) (mC .non))) (mNot (mTru (mFn (wp_goes_on K) (mCons (mV 2) (mCons (mV 6) mNil)))))) (kRaise (He.ga K "BadText") "index" (mCons (mV 4) mNil)) kNext)
  (kExpr (mMeth "list" aAppend (mV 2) (mCons (mV 6) mNil))))) (kIf (mTest (m2' aEq (mV 4) (mC (.int 4)))) (kIf (mNot (mTru (mFn (wp_is_state K) (mCons (mV 5) mNil)))) (kRaise (He.ga K "BadText") "index" (mCons (mV 4) mNil)) kNext) (kSeq (kSet 7 (mFn (wp_row_of K) (mCons (mV 5) mNil)))
  (kSeq (kIf (mOr (mTest (m2' aIs (mV 7) (mC .non))) (mTest (m2' aGe (mV 4) (m2' aAdd (mC (.int 40)) (mC (.int 5)))))) (kRaise (He.ga K "BadText") "index" (mCons (mV 4) mNil)) kNext)
  (kExpr (mMeth "list" aAppend (mV 3) (mCons (mV 7) mNil))))))))
  (kSeq (kIf (mTest (m2' aLt (mCall (a1 fLen) (mCons (mV 1) mNil)) (mC (.int 5)))) (kRaise (He.ga K "BadText") "index" (mCons (mCall (a1 fLen) (mCons (mV 1) mNil)) mNil)) kNext)
  (kRet (mTup (mCons (mCall (a1 fTuple) (mCons (mV 2) mNil)) (mCons (mTup (mCons (m2' aIx (mV 1) (mC (.int 4))) (mCons (mCall (a1 fTuple) (mCons (mV 3) mNil)) mNil))) mNil))))))))
abbrev wp_parse_case (K : PySem.W.Frag) : WPn := wpOf 1 8 (n_parse_case K)
theorem a_parse_case (D : Fx P w K mg base) : AF P w K mg base 5 "parse_case" 1 (wp_parse_case K) := by
  obtain ⟨fd, F⟩ := D.u_parse_case
  exact ⟨_, fd, _, fng_mk F sc_parse_case (fun cdv A fr s H E room gd =>
  (cs_cons (cs_if (ct_not (ct_tru (c_callB call_isiA boot_isinstance D.f_isinstance (ca_cons (cv 0) (ca_cons (c_ty D.f_str boot_str) ca_nil))))) (cs_one (cs_raise rfl D.x_BadText (room.mono (by decide)) gd (L2N.takes_of rfl rfl rfl rfl) (ca_cons c_non ca_nil))) cs_nil)
  (cs_cons (cs_par3 1 2 3 rfl sc_parse_case.nd (ca_cons (c_bm PySem.F.plainAttrs_str PySem.F.slot_str_split PySem.F.type_str_split mtA_split (cv 0) (ca_cons c_str ca_nil)) (ca_cons (c_lst ca_nil) (ca_cons (c_lst ca_nil) ca_nil))))
  (cs_cons (cs_for (passes_of rfl) rfl (ci_enum D.f_enumerate (cv 1)) (g_tup rfl (gs_cons (g_name 4 sc_parse_case.nd) (gs_cons (g_name 5 sc_parse_case.nd) gs_nil)))
  (cs_one (cs_if (ct_cmp opA_lt (cv 4) c_int (nomark _)) (cs_cons (cs_set 6 sc_parse_case.nd (c_call (a_reading_of D) (room.mono (by decide)) gd (L2N.takes_of rfl rfl rfl rfl) (ca_cons (cv 5) ca_nil)))
  (cs_cons (cs_if (ct_w (cw_or (ct_cmp opA_is (cv 6) c_non (nomark _)) (cw_or1 (ct_not (ct_tru (c_call (a_goes_on D) (room.mono (by decide)) gd (L2N.takes_of rfl rfl rfl rfl) (ca_cons (cv 2) (ca_cons (cv 6) ca_nil)))))))) (cs_one (cs_raise rfl D.x_BadText (room.mono (by decide)) gd (L2N.takes_of rfl rfl rfl rfl) (ca_cons (cv 4) ca_nil))) cs_nil)
  (cs_one (cs_expr (c_bm PySem.F.plainAttrs_list PySem.F.slot_list_append PySem.F.type_list_append mtA_append (cv 2) (ca_cons (cv 6) ca_nil)))))) (cs_one (cs_if (ct_cmp (opA_eq room.units) (cv 4) c_int (nomark _)) (cs_one (cs_if (ct_not (ct_tru (c_call (a_is_state D) (room.mono (by decide)) gd (L2N.takes_of rfl rfl rfl rfl) (ca_cons (cv 5) ca_nil)))) (cs_one (cs_raise rfl D.x_BadText (room.mono (by decide)) gd (L2N.takes_of rfl rfl rfl rfl) (ca_cons (cv 4) ca_nil))) cs_nil)) (cs_cons (cs_set 7 sc_parse_case.nd (c_call (a_row_of D) (room.mono (by decide)) gd (L2N.takes_of rfl rfl rfl rfl) (ca_cons (cv 5) ca_nil)))
  (cs_cons (cs_if (ct_w (cw_or (ct_cmp opA_is (cv 7) c_non (nomark _)) (cw_or1 (ct_cmp opA_ge (cv 4) (ce_op opA_add (c_gi D.i_MAX_ROWS) c_int) (nomark _))))) (cs_one (cs_raise rfl D.x_BadText (room.mono (by decide)) gd (L2N.takes_of rfl rfl rfl rfl) (ca_cons (cv 4) ca_nil))) cs_nil)
  (cs_one (cs_expr (c_bm PySem.F.plainAttrs_list PySem.F.slot_list_append PySem.F.type_list_append mtA_append (cv 3) (ca_cons (cv 7) ca_nil)))))))))))
  (cs_cons (cs_if (ct_cmp opA_lt (c_callB call_lenA boot_len D.f_len (ca_cons (cv 1) ca_nil)) c_int (nomark _)) (cs_one (cs_raise rfl D.x_BadText (room.mono (by decide)) gd (L2N.takes_of rfl rfl rfl rfl) (ca_cons (c_callB call_lenA boot_len D.f_len (ca_cons (cv 1) ca_nil)) ca_nil))) cs_nil)
  (cs_one (cs_ret (c_tup (ca_cons (c_callT call_tupleA boot_tuple D.f_tuple (ca_cons (cv 2) ca_nil)) (ca_cons (c_tup (ca_cons (c_ix (cv 1) c_int) (ca_cons (c_callT call_tupleA boot_tuple D.f_tuple (ca_cons (cv 3) ca_nil)) ca_nil))) ca_nil)))))))))) (fun _ _ _ _ _ h => h.2), D.m_parse_case, F.kp, FunD.bindsN F (fun _ _ _ _ _ _ us hl => match us, hl with | [_], _ => rfl), lensOf⟩
abbrev s__law_told : Stmt := top 50
theorem sc__law_told : FnScope ["value", "told", "error", "is_more", "is_base"] ["value"] (defScope s__law_told) := ⟨rfl, rfl, rfl, by decide +kernel, rfl, by decide +kernel, by decide +kernel⟩
def n__law_told (K : PySem.W.Frag) : MS := (kSeq (kTryAs 2 (fun c' => PySem.W.exmOne K c' (.ref (He.ga K "BadText"))) (kSet 1 (mFn (wp_parse_case K) (mCons (mV 0) mNil)))
  (fun a cls d => (kSeq (kSet 3 (mCall (a2 (fIsE K a cls d)) (mCons (mV 2) (mCons (mTup (mCons (mC (.adr (He.ga K "NoRow"))) (mCons (mC (.adr (He.ga K "NoPlace"))) (mCons (mC (.adr (He.ga K "NoVersion"))) (mCons (mC (.adr (He.ga K "TooLarge"))) (mCons (mC (.adr (He.ga K "NoMarks"))) (mCons (mC (.adr (He.ga K "BadSpan"))) (mCons (mC (.adr (He.ga K "Apart"))) (mCons (mC (.adr (He.ga K "BadMarks"))) (mCons (mC (.adr (He.ga K "BadState"))) (mCons (mC (.adr (He.ga K "BadReading"))) (mCons (mC (.adr (He.ga K "BadRanges"))) (mCons (mC (.adr (He.ga K "BadLog"))) (mCons (mC (.adr (He.ga K "Busy"))) (mCons (mC (.adr (He.ga K "TooManyEdits"))) (mCons (mC (.adr (He.ga K "TooManyRows"))) (mCons (mC (.adr (He.ga K "NothingToUndo"))) (mCons (mC (.adr (He.ga K "BadEdits"))) (mCons (mC (.adr (He.ga K "BadEdit"))) (mCons (mC (.adr (He.ga K "Rejected"))) (mCons (mC (.adr (He.ga K "BadNumber"))) (mCons (mC (.adr (He.ga K "TooFew"))) (mCons (mC (.ty "LookupError")) mNil))))))))))))))))))))))) mNil))))
  (kSeq (kSet 4 (mAndV (mCall (a2 (fIsE K a cls d)) (mCons (mV 2) (mCons (mC (.adr (He.ga K "MarkError"))) mNil))) (mCall (a2 (fIsE K a cls d)) (mCons (mV 2) (mCons (mC (.ty "ValueError")) mNil)))))
  (kRet (mIf (mAnd (mTru (mV 4)) (mNot (mTru (mV 3)))) (mLst (mCons (mC (.str "BadText")) (mCons (mXf K a cls d "index" (mV 2)) mNil))) (mLst (mCons (mC (.str "another error")) mNil))))))))
  (kSeq (kIf (mOr (mNot (mTru (mCall (a2 fIsT) (mCons (mV 1) (mCons (mC (.ty "tuple")) mNil))))) (mTest (m2' aNe (mCall (a1 fLen) (mCons (mV 1) mNil)) (mC (.int 2))))) (kRet (mLst (mCons (mC (.str "no case")) mNil))) kNext)
  (kRet (mLst (mCons (mC (.str "case")) (mCons (m2' aIx (mV 1) (mC (.int 0))) (mCons (m2' aIx (mV 1) (mC (.int 1))) mNil)))))))
abbrev wp__law_told (K : PySem.W.Frag) : WPn := wpOf 1 5 (n__law_told K)
theorem a__law_told (D : Fx P w K mg base) : AF P w K mg base 6 "_law_told" 1 (wp__law_told K) := by
  obtain ⟨fd, F⟩ := D.u__law_told
  exact ⟨_, fd, _, fng_mk F sc__law_told (fun cdv A fr s H E room gd =>
  (cs_cons (cs_try_as 2 sc__law_told.nd (by exact ⟨rfl, by decide, Or.inl D.m_BadText⟩) (L2N.takes_of rfl rfl rfl rfl) (fun W1 pn xe t1 t2 => (cs_one (cs_set 1 sc__law_told.nd (c_call (a_parse_case D) (room.mono (by decide)) gd t1 (ca_cons (cv 0) ca_nil)))))
  (fun a oe cls d pn z0 f => have z := z0.zc; (cs_cons (cs_set 3 sc__law_told.nd (c_callB (call_isE' z f) boot_isinstance D.f_isinstance (ca_cons (cv 2) (ca_cons (c_tup (ca_cons (c_ga D.m_NoRow) (ca_cons (c_ga D.m_NoPlace) (ca_cons (c_ga D.m_NoVersion) (ca_cons (c_ga D.m_TooLarge) (ca_cons (c_ga D.m_NoMarks) (ca_cons (c_ga D.m_BadSpan) (ca_cons (c_ga D.m_Apart) (ca_cons (c_ga D.m_BadMarks) (ca_cons (c_ga D.m_BadState) (ca_cons (c_ga D.m_BadReading) (ca_cons (c_ga D.m_BadRanges) (ca_cons (c_ga D.m_BadLog) (ca_cons (c_ga D.m_Busy) (ca_cons (c_ga D.m_TooManyEdits) (ca_cons (c_ga D.m_TooManyRows) (ca_cons (c_ga D.m_NothingToUndo) (ca_cons (c_ga D.m_BadEdits) (ca_cons (c_ga D.m_BadEdit) (ca_cons (c_ga D.m_Rejected) (ca_cons (c_ga D.m_BadNumber) (ca_cons (c_ga D.m_TooFew) (ca_cons (c_ty D.f_LookupError (by rfl)) ca_nil))))))))))))))))))))))) ca_nil))))
  (cs_cons (cs_set 4 sc__law_told.nd (c_and (c_callB (call_isE' z f) boot_isinstance D.f_isinstance (ca_cons (cv 2) (ca_cons (c_ga D.m_MarkError) ca_nil))) (c_one (c_callB (call_isE' z f) boot_isinstance D.f_isinstance (ca_cons (cv 2) (ca_cons (c_ty D.f_ValueError (by rfl)) ca_nil))))))
  (cs_one (cs_ret (c_if (ct_w (cw_and (ct_tru (cv 4)) (cw_and1 (ct_not (ct_tru (cv 3)))))) (c_lst (ca_cons c_str (ca_cons (c_xf z f (cv 2)) ca_nil))) (c_lst (ca_cons c_str ca_nil)))))))))
  (cs_cons (cs_if (ct_w (cw_or (ct_not (ct_tru (c_callB call_isiA boot_isinstance D.f_isinstance (ca_cons (cv 1) (ca_cons (c_ty D.f_tuple boot_tuple) ca_nil))))) (cw_or1 (ct_cmp (opA_ne room.units) (c_callB call_lenA boot_len D.f_len (ca_cons (cv 1) ca_nil)) c_int (nomark _))))) (cs_one (cs_ret (c_lst (ca_cons c_str ca_nil)))) cs_nil)
  (cs_one (cs_ret (c_lst (ca_cons c_str (ca_cons (c_ix (cv 1) c_int) (ca_cons (c_ix (cv 1) c_int) ca_nil))))))))) (fun _ _ _ _ _ h => h.2), D.m__law_told, F.kp, FunD.bindsN F (fun _ _ _ _ _ _ us hl => match us, hl with | [_], _ => rfl), lensOf⟩
abbrev s__law_goes_on : Stmt := top 45
theorem sc__law_goes_on : FnScope ["numbers", "least", "past", "at", "number"] ["numbers"] (defScope s__law_goes_on) := ⟨rfl, rfl, rfl, by decide +kernel, rfl, by decide +kernel, by decide +kernel⟩
def n__law_goes_on (K : PySem.W.Frag) : MS := (kSeq (kIf (mTru (mCall (a1 (fBls fun bs => bs.any id)) (mCons (mLc (iSeq (mV 0)) (gN 4) nYes (m2' aIs (mV 4) (mC .non)) [4]) mNil))) (kRet (mC (.bl false))) kNext)
  (kSeq (kPar2 1 2 (mCons (mC (.int 0)) (mCons (mLst (mCons (m2' aSub (m2' aPow (mC (.int 10)) (mC (.int 6))) (mC (.int 1))) (mCons (m2' aSub (m2' aPow (mC (.int 10)) (mC (.int 6))) (mC (.int 1))) (mCons (m2' aPow (mC (.int 10)) (mC (.int 6))) (mCons (m2' aPow (mC (.int 10)) (mC (.int 6))) mNil))))) mNil)))
  (kSeq (kFor (iEnum' (mV 0)) (gTup' 2 (gCons' (gN 3) (gCons' (gN 4) gNil')))
  (kSeq (kIf (mOr (mTest (m2' aLt (mV 4) (mV 1))) (mTest (m2' aGt (mV 4) (m2' aIx (mV 2) (mV 3))))) (kRet (mC (.bl false))) kNext)
  (kSet 1 (mIf (mTest (m2' aEq (mV 3) (mC (.int 1)))) (m2' aAdd (mV 4) (mC (.int 1))) (mV 4)))))
  (kRet (mC (.bl true))))))
abbrev wp__law_goes_on (K : PySem.W.Frag) : WPn := wpOf 1 5 (n__law_goes_on K)
theorem a__law_goes_on (D : Fx P w K mg base) : AF P w K mg base 2 "_law_goes_on" 1 (wp__law_goes_on K) := by
  obtain ⟨fd, F⟩ := D.u__law_goes_on
  exact ⟨_, fd, _, fng_mk F sc__law_goes_on (fun cdv A fr s H E room gd =>
  (cs_cons (cs_if (ct_tru (c_callB (call_anyA rfl) boot_any D.f_any (ca_cons (c_lc rfl sc__law_goes_on.nd (ci_seq (cv 0)) (blkOk_by (N := ["numbers", "least", "past", "at", "number"]) (sc := defScope s__law_goes_on) (own := [(("number" : Str), (4 : Nat))]) (by decide +kernel)) (fun s H C cl fp => (gc_name 4 sc__law_goes_on.nd)) (fun s H C cl fp => cts_nil) (fun s H C cl fp => (ce_cmp opA_is (cv 4) c_non (nomark _)))) ca_nil))) (cs_one (cs_ret c_bl)) cs_nil)
  (cs_cons (cs_par2 1 2 rfl sc__law_goes_on.nd (ca_cons c_int (ca_cons (c_lst (ca_cons (ce_op opA_sub (ce_op opA_pow c_int c_int) c_int) (ca_cons (ce_op opA_sub (ce_op opA_pow c_int c_int) c_int) (ca_cons (ce_op opA_pow c_int c_int) (ca_cons (ce_op opA_pow c_int c_int) ca_nil))))) ca_nil)))
  (cs_cons (cs_for (passes_of rfl) rfl (ci_enum D.f_enumerate (cv 0)) (g_tup rfl (gs_cons (g_name 3 sc__law_goes_on.nd) (gs_cons (g_name 4 sc__law_goes_on.nd) gs_nil)))
  (cs_cons (cs_if (ct_w (cw_or (ct_cmp opA_lt (cv 4) (cv 1) (nomark _)) (cw_or1 (ct_cmp opA_gt (cv 4) (c_ix (cv 2) (cv 3)) (nomark _))))) (cs_one (cs_ret c_bl)) cs_nil)
  (cs_one (cs_set 1 sc__law_goes_on.nd (c_if (ct_cmp (opA_eq room.units) (cv 3) c_int (nomark _)) (ce_op opA_add (cv 4) c_int) (cv 4))))))
  (cs_one (cs_ret c_bl)))))) (fun _ _ _ _ _ h => h.2), D.m__law_goes_on, F.kp, FunD.bindsN F (fun _ _ _ _ _ _ us hl => match us, hl with | [_], _ => rfl), lensOf⟩
abbrev s__law_number : Stmt := top 43
theorem sc__law_number : FnScope ["word", "sign"] ["word"] (defScope s__law_number) := ⟨rfl, rfl, rfl, by decide +kernel, rfl, by decide +kernel, by decide +kernel⟩
def n__law_number (K : PySem.W.Frag) : MS := (kSeq (kIf (mOr (mTest (m2' aEq (mV 0) (mC (.str "")))) (mOr (mTest (m2' aGt (mCall (a1 fLen) (mCons (mV 0) mNil)) (mC (.int 7)))) (mAnd (mTest (m2' aEq (m2' aIx (mV 0) (mC (.int 0))) (mC (.str "0")))) (mTest (m2' aNe (mV 0) (mC (.str "0"))))))) (kRet (mC .non)) kNext)
  (kSeq (kIf (mTru (mCall (a1 (fBls fun bs => bs.any id)) (mCons (mLc (iSeq (mV 0)) (gN 1) nYes (m2' aNotIn (mV 1) (mC (.str "0123456789"))) [1]) mNil))) (kRet (mC .non)) kNext)
  (kRet (mIf (mTest (m2' aLe (mCall (a1 fInt) (mCons (mV 0) mNil)) (m2' aPow (mC (.int 10)) (mC (.int 6))))) (mCall (a1 fInt) (mCons (mV 0) mNil)) (mC .non)))))
abbrev wp__law_number (K : PySem.W.Frag) : WPn := wpOf 1 2 (n__law_number K)
theorem a__law_number (D : Fx P w K mg base) : AF P w K mg base 2 "_law_number" 1 (wp__law_number K) := by
  obtain ⟨fd, F⟩ := D.u__law_number
  exact ⟨_, fd, _, fng_mk F sc__law_number (fun cdv A fr s H E room gd =>
  (cs_cons (cs_if (ct_w (cw_or (ct_cmp (opA_eq room.units) (cv 0) c_str (nomark _)) (cw_or (ct_cmp opA_gt (c_callB call_lenA boot_len D.f_len (ca_cons (cv 0) ca_nil)) c_int (nomark _)) (cw_or1 (ct_w (cw_and (ct_cmp (opA_eq room.units) (c_ix (cv 0) c_int) c_str (nomark _)) (cw_and1 (ct_cmp (opA_ne room.units) (cv 0) c_str (nomark _))))))))) (cs_one (cs_ret c_non)) cs_nil)
  (cs_cons (cs_if (ct_tru (c_callB (call_anyA rfl) boot_any D.f_any (ca_cons (c_lc rfl sc__law_number.nd (ci_seq (cv 0)) (blkOk_by (N := ["word", "sign"]) (sc := defScope s__law_number) (own := [(("sign" : Str), (1 : Nat))]) (by decide +kernel)) (fun s H C cl fp => (gc_name 1 sc__law_number.nd)) (fun s H C cl fp => cts_nil) (fun s H C cl fp => (ce_cmp opA_notIn (cv 1) c_str (by rfl)))) ca_nil))) (cs_one (cs_ret c_non)) cs_nil)
  (cs_one (cs_ret (c_if (ct_cmp opA_le (c_callT call_intA boot_int D.f_int (ca_cons (cv 0) ca_nil)) (ce_op opA_pow c_int c_int) (nomark _)) (c_callT call_intA boot_int D.f_int (ca_cons (cv 0) ca_nil)) c_non)))))) (fun _ _ _ _ _ h => h.2), D.m__law_number, F.kp, FunD.bindsN F (fun _ _ _ _ _ _ us hl => match us, hl with | [_], _ => rfl), lensOf⟩
abbrev s__law_row : Stmt := top 44
theorem sc__law_row : FnScope ["word", "halves", "reading"] ["word"] (defScope s__law_row) := ⟨rfl, rfl, rfl, by decide +kernel, rfl, by decide +kernel, by decide +kernel⟩
def n__law_row (K : PySem.W.Frag) : MS := (kSeq (kSet 1 (mMeth "str" aSplit (mV 0) (mCons (mC (.str ":")) mNil)))
  (kSeq (kSet 2 (mFn (wp__law_number K) (mCons (m2' aIx (mV 1) (mC (.int 0))) mNil)))
  (kSeq (kIf (mOr (mTest (m2' aIs (mV 2) (mC .non))) (mOr (mTest (m2' aGt (mCall (a1 fLen) (mCons (mV 1) mNil)) (mC (.int 2)))) (mAnd (mTest (m2' aEq (mCall (a1 fLen) (mCons (mV 1) mNil)) (mC (.int 2)))) (mTest (m2' aNotIn (m2' aIx (mV 1) (mC (.int 1))) (mLst (mCons (mC (.str "on")) (mCons (mC (.str "off")) mNil)))))))) (kRet (mC .non)) kNext)
  (kRet (mTup (mCons (mV 2) (mCons (mIf (mTest (m2' aEq (mCall (a1 fLen) (mCons (mV 1) mNil)) (mC (.int 2)))) (m2' aIx (mV 1) (mC (.int 1))) (mC .non)) mNil)))))))
abbrev wp__law_row (K : PySem.W.Frag) : WPn := wpOf 1 3 (n__law_row K)
theorem a__law_row (D : Fx P w K mg base) : AF P w K mg base 3 "_law_row" 1 (wp__law_row K) := by
  obtain ⟨fd, F⟩ := D.u__law_row
  exact ⟨_, fd, _, fng_mk F sc__law_row (fun cdv A fr s H E room gd =>
  (cs_cons (cs_set 1 sc__law_row.nd (c_bm PySem.F.plainAttrs_str PySem.F.slot_str_split PySem.F.type_str_split mtA_split (cv 0) (ca_cons c_str ca_nil)))
  (cs_cons (cs_set 2 sc__law_row.nd (c_call (a__law_number D) (room.mono (by decide)) gd (L2N.takes_of rfl rfl rfl rfl) (ca_cons (c_ix (cv 1) c_int) ca_nil)))
  (cs_cons (cs_if (ct_w (cw_or (ct_cmp opA_is (cv 2) c_non (nomark _)) (cw_or (ct_cmp opA_gt (c_callB call_lenA boot_len D.f_len (ca_cons (cv 1) ca_nil)) c_int (nomark _)) (cw_or1 (ct_w (cw_and (ct_cmp (opA_eq room.units) (c_callB call_lenA boot_len D.f_len (ca_cons (cv 1) ca_nil)) c_int (nomark _)) (cw_and1 (ct_cmp opA_notIn (c_ix (cv 1) c_int) (c_lst (ca_cons c_str (ca_cons c_str ca_nil))) (by rfl))))))))) (cs_one (cs_ret c_non)) cs_nil)
  (cs_one (cs_ret (c_tup (ca_cons (cv 2) (ca_cons (c_if (ct_cmp (opA_eq room.units) (c_callB call_lenA boot_len D.f_len (ca_cons (cv 1) ca_nil)) c_int (nomark _)) (c_ix (cv 1) c_int) c_non) ca_nil))))))))) (fun _ _ _ _ _ h => h.2), D.m__law_row, F.kp, FunD.bindsN F (fun _ _ _ _ _ _ us hl => match us, hl with | [_], _ => rfl), lensOf⟩
abbrev s__law_due : Stmt := top 46
theorem sc__law_due : FnScope ["text", "words", "numbers", "rows", "at", "word", "is_right"] ["text"] (defScope s__law_due) := ⟨rfl, rfl, rfl, by decide +kernel, rfl, by decide +kernel, by decide +kernel⟩
def n__law_due (K : PySem.W.Frag) : MS := (kSeq (kPar3 1 2 3 (mCons (mMeth "str" aSplit (mV 0) (mCons (mC (.str " ")) mNil)) (mCons (mLst mNil) (mCons (mLst mNil) mNil))))
  (kSeq (kFor (iEnum' (mV 1)) (gTup' 2 (gCons' (gN 4) (gCons' (gN 5) gNil')))
  (kSeq (kIf (mTest (m2' aLt (mV 4) (mC (.int 4)))) (kSeq (kExpr (mMeth "list" aAppend (mV 2) (mCons (mFn (wp__law_number K) (mCons (mV 5) mNil)) mNil)))
  (kSet 6 (mFn (wp__law_goes_on K) (mCons (mV 2) mNil)))) (kIf (mTest (m2' aEq (mV 4) (mC (.int 4)))) (kSet 6 (m2' aIn (mV 5) (mLst (mCons (mC (.str "on")) (mCons (mC (.str "off")) mNil))))) (kSeq (kExpr (mMeth "list" aAppend (mV 3) (mCons (mFn (wp__law_row K) (mCons (mV 5) mNil)) mNil)))
  (kSet 6 (mAndV (m2' aLt (mV 4) (mC (.int 45))) (m2' aIsNot (m2' aIx (mV 3) (mNeg (mC (.int 1)))) (mC .non)))))))
  (kIf (mNot (mTru (mV 6))) (kRet (mLst (mCons (mC (.str "BadText")) (mCons (mV 4) mNil)))) kNext)))
  (kSeq (kIf (mTest (m2' aLt (mCall (a1 fLen) (mCons (mV 1) mNil)) (mC (.int 5)))) (kRet (mLst (mCons (mC (.str "BadText")) (mCons (mCall (a1 fLen) (mCons (mV 1) mNil)) mNil)))) kNext)
  (kRet (mLst (mCons (mC (.str "case")) (mCons (mCall (a1 fTuple) (mCons (mV 2) mNil)) (mCons (mTup (mCons (m2' aIx (mV 1) (mC (.int 4))) (mCons (mCall (a1 fTuple) (mCons (mV 3) mNil)) mNil))) mNil))))))))
abbrev wp__law_due (K : PySem.W.Frag) : WPn := wpOf 1 7 (n__law_due K)
theorem a__law_due (D : Fx P w K mg base) : AF P w K mg base 4 "_law_due" 1 (wp__law_due K) := by
  obtain ⟨fd, F⟩ := D.u__law_due
  exact ⟨_, fd, _, fng_mk F sc__law_due (fun cdv A fr s H E room gd =>
  (cs_cons (cs_par3 1 2 3 rfl sc__law_due.nd (ca_cons (c_bm PySem.F.plainAttrs_str PySem.F.slot_str_split PySem.F.type_str_split mtA_split (cv 0) (ca_cons c_str ca_nil)) (ca_cons (c_lst ca_nil) (ca_cons (c_lst ca_nil) ca_nil))))
  (cs_cons (cs_for (passes_of rfl) rfl (ci_enum D.f_enumerate (cv 1)) (g_tup rfl (gs_cons (g_name 4 sc__law_due.nd) (gs_cons (g_name 5 sc__law_due.nd) gs_nil)))
  (cs_cons (cs_if (ct_cmp opA_lt (cv 4) c_int (nomark _)) (cs_cons (cs_expr (c_bm PySem.F.plainAttrs_list PySem.F.slot_list_append PySem.F.type_list_append mtA_append (cv 2) (ca_cons (c_call (a__law_number D) (room.mono (by decide)) gd (L2N.takes_of rfl rfl rfl rfl) (ca_cons (cv 5) ca_nil)) ca_nil)))
  (cs_one (cs_set 6 sc__law_due.nd (c_call (a__law_goes_on D) (room.mono (by decide)) gd (L2N.takes_of rfl rfl rfl rfl) (ca_cons (cv 2) ca_nil))))) (cs_one (cs_if (ct_cmp (opA_eq room.units) (cv 4) c_int (nomark _)) (cs_one (cs_set 6 sc__law_due.nd (ce_cmp opA_in (cv 5) (c_lst (ca_cons c_str (ca_cons c_str ca_nil))) (by rfl)))) (cs_cons (cs_expr (c_bm PySem.F.plainAttrs_list PySem.F.slot_list_append PySem.F.type_list_append mtA_append (cv 3) (ca_cons (c_call (a__law_row D) (room.mono (by decide)) gd (L2N.takes_of rfl rfl rfl rfl) (ca_cons (cv 5) ca_nil)) ca_nil)))
  (cs_one (cs_set 6 sc__law_due.nd (c_and (ce_cmp opA_lt (cv 4) c_int (nomark _)) (c_one (ce_cmp opA_isNot (c_ix (cv 3) (c_neg c_int)) c_non (nomark _))))))))))
  (cs_one (cs_if (ct_not (ct_tru (cv 6))) (cs_one (cs_ret (c_lst (ca_cons c_str (ca_cons (cv 4) ca_nil))))) cs_nil))))
  (cs_cons (cs_if (ct_cmp opA_lt (c_callB call_lenA boot_len D.f_len (ca_cons (cv 1) ca_nil)) c_int (nomark _)) (cs_one (cs_ret (c_lst (ca_cons c_str (ca_cons (c_callB call_lenA boot_len D.f_len (ca_cons (cv 1) ca_nil)) ca_nil))))) cs_nil)
  (cs_one (cs_ret (c_lst (ca_cons c_str (ca_cons (c_callT call_tupleA boot_tuple D.f_tuple (ca_cons (cv 2) ca_nil)) (ca_cons (c_tup (ca_cons (c_ix (cv 1) c_int) (ca_cons (c_callT call_tupleA boot_tuple D.f_tuple (ca_cons (cv 3) ca_nil)) ca_nil))) ca_nil)))))))))) (fun _ _ _ _ _ h => h.2), D.m__law_due, F.kp, FunD.bindsN F (fun _ _ _ _ _ _ us hl => match us, hl with | [_], _ => rfl), lensOf⟩
abbrev s__law_is_right : Stmt := top 51
theorem sc__law_is_right : FnScope ["text", "told", "due"] ["text"] (defScope s__law_is_right) := ⟨rfl, rfl, rfl, by decide +kernel, rfl, by decide +kernel, by decide +kernel⟩
def n__law_is_right (K : PySem.W.Frag) : MS := (kSeq (kPar2 1 2 (mCons (mFn (wp__law_told K) (mCons (mV 0) mNil)) (mCons (mFn (wp__law_due K) (mCons (mV 0) mNil)) mNil)))
  (kRet (mAndV (m2' aEq (mCall (a1 fRepr) (mCons (mV 1) mNil)) (mCall (a1 fRepr) (mCons (mV 2) mNil))) (m2' aEq (mV 1) (mV 2)))))
abbrev wp__law_is_right (K : PySem.W.Frag) : WPn := wpOf 1 3 (n__law_is_right K)
theorem a__law_is_right (D : Fx P w K mg base) : AF P w K mg base 7 "_law_is_right" 1 (wp__law_is_right K) := by
  obtain ⟨fd, F⟩ := D.u__law_is_right
  exact ⟨_, fd, _, fng_mk F sc__law_is_right (fun cdv A fr s H E room gd =>
  (cs_cons (cs_par2 1 2 rfl sc__law_is_right.nd (ca_cons (c_call (a__law_told D) (room.mono (by decide)) gd (L2N.takes_of rfl rfl rfl rfl) (ca_cons (cv 0) ca_nil)) (ca_cons (c_call (a__law_due D) (room.mono (by decide)) gd (L2N.takes_of rfl rfl rfl rfl) (ca_cons (cv 0) ca_nil)) ca_nil)))
  (cs_one (cs_ret (c_and (ce_cmp (opA_eq room.units) (c_callB (call_reprA gd room.units D.sys) boot_repr D.f_repr (ca_cons (cv 1) ca_nil)) (c_callB (call_reprA gd room.units D.sys) boot_repr D.f_repr (ca_cons (cv 2) ca_nil)) (nomark _)) (c_one (ce_cmp (opA_eq room.units) (cv 1) (cv 2) (nomark _)))))))) (fun _ _ _ _ _ h => h.2), D.m__law_is_right, F.kp, FunD.bindsN F (fun _ _ _ _ _ _ us hl => match us, hl with | [_], _ => rfl), lensOf⟩
abbrev s__law_odd_word : Stmt := top 47
theorem sc__law_odd_word : FnScope ["bag", "word"] ["bag", "word"] (defScope s__law_odd_word) := ⟨rfl, rfl, rfl, by decide +kernel, rfl, by decide +kernel, by decide +kernel⟩
def n__law_odd_word (K : PySem.W.Frag) : MS := (kRet (mFn (wp__law_pick K) (mCons (mV 0) (mCons (mLst (mCons (m2' aAdd (mC (.str "0")) (mV 1)) (mCons (m2' aAdd (mC (.str "+")) (mV 1)) (mCons (m2' aAdd (mC (.str "-")) (mV 1)) (mCons (m2' aAdd (mV 1) (mC (.str ":"))) (mCons (m2' aAdd (mC (.str ":")) (mV 1)) (mCons (m2' aAdd (mV 1) (mC (.str ":on"))) (mCons (m2' aAdd (mV 1) (mC (.str ":off"))) (mCons (m2' aAdd (mV 1) (mC (.str ":On"))) (mCons (m2' aAdd (mV 1) (mC (.str ":on:off"))) (mCons (m2' aAdd (mV 1) (mC (.str ":None"))) (mCons (m2' aAdd (mV 1) (mC (.str ": on"))) (mCons (m2' aAdd (mV 1) (mC (.str "\n"))) (mCons (m2' aAdd (mC (.str "\n")) (mV 1)) (mCons (m2' aAdd (mV 1) (mC (.str ".0"))) (mCons (m2' aAdd (mV 1) (mC (.str "_0"))) (mCons (m2' aAdd (mV 1) (mC (.str "0"))) (mCons (mSl (mV 1) mNoPart (mPart (mNeg (mC (.int 1))))) (mCons (mSl (mV 1) (mPart (mC (.int 1))) mNoPart) (mCons (mMeth0 "str" aUpper (mV 1)) (mCons (mC (.str "")) (mCons (mC (.str "1000001")) (mCons (mC (.str "1000000")) (mCons (mC (.str "999999")) (mCons (mC (.str "0")) (mCons (mC (.str "00")) (mCons (mC (.str "None")) (mCons (mC (.str "on")) (mCons (mC (.str "off")) (mCons (mC (.str "open")) (mCons (m2' aMulS (mC (.str "9")) (mC (.int 40))) (mCons (m2' aAdd (mV 1) (mC (.str ":on\n"))) (mCons (mC (.str "1000001:on")) (mCons (mC (.str "ON")) (mCons (mC (.str "of")) (mCons (m2' aAdd (m2' aAdd (mV 1) (mC (.str ","))) (mV 1)) (mCons (mC (.str "0x1")) (mCons (mC (.str "1e6")) (mCons (m2' aAdd (mV 1) (mC (.str ":off:"))) mNil))))))))))))))))))))))))))))))))))))))) mNil))))
abbrev wp__law_odd_word (K : PySem.W.Frag) : WPn := wpOf 2 2 (n__law_odd_word K)
theorem a__law_odd_word (D : Fx P w K mg base) : AF P w K mg base 4 "_law_odd_word" 2 (wp__law_odd_word K) := by
  obtain ⟨fd, F⟩ := D.u__law_odd_word
  exact ⟨_, fd, _, fng_mk F sc__law_odd_word (fun cdv A fr s H E room gd =>
  (cs_one (cs_ret (c_call (a__law_pick D) (room.mono (by decide)) gd (L2N.takes_of rfl rfl rfl rfl) (ca_cons (cv 0) (ca_cons (c_lst (ca_cons (ce_op opA_add c_str (cv 1)) (ca_cons (ce_op opA_add c_str (cv 1)) (ca_cons (ce_op opA_add c_str (cv 1)) (ca_cons (ce_op opA_add (cv 1) c_str) (ca_cons (ce_op opA_add c_str (cv 1)) (ca_cons (ce_op opA_add (cv 1) c_str) (ca_cons (ce_op opA_add (cv 1) c_str) (ca_cons (ce_op opA_add (cv 1) c_str) (ca_cons (ce_op opA_add (cv 1) c_str) (ca_cons (ce_op opA_add (cv 1) c_str) (ca_cons (ce_op opA_add (cv 1) c_str) (ca_cons (ce_op opA_add (cv 1) c_str) (ca_cons (ce_op opA_add c_str (cv 1)) (ca_cons (ce_op opA_add (cv 1) c_str) (ca_cons (ce_op opA_add (cv 1) c_str) (ca_cons (ce_op opA_add (cv 1) c_str) (ca_cons (c_slice (cv 1) co_none (co_some (c_neg c_int))) (ca_cons (c_slice (cv 1) (co_some c_int) co_none) (ca_cons (c_bm0 PySem.F.plainAttrs_str PySem.F.slot_str_upper PySem.F.type_str_upper mtA_upper (cv 1)) (ca_cons c_str (ca_cons c_str (ca_cons c_str (ca_cons c_str (ca_cons c_str (ca_cons c_str (ca_cons c_str (ca_cons c_str (ca_cons c_str (ca_cons c_str (ca_cons (ce_op opA_mulS c_str c_int) (ca_cons (ce_op opA_add (cv 1) c_str) (ca_cons c_str (ca_cons c_str (ca_cons c_str (ca_cons (ce_op opA_add (ce_op opA_add (cv 1) c_str) (cv 1)) (ca_cons c_str (ca_cons c_str (ca_cons (ce_op opA_add (cv 1) c_str) ca_nil))))))))))))))))))))))))))))))))))))))) ca_nil)))))) (fun _ _ _ _ _ h => h.2), D.m__law_odd_word, F.kp, FunD.bindsN F (fun _ _ _ _ _ _ us hl => match us, hl with | [_, _], _ => rfl), lensOf⟩
abbrev s__law_odd_sign : Stmt := top 48
theorem sc__law_odd_sign : FnScope ["bag", "text", "signs", "at", "sign", "way"] ["bag", "text"] (defScope s__law_odd_sign) := ⟨rfl, rfl, rfl, by decide +kernel, rfl, by decide +kernel, by decide +kernel⟩
def n__law_odd_sign (K : PySem.W.Frag) : MS := (kSeq (kSet 2 (mC (.str " !0123456789:;<=>?-+,.ABCNOFabcdefnoxyz_~\n")))
  (kSeq (kPar3 3 4 5 (mCons (mFn (wp__law_draw K) (mCons (mV 0) (mCons (m2' aAdd (mCall (a1 fLen) (mCons (mV 1) mNil)) (mC (.int 1))) mNil))) (mCons (m2' aIx (mV 2) (mFn (wp__law_draw K) (mCons (mV 0) (mCons (mCall (a1 fLen) (mCons (mV 2) mNil)) mNil)))) (mCons (mFn (wp__law_draw K) (mCons (mV 0) (mCons (mC (.int 3)) mNil))) mNil))))
  (kSeq (kIf (mTest (m2' aEq (mV 5) (mC (.int 0)))) (kRet (m2' aAdd (m2' aAdd (mSl (mV 1) mNoPart (mPart (mV 3))) (mV 4)) (mSl (mV 1) (mPart (mV 3)) mNoPart))) kNext)
  (kRet (mIf (mTest (m2' aEq (mV 5) (mC (.int 1)))) (m2' aAdd (mSl (mV 1) mNoPart (mPart (mV 3))) (mSl (mV 1) (mPart (m2' aAdd (mV 3) (mC (.int 1)))) mNoPart)) (m2' aAdd (m2' aAdd (mSl (mV 1) mNoPart (mPart (mV 3))) (mV 4)) (mSl (mV 1) (mPart (m2' aAdd (mV 3) (mC (.int 1)))) mNoPart)))))))
abbrev wp__law_odd_sign (K : PySem.W.Frag) : WPn := wpOf 2 6 (n__law_odd_sign K)
theorem a__law_odd_sign (D : Fx P w K mg base) : AF P w K mg base 3 "_law_odd_sign" 2 (wp__law_odd_sign K) := by
  obtain ⟨fd, F⟩ := D.u__law_odd_sign
  exact ⟨_, fd, _, fng_mk F sc__law_odd_sign (fun cdv A fr s H E room gd =>
  (cs_cons (cs_set 2 sc__law_odd_sign.nd c_str)
  (cs_cons (cs_par3 3 4 5 rfl sc__law_odd_sign.nd (ca_cons (c_call (a__law_draw D) (room.mono (by decide)) gd (L2N.takes_of rfl rfl rfl rfl) (ca_cons (cv 0) (ca_cons (ce_op opA_add (c_callB call_lenA boot_len D.f_len (ca_cons (cv 1) ca_nil)) c_int) ca_nil))) (ca_cons (c_ix (cv 2) (c_call (a__law_draw D) (room.mono (by decide)) gd (L2N.takes_of rfl rfl rfl rfl) (ca_cons (cv 0) (ca_cons (c_callB call_lenA boot_len D.f_len (ca_cons (cv 2) ca_nil)) ca_nil)))) (ca_cons (c_call (a__law_draw D) (room.mono (by decide)) gd (L2N.takes_of rfl rfl rfl rfl) (ca_cons (cv 0) (ca_cons c_int ca_nil))) ca_nil))))
  (cs_cons (cs_if (ct_cmp (opA_eq room.units) (cv 5) c_int (nomark _)) (cs_one (cs_ret (ce_op opA_add (ce_op opA_add (c_slice (cv 1) co_none (co_some (cv 3))) (cv 4)) (c_slice (cv 1) (co_some (cv 3)) co_none)))) cs_nil)
  (cs_one (cs_ret (c_if (ct_cmp (opA_eq room.units) (cv 5) c_int (nomark _)) (ce_op opA_add (c_slice (cv 1) co_none (co_some (cv 3))) (c_slice (cv 1) (co_some (ce_op opA_add (cv 3) c_int)) co_none)) (ce_op opA_add (ce_op opA_add (c_slice (cv 1) co_none (co_some (cv 3))) (cv 4)) (c_slice (cv 1) (co_some (ce_op opA_add (cv 3) c_int)) co_none))))))))) (fun _ _ _ _ _ h => h.2), D.m__law_odd_sign, F.kp, FunD.bindsN F (fun _ _ _ _ _ _ us hl => match us, hl with | [_, _], _ => rfl), lensOf⟩
abbrev s__law_odd_text : Stmt := top 49
theorem sc__law_odd_text : FnScope ["bag", "words", "way", "some", "at", "other", "place", "beside", "near"] ["bag", "words", "way"] (defScope s__law_odd_text) := ⟨rfl, rfl, rfl, by decide +kernel, rfl, by decide +kernel, by decide +kernel⟩
def n__law_odd_text (K : PySem.W.Frag) : MS := (kSeq (kPar2 3 4 (mCons (mCall (a1 fList) (mCons (mV 1) mNil)) (mCons (mFn (wp__law_draw K) (mCons (mV 0) (mCons (mCall (a1 fLen) (mCons (mV 1) mNil)) mNil))) mNil)))
  (kSeq (kIf (mTest (m2' aLt (mV 2) (mC (.int 2)))) (kSeq (kSub (mFn (wp__law_odd_word K) (mCons (mV 0) (mCons (m2' aIx (mV 3) (mV 4)) mNil))) (mV 3) (mV 4))
  (kSeq (kSet 5 (mFn (wp__law_draw K) (mCons (mV 0) (mCons (mCall (a1 fLen) (mCons (mV 3) mNil)) mNil))))
  (kSub (mIf (mTest (m2' aEq (mV 2) (mC (.int 1)))) (mFn (wp__law_odd_word K) (mCons (mV 0) (mCons (m2' aIx (mV 3) (mV 5)) mNil))) (m2' aIx (mV 3) (mV 5))) (mV 3) (mV 5)))) (kIf (mTest (m2' aEq (mV 2) (mC (.int 2)))) (kSeq (kSet 3 (m2' aAdd (m2' aAdd (mSl (mV 1) mNoPart (mPart (mV 4))) (mFn (wp__law_pick K) (mCons (mV 0) (mCons (mLst (mCons (mLst (mCons (mC (.str "")) mNil)) (mCons (mLst (mCons (mC (.str "")) (mCons (mC (.str "")) mNil))) (mCons (mLst (mCons (m2' aIx (mV 1) (mV 4)) mNil)) mNil)))) mNil)))) (mSl (mV 1) (mPart (mV 4)) mNoPart)))
  (kSet 3 (mFn (wp__law_pick K) (mCons (mV 0) (mCons (mLst (mCons (mV 3) (mCons (m2' aAdd (mV 1) (mLst (mCons (mC (.str "")) mNil))) (mCons (m2' aAdd (mLst (mCons (mC (.str "")) mNil)) (mV 1)) mNil)))) mNil))))) (kIf (mTest (m2' aEq (mV 2) (mC (.int 3)))) (kSet 3 (mSl (mV 1) mNoPart (mPart (mFn (wp__law_draw K) (mCons (mV 0) (mCons (mC (.int 6)) mNil)))))) (kIf (mTest (m2' aEq (mV 2) (mC (.int 4)))) (kSeq (kSet 6 (mFn (wp__law_draw K) (mCons (mV 0) (mCons (mC (.int 4)) mNil))))
  (kSeq (kSet 7 (mCall (a1 fInt) (mCons (m2' aIx (mV 1) (mFn (wp__law_pick K) (mCons (mV 0) (mCons (mLst (mCons (mCall (a2 fMax) (mCons (mC (.int 0)) (mCons (m2' aSub (mV 6) (mC (.int 1))) mNil))) (mCons (mCall (a2 fMin) (mCons (mC (.int 3)) (mCons (m2' aAdd (mV 6) (mC (.int 1))) mNil))) mNil))) mNil)))) mNil)))
  (kSeq (kSet 8 (mLst (mCons (m2' aSub (m2' aPow (mC (.int 10)) (mC (.int 6))) (mC (.int 2))) (mCons (m2' aSub (m2' aPow (mC (.int 10)) (mC (.int 6))) (mC (.int 1))) (mCons (m2' aPow (mC (.int 10)) (mC (.int 6))) (mCons (m2' aAdd (m2' aPow (mC (.int 10)) (mC (.int 6))) (mC (.int 1))) (mCons (mV 7) (mCons (mV 7) (mCons (mCall (a2 fMax) (mCons (mC (.int 0)) (mCons (m2' aSub (mV 7) (mC (.int 1))) mNil))) (mCons (m2' aAdd (mV 7) (mC (.int 1))) mNil))))))))))
  (kSub (mCall (a1 fStrI) (mCons (mFn (wp__law_pick K) (mCons (mV 0) (mCons (mV 8) mNil))) mNil)) (mV 3) (mV 6))))) (kIf (mTest (m2' aEq (mV 2) (mC (.int 5)))) (kRet (mFn (wp__law_odd_sign K) (mCons (mV 0) (mCons (mMeth "str" aJoin (mC (.str " ")) (mCons (mV 1) mNil)) mNil)))) kNext)))))
  (kRet (mMeth "str" aJoin (mC (.str " ")) (mCons (mV 3) mNil)))))
abbrev wp__law_odd_text (K : PySem.W.Frag) : WPn := wpOf 3 9 (n__law_odd_text K)
theorem a__law_odd_text (D : Fx P w K mg base) : AF P w K mg base 5 "_law_odd_text" 3 (wp__law_odd_text K) := by
  obtain ⟨fd, F⟩ := D.u__law_odd_text
  exact ⟨_, fd, _, fng_mk F sc__law_odd_text (fun cdv A fr s H E room gd =>
  (cs_cons (cs_par2 3 4 rfl sc__law_odd_text.nd (ca_cons (c_callT call_listA boot_list D.f_list (ca_cons (cv 1) ca_nil)) (ca_cons (c_call (a__law_draw D) (room.mono (by decide)) gd (L2N.takes_of rfl rfl rfl rfl) (ca_cons (cv 0) (ca_cons (c_callB call_lenA boot_len D.f_len (ca_cons (cv 1) ca_nil)) ca_nil))) ca_nil)))
  (cs_cons (cs_if (ct_cmp opA_lt (cv 2) c_int (nomark _)) (cs_cons (cs_sub (c_call (a__law_odd_word D) (room.mono (by decide)) gd (L2N.takes_of rfl rfl rfl rfl) (ca_cons (cv 0) (ca_cons (c_ix (cv 3) (cv 4)) ca_nil))) (cv 3) (cv 4))
  (cs_cons (cs_set 5 sc__law_odd_text.nd (c_call (a__law_draw D) (room.mono (by decide)) gd (L2N.takes_of rfl rfl rfl rfl) (ca_cons (cv 0) (ca_cons (c_callB call_lenA boot_len D.f_len (ca_cons (cv 3) ca_nil)) ca_nil))))
  (cs_one (cs_sub (c_if (ct_cmp (opA_eq room.units) (cv 2) c_int (nomark _)) (c_call (a__law_odd_word D) (room.mono (by decide)) gd (L2N.takes_of rfl rfl rfl rfl) (ca_cons (cv 0) (ca_cons (c_ix (cv 3) (cv 5)) ca_nil))) (c_ix (cv 3) (cv 5))) (cv 3) (cv 5))))) (cs_one (cs_if (ct_cmp (opA_eq room.units) (cv 2) c_int (nomark _)) (cs_cons (cs_set 3 sc__law_odd_text.nd (ce_op opA_add (ce_op opA_add (c_slice (cv 1) co_none (co_some (cv 4))) (c_call (a__law_pick D) (room.mono (by decide)) gd (L2N.takes_of rfl rfl rfl rfl) (ca_cons (cv 0) (ca_cons (c_lst (ca_cons (c_lst (ca_cons c_str ca_nil)) (ca_cons (c_lst (ca_cons c_str (ca_cons c_str ca_nil))) (ca_cons (c_lst (ca_cons (c_ix (cv 1) (cv 4)) ca_nil)) ca_nil)))) ca_nil)))) (c_slice (cv 1) (co_some (cv 4)) co_none)))
  (cs_one (cs_set 3 sc__law_odd_text.nd (c_call (a__law_pick D) (room.mono (by decide)) gd (L2N.takes_of rfl rfl rfl rfl) (ca_cons (cv 0) (ca_cons (c_lst (ca_cons (cv 3) (ca_cons (ce_op opA_add (cv 1) (c_lst (ca_cons c_str ca_nil))) (ca_cons (ce_op opA_add (c_lst (ca_cons c_str ca_nil)) (cv 1)) ca_nil)))) ca_nil)))))) (cs_one (cs_if (ct_cmp (opA_eq room.units) (cv 2) c_int (nomark _)) (cs_one (cs_set 3 sc__law_odd_text.nd (c_slice (cv 1) co_none (co_some (c_call (a__law_draw D) (room.mono (by decide)) gd (L2N.takes_of rfl rfl rfl rfl) (ca_cons (cv 0) (ca_cons c_int ca_nil))))))) (cs_one (cs_if (ct_cmp (opA_eq room.units) (cv 2) c_int (nomark _)) (cs_cons (cs_set 6 sc__law_odd_text.nd (c_call (a__law_draw D) (room.mono (by decide)) gd (L2N.takes_of rfl rfl rfl rfl) (ca_cons (cv 0) (ca_cons c_int ca_nil))))
  (cs_cons (cs_set 7 sc__law_odd_text.nd (c_callT call_intA boot_int D.f_int (ca_cons (c_ix (cv 1) (c_call (a__law_pick D) (room.mono (by decide)) gd (L2N.takes_of rfl rfl rfl rfl) (ca_cons (cv 0) (ca_cons (c_lst (ca_cons (c_callB (call_maxA rfl) boot_max D.f_max (ca_cons c_int (ca_cons (ce_op opA_sub (cv 6) c_int) ca_nil))) (ca_cons (c_callB (call_minA rfl) boot_min D.f_min (ca_cons c_int (ca_cons (ce_op opA_add (cv 6) c_int) ca_nil))) ca_nil))) ca_nil)))) ca_nil)))
  (cs_cons (cs_set 8 sc__law_odd_text.nd (c_lst (ca_cons (ce_op opA_sub (ce_op opA_pow c_int c_int) c_int) (ca_cons (ce_op opA_sub (ce_op opA_pow c_int c_int) c_int) (ca_cons (ce_op opA_pow c_int c_int) (ca_cons (ce_op opA_add (ce_op opA_pow c_int c_int) c_int) (ca_cons (cv 7) (ca_cons (cv 7) (ca_cons (c_callB (call_maxA rfl) boot_max D.f_max (ca_cons c_int (ca_cons (ce_op opA_sub (cv 7) c_int) ca_nil))) (ca_cons (ce_op opA_add (cv 7) c_int) ca_nil))))))))))
  (cs_one (cs_sub (c_callT call_strA boot_str D.f_str (ca_cons (c_call (a__law_pick D) (room.mono (by decide)) gd (L2N.takes_of rfl rfl rfl rfl) (ca_cons (cv 0) (ca_cons (cv 8) ca_nil))) ca_nil)) (cv 3) (cv 6)))))) (cs_one (cs_if (ct_cmp (opA_eq room.units) (cv 2) c_int (nomark _)) (cs_one (cs_ret (c_call (a__law_odd_sign D) (room.mono (by decide)) gd (L2N.takes_of rfl rfl rfl rfl) (ca_cons (cv 0) (ca_cons (c_bm PySem.F.plainAttrs_str PySem.F.slot_str_join PySem.F.type_str_join mtA_join c_str (ca_cons (cv 1) ca_nil)) ca_nil))))) cs_nil)))))))))
  (cs_one (cs_ret (c_bm PySem.F.plainAttrs_str PySem.F.slot_str_join PySem.F.type_str_join mtA_join c_str (ca_cons (cv 3) ca_nil))))))) (fun _ _ _ _ _ h => h.2), D.m__law_odd_text, F.kp, FunD.bindsN F (fun _ _ _ _ _ _ us hl => match us, hl with | [_, _, _], _ => rfl), lensOf⟩
abbrev s__law_long_text : Stmt := top 52
theorem sc__law_long_text : FnScope ["bag", "words", "some", "many", "place"] ["bag", "words"] (defScope s__law_long_text) := ⟨rfl, rfl, rfl, by decide +kernel, rfl, by decide +kernel, by decide +kernel⟩
def n__law_long_text (K : PySem.W.Frag) : MS := (kSeq (kSet 2 (mCall (a1 fList) (mCons (mV 1) mNil)))
  (kSeq (kSet 3 (m2' aAdd (mC (.int 44)) (mFn (wp__law_draw K) (mCons (mV 0) (mCons (mC (.int 4)) mNil)))))
  (kSeq (kWhile (mTest (m2' aLt (mCall (a1 fLen) (mCons (mV 2) mNil)) (mV 3)))
  (kExpr (mMeth "list" aAppend (mV 2) (mCons (mFn (wp__law_pick K) (mCons (mV 0) (mCons (mLst (mCons (mC (.str "0")) (mCons (mC (.str "7:on")) (mCons (mC (.str "1000000:off")) (mCons (mC (.str "999999")) (mCons (mCall (a1 fStrI) (mCons (mFn (wp__law_draw K) (mCons (mV 0) (mCons (m2' aAdd (m2' aPow (mC (.int 10)) (mC (.int 6))) (mC (.int 1))) mNil))) mNil)) mNil)))))) mNil))) mNil))))
  (kSeq (kSet 4 (mFn (wp__law_pick K) (mCons (mV 0) (mCons (mLst (mCons (mFn (wp__law_draw K) (mCons (mV 0) (mCons (mV 3) mNil))) (mCons (m2' aSub (mV 3) (mC (.int 1))) (mCons (mC (.int 44)) mNil)))) mNil))))
  (kSeq (kIf (mAnd (mTest (m2' aLt (mV 4) (mV 3))) (mTest (m2' aEq (mFn (wp__law_draw K) (mCons (mV 0) (mCons (mC (.int 3)) mNil))) (mC (.int 0))))) (kSub (mFn (wp__law_odd_word K) (mCons (mV 0) (mCons (m2' aIx (mV 2) (mV 4)) mNil))) (mV 2) (mV 4)) kNext)
  (kRet (mMeth "str" aJoin (mC (.str " ")) (mCons (mSl (mV 2) mNoPart (mPart (mV 3))) mNil))))))))
abbrev wp__law_long_text (K : PySem.W.Frag) : WPn := wpOf 2 5 (n__law_long_text K)
theorem a__law_long_text (D : Fx P w K mg base) : AF P w K mg base 5 "_law_long_text" 2 (wp__law_long_text K) := by
  obtain ⟨fd, F⟩ := D.u__law_long_text
  exact ⟨_, fd, _, fng_mk F sc__law_long_text (fun cdv A fr s H E room gd =>
  (cs_cons (cs_set 2 sc__law_long_text.nd (c_callT call_listA boot_list D.f_list (ca_cons (cv 1) ca_nil)))
  (cs_cons (cs_set 3 sc__law_long_text.nd (ce_op opA_add c_int (c_call (a__law_draw D) (room.mono (by decide)) gd (L2N.takes_of rfl rfl rfl rfl) (ca_cons (cv 0) (ca_cons c_int ca_nil)))))
  (cs_cons (cs_while (passes_of rfl) (ct_cmp opA_lt (c_callB call_lenA boot_len D.f_len (ca_cons (cv 2) ca_nil)) (cv 3) (nomark _))
  (cs_one (cs_expr (c_bm PySem.F.plainAttrs_list PySem.F.slot_list_append PySem.F.type_list_append mtA_append (cv 2) (ca_cons (c_call (a__law_pick D) (room.mono (by decide)) gd (L2N.takes_of rfl rfl rfl rfl) (ca_cons (cv 0) (ca_cons (c_lst (ca_cons c_str (ca_cons c_str (ca_cons c_str (ca_cons c_str (ca_cons (c_callT call_strA boot_str D.f_str (ca_cons (c_call (a__law_draw D) (room.mono (by decide)) gd (L2N.takes_of rfl rfl rfl rfl) (ca_cons (cv 0) (ca_cons (ce_op opA_add (ce_op opA_pow c_int c_int) c_int) ca_nil))) ca_nil)) ca_nil)))))) ca_nil))) ca_nil)))))
  (cs_cons (cs_set 4 sc__law_long_text.nd (c_call (a__law_pick D) (room.mono (by decide)) gd (L2N.takes_of rfl rfl rfl rfl) (ca_cons (cv 0) (ca_cons (c_lst (ca_cons (c_call (a__law_draw D) (room.mono (by decide)) gd (L2N.takes_of rfl rfl rfl rfl) (ca_cons (cv 0) (ca_cons (cv 3) ca_nil))) (ca_cons (ce_op opA_sub (cv 3) c_int) (ca_cons c_int ca_nil)))) ca_nil))))
  (cs_cons (cs_if (ct_w (cw_and (ct_cmp opA_lt (cv 4) (cv 3) (nomark _)) (cw_and1 (ct_cmp (opA_eq room.units) (c_call (a__law_draw D) (room.mono (by decide)) gd (L2N.takes_of rfl rfl rfl rfl) (ca_cons (cv 0) (ca_cons c_int ca_nil))) c_int (nomark _))))) (cs_one (cs_sub (c_call (a__law_odd_word D) (room.mono (by decide)) gd (L2N.takes_of rfl rfl rfl rfl) (ca_cons (cv 0) (ca_cons (c_ix (cv 2) (cv 4)) ca_nil))) (cv 2) (cv 4))) cs_nil)
  (cs_one (cs_ret (c_bm PySem.F.plainAttrs_str PySem.F.slot_str_join PySem.F.type_str_join mtA_join c_str (ca_cons (c_slice (cv 2) co_none (co_some (cv 3))) ca_nil)))))))))) (fun _ _ _ _ _ h => h.2), D.m__law_long_text, F.kp, FunD.bindsN F (fun _ _ _ _ _ _ us hl => match us, hl with | [_, _], _ => rfl), lensOf⟩
abbrev s_law : Stmt := top 53
theorem sc_law : FnScope ["script", "bag", "ranges", "log", "text", "words", "due", "way", "turn", "mixed", "values", "kept", "told"] ["script"] (defScope s_law) := ⟨rfl, rfl, rfl, by decide +kernel, rfl, by decide +kernel, by decide +kernel⟩
def n_law (K : PySem.W.Frag) : MS := (kSeq (kSet 1 (mFn (wp__law_bag K) (mCons (mV 0) mNil)))
  (kSeq (kSet 2 (mFn (wp__law_own_ranges K) (mCons (mV 1) mNil)))
  (kSeq (kIf (mTest (m2' aEq (mFn (wp__law_draw K) (mCons (mV 1) (mCons (mC (.int 3)) mNil))) (mC (.int 0)))) (kSet 2 (mFn (wp__law_pick K) (mCons (mV 1) (mCons (mLst (mCons (mTup (mCons (mC (.int 999999)) (mCons (mC (.int 999999)) (mCons (m2' aPow (mC (.int 10)) (mC (.int 6))) (mCons (m2' aPow (mC (.int 10)) (mC (.int 6))) mNil))))) (mCons (mTup (mCons (mC (.int 999998)) (mCons (mC (.int 999999)) (mCons (m2' aPow (mC (.int 10)) (mC (.int 6))) (mCons (m2' aPow (mC (.int 10)) (mC (.int 6))) mNil))))) (mCons (mTup (mCons (mC (.int 0)) (mCons (mC (.int 999998)) (mCons (mC (.int 999999)) (mCons (m2' aPow (mC (.int 10)) (mC (.int 6))) mNil))))) (mCons (mTup (mCons (mC (.int 0)) (mCons (mC (.int 0)) (mCons (mC (.int 1)) (mCons (mC (.int 1)) mNil))))) mNil))))) mNil)))) kNext)
  (kSeq (kSet 3 (mFn (wp__law_own_log K) (mCons (mV 1) (mCons (mV 2) (mCons (mFn (wp__law_pick K) (mCons (mV 1) (mCons (mLst (mCons (mC (.int 0)) (mCons (mC (.int 1)) (mCons (mC (.int 2)) (mCons (mC (.int 3)) (mCons (mC (.int 7)) (mCons (mC (.int 20)) (mCons (mC (.int 39)) (mCons (mC (.int 40)) mNil))))))))) mNil))) mNil)))))
  (kSeq (kSet 4 (mFn (wp__law_own_text K) (mCons (mV 2) (mCons (mV 3) mNil))))
  (kSeq (kSet 5 (mMeth "str" aSplit (mV 4) (mCons (mC (.str " ")) mNil)))
  (kSeq (kSet 6 (mLst (mCons (mC (.str "case")) (mCons (mV 2) (mCons (mV 3) mNil)))))
  (kSeq (kIf (mOr (mTest (m2' aNe (mCall (a1 fRepr) (mCons (mFn (wp__law_told K) (mCons (mV 4) mNil)) mNil)) (mCall (a1 fRepr) (mCons (mV 6) mNil)))) (mTest (m2' aNe (mFn (wp__law_told K) (mCons (mV 4) mNil)) (mV 6)))) (kRet (mC (.bl false))) kNext)
  (kSeq (kFor (iSeq (mLst (mCons (mC (.int 0)) (mCons (mC (.int 4)) (mCons (mC (.int 4)) (mCons (mC (.int 2)) (mCons (mC (.int 0)) (mCons (mC (.int 3)) (mCons (mC (.int 4)) (mCons (mC (.int 4)) (mCons (mC (.int 1)) (mCons (mC (.int 0)) (mCons (mC (.int 4)) (mCons (mC (.int 0)) (mCons (mC (.int 5)) (mCons (mC (.int 2)) (mCons (mC (.int 4)) (mCons (mC (.int 0)) (mCons (mC (.int 5)) mNil))))))))))))))))))) (gN 7)
  (kSeq (kIf (mNot (mTru (mFn (wp__law_is_right K) (mCons (mFn (wp__law_odd_text K) (mCons (mV 1) (mCons (mV 5) (mCons (mV 7) mNil)))) mNil)))) (kRet (mC (.bl false))) kNext)
  (kIf (mAnd (mTest (m2' aEq (mV 7) (mC (.int 3)))) (mNot (mTru (mFn (wp__law_is_right K) (mCons (mV 4) mNil))))) (kRet (mC (.bl false))) kNext)))
  (kSeq (kFor (iRange1 (mC (.int 2))) (gN 8)
  (kIf (mNot (mTru (mFn (wp__law_is_right K) (mCons (mFn (wp__law_long_text K) (mCons (mV 1) (mCons (mV 5) mNil))) mNil)))) (kRet (mC (.bl false))) kNext))
  (kSeq (kSet 9 (mDisp [((mC (.str "text")), (mV 4))]))
  (kSeq (kSet 10 (mLst (mCons (mC .non) (mCons (mFn (wp__law_draw K) (mCons (mV 1) (mCons (mC (.int 100)) mNil))) (mCons (mC (.bl true)) (mCons (mTup (mCons (mV 2) (mCons (mV 3) mNil))) (mCons (mCall (a1 fTuple) (mCons (mV 5) mNil)) (mCons (mV 5) (mCons (mV 9) (mCons (mLst mNil) (mCons (mTup mNil) (mCons (mNeg (mC (.int 1))) (mCons (mLst (mCons (mV 4) mNil)) (mCons mDNew mNil))))))))))))))
  (kSeq (kSet 11 (mCall (a1 fRepr) (mCons (mV 10) mNil)))
  (kSeq (kFor (iRange1 (mC (.int 3))) (gN 8)
  (kSeq (kSet 12 (mFn (wp__law_told K) (mCons (mFn (wp__law_pick K) (mCons (mV 1) (mCons (mV 10) mNil))) mNil)))
  (kIf (mTest (m2' aNe (mCall (a1 fRepr) (mCons (mV 12) mNil)) (mCall (a1 fRepr) (mCons (mLst (mCons (mC (.str "BadText")) (mCons (mC .non) mNil))) mNil)))) (kRet (mC (.bl false))) kNext)))
  (kRet (mAndV (mFn (wp__law_is_right K) (mCons (mV 4) mNil)) (m2' aEq (mCall (a1 fRepr) (mCons (mV 10) mNil)) (mV 11))))))))))))))))))
abbrev wp_law (K : PySem.W.Frag) : WPn := wpOf 1 13 (n_law K)
theorem a_law (D : Fx P w K mg base) : AF P w K mg base 8 "law" 1 (wp_law K) := by
  obtain ⟨fd, F⟩ := D.u_law
  exact ⟨_, fd, _, fng_mk F sc_law (fun cdv A fr s H E room gd =>
  (cs_cons (cs_set 1 sc_law.nd (c_call (a__law_bag D) (room.mono (by decide)) gd (L2N.takes_of rfl rfl rfl rfl) (ca_cons (cv 0) ca_nil)))
  (cs_cons (cs_set 2 sc_law.nd (c_call (a__law_own_ranges D) (room.mono (by decide)) gd (L2N.takes_of rfl rfl rfl rfl) (ca_cons (cv 1) ca_nil)))
  (cs_cons (cs_if (ct_cmp (opA_eq room.units) (c_call (a__law_draw D) (room.mono (by decide)) gd (L2N.takes_of rfl rfl rfl rfl) (ca_cons (cv 1) (ca_cons c_int ca_nil))) c_int (nomark _)) (cs_one (cs_set 2 sc_law.nd (c_call (a__law_pick D) (room.mono (by decide)) gd (L2N.takes_of rfl rfl rfl rfl) (ca_cons (cv 1) (ca_cons (c_lst (ca_cons (c_tup (ca_cons c_int (ca_cons c_int (ca_cons (ce_op opA_pow c_int c_int) (ca_cons (ce_op opA_pow c_int c_int) ca_nil))))) (ca_cons (c_tup (ca_cons c_int (ca_cons c_int (ca_cons (ce_op opA_pow c_int c_int) (ca_cons (ce_op opA_pow c_int c_int) ca_nil))))) (ca_cons (c_tup (ca_cons c_int (ca_cons c_int (ca_cons c_int (ca_cons (ce_op opA_pow c_int c_int) ca_nil))))) (ca_cons (c_tup (ca_cons c_int (ca_cons c_int (ca_cons c_int (ca_cons c_int ca_nil))))) ca_nil))))) ca_nil))))) cs_nil)
  (cs_cons (cs_set 3 sc_law.nd (c_call (a__law_own_log D) (room.mono (by decide)) gd (L2N.takes_of rfl rfl rfl rfl) (ca_cons (cv 1) (ca_cons (cv 2) (ca_cons (c_call (a__law_pick D) (room.mono (by decide)) gd (L2N.takes_of rfl rfl rfl rfl) (ca_cons (cv 1) (ca_cons (c_lst (ca_cons c_int (ca_cons c_int (ca_cons c_int (ca_cons c_int (ca_cons c_int (ca_cons c_int (ca_cons c_int (ca_cons c_int ca_nil))))))))) ca_nil))) ca_nil)))))
  (cs_cons (cs_set 4 sc_law.nd (c_call (a__law_own_text D) (room.mono (by decide)) gd (L2N.takes_of rfl rfl rfl rfl) (ca_cons (cv 2) (ca_cons (cv 3) ca_nil))))
  (cs_cons (cs_set 5 sc_law.nd (c_bm PySem.F.plainAttrs_str PySem.F.slot_str_split PySem.F.type_str_split mtA_split (cv 4) (ca_cons c_str ca_nil)))
  (cs_cons (cs_set 6 sc_law.nd (c_lst (ca_cons c_str (ca_cons (cv 2) (ca_cons (cv 3) ca_nil)))))
  (cs_cons (cs_if (ct_w (cw_or (ct_cmp (opA_ne room.units) (c_callB (call_reprA gd room.units D.sys) boot_repr D.f_repr (ca_cons (c_call (a__law_told D) (room.mono (by decide)) gd (L2N.takes_of rfl rfl rfl rfl) (ca_cons (cv 4) ca_nil)) ca_nil)) (c_callB (call_reprA gd room.units D.sys) boot_repr D.f_repr (ca_cons (cv 6) ca_nil)) (nomark _)) (cw_or1 (ct_cmp (opA_ne room.units) (c_call (a__law_told D) (room.mono (by decide)) gd (L2N.takes_of rfl rfl rfl rfl) (ca_cons (cv 4) ca_nil)) (cv 6) (nomark _))))) (cs_one (cs_ret c_bl)) cs_nil)
  (cs_cons (cs_for (passes_of rfl) rfl (ci_seq (c_lst (ca_cons c_int (ca_cons c_int (ca_cons c_int (ca_cons c_int (ca_cons c_int (ca_cons c_int (ca_cons c_int (ca_cons c_int (ca_cons c_int (ca_cons c_int (ca_cons c_int (ca_cons c_int (ca_cons c_int (ca_cons c_int (ca_cons c_int (ca_cons c_int (ca_cons c_int ca_nil))))))))))))))))))) (g_name 7 sc_law.nd)
  (cs_cons (cs_if (ct_not (ct_tru (c_call (a__law_is_right D) (room.mono (by decide)) gd (L2N.takes_of rfl rfl rfl rfl) (ca_cons (c_call (a__law_odd_text D) (room.mono (by decide)) gd (L2N.takes_of rfl rfl rfl rfl) (ca_cons (cv 1) (ca_cons (cv 5) (ca_cons (cv 7) ca_nil)))) ca_nil)))) (cs_one (cs_ret c_bl)) cs_nil)
  (cs_one (cs_if (ct_w (cw_and (ct_cmp (opA_eq room.units) (cv 7) c_int (nomark _)) (cw_and1 (ct_not (ct_tru (c_call (a__law_is_right D) (room.mono (by decide)) gd (L2N.takes_of rfl rfl rfl rfl) (ca_cons (cv 4) ca_nil))))))) (cs_one (cs_ret c_bl)) cs_nil))))
  (cs_cons (cs_for (passes_of rfl) rfl (ci_range1 D.f_range c_int) (g_name 8 sc_law.nd)
  (cs_one (cs_if (ct_not (ct_tru (c_call (a__law_is_right D) (room.mono (by decide)) gd (L2N.takes_of rfl rfl rfl rfl) (ca_cons (c_call (a__law_long_text D) (room.mono (by decide)) gd (L2N.takes_of rfl rfl rfl rfl) (ca_cons (cv 1) (ca_cons (cv 5) ca_nil))) ca_nil)))) (cs_one (cs_ret c_bl)) cs_nil)))
  (cs_cons (cs_set 9 sc_law.nd (c_disp (cp_cons c_str (cv 4) cp_nil)))
  (cs_cons (cs_set 10 sc_law.nd (c_lst (ca_cons c_non (ca_cons (c_call (a__law_draw D) (room.mono (by decide)) gd (L2N.takes_of rfl rfl rfl rfl) (ca_cons (cv 1) (ca_cons c_int ca_nil))) (ca_cons c_bl (ca_cons (c_tup (ca_cons (cv 2) (ca_cons (cv 3) ca_nil))) (ca_cons (c_callT call_tupleA boot_tuple D.f_tuple (ca_cons (cv 5) ca_nil)) (ca_cons (cv 5) (ca_cons (cv 9) (ca_cons (c_lst ca_nil) (ca_cons (c_tup ca_nil) (ca_cons (c_neg c_int) (ca_cons (c_lst (ca_cons (cv 4) ca_nil)) (ca_cons c_dnew ca_nil))))))))))))))
  (cs_cons (cs_set 11 sc_law.nd (c_callB (call_reprA gd room.units D.sys) boot_repr D.f_repr (ca_cons (cv 10) ca_nil)))
  (cs_cons (cs_for (passes_of rfl) rfl (ci_range1 D.f_range c_int) (g_name 8 sc_law.nd)
  (cs_cons (cs_set 12 sc_law.nd (c_call (a__law_told D) (room.mono (by decide)) gd (L2N.takes_of rfl rfl rfl rfl) (ca_cons (c_call (a__law_pick D) (room.mono (by decide)) gd (L2N.takes_of rfl rfl rfl rfl) (ca_cons (cv 1) (ca_cons (cv 10) ca_nil))) ca_nil)))
  (cs_one (cs_if (ct_cmp (opA_ne room.units) (c_callB (call_reprA gd room.units D.sys) boot_repr D.f_repr (ca_cons (cv 12) ca_nil)) (c_callB (call_reprA gd room.units D.sys) boot_repr D.f_repr (ca_cons (c_lst (ca_cons c_str (ca_cons c_non ca_nil))) ca_nil)) (nomark _)) (cs_one (cs_ret c_bl)) cs_nil))))
  (cs_one (cs_ret (c_and (c_call (a__law_is_right D) (room.mono (by decide)) gd (L2N.takes_of rfl rfl rfl rfl) (ca_cons (cv 4) ca_nil)) (c_one (ce_cmp (opA_eq room.units) (c_callB (call_reprA gd room.units D.sys) boot_repr D.f_repr (ca_cons (cv 10) ca_nil)) (cv 11) (nomark _))))))))))))))))))))) (fun _ _ _ _ _ h => h.2), D.m_law, F.kp, FunD.bindsN F (fun _ _ _ _ _ _ us hl => match us, hl with | [_], _ => rfl), lensOf⟩
end
end K56
namespace K56
open PySem L2 AL RD
local macro_rules | `(tactic| walk_at "al") => `(tactic| (repeat (first | (with_reducible refine r_seq ?_) | (with_reducible refine r_set ?_) | (with_reducible refine r_cons ?_) | (with_reducible refine r_nil ?_) | (with_reducible refine r_c ?_) | (with_reducible refine r_v (by with_unfolding_all rfl) ?_) | (with_reducible refine r_m2 ?_) | (with_reducible refine r_fn ?_) | (with_reducible refine r_call ?_) | (with_reducible refine r_a1 ?_) | (with_reducible refine r_a2 ?_) | (with_reducible refine r_test ?_) | (with_reducible refine r_if ?_) | (with_reducible refine r_ret ?_) | (with_reducible refine r_lst ?_) | (with_reducible refine r_tup ?_) | (with_reducible refine r_len (Nat.le_of_ble_eq_true rfl) ?_) | (with_reducible refine r_addI ?_) | (with_reducible refine r_subI ?_) | (with_reducible refine r_ltI ?_) | (with_reducible refine r_leI ?_) | (with_reducible refine r_gtI ?_) | (with_reducible refine r_geI ?_) | (with_reducible refine r_eqI ?_) | (with_reducible refine r_neI ?_) | (with_reducible refine r_eqS ?_) | (with_reducible refine r_neS ?_) | (with_reducible refine r_isN ?_) | (with_reducible refine r_isNotN ?_) | (with_reducible refine r_abs ?_) | (with_reducible refine r_intI ?_) | (with_reducible refine r_max ?_) | (with_reducible refine r_min ?_) | (with_reducible refine r_listT ?_) | (with_reducible refine r_tupT ?_) | (with_reducible refine r_mif ?_) | (with_reducible refine r_not ?_) | (with_reducible refine r_and ?_) | (with_reducible refine r_or ?_) | (with_reducible refine r_andV ?_) | (with_reducible refine r_orV ?_) | (with_reducible refine r_notV ?_) | (with_reducible refine r_mtru ?_) | (with_reducible refine r_neg ?_) | (with_reducible refine r_expr ?_) | (with_reducible refine r_next ?_) | (with_reducible refine r_brk ?_) | (with_reducible refine r_cont ?_) | (with_reducible refine r_asg ?_) | (with_reducible refine r_par2 ?_) | (with_reducible refine r_par3 ?_) | (with_reducible refine r_raise ?_) | (with_reducible refine r_for ?_) | (with_reducible refine r_iseq ?_) | (with_reducible refine r_iT ?_) | (with_reducible refine r_rng1 ?_) | (with_reducible refine r_msl ?_) | (with_reducible refine r_noPart ?_) | (with_reducible refine r_part ?_) | (with_reducible refine r_slT ?_) | (with_reducible refine r_lstRev ?_) | (with_reducible refine r_lenT ?_) | (with_reducible refine r_retN ?_) | (with_reducible refine r_pow6 ?_) | (with_reducible refine r_pow9 ?_) | (with_reducible refine r_pow4 ?_) | (with_reducible refine r_iteT ?_) | (with_reducible refine r_iteF ?_) | (with_reducible refine r_truB ?_) | (with_reducible refine r_ksub ?_) | (with_reducible refine r_enum ?_) | (with_reducible refine r_mlc ?_) | (with_reducible refine r_iteNT ?_) | (with_reducible refine r_iteNF ?_))))
local macro_rules | `(tactic| walk_at "ae") => `(tactic| (repeat (first | (with_reducible refine r_set ?_) | (with_reducible refine r_cons ?_) | (with_reducible refine r_nil ?_) | (with_reducible refine r_c ?_) | (with_reducible refine r_v (by with_unfolding_all rfl) ?_) | (with_reducible refine r_m2 ?_) | (with_reducible refine r_fn ?_) | (with_reducible refine r_call ?_) | (with_reducible refine r_a1 ?_) | (with_reducible refine r_a2 ?_) | (with_reducible refine r_test ?_) | (with_reducible refine r_if ?_) | (with_reducible refine r_ret ?_) | (with_reducible refine r_lst ?_) | (with_reducible refine r_tup ?_) | (with_reducible refine r_len (Nat.le_of_ble_eq_true rfl) ?_) | (with_reducible refine r_addI ?_) | (with_reducible refine r_subI ?_) | (with_reducible refine r_ltI ?_) | (with_reducible refine r_leI ?_) | (with_reducible refine r_gtI ?_) | (with_reducible refine r_geI ?_) | (with_reducible refine r_eqI ?_) | (with_reducible refine r_neI ?_) | (with_reducible refine r_eqS ?_) | (with_reducible refine r_neS ?_) | (with_reducible refine r_isN ?_) | (with_reducible refine r_isNotN ?_) | (with_reducible refine r_abs ?_) | (with_reducible refine r_intI ?_) | (with_reducible refine r_max ?_) | (with_reducible refine r_min ?_) | (with_reducible refine r_listT ?_) | (with_reducible refine r_tupT ?_) | (with_reducible refine r_mif ?_) | (with_reducible refine r_not ?_) | (with_reducible refine r_and ?_) | (with_reducible refine r_or ?_) | (with_reducible refine r_andV ?_) | (with_reducible refine r_orV ?_) | (with_reducible refine r_notV ?_) | (with_reducible refine r_mtru ?_) | (with_reducible refine r_neg ?_) | (with_reducible refine r_expr ?_) | (with_reducible refine r_next ?_) | (with_reducible refine r_brk ?_) | (with_reducible refine r_cont ?_) | (with_reducible refine r_asg ?_) | (with_reducible refine r_par2 ?_) | (with_reducible refine r_par3 ?_) | (with_reducible refine r_raise ?_) | (with_reducible refine r_for ?_) | (with_reducible refine r_iseq ?_) | (with_reducible refine r_iT ?_) | (with_reducible refine r_rng1 ?_) | (with_reducible refine r_msl ?_) | (with_reducible refine r_noPart ?_) | (with_reducible refine r_part ?_) | (with_reducible refine r_slT ?_) | (with_reducible refine r_lstRev ?_) | (with_reducible refine r_lenT ?_) | (with_reducible refine r_retN ?_) | (with_reducible refine r_pow6 ?_) | (with_reducible refine r_pow9 ?_) | (with_reducible refine r_pow4 ?_) | (with_reducible refine r_iteT ?_) | (with_reducible refine r_iteF ?_) | (with_reducible refine r_truB ?_) | (with_reducible refine r_ksub ?_) | (with_reducible refine r_enum ?_) | (with_reducible refine r_mlc ?_) | (with_reducible refine r_iteNT ?_) | (with_reducible refine r_iteNF ?_))))
section
variable {K : PySem.W.Frag} {M : Mem} {P : PD} {E : XP}
theorem log_lt {n k : Nat} (h : n < 2 ^ k) (hk : 0 < k) : n.log2 < k := by
  by_cases h0 : n = 0
  · subst h0
    simpa using hk
  · exact (Nat.log2_lt h0).mpr h
theorem logs (a b : Int) (ha : a.natAbs < 2 ^ 100) (hb : b.natAbs < 2 ^ 100) : a.natAbs.log2 + b.natAbs.log2 < 1000000 := by
  have h1 := log_lt ha (by decide)
  have h2 := log_lt hb (by decide)
  omega
theorem r_mulS {a b : Int} (ha : a.natAbs < 2 ^ 100) (hb : b.natAbs < 2 ^ 100) (h : P (.int (a * b)) M) : aMul (.int a) (.int b) M P := r_mulI ⟨logs a b ha hb, h⟩
theorem r_divS {a b : Int} (hb : 0 < b) (hs : b < 2 ^ 100) (h : P (.int (a / b)) M) : aDiv (.int a) (.int b) M P := r_divI ⟨⟨hb, Nat.lt_trans (log_lt (k := 100) (by omega) (by decide)) (by decide)⟩, h⟩
theorem drs_ints (M : Mem) : ∀ cells : List Int, DRs M (cells.map D.int) (cells.map PyData.int)
  | [] => .nil
  | c :: cs => .cons (.int c) (drs_ints M cs)
theorem depth_ints : ∀ cells : List Int, PyData.depthAll (cells.map PyData.int) = 0
  | [] => rfl
  | c :: cs => by
    rw [List.map_cons, PyData.depthAll, depth_ints cs]
    rfl
theorem lay_ints : ∀ cells : List Int, PyData.canLayAll0 (cells.map PyData.int) = true
  | [] => rfl
  | c :: cs => by
    rw [List.map_cons, PyData.canLayAll0, lay_ints cs]
    rfl
theorem shaped_ints (cells : List Int) : SeqAt.shaped (.list (cells.map PyData.int)) = true := by
  unfold SeqAt.shaped
  rw [PyData.canLay0, lay_ints, PyData.depth, depth_ints]
  rfl
theorem eqv_nil (cells : List Int) : PyData.eqv (.list (cells.map PyData.int)) (.list []) = decide (cells = []) := by
  cases cells <;> rfl
theorem r_bag {ns : List Int} (hn : ns.length ≤ 63) (h : ∀ M', Bag M' → P (.ref 5) M') : wp__law_bag K [.ref 0] [.fls (ns.map .int)] P E := by
  refine ⟨rfl, ?_⟩
  unfold n__law_bag
  walk_at "al"
  show aSl _ _ _ _ _
  refine r_slF (ds := ns.map .int) rfl ?_
  walk_at "al"
  refine r_iL (ds := cutD (ns.map .int) none (some 63)) rfl ?_
  have hl : (cutD (ns.map D.int) none (some 63)).length ≤ 63 := by
    unfold cutD
    rw [List.length_take, List.length_drop, List.length_map]
    omega
  obtain ⟨cs, ec⟩ : ∃ cs : List Int, cutD (ns.map D.int) none (some 63) = cs.map D.int := ⟨cutD ns none (some 63), by unfold cutD; simp⟩
  rw [ec] at hl ⊢
  refine lc_map (M := [MO.fls (ns.map D.int), MO.lst (cs.map D.int)]) (fun x => match x with
    | .int i => .int (if i < 0 then -i else i)
    | y => y) ((cs.map fun i => if i < 0 then -i else i).map D.int) (by simp) (by show (cs.map D.int).length ≤ sizeLine; rw [sizeLine_eq]; omega) (fun acc => rfl) (fun x hx => ?_) ?_
  · obtain ⟨i, hi, rfl⟩ := List.mem_map.mp hx
    refine ⟨_, rfl, fun acc Q q => ?_⟩
    walk_at "al"
    exact q
  generalize hcs : (cs.map fun i => if i < 0 then -i else i) = ds
  have hd : ∀ i ∈ ds, 0 ≤ i := fun i hi => by
    rw [← hcs] at hi
    obtain ⟨j, _, rfl⟩ := List.mem_map.mp hi
    split <;> omega
  walk_at "al"
  refine r_lenL (ds := ds.map D.int) rfl ?_
  walk_at "al"
  refine r_iL (ds := ds.map D.int) rfl ?_
  refine forA_inv (fun _ ρ M => ∃ x z, ρ = [some (.ref 0), some (.ref 2), some (.int x), z] ∧ M = [MO.fls (ns.map D.int), MO.lst (cs.map D.int), MO.lst (ds.map D.int)] ∧ 0 ≤ x ∧ x < 2147483647) ⟨_, none, rfl, rfl, ?_, ?_⟩ (fun i x ρ M K' hx ⟨y, z, e1, e2, h1, h2⟩ q => ?_) (fun ρ M ⟨x, z, e1, e2, h1, h2⟩ => ?_)
  · show (0 : Int) ≤ 2468 + ((ds.map D.int).length : Int)
    omega
  · have e1 : (ds.map D.int).length ≤ 63 := by rw [← hcs, List.length_map, List.length_map]; rw [List.length_map] at hl; exact hl
    show 2468 + ((ds.map D.int).length : Int) < 2147483647
    omega
  · subst e1 e2
    obtain ⟨c, hc, rfl⟩ : ∃ c, c ∈ ds ∧ x = D.int c := by
      have := List.mem_of_getElem? hx
      obtain ⟨c, h1, h2⟩ := List.mem_map.mp this
      exact ⟨c, h1, h2.symm⟩
    have hc0 := hd c hc
    refine ⟨rfl, _, rfl, ?_⟩
    walk_at "al"
    refine r_mulS (by omega) (by decide) ?_
    walk_at "al"
    refine r_modI ⟨by decide, ?_⟩
    exact q _ _ ⟨_, _, rfl, rfl, Int.emod_nonneg _ (by decide), Int.emod_lt_of_pos _ (by decide)⟩
  · subst e1 e2
    refine ⟨rfl, ?_⟩
    walk_at "al"
    refine r_listL (ds := ds.map D.int) rfl ?_
    refine r_lrevK (ds := ds.map D.int) rfl ?_
    walk_at "al"
    refine h _ ⟨ds.reverse, 0, x, rfl, by rw [List.map_reverse]; rfl, fun i hi => hd i (List.mem_reverse.mp hi), by decide, h1, h2⟩
theorem cells_last {cells : List Int} (h : cells ≠ []) : ∃ cs c, cells = cs ++ [c] := ⟨cells.dropLast, cells.getLast h, (List.dropLast_concat_getLast h).symm⟩
theorem r_draw {a : Int} (B : Bag M) (ha : 0 < a) (hs : a < 2 ^ 100) (h : ∀ v M', 0 ≤ v → v < a → Bag M' → Kp M M' → P (.int v) M') : wp__law_draw K [.ref 5, .int a] M P E := by
  refine ⟨rfl, ?_⟩
  unfold n__law_draw
  refine r_seq ?_
  have B0 := B
  obtain ⟨cells, g, x, b5, b4, bc, bg, bx, bx2⟩ := B
  refine wh_inv (fun f ρ M' => ρ.length = 4 ∧ ρ[0]? = some (some (.ref 5)) ∧ ρ[1]? = some (some (.int a)) ∧ Kp M M' ∧ ∃ (cells : List Int) (g x : Int), f = cells.length + 1 ∧ M'[5]? = some (.lst [.ref 4, .int g, .int x]) ∧ M'[4]? = some (.lst (cells.map D.int)) ∧ (∀ i ∈ cells, 0 ≤ i) ∧ 0 ≤ g ∧ 0 ≤ x ∧ x < 2147483647)
    (cells.length + 1) ⟨rfl, rfl, rfl, .refl, cells, g, x, rfl, b5, b4, bc, bg, bx, bx2⟩ (fun f ρ M1 K' ⟨hl, p0, p1, kp, cells, g, x, hf, b5, b4, bc, bg, bx, bx2⟩ q => ?_) (fun ρ M1 ⟨_, _, _, _, cells, _, _, hf, _⟩ => by omega)
  -- behind the loop
  have fin : ∀ (ρ : Sl) (M1 : Mem), ρ.length = 4 → ρ[0]? = some (some (.ref 5)) → ρ[1]? = some (some (.int a)) → Kp M M1 → (∃ (cells : List Int) (g x : Int), M1[5]? = some (.lst [.ref 4, .int g, .int x]) ∧ M1[4]? = some (.lst (cells.map D.int)) ∧ (∀ i ∈ cells, 0 ≤ i) ∧ 0 ≤ g ∧ 0 ≤ x ∧ x < 2147483647) →
      kSeq (kIf (mTest (m2' aGt (m2' aIx (mV 0) (mC (.int 1))) (mC (.int 0)))) (kSeq (kSet 3 (m2' aMod (mCall (a1 fInt) (mCons (m2' aIx (mV 0) (mC (.int 1))) mNil)) (mV 1)))
        (kSeq (kSub (m2' aDiv (m2' aIx (mV 0) (mC (.int 1))) (mV 1)) (mV 0) (mC (.int 1)))
        (kRet (mV 3)))) kNext)
        (kSeq (kSub (m2' aMod (mCall (a1 fInt) (mCons (m2' aAdd (m2' aMul (m2' aIx (mV 0) (mC (.int 2))) (mC (.int 48271))) (mC (.int 11))) mNil)) (mC (.int 2147483647))) (mV 0) (mC (.int 2)))
        (kRet (m2' aMod (mCall (a1 fInt) (mCons (m2' aDiv (m2' aMod (mCall (a1 fInt) (mCons (m2' aMul (m2' aIx (mV 0) (mC (.int 2))) (m2' aIx (mV 0) (mC (.int 2)))) mNil)) (mC (.int 2147483629))) (mC (.int 7))) mNil)) (mV 1)))) ρ M1 (ends P E) := by
    rintro ρ M1 hl p0 p1 kp ⟨cells, g, x, b5, b4, bc, bg, bx, bx2⟩
    obtain ⟨s0, s1, s2, s3, rfl⟩ : ∃ s0 s1 s2 s3, ρ = [s0, s1, s2, s3] := by
      match ρ, hl with
      | [a, b, c, d], _ => exact ⟨a, b, c, d, rfl⟩
    cases p0; cases p1
    walk_at "al"
    refine r_ixL b5 rfl ?_
    walk_at "al"
    refine r_iteD (fun hg => ?_) (fun hg => ?_)
    · walk_at "al"
      refine r_ixL b5 rfl ?_
      walk_at "al"
      refine r_modI ⟨ha, ?_⟩
      walk_at "al"
      refine r_ixL b5 rfl ?_
      walk_at "al"
      refine r_divS ha hs ?_
      walk_at "al"
      refine r_subK b5 rfl ?_
      walk_at "al"
      exact h _ _ (Int.emod_nonneg _ (by omega)) (Int.emod_lt_of_pos _ ha) ⟨cells, g / a, x, at_set b5, at_ne (by decide) b4, bc, Int.ediv_nonneg bg (by omega), bx, bx2⟩ (kp.trans (.set (by decide)))
    · walk_at "al"
      refine r_ixL b5 rfl ?_
      walk_at "al"
      refine r_mulS (by omega) (by decide) ?_
      walk_at "al"
      refine r_modI ⟨by decide, ?_⟩
      walk_at "al"
      refine r_subK b5 rfl ?_
      walk_at "al"
      have y0 : 0 ≤ (x * 48271 + 11) % 2147483647 := Int.emod_nonneg _ (by decide)
      have y1 : (x * 48271 + 11) % 2147483647 < 2147483647 := Int.emod_lt_of_pos _ (by decide)
      generalize (x * 48271 + 11) % 2147483647 = y at y0 y1 ⊢
      refine r_ixL (at_set b5) rfl ?_
      walk_at "al"
      refine r_ixL (at_set b5) rfl ?_
      refine r_mulS (by omega) (by omega) ?_
      walk_at "al"
      refine r_modI ⟨by decide, ?_⟩
      walk_at "al"
      refine r_divS (by decide) (by decide) ?_
      walk_at "al"
      refine r_modI ⟨ha, ?_⟩
      exact h _ _ (Int.emod_nonneg _ (by omega)) (Int.emod_lt_of_pos _ ha) ⟨cells, g, y, at_set b5, at_ne (by decide) b4, bc, bg, y0, y1⟩ (kp.trans (.set (by decide)))
  obtain ⟨s0, s1, s2, s3, rfl⟩ : ∃ s0 s1 s2 s3, ρ = [s0, s1, s2, s3] := by
    match ρ, hl with
    | [a, b, c, d], _ => exact ⟨a, b, c, d, rfl⟩
  have p0' := p0; have p1' := p1
  cases p0; cases p1
  walk_at "al"
  refine r_ixL b5 rfl ?_
  walk_at "al"
  refine r_iteD (fun hg => ?_) (fun hg => ?_)
  · subst hg
    walk_at "al"
    refine r_ixL b5 rfl ?_
    walk_at "al"
    have d4 : DR (M1 ++ [.lst []]) (.ref 4) (.list (cells.map PyData.int)) := .lst (at_l b4) (drs_ints _ cells)
    have d0 : DR (M1 ++ [.lst []]) (.ref M1.length) (.list []) := .lst at_end .nil
    refine ⟨_, _, d4, d0, shaped_ints cells, by decide, ?_⟩
    rw [eqv_nil]
    refine r_iteP (p := cells ≠ []) (by cases cells <;> simp) (fun hc => ?_) (fun hc => ?_)
    · obtain ⟨cs, c, rfl⟩ := cells_last hc
      have hc0 := bc c (by simp)
      walk_at "al"
      refine r_meth0 ?_
      walk_at "al"
      refine r_ixL (at_l b5) rfl ?_
      have b4' : (M1 ++ [MO.lst []])[4]? = some (.lst (cs.map D.int ++ [D.int c])) := by
        rw [at_l b4, List.map_append]; rfl
      refine ⟨r_tyL b4', r_pop b4' ?_⟩
      have b5' : ((M1 ++ [MO.lst []]).set 4 (.lst (cs.map D.int)))[5]? = some (.lst [.ref 4, .int 0, .int x]) := at_ne (by decide) (at_l b5)
      have rest : ∀ v : Int, 0 ≤ v → K' [some (.ref 5), some (.int a), some (.int c), s3] (((M1 ++ [MO.lst []]).set 4 (.lst (cs.map D.int))).set 5 (.lst [.ref 4, .int v, .int x])) := fun v hv =>
        q _ _ ⟨rfl, rfl, rfl, (kp.trans .app).trans ((Kp.set (by decide)).trans (.set (by decide))), cs, v, x, by simp at hf; omega, at_set b5', at_ne (by decide) (at_set b4'), fun i hi => bc i (by simp [hi]), hv, bx, bx2⟩
      walk_at "al"
      refine r_iteD (fun hg => ?_) (fun hg => ?_)
      · walk_at "al"
        exact r_subK b5' rfl (rest c hc0)
      · walk_at "al"
        exact r_subK b5' rfl (rest 0 (by decide))
    · exact fin [some (.ref 5), some (.int a), s2, s3] _ rfl rfl rfl (kp.trans .app) ⟨cells, 0, x, at_l b5, at_l b4, bc, bg, bx, bx2⟩
  · exact fin [some (.ref 5), some (.int a), s2, s3] _ rfl rfl rfl kp ⟨cells, g, x, b5, b4, bc, bg, bx, bx2⟩
theorem r_pickL {p : Nat} {ds : List D} (B : Bag M) (h6 : 6 ≤ p) (h0 : M[p]? = some (.lst ds)) (hne : ds ≠ []) (hs : ds.length < 2 ^ 100) (h : ∀ d M', d ∈ ds → Bag M' → Kp M M' → P d M') : wp__law_pick K [.ref 5, .ref p] M P E := by
  refine ⟨rfl, ?_⟩
  unfold n__law_pick
  walk_at "al"
  refine r_lenL h0 ?_
  walk_at "al"
  refine r_draw B (by have := List.length_pos_iff.mpr hne; omega) (by omega) fun v M' v0 v1 B' kp => ?_
  obtain ⟨n, rfl⟩ := Int.eq_ofNat_of_zero_le v0
  have hn : n < ds.length := by omega
  exact r_ixL (kp.2 _ _ h6 h0) (List.getElem?_eq_getElem hn) (h _ _ (List.getElem_mem hn) B' kp)
theorem r_pickT {ds : List D} (B : Bag M) (hne : ds ≠ []) (hs : ds.length < 2 ^ 100) (h : ∀ d M', d ∈ ds → Bag M' → Kp M M' → P d M') : wp__law_pick K [.ref 5, .tup ds] M P E := by
  refine ⟨rfl, ?_⟩
  unfold n__law_pick
  walk_at "al"
  refine r_draw B (by have := List.length_pos_iff.mpr hne; omega) (by omega) fun v M' v0 v1 B' kp => ?_
  obtain ⟨n, rfl⟩ := Int.eq_ofNat_of_zero_le v0
  have hn : n < ds.length := by omega
  exact r_ixT (List.getElem?_eq_getElem hn) (h _ _ (List.getElem_mem hn) B' kp)
end
section
variable {K : PySem.W.Frag} {M : Mem} {P : PD} {E : XP}
theorem mem_ints {xs : List Int} {d : D} (h : d ∈ xs.map D.int) : ∃ w, d = D.int w ∧ w ∈ xs := by
  obtain ⟨w, h1, h2⟩ := List.mem_map.mp h
  exact ⟨w, h2.symm, h1⟩
theorem mem_strs {xs : List Str} {d : D} (h : d ∈ xs.map D.str) : ∃ w, d = D.str w ∧ w ∈ xs := by
  obtain ⟨w, h1, h2⟩ := List.mem_map.mp h
  exact ⟨w, h2.symm, h1⟩
/-- pick from a list of ints that was just made -/
theorem r_pickI {xs : List Int} (B : Bag M) (hne : xs ≠ []) (hs : xs.length < 1000) (h : ∀ w M', w ∈ xs → Bag M' → Kp (M ++ [.lst (xs.map D.int)]) M' → P (.int w) M') : wp__law_pick K [.ref 5, .ref M.length] (M ++ [.lst (xs.map D.int)]) P E :=
  r_pickL B.app B.len at_end (by simpa using hne) (by rw [List.length_map]; omega) fun d M' hd B' k => by
    obtain ⟨w, rfl, hw⟩ := mem_ints hd
    exact h w M' hw B' k
theorem r_pickS {xs : List Str} (B : Bag M) (hne : xs ≠ []) (hs : xs.length < 1000) (h : ∀ w M', w ∈ xs → Bag M' → Kp (M ++ [.lst (xs.map D.str)]) M' → P (.str w) M') : wp__law_pick K [.ref 5, .ref M.length] (M ++ [.lst (xs.map D.str)]) P E :=
  r_pickL B.app B.len at_end (by simpa using hne) (by rw [List.length_map]; omega) fun d M' hd B' k => by
    obtain ⟨w, rfl, hw⟩ := mem_strs hd
    exact h w M' hw B' k
structure OkR (a b c d : Int) : Prop where
  h0 : 0 ≤ a
  h1 : a ≤ b
  h2 : b < c
  h3 : c ≤ d
  h4 : d ≤ 1000000
theorem r_ranges (B : Bag M) (h : ∀ a b c d M', OkR a b c d → Bag M' → Kp M M' → P (.tup [.int a, .int b, .int c, .int d]) M') : wp__law_own_ranges K [.ref 5] M P E := by
  refine ⟨rfl, ?_⟩
  unfold n__law_own_ranges
  walk_at "al"
  refine r_pickI (xs := [1, 4, 20, 300, 10000, 1000000]) B (by simp) (by decide) fun wide M1 hw B1 k1 => ?_
  have w1 : 1 ≤ wide ∧ wide ≤ 1000000 := by simp only [List.mem_cons, List.not_mem_nil, or_false] at hw; omega
  clear hw
  walk_at "al"
  refine r_draw B1 (by omega) (by omega) fun v M2 v0 v1 B2 k2 => ?_
  walk_at "al"
  refine r_pickI (xs := [0, 0, 1000000 - wide, v]) B2 (by simp) (by simp) fun base M3 hb B3 k3 => ?_
  have b1 : 0 ≤ base ∧ base + wide ≤ 1000000 := by simp only [List.mem_cons, List.not_mem_nil, or_false] at hb; omega
  clear hb
  walk_at "al"
  refine r_draw B3 (by omega) (by omega) fun b M4 c0 c1 B4 k4 => ?_
  walk_at "al"
  refine r_draw B4 (by omega) (by omega) fun v M5 e0 e1 B5 k5 => ?_
  walk_at "al"
  refine r_pickI (xs := [0, v]) B5 (by simp) (by simp) fun w M6 hw B6 k6 => ?_
  have w2 : 0 ≤ w ∧ b + 1 + w ≤ wide := by simp only [List.mem_cons, List.not_mem_nil, or_false] at hw; omega
  clear hw
  walk_at "al"
  refine r_draw B6 (by omega) (by omega) fun v M7 f0 f1 B7 k7 => ?_
  walk_at "al"
  refine r_pickI (xs := [b, 0, 0, v]) B7 (by simp) (by simp) fun a M8 hw B8 k8 => ?_
  have w3 : 0 ≤ a ∧ a ≤ b := by simp only [List.mem_cons, List.not_mem_nil, or_false] at hw; omega
  clear hw
  walk_at "al"
  refine r_draw B8 (by omega) (by omega) fun v M9 g0 g1 B9 k9 => ?_
  walk_at "al"
  refine r_pickI (xs := [b + 1 + w, wide, wide, b + 1 + w + v]) B9 (by simp) (by simp) fun d M10 hw B10 k10 => ?_
  have w4 : b + 1 + w ≤ d ∧ d ≤ wide := by simp only [List.mem_cons, List.not_mem_nil, or_false] at hw; omega
  clear hw
  walk_at "al"
  refine h _ _ _ _ _ ⟨by omega, by omega, by omega, by omega, by omega⟩ B10 ?_
  exact (((Kp.app.trans k1).trans k2).trans (Kp.app.trans k3)).trans (((k4.trans k5).trans (Kp.app.trans k6)).trans ((k7.trans (Kp.app.trans k8)).trans (k9.trans (Kp.app.trans k10))))
theorem r_reading {a b c d : Int} (B : Bag M) (r : OkR a b c d) (h : ∀ v M', 0 ≤ v → v ≤ 1000000 → Bag M' → Kp M M' → P (.int v) M') : wp__law_own_reading K [.ref 5, .tup [.int a, .int b, .int c, .int d]] M P E := by
  obtain ⟨h0, h1, h2, h3, h4⟩ := r
  refine ⟨rfl, ?_⟩
  unfold n__law_own_reading
  walk_at "al"
  refine r_draw B (by omega) (by omega) fun way M1 v0 v1 B1 k1 => ?_
  walk_at "al"
  refine r_pickI (xs := [0, 0, 1, 2, 2]) B1 (by simp) (by simp) fun at_ M2 hw B2 k2 => ?_
  have k02 := k1.trans (Kp.app.trans k2)
  walk_at "al"
  refine r_iteD (fun hg => ?_) (fun hg => ?_)
  · walk_at "al"
    refine r_draw B2 (by omega) (by omega) fun v M3 e0 e1 B3 k3 => ?_
    walk_at "al"
    refine r_pickI (xs := [0, 1000000, v]) B3 (by simp) (by simp) fun w M4 hw B4 k4 => ?_
    have w2 : 0 ≤ w ∧ w ≤ 1000000 := by simp only [List.mem_cons, List.not_mem_nil, or_false] at hw; omega
    exact h _ _ w2.1 w2.2 B4 (k02.trans (k3.trans (Kp.app.trans k4)))
  · walk_at "al"
    refine r_iteD (fun hg => ?_) (fun hg => ?_)
    · walk_at "al"
      refine r_pickI (xs := [a, b, c, d]) B2 (by simp) (by simp) fun w M4 hw2 B4 k4 => ?_
      walk_at "al"
      refine h _ _ ?_ ?_ B4 (k02.trans (Kp.app.trans k4)) <;> (repeat' split) <;> omega
    · walk_at "al"
      simp only [List.mem_cons, List.not_mem_nil, or_false] at hw
      have fin : ∀ (i j : Int), at_ = 0 ∨ at_ = 1 ∨ at_ = 2 → True := fun _ _ _ => trivial
      rcases hw with rfl | rfl | rfl | rfl | rfl
      all_goals (refine r_ixT rfl ?_; walk_at "al"; refine r_ixT rfl ?_; walk_at "al"; refine r_ixT rfl ?_; walk_at "al"; refine r_draw B2 (by omega) (by omega) fun v M3 e0 e1 B3 k3 => ?_; walk_at "al"; exact h _ _ (by omega) (by omega) B3 (k02.trans k3))
end
section
variable {K : PySem.W.Frag} {M : Mem} {P : PD} {E : XP}
abbrev on_ : Str := "on"
abbrev off_ : Str := "off"
abbrev Row : Type := Int × Option Str
def seenD : Option Str → D
  | none => .non
  | some s => .str s
def rowD (r : Row) : D := .tup [.int r.1, seenD r.2]
def OkSt (s : Str) : Prop := s = on_ ∨ s = off_
def OkRow (r : Row) : Prop := (0 ≤ r.1 ∧ r.1 ≤ 1000000) ∧ (∀ s, r.2 = some s → OkSt s)
theorem r_log {a b c d : Int} {many : Int} (B : Bag M) (r : OkR a b c d) (hm0 : 0 ≤ many) (hm : many ≤ 40) (h : ∀ (st : Str) (rows : List Row) (M' : Mem), OkSt st → (∀ x ∈ rows, OkRow x) → rows.length ≤ 40 → Bag M' → Kp M M' → P (.tup [.str st, .tup (rows.map rowD)]) M') :
    wp__law_own_log K [.ref 5, .tup [.int a, .int b, .int c, .int d], .int many] M P E := by
  have r0 := r
  obtain ⟨h0, h1, h2, h3, h4⟩ := r
  refine ⟨rfl, ?_⟩
  unfold n__law_own_log
  walk_at "al"
  refine r_ixT rfl ?_
  walk_at "al"
  refine r_ixT rfl ?_
  walk_at "al"
  refine r_ixT rfl ?_
  walk_at "al"
  refine r_draw B (by omega) (by omega) fun v M1 v0 v1 B1 k1 => ?_
  walk_at "al"
  refine r_ixT rfl ?_
  walk_at "al"
  refine r_ixT rfl ?_
  walk_at "al"
  refine r_ixT rfl ?_
  walk_at "al"
  refine r_draw B1 (by omega) (by omega) fun w M2 w0 w1 B2 k2 => ?_
  walk_at "al"
  refine r_pickS (xs := [on_, off_]) B2 (by simp) (by decide) fun st M3 hst B3 k3 => ?_
  have hst : OkSt st := by simpa [OkSt] using hst
  walk_at "al"
  refine r_pickI (xs := [0, 0, 0, 0, 1, 9]) B3 (by simp) (by decide) fun odd M4 _ B4 k4 => ?_
  walk_at "al"
  refine r_draw B4 (by omega) (by omega) fun few M5 f0 f1 B5 k5 => ?_
  have k05 : Kp M M5 := (((k1.trans k2).trans (Kp.app.trans k3)).trans (Kp.app.trans k4)).trans k5
  have B6 := B5.len
  walk_at "al"
  refine ⟨⟨by omega, by omega⟩, ?_⟩
  walk_at "al"
  refine forA_inv (fun i ρ M' => ∃ (state : Str) (s10 s11 s12 : Option D) (rows : List Row), ρ = [some (.ref 5), some (.tup [.int a, .int b, .int c, .int d]), some (.int many), some (.int (a + v)), some (.int (c + w)), some (.str st), some (.int odd), some (.int (1 + few)), some (.ref M5.length), some (.str state), s10, s11, s12] ∧
      OkSt state ∧ M'[M5.length]? = some (.lst (rows.map rowD)) ∧ rows.length = i ∧ (∀ x ∈ rows, OkRow x) ∧ Bag M' ∧ Kp M M')
    ⟨st, none, none, none, [], rfl, hst, at_end, rfl, (by intro x h; cases h), B5.app, k05.trans .app⟩ (fun i x ρ M' K' hx ⟨state, s10, s11, s12, rows, e1, hs, hr, hl, hok, B', kp⟩ q => ?_) (fun ρ M' ⟨state, s10, s11, s12, rows, e1, hs, hr, hl, hok, B', kp⟩ => ?_)
  · subst e1
    have hi : i < many.toNat := by
      have := (List.getElem?_eq_some_iff.mp hx).1
      simpa using this
    refine ⟨trivial, _, rfl, ?_⟩
    walk_at "al"
    refine r_reading B' r0 fun rd M6 d0 d1 B6' k6 => ?_
    have hr6 := k6.2 _ _ B6 hr
    walk_at "ae"
    with_reducible refine r_seqJ (fun ρ' M' => M6 = M' ∧ ∃ state', OkSt state' ∧ ρ' = [some (.ref 5), some (.tup [.int a, .int b, .int c, .int d]), some (.int many), some (.int (a + v)), some (.int (c + w)), some (.str st), some (.int odd), some (.int (1 + few)), some (.ref M5.length), some (.str state'), some x, some (.int rd), s12]) (fun NX hx => ?_) ?_
    · walk_at "al"
      refine r_iteD (fun hg => ?_) (fun hg => ?_)
      · walk_at "al"
        refine r_iteD (fun hg => ?_) (fun hg => ?_)
        · walk_at "al"
          exact hx _ _ ⟨rfl, on_, .inl rfl, rfl⟩
        · walk_at "al"
          exact hx _ _ ⟨rfl, off_, .inr rfl, rfl⟩
      · walk_at "al"
        refine r_iteD (fun hg => ?_) (fun hg => ?_)
        · walk_at "al"
          refine r_iteD (fun hg => ?_) (fun hg => ?_)
          · walk_at "al"
            exact hx _ _ ⟨rfl, on_, .inl rfl, rfl⟩
          · walk_at "al"
            exact hx _ _ ⟨rfl, off_, .inr rfl, rfl⟩
        · walk_at "al"
          exact hx _ _ ⟨rfl, state, hs, rfl⟩
    · rintro _ _ ⟨rfl, state', hs', rfl⟩
      with_reducible refine r_seqJ (fun ρ' M' => Bag M' ∧ Kp M6 M' ∧ ∃ seen : Option Str, (∀ s, seen = some s → OkSt s) ∧ ρ' = [some (.ref 5), some (.tup [.int a, .int b, .int c, .int d]), some (.int many), some (.int (a + v)), some (.int (c + w)), some (.str st), some (.int odd), some (.int (1 + few)), some (.ref M5.length), some (.str state'), some x, some (.int rd), some (seenD seen)]) (fun NX hx => ?_) ?_
      · walk_at "al"
        refine r_draw B6' (by omega) (by omega) fun z M7 z0 z1 B7 k7 => ?_
        walk_at "al"
        refine r_iteD (fun hg => ?_) (fun hg => ?_)
        · walk_at "al"
          exact hx _ _ ⟨B7, k7, some state', (by intro s e; cases e; exact hs'), rfl⟩
        · walk_at "al"
          exact hx _ _ ⟨B7, k7, none, (by intro s e; cases e), rfl⟩
      · rintro ρ' M7 ⟨B7, k7, seen, hseen, rfl⟩
        have hr7 := k7.2 _ _ B6 hr6
        with_reducible refine r_seqJ (fun ρ' M' => Bag M' ∧ Kp M7 M' ∧ ∃ seen : Option Str, (∀ s, seen = some s → OkSt s) ∧ ρ' = [some (.ref 5), some (.tup [.int a, .int b, .int c, .int d]), some (.int many), some (.int (a + v)), some (.int (c + w)), some (.str st), some (.int odd), some (.int (1 + few)), some (.ref M5.length), some (.str state'), some x, some (.int rd), some (seenD seen)]) (fun NX hx => ?_) ?_
        · walk_at "al"
          cases seen with
          | none =>
            show iteP false _ _
            walk_at "al"
            exact hx _ _ ⟨B7, .refl, none, hseen, rfl⟩
          | some s =>
            show iteP true _ _
            walk_at "al"
            refine r_draw B7 (by omega) (by omega) fun z M8 z0 z1 B8 k8 => ?_
            walk_at "al"
            refine r_iteD (fun hg => ?_) (fun hg => ?_)
            · walk_at "al"
              refine r_iteD (fun hg => ?_) (fun hg => ?_)
              · walk_at "al"
                exact hx _ _ ⟨B8, k8, some off_, (by intro s e; cases e; exact .inr rfl), rfl⟩
              · walk_at "al"
                exact hx _ _ ⟨B8, k8, some on_, (by intro s e; cases e; exact .inl rfl), rfl⟩
            · walk_at "al"
              exact hx _ _ ⟨B8, k8, some s, hseen, rfl⟩
        · rintro ρ' M8 ⟨B8, k8, seen, hseen, rfl⟩
          have hr8 := k8.2 _ _ B6 hr7
          walk_at "al"
          refine r_meth ?_
          walk_at "al"
          refine ⟨r_tyL hr8, ?_⟩
          walk_at "al"
          refine r_append hr8 (by rw [List.length_map, sizeLine_eq]; omega) ?_
          refine q _ _ ⟨state', _, _, _, rows ++ [(rd, seen)], rfl, hs', by rw [at_set hr8, List.map_append]; rfl, by simp [hl], fun y hy => ?_, B8.set B6, (((kp.trans k6).trans k7).trans k8).new (Nat.le_trans k05.1 (Nat.le_refl _))⟩
          rcases List.mem_append.mp hy with hy | hy
          · exact hok y hy
          · obtain rfl : y = (rd, seen) := by simpa using hy
            exact ⟨⟨d0, d1⟩, hseen⟩
  · subst e1
    refine ⟨trivial, ?_⟩
    walk_at "al"
    refine r_tupL hr ?_
    walk_at "al"
    have hl' : rows.length ≤ 40 := by
      rw [hl]
      show ((List.range many.toNat).map fun i => D.int (i : Nat)).length ≤ 40
      rw [List.length_map, List.length_range]
      omega
    exact h st rows _ hst hok hl' B' kp
end
section
variable {K : PySem.W.Frag} {M : Mem} {P : PD} {E : XP}
def num (i : Int) : Str := Str.ofString (toString i)
def wordOf (r : Row) : Str := match r.2 with
  | none => num r.1
  | some s => num r.1 ++ ":" ++ s
def wordsOf (a b c d : Int) (st : Str) (rows : List Row) : List Str := [num a, num b, num c, num d, st] ++ rows.map wordOf
def textOf (a b c d : Int) (st : Str) (rows : List Row) : Str := Txt.join " " (wordsOf a b c d st rows)
theorem tl_numI {i : Int} (h : 0 ≤ i) : TL.tl (num i) = TL.numL i.toNat := by
  have := TL.tl_num i.toNat
  rw [Int.toNat_of_nonneg h] at this
  exact this
theorem num_len {i : Int} (h : 0 ≤ i) (h2 : i ≤ 1000000) : (num i).length ≤ 7 := by
  rw [TL.len_tl, tl_numI h]
  exact TL.numL_len (by decide) (by omega)
theorem log_num {i : Int} (h : 0 ≤ i) (h2 : i ≤ 1000000) : i.natAbs.log2 < 1920 := Nat.lt_trans (log_lt (k := 20) (by omega) (by decide)) (by decide)
theorem len_app (s t : Str) : (s ++ t).length = s.length + t.length := by
  rw [TL.len_tl, TL.tl_append, List.length_append, ← TL.len_tl, ← TL.len_tl]
theorem st_len {s : Str} (h : OkSt s) : s.length ≤ 3 := by
  rcases h with rfl | rfl <;> decide
theorem word_len {r : Row} (h : OkRow r) : (wordOf r).length ≤ 11 := by
  obtain ⟨⟨h1, h2⟩, h3⟩ := h
  have h4 := num_len h1 h2
  unfold wordOf
  split
  · omega
  · rename_i s e
    have := st_len (h3 s e)
    have c1 : (":" : Str).length = 1 := by decide
    rw [len_app, len_app, c1]
    omega
theorem words_len {a b c d : Int} {st : Str} {rows : List Row} (r : OkR a b c d) (hs : OkSt st) (hr : ∀ x ∈ rows, OkRow x) : ∀ w ∈ wordsOf a b c d st rows, w.length ≤ 11 := by
  obtain ⟨h0, h1, h2, h3, h4⟩ := r
  intro w hw
  unfold wordsOf at hw
  rcases List.mem_append.mp hw with hw | hw
  · simp only [List.mem_cons, List.not_mem_nil, or_false] at hw
    rcases hw with rfl | rfl | rfl | rfl | rfl
    · have := num_len (i := a) (by omega) (by omega); omega
    · have := num_len (i := b) (by omega) (by omega); omega
    · have := num_len (i := c) (by omega) (by omega); omega
    · have := num_len (i := d) (by omega) (by omega); omega
    · have := st_len hs; omega
  · obtain ⟨x, hx, rfl⟩ := List.mem_map.mp hw
    exact word_len (hr x hx)
theorem sum_le {k : Nat} : ∀ {xs : List Str}, (∀ w ∈ xs, w.length ≤ k) → (xs.map (·.length)).sum ≤ xs.length * k
  | [], _ => by simp
  | x :: xs, h => by
    rw [List.map_cons, List.sum_cons, List.length_cons, Nat.succ_mul]
    have h1 := h x (by simp)
    have h2 := sum_le (xs := xs) fun w hw => h w (by simp [hw])
    omega
theorem r_text {a b c d : Int} {st : Str} {rows : List Row} (B : Bag M) (r : OkR a b c d) (hs : OkSt st) (hr : ∀ x ∈ rows, OkRow x) (hl : rows.length ≤ 40) (h : ∀ M' : Mem, Bag M' → Kp M M' → P (.str (textOf a b c d st rows)) M') :
    wp__law_own_text K [.tup [.int a, .int b, .int c, .int d], .tup [.str st, .tup (rows.map rowD)]] M P E := by
  have wl := words_len r hs hr
  obtain ⟨h0, h1, h2, h3, h4⟩ := r
  have B6 := B.len
  refine ⟨rfl, ?_⟩
  unfold n__law_own_text
  walk_at "al"
  refine lc_map (fun x => match x with
    | .int i => .str (num i)
    | y => y) ([num a, num b, num c, num d].map D.str) rfl (Nat.le_of_ble_eq_true rfl) (fun _ => trivial) (fun x hx => ?_) ?_
  · obtain ⟨i, rfl, hi⟩ : ∃ i : Int, x = D.int i ∧ (0 ≤ i ∧ i ≤ 1000000) := by
      simp only [List.mem_cons, List.not_mem_nil, or_false] at hx
      rcases hx with rfl | rfl | rfl | rfl <;> exact ⟨_, rfl, by omega⟩
    refine ⟨_, rfl, fun acc Q q => ?_⟩
    walk_at "al"
    exact r_strI ⟨log_num hi.1 hi.2, q⟩
  · walk_at "al"
    refine r_ixT rfl ?_
    walk_at "al"
    refine r_addL (at_l at_end) (by first | exact at_end | (simp; rfl)) (Nat.le_of_ble_eq_true rfl) ?_
    walk_at "al"
    refine r_ixT rfl ?_
    walk_at "al"
    generalize hM : M ++ [MO.lst ([num a, num b, num c, num d].map D.str)] ++ [MO.lst [D.str st]] = M1
    have kM : Kp M M1 := by rw [← hM]; exact Kp.app.trans .app
    have bM : Bag M1 := by rw [← hM]; exact B.app.app
    have B7 := bM.len
    refine forA_inv (fun i ρ M' => ∃ (s3 s4 s5 : Option D), ρ = [some (.tup [.int a, .int b, .int c, .int d]), some (.tup [.str st, .tup (rows.map rowD)]), some (.ref M1.length), s3, s4, s5] ∧ Bag M' ∧ Kp M M' ∧ M'[M1.length]? = some (.lst (([num a, num b, num c, num d, st] ++ (rows.take i).map wordOf).map D.str)))
      ⟨none, none, none, rfl, bM.app, kM.trans .app, at_end⟩ (fun i x ρ M' K' hx ⟨s3, s4, s5, e1, B', kp, hw⟩ q => ?_) (fun ρ M' ⟨s3, s4, s5, e1, B', kp, hw⟩ => ?_)
    · subst e1
      obtain ⟨y, hy, rfl⟩ : ∃ y, rows[i]? = some y ∧ x = rowD y := by
        have hx' : (rows.map rowD)[i]? = some x := hx
        rw [List.getElem?_map] at hx'
        cases e : rows[i]? with
        | none => rw [e] at hx'; cases hx'
        | some y => rw [e] at hx'; cases hx'; exact ⟨y, rfl, rfl⟩
      have hok := hr y (List.mem_of_getElem? hy)
      have hi : i < rows.length := (List.getElem?_eq_some_iff.mp hy).1
      have etake : rows.take (i + 1) = rows.take i ++ [y] := by
        rw [List.take_add_one, hy]; rfl
      obtain ⟨rd, seen⟩ := y
      refine ⟨trivial, _, rfl, ?_⟩
      have fin : ∀ w : Str, w = wordOf (rd, seen) → K' [some (.tup [.int a, .int b, .int c, .int d]), some (.tup [.str st, .tup (rows.map rowD)]), some (.ref M1.length), some (.int rd), some (seenD seen), s5] (M'.set M1.length (.lst (([num a, num b, num c, num d, st] ++ (rows.take i).map wordOf).map D.str ++ [D.str w]))) := fun w hw' => by
        refine q _ _ ⟨_, _, _, rfl, B'.set B7, kp.new kM.1, ?_⟩
        rw [at_set hw, etake, hw']
        simp
      have few : (([num a, num b, num c, num d, st] ++ (rows.take i).map wordOf).map D.str).length < sizeLine := by
        rw [sizeLine_eq]
        simp
        omega
      walk_at "al"
      refine r_meth ?_
      walk_at "al"
      refine ⟨r_tyL hw, ?_⟩
      cases seen with
      | none =>
        walk_at "al"
        show iteP true _ _
        walk_at "al"
        refine r_strI ⟨log_num hok.1.1 hok.1.2, ?_⟩
        walk_at "al"
        exact r_append hw few (fin _ rfl)
      | some s =>
        walk_at "al"
        show iteP false _ _
        have l1 := num_len hok.1.1 hok.1.2
        have l2 := st_len (hok.2 s rfl)
        have c1 : (":" : Str).length = 1 := by decide
        simp only at l1
        walk_at "al"
        refine r_strI ⟨log_num hok.1.1 hok.1.2, ?_⟩
        walk_at "al"
        refine r_addS ⟨by show (num rd).length + _ ≤ _; rw [c1, sizeLine_eq]; omega, ?_⟩
        walk_at "al"
        refine r_addS ⟨by show (num rd ++ ":").length + _ ≤ _; rw [len_app, c1, sizeLine_eq]; omega, ?_⟩
        walk_at "al"
        exact r_append hw few (fin _ rfl)
    · subst e1
      refine ⟨trivial, ?_⟩
      have hw' : M'[M1.length]? = some (.lst ((wordsOf a b c d st rows).map D.str)) := by
        rw [hw]
        unfold wordsOf
        rw [List.take_of_length_le (by show rows.length ≤ (rows.map rowD).length; simp)]
      walk_at "al"
      refine r_meth ?_
      walk_at "al"
      refine ⟨rfl, ?_⟩
      walk_at "al"
      refine r_join hw' ?_ (h _ B' kp)
      have h5 := sum_le wl
      have h6 : (wordsOf a b c d st rows).length ≤ 45 := by
        unfold wordsOf
        simp
        omega
      have c1 : (" " : Str).length = 1 := by decide
      rw [c1]
      omega
end
section
variable {K : PySem.W.Frag} {M : Mem} {P : PD} {E : XP}
/-- the store with new objects behind -/
def Ext (M M' : Mem) : Prop := ∃ L, M' = M ++ L
theorem Ext.refl {M : Mem} : Ext M M := ⟨[], by simp⟩
theorem Ext.app {M L : Mem} : Ext M (M ++ L) := ⟨L, rfl⟩
theorem Ext.trans {M M1 M2 : Mem} (a : Ext M M1) (b : Ext M1 M2) : Ext M M2 := by
  obtain ⟨s, rfl⟩ := a
  obtain ⟨t, rfl⟩ := b
  exact ⟨s ++ t, by simp⟩
theorem Ext.at {M M' : Mem} (e : Ext M M') {n : Nat} {o : MO} (h : M[n]? = some o) : M'[n]? = some o := by
  obtain ⟨s, rfl⟩ := e
  exact at_l h
theorem Ext.bag {M M' : Mem} (e : Ext M M') (h : Bag M) : Bag M' := by
  obtain ⟨s, rfl⟩ := e
  exact h.app
theorem Ext.kp {M M' : Mem} (e : Ext M M') : Kp M M' := by
  obtain ⟨s, rfl⟩ := e
  exact .app
theorem Ext.len {M M' : Mem} (e : Ext M M') : M.length ≤ M'.length := e.kp.1
/-! ## splitting -/
theorem spl_ne (S : List Nat) : ∀ (l : List Nat) (k : Nat) (acc : List Nat), TL.spl S k acc l ≠ []
  | [], k, acc => by rw [TL.spl_nil]; simp
  | c :: r, 0, acc => by
    unfold TL.spl
    split
    · simp
    · exact spl_ne S r 0 _
  | c :: r, k + 1, acc => spl_ne S r k acc
theorem spl_len (S : List Nat) : ∀ (l : List Nat) (k : Nat) (acc : List Nat), ∀ p ∈ TL.spl S k acc l, p.length ≤ acc.length + l.length
  | [], k, acc, p, hp => by
    rw [TL.spl_nil] at hp
    rw [List.mem_singleton.mp hp]
    simp
  | c :: r, 0, acc, p, hp => by
    unfold TL.spl at hp
    split at hp
    · rcases List.mem_cons.mp hp with rfl | hp
      · omega
      · have := spl_len S r _ _ p hp
        rw [List.length_nil] at this
        rw [List.length_cons]
        omega
    · have := spl_len S r 0 _ p hp
      rw [List.length_append, List.length_singleton] at this
      rw [List.length_cons]
      omega
  | c :: r, k + 1, acc, p, hp => by
    have := spl_len S r k acc p hp
    rw [List.length_cons]
    omega
theorem split_ne (x y : Str) (hy : TL.tl y ≠ []) (hk : y.cps.all (· < 256) = true) : Txt.split x y ≠ [] := fun e => by
  have := TL.split_spl x y hy (TL.kind_ok hk)
  rw [e] at this
  exact spl_ne _ _ _ _ this.symm
theorem split_len (x y : Str) (hy : TL.tl y ≠ []) (hk : y.cps.all (· < 256) = true) : ∀ w ∈ Txt.split x y, w.length ≤ x.length := fun w hw => by
  have := spl_len (TL.tl y) (TL.tl x) 0 [] (TL.tl w) (by
    rw [← TL.split_spl x y hy (TL.kind_ok hk)]
    exact List.mem_map.mpr ⟨w, hw, rfl⟩)
  rw [TL.len_tl, TL.len_tl]
  simpa using this
abbrev colon : Str := ":"
abbrev space : Str := " "
theorem colon_ne : TL.tl colon ≠ [] := by decide
theorem colon_k : colon.cps.all (· < 256) = true := by decide +kernel
theorem space_ne : TL.tl space ≠ [] := by decide
theorem space_k : space.cps.all (· < 256) = true := by decide +kernel
/-! ## signs, states -/
def isDg (c : Nat) : Bool := decide (c ∈ ("0123456789" : Str).cps.toList)
def dgAll (w : Str) : Bool := w.cps.toList.all isDg
theorem isDg_rng {c : Nat} (h : isDg c = true) : 48 ≤ c ∧ c ≤ 57 := by
  have h1 : c ∈ ("0123456789" : Str).cps.toList := of_decide_eq_true h
  have e : ("0123456789" : Str).cps.toList = [48, 49, 50, 51, 52, 53, 54, 55, 56, 57] := by decide
  rw [e] at h1
  simp only [List.mem_cons, List.not_mem_nil, or_false] at h1
  omega
theorem isDg_of {c : Nat} (h : 48 ≤ c ∧ c ≤ 57) : isDg c = true := by
  have e : ("0123456789" : Str).cps.toList = [48, 49, 50, 51, 52, 53, 54, 55, 56, 57] := by decide
  unfold isDg
  rw [e, decide_eq_true_eq]
  simp only [List.mem_cons, List.not_mem_nil, or_false]
  omega
theorem dgAll_all {w : Str} (h : dgAll w = true) : NumText.AllDigits w.cps.toList := fun c hc => isDg_rng (List.all_eq_true.mp h c hc)
theorem r_inC {c : Nat} {t : Str} (h : P (.bl (decide (c ∈ t.cps.toList))) M) : aIn (.str ⟨#[c]⟩) (.str t) M P := by
  show P (.bl (id (!(Builtin.Str.occurrences t ⟨#[c]⟩ 0 t.length 1).isEmpty))) M
  rw [PySem.StrLaws.found_one]
  exact h
theorem r_notInC {c : Nat} {t : Str} (h : P (.bl (!decide (c ∈ t.cps.toList))) M) : aNotIn (.str ⟨#[c]⟩) (.str t) M P := by
  show P (.bl (!(!(Builtin.Str.occurrences t ⟨#[c]⟩ 0 t.length 1).isEmpty))) M
  rw [PySem.StrLaws.found_one]
  exact h
def okStB (s : Str) : Bool := decide (s = on_) || decide (s = off_)
theorem okStB_iff {s : Str} : okStB s = true ↔ OkSt s := by
  unfold okStB OkSt
  rw [Bool.or_eq_true, decide_eq_true_eq, decide_eq_true_eq]
theorem inV_st (s : Str) : inV (.str s) [.str on_, .str off_] = okStB s := by
  show ((on_ == s) || ((off_ == s) || false)) = (decide (s = on_) || decide (s = off_))
  have e (a : Str) : (a == s) = decide (s = a) := by
    rw [Bool.eq_iff_iff, beq_iff_eq, decide_eq_true_eq]
    exact eq_comm
  rw [e, e, Bool.or_false]
theorem r_inT {s : Str} (h : P (.bl (okStB s)) M) : aIn (.str s) (.tup [.str on_, .str off_]) M P := by
  show P (.bl (inV (.str s) [.str on_, .str off_])) M
  rw [inV_st]
  exact h
theorem r_inL {s : Str} {p : Nat} (h0 : M[p]? = some (.lst [.str on_, .str off_])) (h : P (.bl (okStB s)) M) : aIn (.str s) (.ref p) M P := by
  refine ⟨_, h0, ?_⟩
  show P (.bl (inV (.str s) [.str on_, .str off_])) M
  rw [inV_st]
  exact h
theorem r_notInL {s : Str} {p : Nat} (h0 : M[p]? = some (.lst [.str on_, .str off_])) (h : P (.bl (!okStB s)) M) : aNotIn (.str s) (.ref p) M P := by
  refine ⟨_, h0, ?_⟩
  show P (.bl (!inV (.str s) [.str on_, .str off_])) M
  rw [inV_st]
  exact h
theorem r_bls {p : Nat} {g : List Bool → Bool} {bs : List Bool} (h0 : M[p]? = some (.lst (bs.map .bl))) (h : P (.bl (g bs)) M) : fBls g (.ref p) M P := by
  simp only [fBls, h0, bls?_map]
  exact h
theorem r_isStr {w : Str} (h : P (.bl true) M) : fIsT (.str w) (.ty "str") M P := by
  have e : kitB "str" "str" = some true := by unfold kitB; rw [if_pos (by decide)]
  show (match kitB "str" "str" with
      | some b => P (.bl b) M
      | none => False)
  rw [e]
  exact h
theorem r_state {w : Str} (h : P (.bl (okStB w)) M) : wp_is_state K [.str w] M P E := by
  refine ⟨rfl, ?_⟩
  unfold n_is_state
  walk_at "al"
  refine r_isStr ?_
  walk_at "al"
  exact r_inT h
/-! ## numbers -/
def optD : Option Int → D
  | none => .non
  | some i => .int i
def hd0 (w : Str) : Prop := w.cps.toList.head? = some 48
instance (w : Str) : Decidable (hd0 w) := inferInstanceAs (Decidable (_ = _))
def nof (w : Str) : Option Int := if w = "" ∨ 7 < w.length ∨ dgAll w = false then none else if hd0 w ∧ w ≠ "0" then none else some ((NumText.digitsVal w.cps.toList : Nat) : Int)
def rd (w : Str) : Option Int := match nof w with
  | none => none
  | some i => if i ≤ 1000000 then some i else none
theorem str_nil {w : Str} : w = "" ↔ w.cps.toList = [] :=
  ⟨fun e => by rw [e]; decide, fun e => TL.ext_tl (by show w.cps.toList = _; rw [e]; decide)⟩
theorem str_cons {w : Str} (h : w ≠ "") : ∃ c r, w.cps.toList = c :: r := by
  cases e : w.cps.toList with
  | nil => exact absurd (str_nil.mpr e) h
  | cons c r => exact ⟨c, r, rfl⟩
theorem one_zero {c : Nat} : ((⟨#[c]⟩ : Str) = "0") ↔ c = 48 := by
  constructor
  · intro e
    have : TL.tl ⟨#[c]⟩ = TL.tl "0" := by rw [e]
    have e2 : TL.tl ("0" : Str) = [48] := by decide
    rw [e2] at this
    simpa [TL.tl] using this
  · intro e
    subst e
    exact TL.ext_tl (by decide)
theorem int_dg {w : Str} (h1 : w ≠ "") (h2 : w.length ≤ 7) (h3 : dgAll w = true) : intText? w = some ((NumText.digitsVal w.cps.toList : Nat) : Int) :=
  PySem.intText_digits (dgAll_all h3) (fun e => h1 (str_nil.mpr e)) (by omega)
theorem r_intS {w : Str} (h1 : w ≠ "") (h2 : w.length ≤ 7) (h3 : dgAll w = true) (h : P (.int ((NumText.digitsVal w.cps.toList : Nat) : Int)) M) : fInt (.str w) M P := ⟨_, int_dg h1 h2 h3, by omega, h⟩
theorem bl_list (w : Str) (f : Nat → Bool) (g : D → D) (hg : ∀ c, g (.str ⟨#[c]⟩) = .bl (f c)) : (w.cps.toList.map fun c => D.str ⟨#[c]⟩).map g = (w.cps.toList.map f).map D.bl := by
  rw [List.map_map, List.map_map]
  exact List.map_congr_left fun c _ => hg c
def gDg : D → D := fun x => match x with
  | .str s => .bl (match s.cps.toList with
    | [c] => isDg c
    | _ => false)
  | y => y
theorem r_nof {w : Str} (hw : w.length ≤ 100000) (h : ∀ M', Ext M M' → P (optD (nof w)) M') : wp_number_of K [.str w, .int 7] M P E := by
  refine ⟨rfl, ?_⟩
  unfold n_number_of
  walk_at "al"
  refine r_iteD (fun h1 => ?_) (fun h1 => ?_)
  · walk_at "al"
    have := h M .refl
    rwa [show nof w = none from if_pos (.inl h1)] at this
  · walk_at "al"
    refine r_lenS (by rw [sizeLine_eq]; omega) ?_
    walk_at "al"
    refine r_iteD (fun h2 => ?_) (fun h2 => ?_)
    · walk_at "al"
      have := h M .refl
      rwa [show nof w = none from if_pos (.inr (.inl (by omega)))] at this
    · walk_at "al"
      refine r_iS ?_
      refine lc_map gDg ((w.cps.toList.map isDg).map D.bl) (bl_list w isDg gDg fun c => rfl) (by show (w.cps.toList.map _).length ≤ _; rw [List.length_map, sizeLine_eq]; have : w.length = w.cps.toList.length := (by simp [Str.length]); omega) (fun _ => trivial) (fun x hx => ?_) ?_
      · obtain ⟨c, _, rfl⟩ := List.mem_map.mp hx
        refine ⟨_, rfl, fun acc Q q => ?_⟩
        walk_at "al"
        exact r_inC q
      walk_at "al"
      refine r_bls at_end ?_
      walk_at "al"
      have ed : (w.cps.toList.map isDg).all id = dgAll w := by
        unfold dgAll
        rw [List.all_map]
        rfl
      rw [ed]
      have h0 := h _ (Ext.app (L := [MO.lst ((w.cps.toList.map isDg).map D.bl)]))
      have hl7 : w.length ≤ 7 := by omega
      cases hd : dgAll w with
      | false =>
        walk_at "al"
        rwa [show nof w = none from if_pos (.inr (.inr hd))] at h0
      | true =>
        walk_at "al"
        obtain ⟨c, r, ec⟩ := str_cons h1
        refine r_ixS (s := w) (a := 0) (c := c) (by rw [sizeLine_eq]; omega) (by rw [ec]; rfl) ?_
        have no1 : ¬ (w = "" ∨ 7 < w.length ∨ dgAll w = false) := fun z => by
          rcases z with z | z | z
          · exact h1 z
          · omega
          · rw [hd] at z; cases z
        have hh : hd0 w ↔ c = 48 := by
          unfold hd0
          rw [ec]
          simp
        walk_at "al"
        refine r_iteD (fun h3 => ?_) (fun h3 => ?_)
        · walk_at "al"
          refine r_iteN (fun h4 => ?_) (fun h4 => ?_)
          · walk_at "al"
            rwa [show nof w = none from by unfold nof; rw [if_neg no1, if_pos ⟨hh.mpr (one_zero.mp h3), h4⟩]] at h0
          · walk_at "al"
            refine r_intS h1 hl7 hd ?_
            rwa [show nof w = some _ from by unfold nof; rw [if_neg no1, if_neg (fun z => z.2 h4)]] at h0
        · walk_at "al"
          refine r_intS h1 hl7 hd ?_
          rwa [show nof w = some _ from by unfold nof; rw [if_neg no1, if_neg (fun z => h3 (one_zero.mpr (hh.mp z.1)))]] at h0
theorem r_rd {w : Str} (hw : w.length ≤ 100000) (h : ∀ M', Ext M M' → P (optD (rd w)) M') : wp_reading_of K [.str w] M P E := by
  refine ⟨rfl, ?_⟩
  unfold n_reading_of
  walk_at "al"
  refine r_strI ⟨by decide, ?_⟩
  walk_at "al"
  refine r_lenS (Nat.le_of_ble_eq_true rfl) ?_
  walk_at "al"
  refine r_nof hw fun M' e => ?_
  have h0 := h M' e
  unfold rd at h0
  walk_at "al"
  cases hn : nof w with
  | none =>
    rw [hn] at h0
    show iteP false _ _
    walk_at "al"
    exact h0
  | some i =>
    rw [hn] at h0
    show iteP true _ _
    simp only [optD]
    walk_at "al"
    refine r_iteD (fun h1 => ?_) (fun h1 => ?_)
    · walk_at "al"
      simp only [h1, if_true] at h0
      exact h0
    · walk_at "al"
      simp only [h1, if_false] at h0
      exact h0
end
section
variable {K : PySem.W.Frag} {M : Mem} {P : PD} {E : XP}
def gNDg : D → D := fun x => match x with
  | .str s => .bl (match s.cps.toList with
    | [c] => !isDg c
    | _ => false)
  | y => y
theorem any_not (w : Str) : (w.cps.toList.map fun c => !isDg c).any id = !dgAll w := by
  unfold dgAll
  induction w.cps.toList with
  | nil => rfl
  | cons c r ih => rw [List.map_cons, List.any_cons, List.all_cons, ih, Bool.not_and]; rfl
theorem rd_none {w : Str} (h : nof w = none) : rd w = none := by unfold rd; rw [h]
theorem r_lnum {w : Str} (hw : w.length ≤ 100000) (h : ∀ M', Ext M M' → P (optD (rd w)) M') : wp__law_number K [.str w] M P E := by
  refine ⟨rfl, ?_⟩
  unfold n__law_number
  walk_at "al"
  refine r_iteD (fun h1 => ?_) (fun h1 => ?_)
  · walk_at "al"
    have := h M .refl
    rwa [rd_none (if_pos (.inl h1))] at this
  · walk_at "al"
    refine r_lenS (by rw [sizeLine_eq]; omega) ?_
    walk_at "al"
    refine r_iteD (fun h2 => ?_) (fun h2 => ?_)
    · walk_at "al"
      have := h M .refl
      rwa [rd_none (if_pos (.inr (.inl (by omega))))] at this
    · walk_at "al"
      obtain ⟨c, r, ec⟩ := str_cons h1
      have hl7 : w.length ≤ 7 := by omega
      have hh : hd0 w ↔ c = 48 := by
        unfold hd0
        rw [ec]
        simp
      refine r_ixS (s := w) (a := 0) (c := c) (by rw [sizeLine_eq]; omega) (by rw [ec]; rfl) ?_
      have go : ¬ (hd0 w ∧ w ≠ "0") → kSeq (kIf (mTru (mCall (a1 (fBls fun bs => bs.any id)) (mCons (mLc (iSeq (mV 0)) (gN 1) nYes (m2' aNotIn (mV 1) (mC (.str "0123456789"))) [1]) mNil))) (kRet (mC .non)) kNext)
          (kRet (mIf (mTest (m2' aLe (mCall (a1 fInt) (mCons (mV 0) mNil)) (m2' aPow (mC (.int 10)) (mC (.int 6))))) (mCall (a1 fInt) (mCons (mV 0) mNil)) (mC .non))) (startA 2 [.str w]) M (ends P E) := fun hz => by
        walk_at "al"
        refine r_iS ?_
        refine lc_map gNDg ((w.cps.toList.map fun c => !isDg c).map D.bl) (bl_list w (fun c => !isDg c) gNDg fun c => rfl) (by show (w.cps.toList.map _).length ≤ _; rw [List.length_map, sizeLine_eq]; have : w.length = w.cps.toList.length := (by simp [Str.length]); omega) (fun _ => trivial) (fun x hx => ?_) ?_
        · obtain ⟨c, _, rfl⟩ := List.mem_map.mp hx
          refine ⟨_, rfl, fun acc Q q => ?_⟩
          walk_at "al"
          exact r_notInC q
        walk_at "al"
        refine r_bls at_end ?_
        rw [any_not]
        have h0 := h _ (Ext.app (L := [MO.lst ((w.cps.toList.map fun c => !isDg c).map D.bl)]))
        walk_at "al"
        cases hd : dgAll w with
        | false =>
          walk_at "al"
          rwa [rd_none (if_pos (.inr (.inr hd)))] at h0
        | true =>
          have no1 : ¬ (w = "" ∨ 7 < w.length ∨ dgAll w = false) := fun z => by
            rcases z with z | z | z
            · exact h1 z
            · omega
            · rw [hd] at z; cases z
          have en : nof w = some ((NumText.digitsVal w.cps.toList : Nat) : Int) := by unfold nof; rw [if_neg no1, if_neg hz]
          unfold rd at h0
          rw [en] at h0
          walk_at "al"
          refine r_intS h1 hl7 hd ?_
          walk_at "al"
          refine r_iteD (fun h5 => ?_) (fun h5 => ?_)
          · walk_at "al"
            refine r_intS h1 hl7 hd ?_
            simp only [h5, if_true] at h0
            exact h0
          · walk_at "al"
            simp only [h5, if_false] at h0
            exact h0
      walk_at "al"
      refine r_iteD (fun h3 => ?_) (fun h3 => ?_)
      · walk_at "al"
        refine r_iteN (fun h4 => ?_) (fun h4 => ?_)
        · walk_at "al"
          have := h M .refl
          by_cases hd : dgAll w = false
          · rwa [rd_none (if_pos (.inr (.inr hd)))] at this
          · have no1 : ¬ (w = "" ∨ 7 < w.length ∨ dgAll w = false) := fun z => by
              rcases z with z | z | z
              · exact h1 z
              · omega
              · exact hd z
            rwa [rd_none (by unfold nof; rw [if_neg no1, if_pos ⟨hh.mpr (one_zero.mp h3), h4⟩])] at this
        · walk_at "al"
          exact go fun z => z.2 h4
      · walk_at "al"
        exact go fun z => h3 (one_zero.mpr (hh.mp z.1))
/-! ## rows -/
def rowOf (w : Str) : Option Row := match Txt.split w colon with
  | [p] => (match rd p with
    | some v => some (v, none)
    | none => none)
  | [p, s] => (match rd p with
    | some v => if okStB s = true then some (v, some s) else none
    | none => none)
  | _ => none
def optRow : Option Row → D
  | none => .non
  | some r => rowD r
theorem split_cases {x y : Str} (hy : TL.tl y ≠ []) (hk : y.cps.all (· < 256) = true) : (∃ p, Txt.split x y = [p]) ∨ (∃ p s, Txt.split x y = [p, s]) ∨ ∃ p s t r, Txt.split x y = p :: s :: t :: r := by
  cases e : Txt.split x y with
  | nil => exact absurd e (split_ne x y hy hk)
  | cons p r => cases r with
    | nil => exact .inl ⟨p, rfl⟩
    | cons s r => cases r with
      | nil => exact .inr (.inl ⟨p, s, rfl⟩)
      | cons t r => exact .inr (.inr ⟨p, s, t, r, rfl⟩)
theorem r_row {w : Str} (hw : w.length ≤ 100000) (h : ∀ M', Ext M M' → P (optRow (rowOf w)) M') : wp_row_of K [.str w] M P E := by
  refine ⟨rfl, ?_⟩
  unfold n_row_of
  have sl := split_len w colon colon_ne colon_k
  unfold rowOf at h
  walk_at "al"
  refine r_meth ?_
  walk_at "al"
  refine ⟨rfl, ?_⟩
  walk_at "al"
  refine r_split (t := colon) (by decide) (by rw [sizeLine_eq]; omega) ?_
  rcases split_cases (x := w) colon_ne colon_k with ⟨p, e⟩ | ⟨p, s, e⟩ | ⟨p, s, t, r, e⟩
  all_goals rw [e] at h sl ⊢
  all_goals have hp := sl p (by simp)
  · walk_at "al"
    refine r_ixL at_end rfl ?_
    walk_at "al"
    refine r_rd (by omega) fun M' x => ?_
    have h0 := h M' (Ext.app.trans x)
    have ha := x.at (at_end (M := M) (o := .lst [.str p]))
    walk_at "al"
    cases hr : rd p with
    | none =>
      simp only [hr, optRow, optD] at h0 ⊢
      show iteP true _ _
      walk_at "al"
      exact h0
    | some v =>
      simp only [hr, optRow, optD] at h0 ⊢
      show iteP false _ _
      walk_at "al"
      refine r_lenL ha ?_
      walk_at "al"
      refine r_iteD (fun z => absurd z (by simp)) (fun _ => ?_)
      walk_at "al"
      refine r_lenL ha ?_
      walk_at "al"
      refine r_iteD (fun _ => ?_) (fun z => absurd rfl z)
      walk_at "al"
      exact h0
  · have hs := sl s (by simp)
    walk_at "al"
    refine r_ixL at_end rfl ?_
    walk_at "al"
    refine r_rd (by omega) fun M' x => ?_
    have h0 := h M' (Ext.app.trans x)
    have ha := x.at (at_end (M := M) (o := .lst [.str p, .str s]))
    walk_at "al"
    cases hr : rd p with
    | none =>
      simp only [hr, optRow, optD] at h0 ⊢
      show iteP true _ _
      walk_at "al"
      exact h0
    | some v =>
      simp only [hr, optRow, optD] at h0 ⊢
      show iteP false _ _
      walk_at "al"
      refine r_lenL ha ?_
      walk_at "al"
      refine r_iteD (fun z => absurd z (by simp)) (fun _ => ?_)
      walk_at "al"
      refine r_lenL ha ?_
      walk_at "al"
      refine r_iteD (fun z => absurd z (by simp)) (fun _ => ?_)
      walk_at "al"
      refine r_ixL ha rfl ?_
      walk_at "al"
      refine r_state ?_
      walk_at "al"
      cases hb : okStB s with
      | true =>
        simp only [hb, if_true, rowD, seenD] at h0
        walk_at "al"
        refine r_ixL ha rfl ?_
        walk_at "al"
        exact h0
      | false =>
        simp only [hb, Bool.false_eq_true, if_false] at h0
        walk_at "al"
        exact h0
  · walk_at "al"
    refine r_ixL at_end rfl ?_
    walk_at "al"
    refine r_rd (by omega) fun M' x => ?_
    have h0 := h M' (Ext.app.trans x)
    have ha := x.at (at_end (M := M) (o := .lst ((p :: s :: t :: r).map .str)))
    walk_at "al"
    cases hr : rd p with
    | none =>
      simp only [hr, optRow, optD] at h0 ⊢
      show iteP true _ _
      walk_at "al"
      exact h0
    | some v =>
      simp only [hr, optRow, optD] at h0 ⊢
      show iteP false _ _
      walk_at "al"
      refine r_lenL ha ?_
      walk_at "al"
      refine r_iteD (fun _ => ?_) (fun z => absurd (by simp; omega) z)
      walk_at "al"
      exact h0
theorem r_lrow {w : Str} (hw : w.length ≤ 100000) (h : ∀ M', Ext M M' → P (optRow (rowOf w)) M') : wp__law_row K [.str w] M P E := by
  refine ⟨rfl, ?_⟩
  unfold n__law_row
  have sl := split_len w colon colon_ne colon_k
  unfold rowOf at h
  walk_at "al"
  refine r_meth ?_
  walk_at "al"
  refine ⟨rfl, ?_⟩
  walk_at "al"
  refine r_split (t := colon) (by decide) (by rw [sizeLine_eq]; omega) ?_
  rcases split_cases (x := w) colon_ne colon_k with ⟨p, e⟩ | ⟨p, s, e⟩ | ⟨p, s, t, r, e⟩
  all_goals rw [e] at h sl ⊢
  all_goals have hp := sl p (by simp)
  · walk_at "al"
    refine r_ixL at_end rfl ?_
    walk_at "al"
    refine r_lnum (by omega) fun M' x => ?_
    have h0 := h M' (Ext.app.trans x)
    have ha := x.at (at_end (M := M) (o := .lst [.str p]))
    walk_at "al"
    cases hr : rd p with
    | none =>
      simp only [hr, optRow, optD] at h0 ⊢
      show iteP true _ _
      walk_at "al"
      exact h0
    | some v =>
      simp only [hr, optRow, optD] at h0 ⊢
      show iteP false _ _
      walk_at "al"
      refine r_lenL ha ?_
      walk_at "al"
      refine r_iteD (fun z => absurd z (by simp)) (fun _ => ?_)
      walk_at "al"
      refine r_lenL ha ?_
      walk_at "al"
      refine r_iteD (fun z => absurd z (by simp)) (fun _ => ?_)
      walk_at "al"
      refine r_lenL ha ?_
      walk_at "al"
      refine r_iteD (fun z => absurd z (by simp)) (fun _ => ?_)
      walk_at "al"
      exact h0
  · have hs := sl s (by simp)
    walk_at "al"
    refine r_ixL at_end rfl ?_
    walk_at "al"
    refine r_lnum (by omega) fun M' x => ?_
    have ha := x.at (at_end (M := M) (o := .lst [.str p, .str s]))
    walk_at "al"
    cases hr : rd p with
    | none =>
      have h0 := h M' (Ext.app.trans x)
      simp only [hr, optRow, optD] at h0 ⊢
      show iteP true _ _
      walk_at "al"
      exact h0
    | some v =>
      have h0 := h (M' ++ [.lst [.str on_, .str off_]]) ((Ext.app.trans x).trans .app)
      simp only [hr, optRow, optD] at h0 ⊢
      show iteP false _ _
      walk_at "al"
      refine r_lenL ha ?_
      walk_at "al"
      refine r_iteD (fun z => absurd z (by simp)) (fun _ => ?_)
      walk_at "al"
      refine r_lenL ha ?_
      walk_at "al"
      refine r_iteD (fun _ => ?_) (fun z => absurd rfl z)
      walk_at "al"
      refine r_ixL ha rfl ?_
      walk_at "al"
      refine r_notInL at_end ?_
      cases hb : okStB s with
      | true =>
        simp only [hb, if_true, rowD, seenD] at h0
        walk_at "al"
        refine r_lenL (at_l ha) ?_
        walk_at "al"
        refine r_iteD (fun _ => ?_) (fun z => absurd rfl z)
        walk_at "al"
        refine r_ixL (at_l ha) rfl ?_
        walk_at "al"
        exact h0
      | false =>
        simp only [hb, Bool.false_eq_true, if_false] at h0
        walk_at "al"
        exact h0
  · walk_at "al"
    refine r_ixL at_end rfl ?_
    walk_at "al"
    refine r_lnum (by omega) fun M' x => ?_
    have h0 := h M' (Ext.app.trans x)
    have ha := x.at (at_end (M := M) (o := .lst ((p :: s :: t :: r).map .str)))
    walk_at "al"
    cases hr : rd p with
    | none =>
      simp only [hr, optRow, optD] at h0 ⊢
      show iteP true _ _
      walk_at "al"
      exact h0
    | some v =>
      simp only [hr, optRow, optD] at h0 ⊢
      show iteP false _ _
      walk_at "al"
      refine r_lenL ha ?_
      walk_at "al"
      refine r_iteD (fun _ => ?_) (fun z => absurd (by simp; omega) z)
      walk_at "al"
      exact h0
end
section
variable {K : PySem.W.Frag} {M : Mem} {P : PD} {E : XP}
def ok4 : List Int → Int → Bool
  | [], r => decide (r < 1000000)
  | [a], r => decide (a ≤ r) && decide (r < 1000000)
  | [_, b], r => decide (b < r)
  | [_, _, c], r => decide (c ≤ r)
  | _, _ => false
theorem r_goes {ns : List Int} {r : Int} {p : Nat} (h0 : M[p]? = some (.lst (ns.map .int))) (hn : ns.length < 4) (h : ∀ M', Ext M M' → P (.bl (ok4 ns r)) M') : wp_goes_on K [.ref p, .int r] M P E := by
  refine ⟨rfl, ?_⟩
  unfold n_goes_on
  match ns, hn with
  | [], _ =>
    have hx := h _ (Ext.app (L := [.lst []]))
    simp only [ok4] at hx
    walk_at "al"
    refine r_lenL h0 ?_
    walk_at "al"
    refine r_iteD (fun _ => ?_) (fun z => absurd (by simp) z)
    walk_at "al"
    refine ⟨_, _, .lst (at_l h0) (drs_ints _ []), .lst at_end .nil, shaped_ints [], by decide, ?_⟩
    rw [eqv_nil]
    show truK (.bl true) _ _
    walk_at "al"
    exact hx
  | [a], _ =>
    have hx := h _ (Ext.app (L := [.lst []]))
    simp only [ok4] at hx
    walk_at "al"
    refine r_lenL h0 ?_
    walk_at "al"
    refine r_iteD (fun _ => ?_) (fun z => absurd (by simp) z)
    walk_at "al"
    refine ⟨_, _, .lst (at_l h0) (drs_ints _ [a]), .lst at_end .nil, shaped_ints [a], by decide, ?_⟩
    rw [eqv_nil]
    show truK (.bl false) _ _
    walk_at "al"
    refine r_ixL (at_l h0) rfl ?_
    walk_at "al"
    by_cases hc : a ≤ r
    · rw [decide_eq_true hc, Bool.true_and] at hx
      rw [decide_eq_true hc]
      walk_at "al"
      exact hx
    · rw [decide_eq_false hc, Bool.false_and] at hx
      rw [decide_eq_false hc]
      walk_at "al"
      exact hx
  | [a, b], _ =>
    have hx := h _ .refl
    simp only [ok4] at hx
    walk_at "al"
    refine r_lenL h0 ?_
    walk_at "al"
    refine r_iteD (fun z => absurd z (by simp)) (fun _ => ?_)
    walk_at "al"
    refine r_lenL h0 ?_
    walk_at "al"
    refine r_iteD (fun _ => ?_) (fun z => absurd (by simp) z)
    walk_at "al"
    refine r_ixL h0 rfl ?_
    walk_at "al"
    exact hx
  | [a, b, c], _ =>
    have hx := h _ .refl
    simp only [ok4] at hx
    walk_at "al"
    refine r_lenL h0 ?_
    walk_at "al"
    refine r_iteD (fun z => absurd z (by simp)) (fun _ => ?_)
    walk_at "al"
    refine r_lenL h0 ?_
    walk_at "al"
    refine r_iteD (fun z => absurd z (by simp)) (fun _ => ?_)
    walk_at "al"
    refine r_ixL h0 rfl ?_
    walk_at "al"
    exact hx
/-- numbers that began right -/
def Pref : List Int → Prop
  | [] => True
  | [a] => 0 ≤ a ∧ a < 1000000
  | [a, b] => 0 ≤ a ∧ a ≤ b ∧ b < 1000000
  | [a, b, c] => 0 ≤ a ∧ a ≤ b ∧ b < c ∧ b < 1000000 ∧ c ≤ 1000000
  | [a, b, c, d] => OkR a b c d
  | _ => False
theorem pref_next {ns : List Int} {r : Int} (hp : Pref ns) (hn : ns.length < 4) (h0 : 0 ≤ r) (h1 : r ≤ 1000000) (h : ok4 ns r = true) : Pref (ns ++ [r]) := by
  match ns, hn, hp, h with
  | [], _, hp, h =>
    have := of_decide_eq_true h
    exact ⟨h0, this⟩
  | [a], _, hp, h =>
    obtain ⟨h2, h3⟩ := Bool.and_eq_true_iff.mp h
    have h2 := of_decide_eq_true h2
    have h3 := of_decide_eq_true h3
    exact ⟨hp.1, h2, h3⟩
  | [a, b], _, hp, h =>
    have h2 := of_decide_eq_true h
    exact ⟨hp.1, hp.2.1, h2, hp.2.2, h1⟩
  | [a, b, c], _, hp, h =>
    have h2 := of_decide_eq_true h
    exact ⟨hp.1, hp.2.1, hp.2.2.1, h2, h1⟩
theorem r_forC {live : Mem → Prop} {g : MG} {body : MS} {A : AEnds} {x : D} {xs : List D} {ρ ρ1 : Sl} (hl : live M) (hg : g x ρ = some ρ1) (h : body ρ1 M { A with nx := forA live g body A xs, ct := forA live g body A xs, bk := A.nx }) : forA live g body A (x :: xs) ρ M := by
  refine ⟨hl, ?_⟩
  rw [hg]
  exact h
theorem r_forN {live : Mem → Prop} {g : MG} {body : MS} {A : AEnds} {ρ : Sl} (hl : live M) (h : A.nx ρ M) : forA live g body A [] ρ M := ⟨hl, h⟩
def gNon : D → D := fun x => .bl (isNon x)
def judge1 (ns : List Int) : Option Int → Bool
  | none => false
  | some r => ok4 ns r
theorem isNon_ints : ∀ ns : List Int, (ns.map D.int).map gNon = (ns.map fun _ => false).map D.bl
  | [] => rfl
  | a :: r => by rw [List.map_cons, List.map_cons, isNon_ints r]; rfl
theorem any_false (ns : List Int) (b : Bool) : ((ns.map fun _ => false) ++ [b]).any id = b := by
  induction ns with
  | nil => cases b <;> rfl
  | cons a r ih => rw [List.map_cons, List.cons_append, List.any_cons, ih]; rfl
theorem r_lgoes {ns : List Int} {o : Option Int} {p : Nat} (h0 : M[p]? = some (.lst (ns.map .int ++ [optD o]))) (hn : ns.length < 4) (hp : Pref ns) (ho : ∀ r, o = some r → 0 ≤ r ∧ r ≤ 1000000) (h : ∀ M', Ext M M' → P (.bl (judge1 ns o)) M') : wp__law_goes_on K [.ref p] M P E := by
  refine ⟨rfl, ?_⟩
  unfold n__law_goes_on
  walk_at "al"
  refine r_iL h0 ?_
  refine lc_map gNon (((ns.map fun _ => false) ++ [isNon (optD o)]).map D.bl) (by rw [List.map_append, isNon_ints, List.map_append]; rfl) (by show (ns.map D.int ++ [optD o]).length ≤ _; rw [sizeLine_eq]; simp; omega) (fun acc => at_l h0) (fun x hx => ?_) ?_
  · refine ⟨_, rfl, fun acc Q q => ?_⟩
    walk_at "al"
    exact q
  walk_at "al"
  refine r_bls at_end ?_
  walk_at "al"
  rw [any_false]
  cases o with
  | none =>
    show iteP true _ _
    walk_at "al"
    exact h _ .app
  | some r =>
    obtain ⟨r0, r1⟩ := ho r rfl
    show iteP false _ _
    generalize hM1 : M ++ [MO.lst (((ns.map fun _ => false) ++ [isNon (optD (some r))]).map D.bl)] = M1
    have e1 : Ext M M1 := by rw [← hM1]; exact .app
    have a1 := e1.at h0
    have a2 : (M1 ++ [MO.lst [.int (1000000 - 1), .int (1000000 - 1), .int 1000000, .int 1000000]])[p]? = some (.lst (ns.map .int ++ [optD (some r)])) := at_l a1
    have ap : (M1 ++ [MO.lst [.int (1000000 - 1), .int (1000000 - 1), .int 1000000, .int 1000000]])[M1.length]? = some (.lst [.int (1000000 - 1), .int (1000000 - 1), .int 1000000, .int 1000000]) := at_end
    have hq := h _ (e1.trans (Ext.app (L := [MO.lst [.int (1000000 - 1), .int (1000000 - 1), .int 1000000, .int 1000000]])))
    simp only [judge1] at hq
    walk_at "al"
    refine r_enumK a2 ?_
    match ns, hn, hp, a2, hq with
    | [], _, hp, a2, hq =>
      simp only [ok4] at hq
      show forA _ _ _ _ [.tup [.int ((0 : Nat) : Int), .int r]] _ _
      with_reducible refine r_forC a2 (by with_unfolding_all rfl) ?_
      walk_at "al"
      refine r_iteD (fun z => absurd z (by omega)) (fun _ => ?_)
      walk_at "al"
      refine r_ixL ap rfl ?_
      walk_at "al"
      refine r_iteD (fun z => ?_) (fun z => ?_)
      · walk_at "al"
        rwa [decide_eq_false (by omega)] at hq
      · walk_at "al"
        refine r_iteD (fun z => absurd z (by simp)) (fun _ => ?_)
        walk_at "al"
        with_reducible refine r_forN a2 ?_
        walk_at "al"
        rwa [decide_eq_true (by omega)] at hq
    | [a], _, hp, a2, hq =>
      obtain ⟨p1, p2⟩ := hp
      simp only [ok4] at hq
      show forA _ _ _ _ [.tup [.int ((0 : Nat) : Int), .int a], .tup [.int ((1 : Nat) : Int), .int r]] _ _
      with_reducible refine r_forC a2 (by with_unfolding_all rfl) ?_
      walk_at "al"
      refine r_iteD (fun z => absurd z (by omega)) (fun _ => ?_)
      walk_at "al"
      refine r_ixL ap rfl ?_
      walk_at "al"
      refine r_iteD (fun z => absurd z (by omega)) (fun z => ?_)
      walk_at "al"
      refine r_iteD (fun z => absurd z (by simp)) (fun _ => ?_)
      walk_at "al"
      with_reducible refine r_forC a2 (by with_unfolding_all rfl) ?_
      walk_at "al"
      refine r_iteD (fun z => ?_) (fun z => ?_)
      · walk_at "al"
        rwa [decide_eq_false (by omega), Bool.false_and] at hq
      · rw [decide_eq_true (by omega), Bool.true_and] at hq
        walk_at "al"
        refine r_ixL ap rfl ?_
        walk_at "al"
        refine r_iteD (fun z => ?_) (fun z => ?_)
        · walk_at "al"
          rwa [decide_eq_false (by omega)] at hq
        · walk_at "al"
          refine r_iteD (fun _ => ?_) (fun z => absurd rfl z)
          walk_at "al"
          with_reducible refine r_forN a2 ?_
          walk_at "al"
          rwa [decide_eq_true (by omega)] at hq
    | [a, b], _, hp, a2, hq =>
      obtain ⟨p1, p2, p3⟩ := hp
      simp only [ok4] at hq
      show forA _ _ _ _ [.tup [.int ((0 : Nat) : Int), .int a], .tup [.int ((1 : Nat) : Int), .int b], .tup [.int ((2 : Nat) : Int), .int r]] _ _
      with_reducible refine r_forC a2 (by with_unfolding_all rfl) ?_
      walk_at "al"
      refine r_iteD (fun z => absurd z (by omega)) (fun _ => ?_)
      walk_at "al"
      refine r_ixL ap rfl ?_
      walk_at "al"
      refine r_iteD (fun z => absurd z (by omega)) (fun z => ?_)
      walk_at "al"
      refine r_iteD (fun z => absurd z (by simp)) (fun _ => ?_)
      walk_at "al"
      with_reducible refine r_forC a2 (by with_unfolding_all rfl) ?_
      walk_at "al"
      refine r_iteD (fun z => absurd z (by omega)) (fun _ => ?_)
      walk_at "al"
      refine r_ixL ap rfl ?_
      walk_at "al"
      refine r_iteD (fun z => absurd z (by omega)) (fun z => ?_)
      walk_at "al"
      refine r_iteD (fun _ => ?_) (fun z => absurd rfl z)
      walk_at "al"
      with_reducible refine r_forC a2 (by with_unfolding_all rfl) ?_
      walk_at "al"
      refine r_iteD (fun z => ?_) (fun z => ?_)
      · walk_at "al"
        rwa [decide_eq_false (by omega)] at hq
      · walk_at "al"
        refine r_ixL ap rfl ?_
        walk_at "al"
        refine r_iteD (fun z => absurd z (by omega)) (fun z => ?_)
        walk_at "al"
        refine r_iteD (fun z => absurd z (by simp)) (fun _ => ?_)
        walk_at "al"
        with_reducible refine r_forN a2 ?_
        walk_at "al"
        rwa [decide_eq_true (by omega)] at hq
    | [a, b, c], _, hp, a2, hq =>
      obtain ⟨p1, p2, p3, p4, p5⟩ := hp
      simp only [ok4] at hq
      show forA _ _ _ _ [.tup [.int ((0 : Nat) : Int), .int a], .tup [.int ((1 : Nat) : Int), .int b], .tup [.int ((2 : Nat) : Int), .int c], .tup [.int ((3 : Nat) : Int), .int r]] _ _
      with_reducible refine r_forC a2 (by with_unfolding_all rfl) ?_
      walk_at "al"
      refine r_iteD (fun z => absurd z (by omega)) (fun _ => ?_)
      walk_at "al"
      refine r_ixL ap rfl ?_
      walk_at "al"
      refine r_iteD (fun z => absurd z (by omega)) (fun z => ?_)
      walk_at "al"
      refine r_iteD (fun z => absurd z (by simp)) (fun _ => ?_)
      walk_at "al"
      with_reducible refine r_forC a2 (by with_unfolding_all rfl) ?_
      walk_at "al"
      refine r_iteD (fun z => absurd z (by omega)) (fun _ => ?_)
      walk_at "al"
      refine r_ixL ap rfl ?_
      walk_at "al"
      refine r_iteD (fun z => absurd z (by omega)) (fun z => ?_)
      walk_at "al"
      refine r_iteD (fun _ => ?_) (fun z => absurd rfl z)
      walk_at "al"
      with_reducible refine r_forC a2 (by with_unfolding_all rfl) ?_
      walk_at "al"
      refine r_iteD (fun z => absurd z (by omega)) (fun _ => ?_)
      walk_at "al"
      refine r_ixL ap rfl ?_
      walk_at "al"
      refine r_iteD (fun z => absurd z (by omega)) (fun z => ?_)
      walk_at "al"
      refine r_iteD (fun z => absurd z (by simp)) (fun _ => ?_)
      walk_at "al"
      with_reducible refine r_forC a2 (by with_unfolding_all rfl) ?_
      walk_at "al"
      refine r_iteD (fun z => ?_) (fun z => ?_)
      · walk_at "al"
        rwa [decide_eq_false (by omega)] at hq
      · walk_at "al"
        refine r_ixL ap rfl ?_
        walk_at "al"
        refine r_iteD (fun z => absurd z (by omega)) (fun z => ?_)
        walk_at "al"
        refine r_iteD (fun z => absurd z (by simp)) (fun _ => ?_)
        walk_at "al"
        with_reducible refine r_forN a2 ?_
        walk_at "al"
        rwa [decide_eq_true (by omega)] at hq
end
section
variable {K : PySem.W.Frag} {M : Mem} {P : PD} {E : XP}
def Old (M M' : Mem) : Prop := M.length ≤ M'.length ∧ ∀ (i : Nat) (o : MO), M[i]? = some o → M'[i]? = some o
theorem Old.refl {M : Mem} : Old M M := ⟨Nat.le_refl _, fun _ _ h => h⟩
theorem Old.trans {M M1 M2 : Mem} (a : Old M M1) (b : Old M1 M2) : Old M M2 := ⟨Nat.le_trans a.1 b.1, fun i o h => b.2 i o (a.2 i o h)⟩
theorem Old.app {M L : Mem} : Old M (M ++ L) := ⟨by simp, fun _ _ h => at_l h⟩
theorem Ext.old {M M' : Mem} (e : Ext M M') : Old M M' := by
  obtain ⟨L, rfl⟩ := e
  exact .app
theorem Old.new {M M1 : Mem} {p : Nat} {o : MO} (k : Old M M1) (h : M.length ≤ p) : Old M (M1.set p o) := ⟨by simpa using k.1, fun i o' hi => at_ne (by have := at_lt hi; omega) (k.2 i o' hi)⟩
theorem Old.kp {M M1 : Mem} (k : Old M M1) : Kp M M1 := ⟨k.1, fun i o _ h => k.2 i o h⟩
theorem Old.bag {M M1 : Mem} (k : Old M M1) (h : Bag M) : Bag M1 := by
  obtain ⟨c, g, x, h1, h2, h3⟩ := h
  exact ⟨c, g, x, k.2 _ _ h1, k.2 _ _ h2, h3⟩
/-! ## the judge of words -/
def due : Nat → List Int → List Row → List Str → Sum Nat (List Int × List Row)
  | _, ns, rows, [] => .inr (ns, rows)
  | i, ns, rows, w :: ws => if i < 4 then (match rd w with
      | none => .inl i
      | some r => if ok4 ns r = true then due (i + 1) (ns ++ [r]) rows ws else .inl i)
    else if i = 4 then (if okStB w = true then due (i + 1) ns rows ws else .inl i)
    else (match rowOf w with
      | none => .inl i
      | some row => if i < 45 then due (i + 1) ns (rows ++ [row]) ws else .inl i)
theorem due_cons {i : Nat} {ns : List Int} {rows : List Row} {w : Str} {ws : List Str} : due i ns rows (w :: ws) = if i < 4 then (match rd w with
      | none => .inl i
      | some r => if ok4 ns r = true then due (i + 1) (ns ++ [r]) rows ws else .inl i)
    else if i = 4 then (if okStB w = true then due (i + 1) ns rows ws else .inl i)
    else (match rowOf w with
      | none => .inl i
      | some row => if i < 45 then due (i + 1) ns (rows ++ [row]) ws else .inl i) := rfl
def judge (ws : List Str) : Sum Nat (List Int × Str × List Row) := match due 0 [] [] ws with
  | .inl i => .inl i
  | .inr (ns, rows) => (match ws[4]? with
    | none => .inl ws.length
    | some st => .inr (ns, st, rows))
theorem rd_rng {w : Str} {r : Int} (h : rd w = some r) : 0 ≤ r ∧ r ≤ 1000000 := by
  unfold rd at h
  cases e : nof w with
  | none => rw [e] at h; cases h
  | some i =>
    rw [e] at h
    simp only at h
    split at h
    · rename_i hi
      cases h
      unfold nof at e
      split at e
      · cases e
      · split at e
        · cases e
        · cases e
          exact ⟨Int.natCast_nonneg _, hi⟩
    · cases h
theorem rowOf_ok {w : Str} {r : Row} (h : rowOf w = some r) : OkRow r := by
  unfold rowOf at h
  split at h
  · split at h
    · rename_i v hv
      cases h
      exact ⟨rd_rng hv, by intro s e; cases e⟩
    · cases h
  · split at h
    · rename_i v hv
      split at h
      · rename_i hs
        cases h
        exact ⟨rd_rng hv, by intro s e; cases e; exact okStB_iff.mp hs⟩
      · cases h
    · cases h
  · cases h
structure InvD (i : Nat) (ns : List Int) (rows : List Row) : Prop where
  ln : ns.length = min i 4
  pf : Pref ns
  ok : ∀ x ∈ rows, OkRow x
  lr : rows.length = i - 5
  le : i ≤ 45
theorem InvD.zero : InvD 0 [] [] := ⟨rfl, trivial, (by intro x h; cases h), rfl, by decide⟩
theorem InvD.num {i : Nat} {ns : List Int} {rows : List Row} {r : Int} (v : InvD i ns rows) (hi : i < 4) (hr : 0 ≤ r ∧ r ≤ 1000000) (h : ok4 ns r = true) : InvD (i + 1) (ns ++ [r]) rows :=
  ⟨by rw [List.length_append, v.ln, List.length_singleton]; omega, pref_next v.pf (by rw [v.ln]; omega) hr.1 hr.2 h, v.ok, by rw [v.lr]; omega, by omega⟩
theorem InvD.four {ns : List Int} {rows : List Row} (v : InvD 4 ns rows) : InvD (4 + 1) ns rows := ⟨v.ln, v.pf, v.ok, v.lr, by decide⟩
theorem InvD.row {i : Nat} {ns : List Int} {rows : List Row} {r : Row} (v : InvD i ns rows) (hi : 4 < i) (h5 : i < 45) (hr : OkRow r) : InvD (i + 1) ns (rows ++ [r]) :=
  ⟨by rw [v.ln]; omega, v.pf, fun x hx => by
    rcases List.mem_append.mp hx with hx | hx
    · exact v.ok x hx
    · rw [List.mem_singleton.mp hx]; exact hr, by rw [List.length_append, v.lr, List.length_singleton]; omega, by omega⟩
/-- what the judge takes is right -/
theorem due_ok : ∀ (ws : List Str) (i : Nat) (ns : List Int) (rows : List Row) (ns' : List Int) (rows' : List Row), InvD i ns rows → due i ns rows ws = .inr (ns', rows') → InvD (i + ws.length) ns' rows'
  | [], i, ns, rows, ns', rows', v, h => by
    cases h
    exact v
  | w :: ws, i, ns, rows, ns', rows', v, h => by
    unfold due at h
    have e : i + (w :: ws).length = i + 1 + ws.length := by rw [List.length_cons]; omega
    rw [e]
    split at h
    · rename_i hi
      split at h
      · cases h
      · rename_i r hr
        split at h
        · rename_i ho
          exact due_ok ws _ _ _ _ _ (v.num hi (rd_rng hr) ho) h
        · cases h
    · split at h
      · rename_i hi
        subst hi
        split at h
        · exact due_ok ws _ _ _ _ _ v.four h
        · cases h
      · split at h
        · cases h
        · rename_i row hrow
          split at h
          · rename_i h4 h5 h45
            exact due_ok ws _ _ _ _ _ (v.row (by omega) h45 (rowOf_ok hrow)) h
          · cases h
def numD (ns : List Int) : D := .tup (ns.map .int)
def caseD (ns : List Int) (st : Str) (rows : List Row) : D := .tup [numD ns, .tup [.str st, .tup (rows.map rowD)]]
theorem zip_at {ds : List D} {i : Nat} {x : D} (h : (ds.zipIdx.map fun p => D.tup [.int (p.2 : Nat), p.1])[i]? = some x) : ∃ d, ds[i]? = some d ∧ x = .tup [.int (i : Nat), d] := by
  rw [List.getElem?_map, List.getElem?_zipIdx] at h
  cases e : ds[i]? with
  | none => rw [e] at h; cases h
  | some d =>
    rw [e] at h
    refine ⟨d, rfl, ?_⟩
    simpa using h.symm
theorem word_at {ws : List Str} {i : Nat} {x : D} (h : ((ws.map D.str).zipIdx.map fun p => D.tup [.int (p.2 : Nat), p.1])[i]? = some x) : ∃ w, ws[i]? = some w ∧ x = .tup [.int (i : Nat), .str w] := by
  obtain ⟨d, h1, h2⟩ := zip_at h
  rw [List.getElem?_map] at h1
  cases e : ws[i]? with
  | none => rw [e] at h1; cases h1
  | some w =>
    rw [e] at h1
    cases h1
    exact ⟨w, rfl, h2⟩
theorem drop_at {ws : List Str} {i : Nat} {w : Str} (h : ws[i]? = some w) : ws.drop i = w :: ws.drop (i + 1) := by
  obtain ⟨hi, e⟩ := List.getElem?_eq_some_iff.mp h
  rw [List.drop_eq_getElem_cons hi, e]
abbrev BT (K : PySem.W.Frag) : Value := .ref (He.ga K "BadText")
theorem r_parse {x : Str} (hx : x.length ≤ 90000) (hb : ∀ i : Nat, judge (Txt.split x space) = .inl i → ∀ M', Old M M' → E (BT K) [("index", .int i)] M')
    (ho : ∀ ns st rows, judge (Txt.split x space) = .inr (ns, st, rows) → ∀ M', Old M M' → P (caseD ns st rows) M') : wp_parse_case K [.str x] M P E := by
  have sl := split_len x space space_ne space_k
  refine ⟨rfl, ?_⟩
  unfold n_parse_case
  walk_at "al"
  refine r_isStr ?_
  walk_at "al"
  refine r_meth ?_
  walk_at "al"
  refine ⟨rfl, ?_⟩
  walk_at "al"
  refine r_split (t := space) (by decide) (by rw [sizeLine_eq]; omega) ?_
  generalize Txt.split x space = ws at hb ho sl ⊢
  walk_at "al"
  generalize hM1 : M ++ [MO.lst (ws.map D.str)] ++ [MO.lst []] ++ [MO.lst []] = M1
  have p1 : M1[M.length]? = some (.lst (ws.map D.str)) := by rw [← hM1]; exact at_l (at_l at_end)
  have p2 : M1[(M ++ [MO.lst (ws.map D.str)]).length]? = some (.lst (([] : List Int).map D.int)) := by rw [← hM1]; exact at_l at_end
  have p3 : M1[(M ++ [MO.lst (ws.map D.str)] ++ [MO.lst []]).length]? = some (.lst (([] : List Row).map rowD)) := by rw [← hM1]; exact at_end
  have q2 : (M ++ [MO.lst (ws.map D.str)]).length = M.length + 1 := by simp
  have q3 : (M ++ [MO.lst (ws.map D.str)] ++ [MO.lst []]).length = M.length + 2 := by simp
  have o1 : Old M M1 := by rw [← hM1]; exact (Old.app.trans .app).trans .app
  rw [q2] at p2 ⊢
  rw [q3] at p3 ⊢
  refine r_enumK p1 ?_
  refine forA_inv (fun i ρ M' => ∃ (ns : List Int) (rows : List Row) (s4 s5 s6 s7 : Option D), ρ = [some (.str x), some (.ref M.length), some (.ref (M.length + 1)), some (.ref (M.length + 2)), s4, s5, s6, s7] ∧ Old M M' ∧
      M'[M.length]? = some (.lst (ws.map D.str)) ∧ M'[M.length + 1]? = some (.lst (ns.map D.int)) ∧ M'[M.length + 2]? = some (.lst (rows.map rowD)) ∧ InvD i ns rows ∧ due i ns rows (ws.drop i) = due 0 [] [] ws)
    ⟨[], [], none, none, none, none, rfl, o1, p1, p2, p3, .zero, rfl⟩ (fun i y ρ M' K' hy ⟨ns, rows, s4, s5, s6, s7, e1, om, p1, p2, p3, iv, ed⟩ q => ?_) (fun ρ M' ⟨ns, rows, s4, s5, s6, s7, e1, om, p1, p2, p3, iv, ed⟩ => ?_)
  · subst e1
    obtain ⟨w, hw, rfl⟩ := word_at hy
    have lw := sl w (List.mem_of_getElem? hw)
    rw [drop_at hw, due_cons] at ed
    have bad : due 0 [] [] ws = .inl i → ∀ M', Old M M' → E (BT K) [("index", .int (i : Nat))] M' := fun e => hb i (by unfold judge; rw [e])
    refine ⟨p1, _, rfl, ?_⟩
    walk_at "al"
    refine r_iteD (fun h4 => ?_) (fun h4 => ?_)
    · have h4' : i < 4 := by omega
      rw [if_pos h4'] at ed
      walk_at "al"
      refine r_rd (by omega) fun M2 x2 => ?_
      have om2 := om.trans x2.old
      walk_at "al"
      cases hr : rd w with
      | none =>
        rw [hr] at ed
        show iteP true _ _
        walk_at "al"
        exact bad ed.symm _ om2
      | some r =>
        rw [hr] at ed
        simp only at ed
        show iteP false _ _
        simp only [optD]
        walk_at "al"
        refine r_goes (x2.at p2) (by rw [iv.ln]; omega) fun M3 x3 => ?_
        have om3 := om2.trans x3.old
        walk_at "al"
        cases hk : ok4 ns r with
        | true =>
          rw [hk, if_pos rfl] at ed
          walk_at "al"
          refine r_meth ?_
          walk_at "al"
          have p2' := x3.at (x2.at p2)
          refine ⟨r_tyL p2', ?_⟩
          walk_at "al"
          refine r_append p2' (by rw [List.length_map, iv.ln, sizeLine_eq]; omega) ?_
          exact q _ _ ⟨ns ++ [r], rows, _, _, _, _, rfl, om3.new (Nat.le_succ _), at_ne (by omega) (x3.at (x2.at p1)), by rw [at_set p2', List.map_append]; rfl, at_ne (by omega) (x3.at (x2.at p3)), iv.num h4' (rd_rng hr) hk, ed⟩
        | false =>
          rw [hk, if_neg Bool.false_ne_true] at ed
          walk_at "al"
          exact bad ed.symm _ om3
    · have h4' : ¬ i < 4 := by omega
      rw [if_neg h4'] at ed
      walk_at "al"
      refine r_iteD (fun h5 => ?_) (fun h5 => ?_)
      · have h5' : i = 4 := by omega
        rw [if_pos h5'] at ed
        walk_at "al"
        refine r_state ?_
        walk_at "al"
        cases hk : okStB w with
        | true =>
          rw [hk, if_pos rfl] at ed
          walk_at "al"
          exact q _ _ ⟨ns, rows, _, _, _, _, rfl, om, p1, p2, p3, by subst h5'; exact iv.four, ed⟩
        | false =>
          rw [hk, if_neg Bool.false_ne_true] at ed
          walk_at "al"
          exact bad ed.symm _ om
      · have h5' : ¬ i = 4 := by omega
        rw [if_neg h5'] at ed
        walk_at "al"
        refine r_row (by omega) fun M2 x2 => ?_
        have om2 := om.trans x2.old
        walk_at "al"
        cases hr : rowOf w with
        | none =>
          rw [hr] at ed
          show iteP true _ _
          walk_at "al"
          exact bad ed.symm _ om2
        | some r =>
          rw [hr] at ed
          simp only at ed
          show iteP false _ _
          walk_at "al"
          refine r_iteD (fun h6 => ?_) (fun h6 => ?_)
          · rw [if_neg (by omega)] at ed
            walk_at "al"
            exact bad ed.symm _ om2
          · have h6' : i < 45 := by omega
            rw [if_pos h6'] at ed
            walk_at "al"
            refine r_meth ?_
            walk_at "al"
            refine ⟨r_tyL (x2.at p3), ?_⟩
            walk_at "al"
            refine r_append (x2.at p3) (by rw [List.length_map, iv.lr, sizeLine_eq]; omega) ?_
            exact q _ _ ⟨ns, rows ++ [r], _, _, _, _, rfl, om2.new (by omega), at_ne (by omega) (x2.at p1), at_ne (by omega) (x2.at p2), by rw [at_set (x2.at p3), List.map_append]; rfl, iv.row (by omega) h6' (rowOf_ok hr), ed⟩
  · subst e1
    have el : ((ws.map D.str).zipIdx.map fun p => D.tup [.int (p.2 : Nat), p.1]).length = ws.length := by simp
    have ed' : due 0 [] [] ws = .inr (ns, rows) := by
      rw [← ed]
      show due _ ns rows (ws.drop ((ws.map D.str).zipIdx.map fun p => D.tup [.int (p.2 : Nat), p.1]).length) = _
      rw [el, List.drop_length]
      rfl
    refine ⟨p1, ?_⟩
    walk_at "al"
    refine r_lenL p1 ?_
    walk_at "al"
    rw [List.length_map]
    refine r_iteD (fun h5 => ?_) (fun h5 => ?_)
    · walk_at "al"
      refine r_lenL p1 ?_
      walk_at "al"
      rw [List.length_map]
      exact hb ws.length (by unfold judge; rw [ed']; simp only; rw [List.getElem?_eq_none (by omega)]) _ om
    · walk_at "al"
      refine r_tupL p2 ?_
      walk_at "al"
      have h4 : 4 < ws.length := by omega
      have e4 : ws[4]? = some ws[4] := List.getElem?_eq_getElem h4
      refine r_ixL (d := .str ws[4]) p1 (by show (ws.map D.str)[4]? = _; rw [List.getElem?_map, e4]; rfl) ?_
      walk_at "al"
      refine r_tupL p3 ?_
      walk_at "al"
      exact ho ns ws[4] rows (by unfold judge; rw [ed']; simp only; rw [e4]) _ om
end
section
variable {K : PySem.W.Frag} {M : Mem} {P : PD} {E : XP}
def resD : Sum Nat (List Int × Str × List Row) → List D
  | .inl i => [.str "BadText", .int (i : Nat)]
  | .inr (ns, st, rows) => [.str "case", numD ns, .tup [.str st, .tup (rows.map rowD)]]
theorem at_last (ds : List D) (d : D) : atI' (ds ++ [d]) (-1) = some d := by
  show (if 0 < (ds ++ [d]).length then (ds ++ [d])[(ds ++ [d]).length - (0 + 1)]? else none) = some d
  rw [if_pos (by simp)]
  simp
theorem r_due {x : Str} (hx : x.length ≤ 90000) (h : ∀ (M' : Mem) (q : Nat), Old M M' → M'[q]? = some (.lst (resD (judge (Txt.split x space)))) → M.length ≤ q → P (.ref q) M') : wp__law_due K [.str x] M P E := by
  have sl := split_len x space space_ne space_k
  refine ⟨rfl, ?_⟩
  unfold n__law_due
  walk_at "al"
  refine r_meth ?_
  walk_at "al"
  refine ⟨rfl, ?_⟩
  walk_at "al"
  refine r_split (t := space) (by decide) (by rw [sizeLine_eq]; omega) ?_
  generalize Txt.split x space = ws at h sl ⊢
  walk_at "al"
  generalize hM1 : M ++ [MO.lst (ws.map D.str)] ++ [MO.lst []] ++ [MO.lst []] = M1
  have p1 : M1[M.length]? = some (.lst (ws.map D.str)) := by rw [← hM1]; exact at_l (at_l at_end)
  have p2 : M1[(M ++ [MO.lst (ws.map D.str)]).length]? = some (.lst (([] : List Int).map D.int)) := by rw [← hM1]; exact at_l at_end
  have p3 : M1[(M ++ [MO.lst (ws.map D.str)] ++ [MO.lst []]).length]? = some (.lst (([] : List Row).map rowD)) := by rw [← hM1]; exact at_end
  have q2 : (M ++ [MO.lst (ws.map D.str)]).length = M.length + 1 := by simp
  have q3 : (M ++ [MO.lst (ws.map D.str)] ++ [MO.lst []]).length = M.length + 2 := by simp
  have o1 : Old M M1 := by rw [← hM1]; exact (Old.app.trans .app).trans .app
  rw [q2] at p2 ⊢
  rw [q3] at p3 ⊢
  refine r_enumK p1 ?_
  refine forA_inv (fun i ρ M' => ∃ (ns : List Int) (rows : List Row) (s4 s5 s6 : Option D), ρ = [some (.str x), some (.ref M.length), some (.ref (M.length + 1)), some (.ref (M.length + 2)), s4, s5, s6] ∧ Old M M' ∧
      M'[M.length]? = some (.lst (ws.map D.str)) ∧ M'[M.length + 1]? = some (.lst (ns.map D.int)) ∧ M'[M.length + 2]? = some (.lst (rows.map rowD)) ∧ InvD i ns rows ∧ due i ns rows (ws.drop i) = due 0 [] [] ws)
    ⟨[], [], none, none, none, rfl, o1, p1, p2, p3, .zero, rfl⟩ (fun i y ρ M' K' hy ⟨ns, rows, s4, s5, s6, e1, om, p1, p2, p3, iv, ed⟩ q => ?_) (fun ρ M' ⟨ns, rows, s4, s5, s6, e1, om, p1, p2, p3, iv, ed⟩ => ?_)
  · subst e1
    obtain ⟨w, hw, rfl⟩ := word_at hy
    have lw := sl w (List.mem_of_getElem? hw)
    rw [drop_at hw, due_cons] at ed
    have bad : due 0 [] [] ws = .inl i → ∀ M', Old M M' → P (.ref M'.length) (M' ++ [.lst [.str "BadText", .int (i : Nat)]]) := fun e M' o => h _ _ (o.trans .app) (by unfold judge; rw [e]; exact at_end) o.1
    refine ⟨p1, _, rfl, ?_⟩
    walk_at "al"
    refine r_iteD (fun h4 => ?_) (fun h4 => ?_)
    · have h4' : i < 4 := by omega
      rw [if_pos h4'] at ed
      walk_at "al"
      refine r_meth ?_
      walk_at "al"
      refine ⟨r_tyL p2, ?_⟩
      walk_at "al"
      refine r_lnum (by omega) fun M2 x2 => ?_
      have om2 := om.trans x2.old
      have p2' := x2.at p2
      walk_at "al"
      refine r_append p2' (by rw [List.length_map, iv.ln, sizeLine_eq]; omega) ?_
      walk_at "al"
      have om3 : Old M (M2.set (M.length + 1) (.lst (ns.map D.int ++ [optD (rd w)]))) := om2.new (Nat.le_succ _)
      refine r_lgoes (at_set p2') (by rw [iv.ln]; omega) iv.pf (fun r e => rd_rng e) fun M3 x3 => ?_
      have om4 := om3.trans x3.old
      walk_at "al"
      cases hr : rd w with
      | none =>
        rw [hr] at ed
        simp only [judge1]
        walk_at "al"
        exact bad ed.symm _ om4
      | some r =>
        rw [hr] at ed x3
        simp only [judge1]
        simp only at ed
        cases hk : ok4 ns r with
        | true =>
          rw [hk, if_pos rfl] at ed
          walk_at "al"
          exact q _ _ ⟨ns ++ [r], rows, _, _, _, rfl, om4, x3.at (at_ne (by omega) (x2.at p1)), by rw [x3.at (at_set p2'), List.map_append]; rfl, x3.at (at_ne (by omega) (x2.at p3)), iv.num h4' (rd_rng hr) hk, ed⟩
        | false =>
          rw [hk, if_neg Bool.false_ne_true] at ed
          walk_at "al"
          exact bad ed.symm _ om4
    · have h4' : ¬ i < 4 := by omega
      rw [if_neg h4'] at ed
      walk_at "al"
      refine r_iteD (fun h5 => ?_) (fun h5 => ?_)
      · have h5' : i = 4 := by omega
        rw [if_pos h5'] at ed
        walk_at "al"
        refine r_inL at_end ?_
        have om2 := om.trans (Old.app (L := [MO.lst [.str on_, .str off_]]))
        walk_at "al"
        cases hk : okStB w with
        | true =>
          rw [hk, if_pos rfl] at ed
          walk_at "al"
          exact q _ _ ⟨ns, rows, _, _, _, rfl, om2, at_l p1, at_l p2, at_l p3, by subst h5'; exact iv.four, ed⟩
        | false =>
          rw [hk, if_neg Bool.false_ne_true] at ed
          walk_at "al"
          exact bad ed.symm _ om2
      · have h5' : ¬ i = 4 := by omega
        rw [if_neg h5'] at ed
        walk_at "al"
        refine r_meth ?_
        walk_at "al"
        refine ⟨r_tyL p3, ?_⟩
        walk_at "al"
        refine r_lrow (by omega) fun M2 x2 => ?_
        have om2 := om.trans x2.old
        have p3' := x2.at p3
        walk_at "al"
        have l1 : (rows.map rowD).length < sizeLine := by rw [List.length_map, iv.lr, sizeLine_eq]; have := iv.le; omega
        refine r_append p3' l1 ?_
        have om3 : Old M (M2.set (M.length + 2) (.lst (rows.map rowD ++ [optRow (rowOf w)]))) := om2.new (by omega)
        walk_at "al"
        refine r_iteD (fun h6 => ?_) (fun h6 => ?_)
        · have h6' : i < 45 := by omega
          walk_at "al"
          refine r_ixL (at_set p3') (at_last _ _) ?_
          walk_at "al"
          cases hr : rowOf w with
          | none =>
            rw [hr] at ed om3
            show iteP true _ _
            walk_at "al"
            exact bad ed.symm _ om3
          | some r =>
            rw [hr] at ed om3
            simp only at ed
            rw [if_pos h6'] at ed
            show iteP false _ _
            walk_at "al"
            exact q _ _ ⟨ns, rows ++ [r], _, _, _, rfl, om3, at_ne (by omega) (x2.at p1), at_ne (by omega) (x2.at p2), by rw [at_set p3', List.map_append]; rfl, iv.row (by omega) h6' (rowOf_ok hr), ed⟩
        · walk_at "al"
          rw [decide_eq_false h6]
          walk_at "al"
          refine bad ?_ _ om3
          rw [← ed]
          cases hr : rowOf w with
          | none => rfl
          | some r => simp only; rw [if_neg (by omega)]
  · subst e1
    have el : ((ws.map D.str).zipIdx.map fun p => D.tup [.int (p.2 : Nat), p.1]).length = ws.length := by simp
    have ed' : due 0 [] [] ws = .inr (ns, rows) := by
      rw [← ed]
      show due _ ns rows (ws.drop ((ws.map D.str).zipIdx.map fun p => D.tup [.int (p.2 : Nat), p.1]).length) = _
      rw [el, List.drop_length]
      rfl
    refine ⟨p1, ?_⟩
    walk_at "al"
    refine r_lenL p1 ?_
    walk_at "al"
    rw [List.length_map]
    refine r_iteD (fun h5 => ?_) (fun h5 => ?_)
    · walk_at "al"
      refine r_lenL p1 ?_
      walk_at "al"
      rw [List.length_map]
      exact h _ _ (om.trans .app) (by unfold judge; rw [ed']; simp only; rw [show ws[4]? = none from List.getElem?_eq_none (by omega)]; exact at_end) om.1
    · walk_at "al"
      refine r_tupL p2 ?_
      walk_at "al"
      have h4 : 4 < ws.length := by omega
      have e4 : ws[4]? = some ws[4] := List.getElem?_eq_getElem h4
      refine r_ixL (d := .str ws[4]) p1 (by show (ws.map D.str)[4]? = _; rw [List.getElem?_map, e4]; rfl) ?_
      walk_at "al"
      refine r_tupL p3 ?_
      walk_at "al"
      exact h _ _ (om.trans .app) (by unfold judge; rw [ed']; simp only; rw [e4]; exact at_end) om.1
end
abbrev others (K : PySem.W.Frag) : List D := [.adr (He.ga K "NoRow"), .adr (He.ga K "NoPlace"), .adr (He.ga K "NoVersion"), .adr (He.ga K "TooLarge"), .adr (He.ga K "NoMarks"), .adr (He.ga K "BadSpan"), .adr (He.ga K "Apart"), .adr (He.ga K "BadMarks"), .adr (He.ga K "BadState"), .adr (He.ga K "BadReading"), .adr (He.ga K "BadRanges"),
  .adr (He.ga K "BadLog"), .adr (He.ga K "Busy"), .adr (He.ga K "TooManyEdits"), .adr (He.ga K "TooManyRows"), .adr (He.ga K "NothingToUndo"), .adr (He.ga K "BadEdits"), .adr (He.ga K "BadEdit"), .adr (He.ga K "Rejected"), .adr (He.ga K "BadNumber"), .adr (He.ga K "TooFew"), .ty "LookupError"]
def otherN : List HX.CN := [.own "NoRow", .own "NoPlace", .own "NoVersion", .own "TooLarge", .own "NoMarks", .own "BadSpan", .own "Apart", .own "BadMarks", .own "BadState", .own "BadReading", .own "BadRanges",
  .own "BadLog", .own "Busy", .own "TooManyEdits", .own "TooManyRows", .own "NothingToUndo", .own "BadEdits", .own "BadEdit", .own "Rejected", .own "BadNumber", .own "TooFew", .ty "LookupError"]
/-- what the reading leans on of the classes -/
structure KOk (K : PySem.W.Frag) : Prop where
  ex : PySem.W.exmOne K (BT K) (BT K) = some true
  xc : ExcC K (He.ga K "BadText")
  xf : XfC K (He.ga K "BadText")
  no : PySem.W.findIn K (.ref (He.ga K "BadText")) "index" = some none
  more : PySem.W.kitAny K (BT K) (otherN.map (HX.CN.v K)) = some false
  mke : PySem.W.kitOne K (BT K) (.ref (He.ga K "MarkError")) = some true
  ve : PySem.W.kitOne K (BT K) (.type "ValueError") = some true
section
variable {K : PySem.W.Frag} {M : Mem} {P : PD} {E : XP}
theorem r_isNot {v : D} {t n : String} {b : Bool} (e : kind? v M = some t) (e2 : kitB t n = some b) (h : P (.bl b) M) : fIsT v (.ty n) M P := by
  simp only [fIsT, e, e2]
  exact h
theorem kit_tt : kitB "tuple" "tuple" = some true := by unfold kitB; rw [if_pos (by decide)]
theorem r_xf {a : Addr} {cls : Value} {d n : Nat} {f : Str} {fs : List (Str × D)} {y : D} {m : ME} {ρ : Sl} (hx : XfOk K cls f) (hm : ∀ Q : PD, Q (.err a n) M → m ρ M Q E) (h0 : M[n]? = some (.xd d fs)) (h1 : fs.lookup f = some y) (h : P y M) : mXf K a cls (some d) f m ρ M P E := by
  refine ⟨hx, hm _ ⟨rfl, ?_⟩⟩
  rw [h0]
  refine ⟨rfl, ?_⟩
  rw [h1]
  exact h
/-- the suite of told -/
theorem r_suite (ko : KOk K) {a : Addr} {d : Addr} {x : D} {v : D} {A : AEnds} (h : ∀ (M' : Mem) (q : Nat), Old M M' → M'[q]? = some (.lst [.str "BadText", v]) → M.length ≤ q → A.rt (.ref q) M')
    (ns : Addr → Value → Option Addr → MS) (e : ns = fun a cls d => (kSeq (kSet 3 (mCall (a2 (fIsE K a cls d)) (mCons (mV 2) (mCons (mTup (mCons (mC (.adr (He.ga K "NoRow"))) (mCons (mC (.adr (He.ga K "NoPlace"))) (mCons (mC (.adr (He.ga K "NoVersion"))) (mCons (mC (.adr (He.ga K "TooLarge"))) (mCons (mC (.adr (He.ga K "NoMarks"))) (mCons (mC (.adr (He.ga K "BadSpan"))) (mCons (mC (.adr (He.ga K "Apart"))) (mCons (mC (.adr (He.ga K "BadMarks"))) (mCons (mC (.adr (He.ga K "BadState"))) (mCons (mC (.adr (He.ga K "BadReading"))) (mCons (mC (.adr (He.ga K "BadRanges"))) (mCons (mC (.adr (He.ga K "BadLog"))) (mCons (mC (.adr (He.ga K "Busy"))) (mCons (mC (.adr (He.ga K "TooManyEdits"))) (mCons (mC (.adr (He.ga K "TooManyRows"))) (mCons (mC (.adr (He.ga K "NothingToUndo"))) (mCons (mC (.adr (He.ga K "BadEdits"))) (mCons (mC (.adr (He.ga K "BadEdit"))) (mCons (mC (.adr (He.ga K "Rejected"))) (mCons (mC (.adr (He.ga K "BadNumber"))) (mCons (mC (.adr (He.ga K "TooFew"))) (mCons (mC (.ty "LookupError")) mNil))))))))))))))))))))))) mNil))))
  (kSeq (kSet 4 (mAndV (mCall (a2 (fIsE K a cls d)) (mCons (mV 2) (mCons (mC (.adr (He.ga K "MarkError"))) mNil))) (mCall (a2 (fIsE K a cls d)) (mCons (mV 2) (mCons (mC (.ty "ValueError")) mNil)))))
  (kRet (mIf (mAnd (mTru (mV 4)) (mNot (mTru (mV 3)))) (mLst (mCons (mC (.str "BadText")) (mCons (mXf K a cls d "index" (mV 2)) mNil))) (mLst (mCons (mC (.str "another error")) mNil)))))))
    {s1 s3 s4 : Option D} : ns a (BT K) (some d) [some x, s1, some (.err a M.length), s3, s4] (M ++ [.xd d [("index", v)]]) A := by
  subst e
  have hx : (M ++ [MO.xd d [(("index" : Str), v)]])[M.length]? = some (.xd d [("index", v)]) := at_end
  walk_at "al"
  refine ⟨rfl, ⟨_, rfl, ko.xc⟩, .inr ⟨d, _, rfl, hx⟩, otherN.map (HX.CN.v K), false, rfl, ko.more, ?_⟩
  walk_at "al"
  refine ⟨rfl, ⟨_, rfl, ko.xc⟩, .inr ⟨d, _, rfl, hx⟩, _, true, rfl, ko.mke, ?_⟩
  walk_at "al"
  refine ⟨rfl, ⟨_, rfl, ko.xc⟩, .inr ⟨d, _, rfl, hx⟩, _, true, rfl, ko.ve, ?_⟩
  walk_at "al"
  refine r_xf (n := M.length) (fs := [("index", v)]) (y := v) ⟨_, rfl, ko.xf, ko.no⟩ (fun Q q => ?_) hx (by simp [List.lookup]) ?_
  · walk_at "al"
    exact q
  · walk_at "al"
    exact h _ _ (Old.app.trans .app) at_end (by simp)
theorem r_toldS (ko : KOk K) {x : Str} (hx : x.length ≤ 90000) (h : ∀ (M' : Mem) (q : Nat), Old M M' → M'[q]? = some (.lst (resD (judge (Txt.split x space)))) → M.length ≤ q → P (.ref q) M') : wp__law_told K [.str x] M P E := by
  refine ⟨rfl, ?_⟩
  unfold n__law_told
  refine r_seq ?_
  refine r_set (m := mFn (wp_parse_case K) (mCons (mV 0) mNil)) ?_
  walk_at "al"
  refine r_parse hx (fun i hi M' om => ?_) (fun ns st rows hr M' om => ?_)
  · refine ⟨true, ko.ex, fun a d => ?_⟩
    exact r_suite (M := M') ko (fun M2 q o hq hl => h M2 q (om.trans o) (by rw [hi]; exact hq) (Nat.le_trans om.1 hl)) _ rfl
  · unfold caseD
    walk_at "al"
    refine r_isNot rfl kit_tt ?_
    walk_at "al"
    refine r_iteN (fun z => absurd rfl z) (fun _ => ?_)
    walk_at "al"
    refine r_ixT rfl ?_
    walk_at "al"
    refine r_ixT rfl ?_
    walk_at "al"
    exact h _ _ (om.trans .app) (by rw [hr]; exact at_end) om.1
theorem r_toldN (ko : KOk K) {v : D} {t : String} (hv : kind? v M = some t) (ht : kitB t "str" = some false) (h : ∀ (M' : Mem) (q : Nat), Old M M' → M'[q]? = some (.lst [.str "BadText", .non]) → M.length ≤ q → P (.ref q) M') : wp__law_told K [v] M P E := by
  refine ⟨rfl, ?_⟩
  unfold n__law_told
  refine r_seq ?_
  refine r_set (m := mFn (wp_parse_case K) (mCons (mV 0) mNil)) ?_
  walk_at "al"
  refine ⟨rfl, ?_⟩
  unfold n_parse_case
  walk_at "al"
  refine r_isNot hv ht ?_
  walk_at "al"
  refine ⟨true, ko.ex, fun a d => ?_⟩
  exact r_suite (M := M) ko (fun M2 q o hq hl => h M2 q o hq hl) _ rfl
end
/-! ## data -/
structure Fit (k dp : Nat) (p : PyData) : Prop where
  sh : p.showable = true
  dp : p.depth ≤ dp
  lv : p.leavesShort 13 = true
  bk : p.bulk ≤ k
structure FitAll (k dp : Nat) (ps : List PyData) : Prop where
  sh : PyData.showableAll ps = true
  dp : PyData.depthAll ps ≤ dp
  lv : PyData.leavesShortAll 13 ps = true
  bk : PyData.bulkAll ps ≤ k
theorem Fit.mono {k k' dp dp' : Nat} {p : PyData} (f : Fit k dp p) (h : k ≤ k') (h2 : dp ≤ dp') : Fit k' dp' p := ⟨f.sh, Nat.le_trans f.dp h2, f.lv, Nat.le_trans f.bk h⟩
theorem FitAll.mono {k k' dp dp' : Nat} {p : List PyData} (f : FitAll k dp p) (h : k ≤ k') (h2 : dp ≤ dp') : FitAll k' dp' p := ⟨f.sh, Nat.le_trans f.dp h2, f.lv, Nat.le_trans f.bk h⟩
theorem FitAll.nil {dp : Nat} : FitAll 0 dp [] := ⟨rfl, Nat.zero_le _, rfl, Nat.le_refl _⟩
theorem FitAll.cons {a b dp : Nat} {x : PyData} {xs : List PyData} (h : Fit a dp x) (r : FitAll b dp xs) : FitAll (a + 1 + b) dp (x :: xs) :=
  ⟨by rw [PyData.showableAll, h.sh, r.sh]; rfl, by rw [PyData.depthAll]; exact Nat.max_le.mpr ⟨h.dp, r.dp⟩, by rw [PyData.leavesShortAll, h.lv, r.lv]; rfl, by rw [PyData.bulkAll]; have := h.bk; have := r.bk; omega⟩
theorem Fit.list {k dp : Nat} {xs : List PyData} (h : FitAll k dp xs) : Fit k (dp + 1) (.list xs) :=
  ⟨by rw [PyData.showable]; exact h.sh, by rw [PyData.depth]; exact Nat.succ_le_succ h.dp, by rw [PyData.leavesShort]; exact h.lv, by rw [PyData.bulk]; exact h.bk⟩
theorem Fit.tuple {k dp : Nat} {xs : List PyData} (h : FitAll k dp xs) : Fit k (dp + 1) (.tuple xs) :=
  ⟨by rw [PyData.showable]; exact h.sh, by rw [PyData.depth]; exact Nat.succ_le_succ h.dp, by rw [PyData.leavesShort]; exact h.lv, by rw [PyData.bulk]; exact h.bk⟩
theorem Fit.non : Fit 0 0 .none := ⟨rfl, Nat.le_refl _, rfl, Nat.le_refl _⟩
theorem Fit.bl {b : Bool} : Fit 0 0 (.bool b) := ⟨rfl, Nat.le_refl _, rfl, Nat.le_refl _⟩
theorem Fit.int {i : Int} (h : 0 ≤ i) (h2 : i ≤ 1000000) : Fit 0 0 (.int i) :=
  ⟨by rw [PyData.showable, decide_eq_true_eq]; exact log_num h h2, Nat.le_refl _, by
    rw [PyData.leavesShort, decide_eq_true_eq]
    exact Nat.le_trans (num_len h h2) (by decide), Nat.le_refl _⟩
theorem Fit.neg1 : Fit 0 0 (.int (-1)) := ⟨by decide, Nat.le_refl _, by decide +kernel, Nat.le_refl _⟩
def Low (s : Str) : Prop := ∀ c ∈ TL.tl s, c < 1000
theorem Fit.str {s : Str} (h : Low s) : Fit s.length 0 (.str s) :=
  ⟨rfl, Nat.le_refl _, by
    rw [PyData.leavesShort, List.all_eq_true]
    exact fun c hc => decide_eq_true (Nat.lt_trans (h c hc) (by decide)), Nat.le_refl _⟩
theorem FitAll.map {α : Type} {k dp : Nat} {f : α → PyData} : ∀ {xs : List α}, (∀ x ∈ xs, Fit k dp (f x)) → FitAll (xs.length * (k + 1)) dp (xs.map f)
  | [], _ => by simpa using FitAll.nil
  | x :: xs, h => by
    rw [List.map_cons]
    refine (FitAll.cons (h x (by simp)) (FitAll.map fun y hy => h y (by simp [hy]))).mono ?_ (Nat.le_refl _)
    rw [List.length_cons, Nat.succ_mul]
    omega
theorem Fit.line {k dp : Nat} {p : PyData} (f : Fit k dp p) (h : k ≤ 2 ^ 20) : p.shown.length ≤ sizeLine := PyData.shown_fits_bulk (by decide) (by decide) f.lv (Nat.le_trans f.bk h)
section
variable {K : PySem.W.Frag} {M : Mem} {P : PD} {E : XP}
theorem r_repr {k dp p : Nat} {d : PyData} (h0 : DS M (.ref p) d) (f : Fit k dp d) (h1 : k ≤ 2 ^ 20) (h2 : dp ≤ 40) (h : P (.str d.shown) M) : fRepr (.ref p) M P :=
  ⟨d, h0, f.sh, Nat.le_trans f.dp h2, f.line h1, (by intro i e; cases e), (by intro i e; cases e), (by intro e; cases e), (by intro i e; cases e), h⟩
/-! ## a result -/
def seenP : Option Str → PyData
  | none => .none
  | some s => .str s
def rowP (r : Row) : PyData := .tuple [.int r.1, seenP r.2]
def resP : Sum Nat (List Int × Str × List Row) → List PyData
  | .inl i => [.str "BadText", .int (i : Nat)]
  | .inr (ns, st, rows) => [.str "case", .tuple (ns.map .int), .tuple [.str st, .tuple (rows.map rowP)]]
/-- a right result -/
def Right : Sum Nat (List Int × Str × List Row) → Prop
  | .inl i => i ≤ 100000
  | .inr (ns, st, rows) => (∀ n ∈ ns, 0 ≤ n ∧ n ≤ 1000000) ∧ ns.length ≤ 4 ∧ OkSt st ∧ (∀ r ∈ rows, OkRow r) ∧ rows.length ≤ 40
theorem ds_ints (M : Mem) : ∀ cells : List Int, DSs M (cells.map D.int) (cells.map PyData.int)
  | [] => .nil
  | c :: cs => .cons (.int c) (ds_ints M cs)
theorem ds_row (M : Mem) (r : Row) : DS M (rowD r) (rowP r) := by
  obtain ⟨v, s⟩ := r
  cases s with
  | none => exact .tup (.cons (.int v) (.cons .non .nil))
  | some s => exact .tup (.cons (.int v) (.cons (.str s) .nil))
theorem ds_rows (M : Mem) : ∀ rows : List Row, DSs M (rows.map rowD) (rows.map rowP)
  | [] => .nil
  | r :: rs => .cons (ds_row M r) (ds_rows M rs)
theorem ds_res (M : Mem) : ∀ j, DSs M (resD j) (resP j)
  | .inl i => .cons (.str _) (.cons (.int _) .nil)
  | .inr (ns, st, rows) => .cons (.str _) (.cons (.tup (ds_ints M ns)) (.cons (.tup (.cons (.str _) (.cons (.tup (ds_rows M rows)) .nil))) .nil))
theorem dr_row (M : Mem) (r : Row) : DR M (rowD r) (rowP r) := by
  obtain ⟨v, s⟩ := r
  cases s with
  | none => exact .tup (.cons (.int v) (.cons .non .nil))
  | some s => exact .tup (.cons (.int v) (.cons (.str s) .nil))
theorem dr_rows (M : Mem) : ∀ rows : List Row, DRs M (rows.map rowD) (rows.map rowP)
  | [] => .nil
  | r :: rs => .cons (dr_row M r) (dr_rows M rs)
theorem dr_res (M : Mem) : ∀ j, DRs M (resD j) (resP j)
  | .inl i => .cons (.str _) (.cons (.int _) .nil)
  | .inr (ns, st, rows) => .cons (.str _) (.cons (.tup (drs_ints M ns)) (.cons (.tup (.cons (.str _) (.cons (.tup (dr_rows M rows)) .nil))) .nil))
theorem low_st {s : Str} (h : OkSt s) : Low s := by
  rcases h with rfl | rfl
  · exact (by decide +kernel : ∀ c ∈ TL.tl on_, c < 1000)
  · exact (by decide +kernel : ∀ c ∈ TL.tl off_, c < 1000)
theorem low_bad : Low "BadText" := (by decide +kernel : ∀ c ∈ TL.tl "BadText", c < 1000)
theorem low_case : Low "case" := (by decide +kernel : ∀ c ∈ TL.tl "case", c < 1000)
theorem fit_row {r : Row} (h : OkRow r) : Fit 5 1 (rowP r) := by
  obtain ⟨v, s⟩ := r
  have h1 : Fit 0 0 (.int v) := .int h.1.1 h.1.2
  cases s with
  | none => exact (Fit.tuple (FitAll.cons h1 (FitAll.cons .non .nil))).mono (by decide) (by decide)
  | some s =>
    have h2 := h.2 s rfl
    have h3 := st_len h2
    exact (Fit.tuple (FitAll.cons h1 (FitAll.cons (.str (low_st h2)) .nil))).mono (by omega) (by decide)
theorem fit_log {st : Str} {rows : List Row} (hs : OkSt st) (hr : ∀ r ∈ rows, OkRow r) (hl : rows.length ≤ 40) : Fit 300 3 (.tuple [.str st, .tuple (rows.map rowP)]) := by
  have h1 : Fit 5 2 (.str st) := (Fit.str (low_st hs)).mono (by have := st_len hs; omega) (by decide)
  have h2 : Fit 240 2 (.tuple (rows.map rowP)) := (Fit.tuple (FitAll.map fun r h => fit_row (hr r h))).mono (by omega) (by decide)
  exact (Fit.tuple (FitAll.cons h1 (FitAll.cons h2 .nil))).mono (by decide) (by decide)
theorem fit_nums {ns : List Int} (h : ∀ n ∈ ns, 0 ≤ n ∧ n ≤ 1000000) (hl : ns.length ≤ 4) : Fit 4 1 (.tuple (ns.map .int)) :=
  (Fit.tuple (FitAll.map (k := 0) (dp := 0) fun n hn => Fit.int (h n hn).1 (h n hn).2)).mono (by omega) (by decide)
theorem fit_res {j : Sum Nat (List Int × Str × List Row)} (h : Right j) : Fit 1000 4 (.list (resP j)) := by
  match j, h with
  | .inl i, h =>
    have h : i ≤ 100000 := h
    have l : ("BadText" : Str).length = 7 := by decide
    have h1 := Fit.str low_bad
    exact (Fit.list (FitAll.cons h1 (FitAll.cons (.int (i := (i : Nat)) (by omega) (by omega)) .nil))).mono (by omega) (by decide)
  | .inr (ns, st, rows), ⟨h1, h2, h3, h4, h5⟩ =>
    have l : ("case" : Str).length = 4 := by decide
    exact (Fit.list (FitAll.cons ((Fit.str low_case).mono (Nat.le_refl _) (by decide)) (FitAll.cons ((fit_nums h1 h2).mono (Nat.le_refl _) (by decide)) (FitAll.cons (fit_log h3 h4 h5) .nil)))).mono (by omega) (by decide)
theorem lay_rows {rows : List Row} (hr : ∀ r ∈ rows, OkRow r) : PyData.canLayAll0 (rows.map rowP) = true := by
  induction rows with
  | nil => rfl
  | cons r rs ih =>
    rw [List.map_cons, PyData.canLayAll0, ih fun x hx => hr x (by simp [hx])]
    obtain ⟨v, s⟩ := r
    cases s with
    | none => rfl
    | some s =>
      have e1 : PyData.strOk on_ = true := by decide +kernel
      have e2 : PyData.strOk off_ = true := by decide +kernel
      rcases (hr (v, some s) (by simp)).2 s rfl with rfl | rfl
      · simp only [rowP, seenP, PyData.canLay0, PyData.canLayAll0, e1, Bool.and_true]
      · simp only [rowP, seenP, PyData.canLay0, PyData.canLayAll0, e2, Bool.and_true]
theorem lay_res {j : Sum Nat (List Int × Str × List Row)} (h : Right j) : PyData.canLay0 (.list (resP j)) = true := by
  match j, h with
  | .inl i, h =>
    have e1 : PyData.strOk "BadText" = true := by decide +kernel
    show PyData.canLayAll0 [.str "BadText", .int (i : Nat)] = true
    simp only [PyData.canLayAll0, PyData.canLay0, e1, Bool.and_true]
  | .inr (ns, st, rows), ⟨h1, h2, h3, h4, h5⟩ =>
    have e1 : PyData.strOk "case" = true := by decide +kernel
    have e2 : PyData.strOk st = true := by rcases h3 with rfl | rfl <;> decide +kernel
    show PyData.canLayAll0 [.str "case", .tuple (ns.map .int), .tuple [.str st, .tuple (rows.map rowP)]] = true
    simp only [PyData.canLayAll0, PyData.canLay0, lay_ints, lay_rows h4, e1, e2, Bool.and_true]
theorem shaped_res {j : Sum Nat (List Int × Str × List Row)} (h : Right j) : SeqAt.shaped (.list (resP j)) = true := by
  unfold SeqAt.shaped
  rw [lay_res h, Bool.true_and, decide_eq_true_eq]
  exact Nat.le_trans (fit_res h).dp (by decide)
theorem r_eqRes {j : Sum Nat (List Int × Str × List Row)} {p q : Nat} (r : Right j) (hp : M[p]? = some (.lst (resD j))) (hq : M[q]? = some (.lst (resD j))) (h : P (.bl true) M) : aEq (.ref p) (.ref q) M P := by
  refine ⟨_, _, .lst hp (dr_res M j), .lst hq (dr_res M j), shaped_res r, shaped_res r, ?_⟩
  rw [SeqAt.eqv_refl _ (lay_res r)]
  exact h
theorem r_neRes {j : Sum Nat (List Int × Str × List Row)} {p q : Nat} (r : Right j) (hp : M[p]? = some (.lst (resD j))) (hq : M[q]? = some (.lst (resD j))) (h : P (.bl false) M) : aNe (.ref p) (.ref q) M P := by
  refine ⟨_, _, .lst hp (dr_res M j), .lst hq (dr_res M j), shaped_res r, shaped_res r, ?_⟩
  rw [SeqAt.eqv_refl _ (lay_res r)]
  exact h
theorem r_reprRes {j : Sum Nat (List Int × Str × List Row)} {p : Nat} (r : Right j) (hp : M[p]? = some (.lst (resD j))) (h : P (.str (PyData.list (resP j)).shown) M) : fRepr (.ref p) M P :=
  r_repr (.lst hp (ds_res M j)) (fit_res r) (by decide) (by decide) h
/-! ## the judge's results are right -/
theorem due_bad : ∀ (ws : List Str) (i : Nat) (ns : List Int) (rows : List Row) (j : Nat), due i ns rows ws = .inl j → j < i + ws.length
  | [], i, ns, rows, j, h => by cases h
  | w :: ws, i, ns, rows, j, h => by
    rw [due_cons] at h
    have e : i + (w :: ws).length = i + 1 + ws.length := by rw [List.length_cons]; omega
    rw [e]
    split at h
    · split at h
      · cases h; omega
      · split at h
        · exact due_bad ws _ _ _ _ h
        · cases h; omega
    · split at h
      · split at h
        · exact due_bad ws _ _ _ _ h
        · cases h; omega
      · split at h
        · cases h; omega
        · split at h
          · exact due_bad ws _ _ _ _ h
          · cases h; omega
theorem spl_count (S : List Nat) : ∀ (l : List Nat) (k : Nat) (acc : List Nat), (TL.spl S k acc l).length ≤ l.length + 1
  | [], k, acc => by rw [TL.spl_nil]; simp
  | c :: r, 0, acc => by
    unfold TL.spl
    split
    · have := spl_count S r (S.length - 1) []
      simp only [List.length_cons]
      omega
    · have := spl_count S r 0 (acc ++ [c])
      simp only [List.length_cons]
      omega
  | c :: r, k + 1, acc => by
    have := spl_count S r k acc
    show (TL.spl S k acc r).length ≤ _
    rw [List.length_cons]
    omega
theorem split_count (x y : Str) (hy : TL.tl y ≠ []) (hk : y.cps.all (· < 256) = true) : (Txt.split x y).length ≤ x.length + 1 := by
  have := spl_count (TL.tl y) (TL.tl x) 0 []
  rw [← TL.split_spl x y hy (TL.kind_ok hk), List.length_map, ← TL.len_tl] at this
  exact this
theorem pref_rng : ∀ {ns : List Int}, Pref ns → ∀ n ∈ ns, 0 ≤ n ∧ n ≤ 1000000
  | [], _, n, h => by cases h
  | [a], h, n, hn => by
    obtain ⟨h1, h2⟩ := h
    rw [List.mem_singleton.mp hn]; omega
  | [a, b], h, n, hn => by
    obtain ⟨h1, h2, h3⟩ := h
    simp only [List.mem_cons, List.not_mem_nil, or_false] at hn
    omega
  | [a, b, c], h, n, hn => by
    obtain ⟨h1, h2, h3, h4, h5⟩ := h
    simp only [List.mem_cons, List.not_mem_nil, or_false] at hn
    omega
  | [a, b, c, d], h, n, hn => by
    obtain ⟨h1, h2, h3, h4, h5⟩ := h
    simp only [List.mem_cons, List.not_mem_nil, or_false] at hn
    omega
theorem due_st : ∀ (ws : List Str) (i : Nat) (ns : List Int) (rows : List Row) (r : List Int × List Row) (st : Str), due i ns rows ws = .inr r → i ≤ 4 → ws[4 - i]? = some st → OkSt st
  | [], i, ns, rows, r, st, _, _, h => by simp at h
  | w :: ws, i, ns, rows, r, st, hd, hi, h => by
    rw [due_cons] at hd
    split at hd
    · rename_i h4
      have e : 4 - i = (4 - (i + 1)) + 1 := by omega
      rw [e, List.getElem?_cons_succ] at h
      split at hd
      · cases hd
      · split at hd
        · exact due_st ws (i + 1) _ _ _ _ hd (by omega) h
        · cases hd
    · split at hd
      · rename_i h4 h5
        subst h5
        split at hd
        · rename_i ho
          have e : w = st := by simpa using h
          subst e
          exact okStB_iff.mp ho
        · cases hd
      · omega
theorem judge_right {x : Str} (hx : x.length ≤ 90000) : Right (judge (Txt.split x space)) := by
  have hc := split_count x space space_ne space_k
  unfold judge
  cases e : due 0 [] [] (Txt.split x space) with
  | inl i =>
    have := due_bad _ _ _ _ _ e
    show i ≤ 100000
    omega
  | inr r =>
    obtain ⟨ns, rows⟩ := r
    have iv := due_ok _ _ _ _ _ _ .zero e
    simp only
    cases e4 : (Txt.split x space)[4]? with
    | none =>
      show (Txt.split x space).length ≤ 100000
      omega
    | some st =>
      exact ⟨pref_rng iv.pf, by rw [iv.ln]; omega, due_st _ 0 _ _ _ _ e (by decide) e4, iv.ok, by rw [iv.lr]; have := iv.le; omega⟩
theorem r_right (ko : KOk K) {x : Str} (hx : x.length ≤ 90000) (h : ∀ M', Old M M' → P (.bl true) M') : wp__law_is_right K [.str x] M P E := by
  have jr := judge_right hx
  refine ⟨rfl, ?_⟩
  unfold n__law_is_right
  walk_at "al"
  refine r_toldS ko hx fun M1 q1 o1 h1 l1 => ?_
  walk_at "al"
  refine r_due hx fun M2 q2 o2 h2 l2 => ?_
  have h1' := o2.2 _ _ h1
  walk_at "al"
  refine r_reprRes jr h1' ?_
  walk_at "al"
  refine r_reprRes jr h2 ?_
  walk_at "al"
  rw [decide_eq_true rfl]
  walk_at "al"
  refine r_eqRes jr h1' h2 ?_
  exact h _ (o1.trans o2)
end
section
variable {K : PySem.W.Frag} {M : Mem} {P : PD} {E : XP}
/-! ## lists of texts -/
def LS (B : Nat) (ds : List D) : Prop := ∃ xs : List Str, ds = xs.map D.str ∧ ∀ w ∈ xs, w.length ≤ B
theorem LS.nil {B : Nat} : LS B [] := ⟨[], rfl, by intro w h; cases h⟩
theorem LS.cons {B : Nat} {s : Str} {ds : List D} (h : s.length ≤ B) (r : LS B ds) : LS B (.str s :: ds) := by
  obtain ⟨xs, rfl, hx⟩ := r
  exact ⟨s :: xs, rfl, fun w hw => by
    rcases List.mem_cons.mp hw with rfl | hw
    · exact h
    · exact hx w hw⟩
theorem LS.mono {B C : Nat} {ds : List D} (h : LS B ds) (c : B ≤ C) : LS C ds := by
  obtain ⟨xs, rfl, hx⟩ := h
  exact ⟨xs, rfl, fun w hw => Nat.le_trans (hx w hw) c⟩
theorem LS.append {B : Nat} {ds es : List D} (h : LS B ds) (r : LS B es) : LS B (ds ++ es) := by
  obtain ⟨xs, rfl, hx⟩ := h
  obtain ⟨ys, rfl, hy⟩ := r
  exact ⟨xs ++ ys, by rw [List.map_append], fun w hw => (List.mem_append.mp hw).elim (hx w) (hy w)⟩
theorem LS.cut {B : Nat} {ds : List D} (h : LS B ds) (lo hi : Option Int) : LS B (cutD ds lo hi) := by
  obtain ⟨xs, rfl, hx⟩ := h
  refine ⟨cutD xs lo hi, by unfold cutD; simp, fun w hw => hx w ?_⟩
  exact List.mem_of_mem_drop (List.mem_of_mem_take hw)
theorem LS.set {B : Nat} {ds : List D} {s : Str} (h : LS B ds) (hs : s.length ≤ B) (i : Nat) : LS B (ds.set i (.str s)) := by
  obtain ⟨xs, rfl, hx⟩ := h
  refine ⟨xs.set i s, by rw [List.map_set], fun w hw => ?_⟩
  rcases List.mem_or_eq_of_mem_set hw with hw | rfl
  · exact hx w hw
  · exact hs
theorem LS.mem {B : Nat} {ds : List D} {d : D} (h : LS B ds) (hd : d ∈ ds) : ∃ w, d = .str w ∧ w.length ≤ B := by
  obtain ⟨xs, rfl, hx⟩ := h
  obtain ⟨w, h1, h2⟩ := List.mem_map.mp hd
  exact ⟨w, h2.symm, hx w h1⟩
theorem cut_len {α : Type} (ds : List α) (lo hi : Option Int) : (cutD ds lo hi).length ≤ ds.length := by
  unfold cutD
  rw [List.length_take, List.length_drop]
  omega
theorem cutS_len (z : Str) (lo hi : Option Int) : (cutS z lo hi).length ≤ z.length := by
  have e : (cutS z lo hi).length = ((z.cps.toList.drop (HT.sIx z.length 0 lo)).take (HT.sIx z.length z.length hi - HT.sIx z.length 0 lo)).length := by
    unfold cutS
    show (List.toArray _).size = _
    simp
  have e2 : z.length = z.cps.toList.length := by simp [Str.length]
  rw [e, List.length_take, List.length_drop]
  omega
theorem joinL_len (S : List Nat) : ∀ ps : List (List Nat), (TL.joinL S ps).length ≤ (ps.map (·.length)).sum + ps.length * S.length
  | [] => by simp [TL.joinL]
  | [p] => by simp [TL.joinL]
  | p :: q :: r => by
    have ih := joinL_len S (q :: r)
    show (p ++ (S ++ TL.joinL S (q :: r))).length ≤ _
    rw [List.length_append, List.length_append, List.map_cons, List.sum_cons, List.length_cons, Nat.succ_mul]
    omega
theorem join_len (ys : List Str) : (Txt.join space ys).length ≤ (ys.map (·.length)).sum + ys.length := by
  rw [TL.join_eq, TL.len_tl, TL.tl_join]
  have h := joinL_len (TL.tl space) (ys.map TL.tl)
  have e1 : (ys.map TL.tl).map (·.length) = ys.map (·.length) := by
    rw [List.map_map]
    exact List.map_congr_left fun y _ => (TL.len_tl y).symm
  have e2 : (TL.tl space).length = 1 := by decide
  rw [e1, List.length_map, e2, Nat.mul_one] at h
  exact h
/-- " ".join of a list of words -/
theorem r_joinW {p B : Nat} {ds : List D} (h0 : M[p]? = some (.lst ds)) (ls : LS B ds) (hl : ds.length ≤ 250) (hB : B ≤ 300) (h : ∀ t : Str, t.length ≤ 90000 → P (.str t) M) : aJoin (.str space) [.ref p] M P := by
  obtain ⟨xs, rfl, hx⟩ := ls
  rw [List.length_map] at hl
  have h5 := sum_le hx
  have h6 : xs.length * B ≤ 250 * 300 := Nat.mul_le_mul hl hB
  have c1 : space.length = 1 := by decide
  refine r_join h0 (by rw [c1]; omega) (h _ ?_)
  have := join_len xs
  omega
/-! ## odd words -/
theorem r_mulStr {s : Str} {b : Int} (h : 2 ≤ b ∧ b ≤ 1000 ∧ s.length ≤ 1000 ∧ (s.length == 0) = false) (q : P (.str ⟨(List.replicate b.toNat s.cps).foldl (· ++ ·) #[]⟩) M) : aMulS (.str s) (.int b) M P := ⟨h, q⟩
theorem le_lit {c : Str} {n L : Nat} (h : c.length ≤ n) (h2 : n ≤ L) : c.length ≤ L := Nat.le_trans h h2
theorem le_ca {c w : Str} {L B : Nat} (hc : c.length ≤ 40) (hw : w.length ≤ L) (hB : 3 * L + 50 ≤ B) : (c ++ w).length ≤ B := by rw [len_app]; omega
theorem le_ac {c w : Str} {L B : Nat} (hw : w.length ≤ L) (hc : c.length ≤ 40) (hB : 3 * L + 50 ≤ B) : (w ++ c).length ≤ B := by rw [len_app]; omega
theorem r_pickLS {ds : List D} {C : Nat} (B : Bag M) (ls : LS C ds) (hne : ds ≠ []) (hs : ds.length < 1000) (h : ∀ (w' : Str) M', w'.length ≤ C → Bag M' → Kp M M' → P (.str w') M') : wp__law_pick K [.ref 5, .ref M.length] (M ++ [.lst ds]) P E :=
  r_pickL B.app B.len at_end hne (by omega) fun d M' hd B' k => by
    obtain ⟨w', rfl, hl⟩ := ls.mem hd
    exact h w' M' hl B' (Kp.app.trans k)
theorem r_oddword {w : Str} {L : Nat} (B : Bag M) (hw : w.length ≤ L) (hL : L ≤ 20000) (h : ∀ (w' : Str) M', w'.length ≤ 3 * L + 50 → Bag M' → Kp M M' → P (.str w') M') : wp__law_odd_word K [.ref 5, .str w] M P E := by
  have sz : (16777216 : Nat) = sizeLine := sizeLine_eq.symm
  have up := PyProof.Rows.len_upper w
  have line : ∀ c : Str, c.length ≤ 40 → w.length + c.length ≤ sizeLine ∧ c.length + w.length ≤ sizeLine := fun c hc => by omega
  refine ⟨rfl, ?_⟩
  unfold n__law_odd_word
  walk_at "al"
  repeat (first
    | (with_reducible refine r_addS ⟨(line _ (by decide)).1, ?_⟩; walk_at "al")
    | (with_reducible refine r_addS ⟨(line _ (by decide)).2, ?_⟩; walk_at "al")
    | (with_reducible refine r_slS ⟨by omega, ?_⟩; walk_at "al"))
  refine r_meth0 ?_
  walk_at "al"
  refine ⟨rfl, r_upper (s := w) (by omega) ?_⟩
  walk_at "al"
  refine r_mulStr (s := "9") (b := 40) ⟨by decide, by decide, by decide, by decide⟩ ?_
  walk_at "al"
  repeat (first
    | (with_reducible refine r_addS ⟨(line _ (by decide)).1, ?_⟩; walk_at "al")
    | (with_reducible refine r_addS ⟨by rw [len_app]; have : ("," : Str).length = 1 := (by decide); omega, ?_⟩; walk_at "al"))
  refine r_pickLS (C := 3 * L + 50) B ?_ (by simp) (by simp) h
  have c0 : 3 * L + 50 ≤ 3 * L + 50 := Nat.le_refl _
  repeat (first
    | exact LS.nil
    | refine LS.cons (le_ca (by decide) hw c0) ?_
    | refine LS.cons (le_ac hw (by decide) c0) ?_
    | refine LS.cons (le_lit (n := 40) (by decide) (by omega)) ?_
    | refine LS.cons (le_lit (n := 40) (by decide +kernel) (by omega)) ?_
    | refine LS.cons (Nat.le_trans (cutS_len _ _ _) (by omega)) ?_
    | refine LS.cons (by omega) ?_
    | refine LS.cons (by rw [len_app, len_app]; have : ("," : Str).length = 1 := (by decide); omega) ?_)
end
section
variable {K : PySem.W.Frag} {M : Mem} {P : PD} {E : XP}
theorem r_ixSn {s : Str} {v : Int} (h0 : s.length ≤ sizeLine) (v0 : 0 ≤ v) (v1 : v < s.length) (h : ∀ c, P (.str ⟨#[c]⟩) M) : aIx (.str s) (.int v) M P := by
  obtain ⟨n, rfl⟩ := Int.eq_ofNat_of_zero_le v0
  have hn : n < s.cps.toList.length := by
    have : s.length = s.cps.toList.length := by simp [Str.length]
    omega
  exact r_ixS (c := s.cps.toList[n]) h0 (List.getElem?_eq_getElem hn) (h _)
theorem r_oddsign {t : Str} (B : Bag M) (ht : t.length ≤ 10000) (h : ∀ (w' : Str) M', w'.length ≤ 90000 → Bag M' → Kp M M' → P (.str w') M') : wp__law_odd_sign K [.ref 5, .str t] M P E := by
  have sz : (16777216 : Nat) = sizeLine := sizeLine_eq.symm
  refine ⟨rfl, ?_⟩
  unfold n__law_odd_sign
  walk_at "al"
  refine r_lenS (by omega) ?_
  walk_at "al"
  refine r_draw B (by omega) (by omega) fun v M1 v0 v1 B1 k1 => ?_
  walk_at "al"
  refine r_lenS (Nat.le_of_ble_eq_true rfl) ?_
  have sl : (" !0123456789:;<=>?-+,.ABCNOFabcdefnoxyz_~\n" : Str).length < 100 ∧ 0 < (" !0123456789:;<=>?-+,.ABCNOFabcdefnoxyz_~\n" : Str).length := by decide +kernel
  walk_at "al"
  refine r_draw B1 (by omega) (by omega) fun u M2 u0 u1 B2 k2 => ?_
  walk_at "al"
  refine r_ixSn (Nat.le_of_ble_eq_true rfl) u0 u1 fun c => ?_
  walk_at "al"
  refine r_draw B2 (by decide) (by decide) fun way M3 w0 w1 B3 k3 => ?_
  have k03 := (k1.trans k2).trans k3
  have c1 := cutS_len t
  have s1 : (⟨#[c]⟩ : Str).length = 1 := rfl
  walk_at "al"
  refine r_iteD (fun hg => ?_) (fun hg => ?_)
  · walk_at "al"
    refine r_slS ⟨by omega, ?_⟩
    walk_at "al"
    refine r_addS ⟨by have := c1 none (some v); omega, ?_⟩
    walk_at "al"
    refine r_slS ⟨by omega, ?_⟩
    walk_at "al"
    have e1 := c1 none (some v)
    have e2 := c1 (some v) none
    refine r_addS ⟨by rw [len_app]; omega, ?_⟩
    exact h _ _ (by rw [len_app, len_app]; omega) B3 k03
  · walk_at "al"
    have e1 := c1 none (some v)
    have e2 := c1 (some (v + 1)) none
    refine r_iteD (fun hg => ?_) (fun hg => ?_)
    · walk_at "al"
      refine r_slS ⟨by omega, ?_⟩
      walk_at "al"
      refine r_slS ⟨by omega, ?_⟩
      walk_at "al"
      refine r_addS ⟨by omega, ?_⟩
      exact h _ _ (by rw [len_app]; omega) B3 k03
    · walk_at "al"
      refine r_slS ⟨by omega, ?_⟩
      walk_at "al"
      refine r_addS ⟨by omega, ?_⟩
      walk_at "al"
      refine r_slS ⟨by omega, ?_⟩
      walk_at "al"
      refine r_addS ⟨by rw [len_app]; omega, ?_⟩
      exact h _ _ (by rw [len_app, len_app]; omega) B3 k03
theorem ixN_nat {n j : Nat} (h : j < n) : ixN n (j : Int) = some j := by
  unfold ixN
  rw [if_pos (by omega), if_pos (by omega)]
  simp
/-- a list of texts -/
def Texts (M : Mem) (p B N : Nat) : Prop := 6 ≤ p ∧ ∃ ds, M[p]? = some (.lst ds) ∧ LS B ds ∧ ds.length ≤ N
theorem Texts.kp {M M' : Mem} {p B N : Nat} (t : Texts M p B N) (k : Kp M M') : Texts M' p B N := by
  obtain ⟨h6, ds, h0, ls, hl⟩ := t
  exact ⟨h6, ds, k.2 _ _ h6 h0, ls, hl⟩
theorem Texts.mono {M : Mem} {p B N B' N' : Nat} (t : Texts M p B N) (h1 : B ≤ B') (h2 : N ≤ N') : Texts M p B' N' := by
  obtain ⟨h6, ds, h0, ls, hl⟩ := t
  exact ⟨h6, ds, h0, ls.mono h1, Nat.le_trans hl h2⟩
theorem Texts.new {M : Mem} {B N : Nat} {ds : List D} (h6 : 6 ≤ M.length) (ls : LS B ds) (hl : ds.length ≤ N) : Texts (M ++ [.lst ds]) M.length B N := ⟨h6, ds, at_end, ls, hl⟩
/-- pick among lists of texts -/
theorem r_pickRef {ds : List D} {C N : Nat} (B : Bag M) (hp : ∀ d ∈ ds, ∃ p, d = .ref p ∧ Texts M p C N) (hne : ds ≠ []) (hs : ds.length < 1000) (h : ∀ p M', Texts M' p C N → Bag M' → Kp M M' → P (.ref p) M') : wp__law_pick K [.ref 5, .ref M.length] (M ++ [.lst ds]) P E :=
  r_pickL B.app B.len at_end hne (by omega) fun d M' hd B' k => by
    obtain ⟨p, rfl, t⟩ := hp d hd
    exact h p M' ((t.kp .app).kp k) B' (Kp.app.trans k)
theorem r_addT {p q B N1 N2 : Nat} (h1 : Texts M p B N1) (h2 : Texts M q B N2) (hN : N1 + N2 ≤ 1000) (h : ∀ M', Texts M' M.length B (N1 + N2) → Ext M M' → P (.ref M.length) M') (h6 : 6 ≤ M.length) : aAdd (.ref p) (.ref q) M P := by
  obtain ⟨_, ds, e1, l1, n1⟩ := h1
  obtain ⟨_, es, e2, l2, n2⟩ := h2
  refine r_addL e1 e2 (by rw [sizeLine_eq]; omega) ?_
  exact h _ (.new h6 (l1.append l2) (by rw [List.length_append]; omega)) .app
theorem r_slTx {p B N : Nat} {lo hi : Option Int} (h1 : Texts M p B N) (h : ∀ M', Texts M' M.length B N → Ext M M' → P (.ref M.length) M') (h6 : 6 ≤ M.length) : aSl (.ref p) lo hi M P := by
  obtain ⟨_, ds, e1, l1, n1⟩ := h1
  exact r_slL e1 (h _ (.new h6 (l1.cut lo hi) (Nat.le_trans (cut_len _ _ _) n1)) .app)
theorem r_ixTx {p B N j : Nat} (h1 : Texts M p B N) (hj : ∀ ds, M[p]? = some (.lst ds) → j < ds.length) (h : ∀ w : Str, w.length ≤ B → P (.str w) M) : aIx (.ref p) (.int (j : Nat)) M P := by
  obtain ⟨_, ds, e1, l1, n1⟩ := h1
  have hl := hj ds e1
  obtain ⟨w, hw, hb⟩ := l1.mem (List.getElem_mem hl)
  refine r_ixL (d := .str w) e1 ?_ (h w hb)
  show ds[j]? = _
  rw [List.getElem?_eq_getElem hl, hw]
/-! ## odd texts -/
structure Case (a b c d : Int) (st : Str) (rows : List Row) : Prop where
  r : OkR a b c d
  s : OkSt st
  w : ∀ x ∈ rows, OkRow x
  l : rows.length ≤ 40
abbrev wordsD (a b c d : Int) (st : Str) (rows : List Row) : List D := (wordsOf a b c d st rows).map D.str
section
variable {a b c d : Int} {st : Str} {rows : List Row}
theorem wordsD_len : (wordsD a b c d st rows).length = 5 + rows.length := by
  unfold wordsD wordsOf
  simp
  omega
theorem Case.ls (C : Case a b c d st rows) : LS 11 (wordsD a b c d st rows) := ⟨_, rfl, words_len C.r C.s C.w⟩
theorem Case.tx (C : Case a b c d st rows) {p : Nat} (h6 : 6 ≤ p) (h : M[p]? = some (.lst (wordsD a b c d st rows))) : Texts M p 11 45 :=
  ⟨h6, _, h, C.ls, by rw [wordsD_len]; have := C.l; omega⟩
/-- the first four words are numbers -/
theorem Case.num (C : Case a b c d st rows) {i : Nat} (h : i < 4) : ∃ n, (wordsD a b c d st rows)[i]? = some (.str (num n)) ∧ 0 ≤ n ∧ n ≤ 1000000 := by
  obtain ⟨h0, h1, h2, h3, h4⟩ := C.r
  match i, h with
  | 0, _ => exact ⟨a, rfl, by omega, by omega⟩
  | 1, _ => exact ⟨b, rfl, by omega, by omega⟩
  | 2, _ => exact ⟨c, rfl, by omega, by omega⟩
  | 3, _ => exact ⟨d, rfl, by omega, by omega⟩
theorem int_of_num {n : Int} (h : 0 ≤ n) (h2 : n ≤ 1000000) : intText? (num n) = some n := by
  have := TL.int_num (n := n.toNat) (by have := TL.numL_len (n := n.toNat) (k := 7) (by decide) (by omega); omega)
  rw [Int.toNat_of_nonneg h] at this
  exact this
theorem r_intN {n : Int} (h : 0 ≤ n) (h2 : n ≤ 1000000) (q : P (.int n) M) : fInt (.str (num n)) M P := ⟨n, int_of_num h h2, by have := num_len h h2; omega, q⟩
theorem r_end {p B N : Nat} (t : Texts M p B N) (hB : B ≤ 300) (hN : N ≤ 250) (h : ∀ t : Str, t.length ≤ 90000 → P (.str t) M) : aJoin (.str space) [.ref p] M P := by
  obtain ⟨_, ds, e, ls, hl⟩ := t
  exact r_joinW e ls (by omega) hB h
theorem r_odd (C : Case a b c d st rows) {p : Nat} {way : Int} (B : Bag M) (h6 : 6 ≤ p) (h0 : M[p]? = some (.lst (wordsD a b c d st rows))) (h : ∀ (t : Str) M', t.length ≤ 90000 → Bag M' → Kp M M' → P (.str t) M') : wp__law_odd_text K [.ref 5, .ref p, .int way] M P E := by
  have tx := C.tx h6 h0
  have wl : (wordsD a b c d st rows).length = 5 + rows.length := wordsD_len
  have cl := C.l
  have b6 := B.len
  have fin : ∀ (ρ : Sl) (M' : Mem) (q : Nat) (B' N' : Nat), ρ[3]? = some (some (.ref q)) → Texts M' q B' N' → B' ≤ 300 → N' ≤ 250 → Bag M' → Kp M M' → kRet (mMeth "str" aJoin (mC (.str " ")) (mCons (mV 3) mNil)) ρ M' (ends P E) := fun ρ M' q B' N' hq t hB hN B1 k => by
    walk_at "al"
    refine r_meth ?_
    walk_at "al"
    refine ⟨rfl, ?_⟩
    refine r_cons (r_v hq ?_)
    walk_at "al"
    exact r_end t hB hN fun t ht => h t M' ht B1 k
  refine ⟨rfl, ?_⟩
  unfold n__law_odd_text
  walk_at "al"
  refine r_listL h0 ?_
  walk_at "al"
  refine r_lenL (at_l h0) ?_
  walk_at "al"
  refine r_draw B.app (by omega) (by omega) fun v M1 v0 v1 B1 k1 => ?_
  obtain ⟨at_, rfl⟩ := Int.eq_ofNat_of_zero_le v0
  have k01 : Kp M M1 := Kp.app.trans k1
  have h01 := k01.2 _ _ h6 h0
  have tx1 := tx.kp k01
  have hS : M1[M.length]? = some (.lst (wordsD a b c d st rows)) := k1.2 _ _ b6 at_end
  have tS : Texts M1 M.length 11 45 := C.tx b6 hS
  have hat : at_ < (wordsD a b c d st rows).length := by omega
  walk_at "al"
  refine r_iteD (fun hg => ?_) (fun hg => ?_)
  · walk_at "al"
    refine r_ixTx tS (fun ds e => by rw [hS] at e; cases e; exact hat) fun w hw => ?_
    walk_at "al"
    refine r_oddword B1 hw (by decide) fun w' M2 hw' B2 k2 => ?_
    have hS2 := k2.2 _ _ b6 hS
    walk_at "al"
    refine r_subK hS2 (ixN_nat hat) ?_
    have ls2 : LS 83 ((wordsD a b c d st rows).set at_ (.str w')) := (C.ls.mono (by decide)).set hw' at_
    have hl2 : ((wordsD a b c d st rows).set at_ (.str w')).length = 5 + rows.length := by rw [List.length_set]; exact wl
    generalize (wordsD a b c d st rows).set at_ (.str w') = es at ls2 hl2 ⊢
    have hS3 : (M2.set M.length (.lst es))[M.length]? = some (.lst es) := at_set hS2
    have B3 : Bag (M2.set M.length (.lst es)) := B2.set b6
    have k3 : Kp M (M2.set M.length (.lst es)) := (k01.trans k2).new (Nat.le_refl _)
    generalize M2.set M.length (.lst es) = M3 at hS3 B3 k3 ⊢
    walk_at "al"
    refine r_lenL hS3 ?_
    walk_at "al"
    refine r_draw B3 (by omega) (by omega) fun v M4 v0 v1 B4 k4 => ?_
    obtain ⟨ot, rfl⟩ := Int.eq_ofNat_of_zero_le v0
    have hot : ot < es.length := by omega
    have hS4 := k4.2 _ _ b6 hS3
    have tS4 : Texts M4 M.length 83 45 := ⟨b6, es, hS4, ls2, by omega⟩
    walk_at "al"
    refine r_iteD (fun hg => ?_) (fun hg => ?_)
    · walk_at "al"
      refine r_ixTx tS4 (fun ds e => by rw [hS4] at e; cases e; exact hot) fun w hw => ?_
      walk_at "al"
      refine r_oddword B4 hw (by decide) fun w' M5 hw' B5 k5 => ?_
      have hS5 := k5.2 _ _ b6 hS4
      walk_at "al"
      refine r_subK hS5 (ixN_nat hot) ?_
      exact fin _ _ M.length 299 45 rfl ⟨b6, _, at_set hS5, (ls2.mono (by decide)).set hw' ot, by rw [List.length_set]; omega⟩ (by decide) (by decide) (B5.set b6) (((k3.trans k4).trans k5).new (Nat.le_refl _))
    · walk_at "al"
      refine r_ixTx tS4 (fun ds e => by rw [hS4] at e; cases e; exact hot) fun w hw => ?_
      walk_at "al"
      refine r_subK hS4 (ixN_nat hot) ?_
      exact fin _ _ M.length 83 45 rfl ⟨b6, _, at_set hS4, ls2.set hw ot, by rw [List.length_set]; omega⟩ (by decide) (by decide) (B4.set b6) ((k3.trans k4).new (Nat.le_refl _))
  · walk_at "al"
    refine r_iteD (fun hg => ?_) (fun hg => ?_)
    · walk_at "al"
      refine r_slTx tx1 (fun M2 t2 x2 => ?_) B1.len
      have tw2 := tx1.kp x2.kp
      have l2 := x2.len
      have B2 := x2.bag B1
      walk_at "al"
      refine r_ixTx (tw2.kp (Kp.app.trans .app)) (fun ds e => by rw [at_l (at_l (x2.at h01))] at e; cases e; exact hat) fun w hw => ?_
      walk_at "al"
      refine r_pickRef (C := 11) (N := 2) B2.app.app.app (fun y hy => ?_) (by simp) (by simp) fun q M3 t3 B3 k3 => ?_
      · simp only [List.mem_cons, List.not_mem_nil, or_false] at hy
        have e6 := B2.len
        rcases hy with rfl | rfl | rfl
        · exact ⟨_, rfl, e6, [.str ""], at_l (at_l at_end), .cons (by decide) .nil, by decide⟩
        · exact ⟨_, rfl, by simp; omega, [.str "", .str ""], at_l at_end, .cons (by decide) (.cons (by decide) .nil), by decide⟩
        · exact ⟨_, rfl, by simp; omega, [.str w], at_end, .cons hw .nil, Nat.le_of_ble_eq_true rfl⟩
      · have k23 : Kp M2 M3 := ((Kp.app.trans .app).trans .app).trans k3
        have k03 : Kp M M3 := (k01.trans x2.kp).trans k23
        walk_at "al"
        refine r_addT (t2.kp k23) t3 (by decide) (fun M4 t4 x4 => ?_) B3.len
        walk_at "al"
        refine r_slTx ((tx.kp k03).kp x4.kp) (fun M5 t5 x5 => ?_) (x4.bag B3).len
        walk_at "al"
        refine r_addT (t4.kp x5.kp) t5 (by decide) (fun M6 t6 x6 => ?_) (x5.bag (x4.bag B3)).len
        have x36 : Ext M3 M6 := (x4.trans x5).trans x6
        have B6 := x36.bag B3
        have k06 : Kp M M6 := k03.trans x36.kp
        walk_at "al"
        have f6 := B6.len
        refine r_addT ((tx.kp k06).kp .app) (.new f6 (.cons (by decide) .nil) (N := 1) (by decide)) (by decide) (fun M7 t7 x7 => ?_) B6.app.len
        have B7 := x7.bag B6.app
        have f7 := B7.len
        have k67 : Kp M6 M7 := Kp.app.trans x7.kp
        walk_at "al"
        refine r_addT (.new f7 (.cons (by decide) .nil) (N := 1) (by decide)) (((tx.kp k06).kp k67).kp .app) (by decide) (fun M8 t8 x8 => ?_) B7.app.len
        have B8 := x8.bag B7.app
        have k78 : Kp M7 M8 := Kp.app.trans x8.kp
        walk_at "al"
        refine r_pickRef (C := 11) (N := 92) B8 (fun y hy => ?_) (by simp) (by simp) fun q9 M9 t9 B9 k9 => ?_
        · simp only [List.mem_cons, List.not_mem_nil, or_false] at hy
          rcases hy with rfl | rfl | rfl
          · exact ⟨_, rfl, ((t6.kp k67).kp k78).mono (Nat.le_refl _) (by decide)⟩
          · exact ⟨_, rfl, (t7.kp k78).mono (Nat.le_refl _) (by decide)⟩
          · exact ⟨_, rfl, t8.mono (Nat.le_refl _) (by decide)⟩
        · walk_at "al"
          exact fin _ _ q9 11 92 rfl t9 (by decide) (by decide) B9 (((k06.trans k67).trans k78).trans k9)
    · walk_at "al"
      refine r_iteD (fun hg => ?_) (fun hg => ?_)
      · walk_at "al"
        refine r_draw B1 (by decide) (by decide) fun v M2 v0 v1 B2 k2 => ?_
        walk_at "al"
        refine r_slTx (tx1.kp k2) (fun M3 t3 x3 => ?_) B2.len
        walk_at "al"
        exact fin _ _ _ 11 45 rfl t3 (by decide) (by decide) (x3.bag B2) ((k01.trans k2).trans x3.kp)
      · walk_at "al"
        refine r_iteD (fun hg => ?_) (fun hg => ?_)
        · walk_at "al"
          refine r_draw B1 (by decide) (by decide) fun v M2 v0 v1 B2 k2 => ?_
          obtain ⟨pl, rfl⟩ := Int.eq_ofNat_of_zero_le v0
          have hpl : pl < 4 := by omega
          walk_at "al"
          refine r_pickI (xs := [if (pl : Int) - 1 > 0 then (pl : Int) - 1 else 0, if (pl : Int) + 1 < 3 then (pl : Int) + 1 else 3]) B2 (by simp) (by simp) fun w M3 hw B3 k3 => ?_
          have w0 : 0 ≤ w ∧ w < 4 := by
            simp only [List.mem_cons, List.not_mem_nil, or_false] at hw
            rcases hw with rfl | rfl <;> split <;> omega
          obtain ⟨wn, rfl⟩ := Int.eq_ofNat_of_zero_le w0.1
          have hwn : wn < 4 := by omega
          obtain ⟨n, en, n0, n1⟩ := C.num hwn
          have k13 : Kp M1 M3 := k2.trans (Kp.app.trans k3)
          walk_at "al"
          refine r_ixL (k13.2 _ _ h6 h01) en ?_
          walk_at "al"
          refine r_intN n0 n1 ?_
          walk_at "al"
          refine r_pickI (xs := [1000000 - 2, 1000000 - 1, 1000000, 1000000 + 1, n, n, if n - 1 > 0 then n - 1 else 0, n + 1]) B3 (by simp) (by simp) fun z M4 hz B4 k4 => ?_
          have z0 : 0 ≤ z ∧ z ≤ 1000001 := by
            simp only [List.mem_cons, List.not_mem_nil, or_false] at hz
            rcases hz with rfl | rfl | rfl | rfl | rfl | rfl | rfl | rfl
            all_goals (first | omega | (split <;> omega))
          have k14 : Kp M1 M4 := k13.trans (Kp.app.trans k4)
          have hS4 := k14.2 _ _ b6 hS
          have zl : (num z).length ≤ 7 := by
            rw [TL.len_tl, tl_numI z0.1]
            exact TL.numL_len (by decide) (by omega)
          walk_at "al"
          refine r_strI ⟨Nat.lt_trans (log_lt (k := 20) (by omega) (by decide)) (by decide), ?_⟩
          walk_at "al"
          refine r_subK hS4 (ixN_nat (by omega)) ?_
          exact fin _ _ M.length 11 45 rfl ⟨b6, _, at_set hS4, C.ls.set (by show (num z).length ≤ 11; omega) pl, by rw [List.length_set]; omega⟩ (by decide) (by decide) (B4.set b6) ((k01.trans k14).new (Nat.le_refl _))
        · walk_at "al"
          refine r_iteD (fun hg => ?_) (fun hg => ?_)
          · walk_at "al"
            refine r_meth ?_
            walk_at "al"
            refine ⟨rfl, ?_⟩
            walk_at "al"
            refine r_join (ys := wordsOf a b c d st rows) h01 ?_ ?_
            · have h5 := sum_le (words_len C.r C.s C.w)
              have h7 : (wordsOf a b c d st rows).length = 5 + rows.length := by rw [← wl, List.length_map]
              have c1 : space.length = 1 := by decide
              rw [c1]
              omega
            · have h5 := sum_le (words_len C.r C.s C.w)
              have h7 : (wordsOf a b c d st rows).length = 5 + rows.length := by rw [← wl, List.length_map]
              have h8 := join_len (wordsOf a b c d st rows)
              walk_at "al"
              exact r_oddsign B1 (by show (Txt.join space _).length ≤ _; omega) fun w' M2 hw' B2 k2 => h w' M2 hw' B2 (k01.trans k2)
          · exact fin _ _ M.length 11 45 rfl tS (by decide) (by decide) B1 k01
end
end
section
variable {K : PySem.W.Frag} {M : Mem} {P : PD} {E : XP} {a b c d : Int} {st : Str} {rows : List Row}
theorem r_long (C : Case a b c d st rows) {p : Nat} (B : Bag M) (h6 : 6 ≤ p) (h0 : M[p]? = some (.lst (wordsD a b c d st rows))) (h : ∀ (t : Str) M', t.length ≤ 90000 → Bag M' → Kp M M' → P (.str t) M') : wp__law_long_text K [.ref 5, .ref p] M P E := by
  have wl : (wordsD a b c d st rows).length = 5 + rows.length := wordsD_len
  have cl := C.l
  have b6 := B.len
  refine ⟨rfl, ?_⟩
  unfold n__law_long_text
  walk_at "al"
  refine r_listL h0 ?_
  walk_at "al"
  refine r_draw B.app (by decide) (by decide) fun v M1 v0 v1 B1 k1 => ?_
  have hS : M1[M.length]? = some (.lst (wordsD a b c d st rows)) := k1.2 _ _ b6 at_end
  have k01 : Kp M M1 := Kp.app.trans k1
  have cls := C.ls
  generalize wordsD a b c d st rows = ds0 at hS wl cls
  walk_at "ae"
  with_reducible refine r_seq ?_
  refine wh_inv (fun f ρ M' => ρ = [some (.ref 5), some (.ref p), some (.ref M.length), some (.int (44 + v)), none] ∧ Bag M' ∧ Kp M M' ∧ ∃ es : List D, M'[M.length]? = some (.lst es) ∧ LS 11 es ∧ es.length ≤ 48 ∧ f = (44 + v - es.length).toNat + 1) ((44 + v - (ds0.length : Int)).toNat + 1)
    ⟨rfl, B1, k01, ds0, hS, cls, by omega, rfl⟩ (fun f ρ M2 K' ⟨e1, B2, k2, es, hs, ls, hl, ef⟩ q => ?_) (fun ρ M2 ⟨_, _, _, es, _, _, _, hf⟩ => by omega)
  subst e1
  walk_at "al"
  refine r_lenL hs ?_
  walk_at "al"
  refine r_iteD (fun hg => ?_) (fun hg => ?_)
  · walk_at "al"
    refine r_meth ?_
    walk_at "al"
    refine ⟨r_tyL hs, ?_⟩
    walk_at "al"
    refine r_draw B2 (by decide) (by decide) fun u M3 u0 u1 B3 k3 => ?_
    walk_at "al"
    refine r_strI ⟨log_num u0 (by omega), ?_⟩
    walk_at "al"
    have ul := num_len u0 (by omega)
    refine r_pickLS (C := 11) B3 (.cons (by decide) (.cons (by decide) (.cons (by decide) (.cons (by decide) (.cons (by show (num u).length ≤ 11; omega) .nil))))) (by simp) (by simp) fun w M4 hw B4 k4 => ?_
    have k24 := k3.trans k4
    have hs4 := k24.2 _ _ b6 hs
    walk_at "al"
    refine r_append hs4 (by rw [sizeLine_eq]; omega) ?_
    exact q _ _ ⟨rfl, B4.set b6, (k2.trans k24).new (Nat.le_refl _), es ++ [.str w], at_set hs4, ls.append (.cons hw .nil), by simp; omega, by simp; omega⟩
  · walk_at "al"
    refine r_draw B2 (by omega) (by omega) fun u M3 u0 u1 B3 k3 => ?_
    walk_at "al"
    refine r_pickI (xs := [u, 44 + v - 1, 44]) B3 (by simp) (by simp) fun pl M4 hp B4 k4 => ?_
    have p0 : 0 ≤ pl := by
      simp only [List.mem_cons, List.not_mem_nil, or_false] at hp
      omega
    obtain ⟨pn, rfl⟩ := Int.eq_ofNat_of_zero_le p0
    have k24 : Kp M2 M4 := k3.trans (Kp.app.trans k4)
    have hs4 := k24.2 _ _ b6 hs
    have k04 := k2.trans k24
    have fin : ∀ (ρ : Sl) (M' : Mem) (s4 : Option D) (es' : List D), ρ = [some (.ref 5), some (.ref p), some (.ref M.length), some (.int (44 + v)), s4] → M'[M.length]? = some (.lst es') → LS 83 es' → es'.length ≤ 48 → Bag M' → Kp M M' →
        kRet (mMeth "str" aJoin (mC (.str " ")) (mCons (mSl (mV 2) mNoPart (mPart (mV 3))) mNil)) ρ M' (ends P E) := fun ρ M' s4 es' e1 h1 ls hl B' k => by
      subst e1
      walk_at "al"
      refine r_meth ?_
      walk_at "al"
      refine ⟨rfl, ?_⟩
      walk_at "al"
      refine r_slL h1 ?_
      walk_at "al"
      exact r_joinW at_end (ls.cut _ _) (Nat.le_trans (cut_len _ _ _) (by omega)) (by decide) fun t ht => h t _ ht B'.app (k.trans .app)
    walk_at "al"
    refine r_iteD (fun hg2 => ?_) (fun hg2 => ?_)
    · walk_at "al"
      refine r_draw B4 (by decide) (by decide) fun z M5 z0 z1 B5 k5 => ?_
      have hs5 := k5.2 _ _ b6 hs4
      walk_at "al"
      refine r_iteD (fun hg3 => ?_) (fun hg3 => ?_)
      · walk_at "al"
        have hpn : pn < es.length := by omega
        refine r_ixTx (B := 11) (N := 48) ⟨b6, es, hs5, ls, hl⟩ (fun ds e => by rw [hs5] at e; cases e; exact hpn) fun w hw => ?_
        walk_at "al"
        refine r_oddword B5 hw (by decide) fun w' M6 hw' B6 k6 => ?_
        have hs6 := k6.2 _ _ b6 hs5
        walk_at "al"
        refine r_subK hs6 (ixN_nat hpn) ?_
        exact fin _ _ _ _ rfl (at_set hs6) ((ls.mono (by decide)).set hw' pn) (by rw [List.length_set]; exact hl) (B6.set b6) (((k04.trans k5).trans k6).new (Nat.le_refl _))
      · exact fin _ _ _ _ rfl hs5 (ls.mono (by decide)) hl B5 (k04.trans k5)
    · exact fin _ _ _ _ rfl hs4 (ls.mono (by decide)) hl B4 k04
/-! ## the text read back -/
theorem free_num {i : Int} (h : 0 ≤ i) {s : Nat} (hs : s < 48 ∨ 57 < s) : s ∉ TL.tl (num i) := by
  rw [tl_numI h]
  exact TL.numL_free hs
theorem tl_on : TL.tl on_ = [111, 110] := by decide
theorem tl_off : TL.tl off_ = [111, 102, 102] := by decide
theorem free_st {s : Str} (h : OkSt s) {n : Nat} (hn : n < 102) : n ∉ TL.tl s := by
  rcases h with rfl | rfl
  · rw [tl_on]
    simp
    omega
  · rw [tl_off]
    simp
    omega
theorem tl_colon : TL.tl colon = [58] := by decide
theorem tl_space : TL.tl space = [32] := by decide
theorem free_word {r : Row} (h : OkRow r) : 32 ∉ TL.tl (wordOf r) := by
  have h1 := free_num h.1.1 (s := 32) (by omega)
  unfold wordOf
  split
  · exact h1
  · rename_i s e
    have h2 := free_st (h.2 s e) (n := 32) (by decide)
    rw [TL.tl_append, TL.tl_append]
    show 32 ∉ TL.tl (num r.1) ++ TL.tl colon ++ TL.tl s
    rw [tl_colon]
    simp only [List.mem_append, List.mem_singleton]
    rintro ((z | z) | z)
    · exact h1 z
    · cases z
    · exact h2 z
theorem split_text (C : Case a b c d st rows) : Txt.split (textOf a b c d st rows) space = wordsOf a b c d st rows := by
  obtain ⟨⟨h0, h1, h2, h3, h4⟩, hs, hw, hl⟩ := C
  refine TL.split_join tl_space space_k (by unfold wordsOf; simp) fun w hw' => ?_
  unfold wordsOf at hw'
  rcases List.mem_append.mp hw' with hw' | hw'
  · simp only [List.mem_cons, List.not_mem_nil, or_false] at hw'
    rcases hw' with rfl | rfl | rfl | rfl | rfl
    · exact free_num (by omega) (by omega)
    · exact free_num (by omega) (by omega)
    · exact free_num (by omega) (by omega)
    · exact free_num (by omega) (by omega)
    · exact free_st hs (by decide)
  · obtain ⟨x, hx, rfl⟩ := List.mem_map.mp hw'
    exact free_word (hw x hx)
theorem numL_head {n : Nat} (h : 1 ≤ n) : (TL.numL n).head? ≠ some 48 := by
  induction n using Nat.strongRecOn with
  | _ n ih =>
    by_cases hn : n < 10
    · rw [TL.numL_lt hn]
      simp
      omega
    · rw [TL.numL_step (by omega)]
      have h1 := ih (n / 10) (by omega) (by omega)
      have h2 := TL.numL_ne (n / 10)
      cases e : TL.numL (n / 10) with
      | nil => exact absurd e h2
      | cons x r =>
        rw [e] at h1
        simpa using h1
theorem rd_num {i : Int} (h : 0 ≤ i) (h2 : i ≤ 1000000) : rd (num i) = some i := by
  have ht := tl_numI h
  have hl := num_len h h2
  have hd : dgAll (num i) = true := by
    unfold dgAll
    show (TL.tl (num i)).all isDg = true
    rw [ht, List.all_eq_true]
    exact fun c hc => isDg_of (TL.numL_digits _ c hc)
  have hn : num i ≠ "" := fun e => by
    have : (num i).cps.toList = [] := str_nil.mp e
    have h3 : TL.tl (num i) = [] := this
    rw [ht] at h3
    exact TL.numL_ne _ h3
  have no1 : ¬ (num i = "" ∨ 7 < (num i).length ∨ dgAll (num i) = false) := fun z => by
    rcases z with z | z | z
    · exact hn z
    · omega
    · rw [hd] at z; cases z
  have no2 : ¬ (hd0 (num i) ∧ num i ≠ "0") := fun ⟨z1, z2⟩ => by
    by_cases hi : i = 0
    · subst hi
      exact z2 (TL.ext_tl (by decide +kernel))
    · unfold hd0 at z1
      have z1' : (TL.tl (num i)).head? = some 48 := z1
      rw [ht] at z1'
      exact numL_head (by omega) z1'
  have hv : ((NumText.digitsVal (num i).cps.toList : Nat) : Int) = i := by
    show ((NumText.digitsVal (TL.tl (num i)) : Nat) : Int) = i
    rw [ht, TL.numL_val]
    omega
  unfold rd nof
  rw [if_neg no1, if_neg no2]
  simp only [hv, h2, if_true]
theorem row_back {r : Row} (h : OkRow r) : rowOf (wordOf r) = some r := by
  obtain ⟨v, s⟩ := r
  have h1 := rd_num h.1.1 h.1.2
  have f1 := free_num h.1.1 (s := 58) (by omega)
  simp only at h1 f1
  cases s with
  | none =>
    have e : Txt.split (num v) colon = [num v] := by
      have := TL.split_join (y := colon) tl_colon colon_k (parts := [num v]) (by simp) (by intro p hp; rw [List.mem_singleton.mp hp]; exact f1)
      rwa [TL.join_eq] at this
    unfold rowOf wordOf
    simp only [e, h1]
  | some s =>
    have hs := h.2 s rfl
    have e : Txt.split (num v ++ colon ++ s) colon = [num v, s] := by
      have := TL.split_join (y := colon) tl_colon colon_k (parts := [num v, s]) (by simp) (by
        intro p hp
        simp only [List.mem_cons, List.not_mem_nil, or_false] at hp
        rcases hp with rfl | rfl
        · exact f1
        · exact free_st hs (by decide))
      rwa [TL.join_eq] at this
    unfold rowOf wordOf
    simp only [e, h1, okStB_iff.mpr hs, if_true]
theorem due_rows {ns : List Int} : ∀ (xs ys : List Row) (i : Nat), (∀ r ∈ xs, OkRow r) → 5 ≤ i → i + xs.length ≤ 45 → due i ns ys (xs.map wordOf) = .inr (ns, ys ++ xs)
  | [], ys, i, _, _, _ => by
    rw [List.append_nil]
    rfl
  | x :: xs, ys, i, h, h5, hl => by
    rw [List.length_cons] at hl
    rw [List.map_cons, due_cons, if_neg (by omega), if_neg (by omega), row_back (h x (by simp))]
    simp only
    rw [if_pos (by omega), due_rows xs (ys ++ [x]) (i + 1) (fun r hr => h r (by simp [hr])) (by omega) (by omega), List.append_assoc]
    rfl
theorem judge_text (C : Case a b c d st rows) : judge (Txt.split (textOf a b c d st rows) space) = .inr ([a, b, c, d], st, rows) := by
  rw [split_text C]
  obtain ⟨⟨h0, h1, h2, h3, h4⟩, hs, hw, hl⟩ := C
  have e : due 0 [] [] (wordsOf a b c d st rows) = .inr ([a, b, c, d], rows) := by
    show due 0 [] [] (num a :: num b :: num c :: num d :: st :: rows.map wordOf) = _
    rw [due_cons, if_pos (by decide), rd_num (by omega) (by omega)]
    simp only
    rw [if_pos (by simp only [ok4, decide_eq_true_eq]; omega), due_cons, if_pos (by decide), rd_num (by omega) (by omega)]
    simp only
    rw [if_pos (by simp only [List.nil_append, ok4, Bool.and_eq_true, decide_eq_true_eq]; omega), due_cons, if_pos (by decide), rd_num (by omega) (by omega)]
    simp only
    rw [if_pos (by simp only [List.nil_append, List.cons_append, ok4, decide_eq_true_eq]; omega), due_cons, if_pos (by decide), rd_num (by omega) (by omega)]
    simp only
    rw [if_pos (by simp only [List.nil_append, List.cons_append, ok4, decide_eq_true_eq]; omega), due_cons, if_neg (by decide), if_pos (by decide), if_pos (okStB_iff.mpr hs), due_rows rows [] _ hw (by decide) (by omega)]
    rfl
  unfold judge
  rw [e]
  rfl
end
section
variable {K : PySem.W.Frag} {M : Mem} {P : PD} {E : XP} {a b c d : Int} {st : Str} {rows : List Row}
theorem low_app {s t : Str} (h : Low s) (r : Low t) : Low (s ++ t) := fun n hn => by
  rw [TL.tl_append] at hn
  exact (List.mem_append.mp hn).elim (h n) (r n)
theorem low_num {i : Int} (h : 0 ≤ i) : Low (num i) := fun n hn => by
  rw [tl_numI h] at hn
  have := TL.numL_digits _ n hn
  omega
theorem low_word {r : Row} (h : OkRow r) : Low (wordOf r) := by
  unfold wordOf
  split
  · exact low_num h.1.1
  · rename_i s e
    refine low_app (low_app (low_num h.1.1) ?_) (low_st (h.2 s e))
    exact (by decide +kernel : ∀ n ∈ TL.tl colon, n < 1000)
theorem low_words (C : Case a b c d st rows) : ∀ w ∈ wordsOf a b c d st rows, Low w := by
  obtain ⟨⟨h0, h1, h2, h3, h4⟩, hs, hw, hl⟩ := C
  intro w hw'
  unfold wordsOf at hw'
  rcases List.mem_append.mp hw' with hw' | hw'
  · simp only [List.mem_cons, List.not_mem_nil, or_false] at hw'
    rcases hw' with rfl | rfl | rfl | rfl | rfl
    · exact low_num (by omega)
    · exact low_num (by omega)
    · exact low_num (by omega)
    · exact low_num (by omega)
    · exact low_st hs
  · obtain ⟨x, hx, rfl⟩ := List.mem_map.mp hw'
    exact low_word (hw x hx)
theorem low_joinL {S : List Nat} (hS : ∀ n ∈ S, n < 1000) : ∀ {ps : List (List Nat)}, (∀ p ∈ ps, ∀ n ∈ p, n < 1000) → ∀ n ∈ TL.joinL S ps, n < 1000
  | [], _, n, hn => by cases hn
  | [p], h, n, hn => h p (by simp) n hn
  | p :: q :: r, h, n, hn => by
    have hn' : n ∈ p ++ (S ++ TL.joinL S (q :: r)) := hn
    rcases List.mem_append.mp hn' with z | z
    · exact h p (by simp) n z
    · rcases List.mem_append.mp z with z | z
      · exact hS n z
      · exact low_joinL hS (fun x hx => h x (by simp at hx ⊢; exact .inr hx)) n z
theorem low_text (C : Case a b c d st rows) : Low (textOf a b c d st rows) := by
  unfold textOf Low
  rw [TL.join_eq, TL.tl_join]
  refine low_joinL (by decide +kernel : ∀ n ∈ TL.tl space, n < 1000) fun p hp => ?_
  obtain ⟨w, hw, rfl⟩ := List.mem_map.mp hp
  exact low_words C w hw
theorem text_len (C : Case a b c d st rows) : (textOf a b c d st rows).length ≤ 600 := by
  have h5 := sum_le (words_len C.r C.s C.w)
  have h7 : (wordsOf a b c d st rows).length = 5 + rows.length := by
    have := wordsD_len (a := a) (b := b) (c := c) (d := d) (st := st) (rows := rows)
    rwa [List.length_map] at this
  have h8 := join_len (wordsOf a b c d st rows)
  have := C.l
  show (Txt.join space _).length ≤ _
  omega
theorem fit_words (C : Case a b c d st rows) : FitAll 600 0 ((wordsOf a b c d st rows).map .str) := by
  have h7 : (wordsOf a b c d st rows).length = 5 + rows.length := by
    have := wordsD_len (a := a) (b := b) (c := c) (d := d) (st := st) (rows := rows)
    rwa [List.length_map] at this
  have := C.l
  exact (FitAll.map fun w hw => (Fit.str (low_words C w hw)).mono (words_len C.r C.s C.w w hw) (Nat.le_refl 0)).mono (by omega) (Nat.le_refl _)
theorem ds_strs (M : Mem) : ∀ ws : List Str, DSs M (ws.map D.str) (ws.map PyData.str)
  | [] => .nil
  | w :: ws => .cons (.str w) (ds_strs M ws)
theorem right_case (C : Case a b c d st rows) : Right (.inr ([a, b, c, d], st, rows)) := by
  obtain ⟨⟨h0, h1, h2, h3, h4⟩, hs, hw, hl⟩ := C
  refine ⟨fun n hn => ?_, by simp, hs, hw, hl⟩
  simp only [List.mem_cons, List.not_mem_nil, or_false] at hn
  omega
theorem fit_dict {k dp : Nat} {t : Str} {p : PyData} (ht : Low t) (h : Fit k dp p) : Fit (t.length + k + 2) (dp + 1) (.dict [(.str t, p)]) := by
  have h1 := Fit.str ht
  refine ⟨?_, ?_, ?_, ?_⟩
  · rw [PyData.showable, PyData.showableKv, h1.sh, h.sh]; rfl
  · rw [PyData.depth, PyData.depthKv, PyData.depthKv]
    have := h1.dp
    have := h.dp
    omega
  · rw [PyData.leavesShort, PyData.leavesShortKv, h1.lv, h.lv]; rfl
  · rw [PyData.bulk, PyData.bulkKv, PyData.bulkKv]
    have := h1.bk
    have := h.bk
    omega
/-- the values that are no texts, and what they are told as -/
theorem kit_non : kitB "NoneType" "str" = some false := by decide +kernel
theorem kit_int : kitB "int" "str" = some false := by decide +kernel
theorem kit_bool : kitB "bool" "str" = some false := by decide +kernel
theorem kit_tup : kitB "tuple" "str" = some false := by decide +kernel
theorem kit_lst : kitB "list" "str" = some false := by decide +kernel
theorem kit_dic : kitB "dict" "str" = some false := by decide +kernel
theorem low_tx : Low "text" := (by decide +kernel : ∀ c ∈ TL.tl "text", c < 1000)
theorem r_disp1 {ρ : Sl} {s : Str} {v : D} {mv : ME} (hv : ∀ (M' : Mem) (Q : PD), Q v M' → mv ρ M' Q E) (h : P (.ref M.length) (M ++ [.dic [(.inr s, v)]])) : mDisp [(mC (.str s), mv)] ρ M P E := by
  refine hv _ _ ⟨at_end, ?_⟩
  refine ⟨Nat.le_of_ble_eq_true rfl, ?_⟩
  have e : (M ++ [MO.dic []]).set M.length (.dic (mergeD [] [(.inr s, v)])) = M ++ [.dic [(.inr s, v)]] := by
    have e2 : mergeD [] [(Sum.inr s, v)] = [(.inr s, v)] := rfl
    rw [e2]
    simp
  rw [e]
  exact h
theorem r_dnew {ρ : Sl} (h : P (.ref M.length) (M ++ [.dic []])) : mDNew ρ M P E := h
/-- the values and what they hold -/
structure VOk (M : Mem) (a b c d : Int) (st : Str) (rows : List Row) (V p mx i1 i2 i3 : Nat) (z : Int) : Prop where
  v : M[V]? = some (.lst [.non, .int z, .bl true, .tup [numD [a, b, c, d], .tup [.str st, .tup (rows.map rowD)]], .tup (wordsD a b c d st rows), .ref p, .ref mx, .ref i1, .tup [], .int (-1), .ref i2, .ref i3])
  w : M[p]? = some (.lst (wordsD a b c d st rows))
  m : M[mx]? = some (.dic [(.inr "text", .str (textOf a b c d st rows))])
  e1 : M[i1]? = some (.lst [])
  e2 : M[i2]? = some (.lst [.str (textOf a b c d st rows)])
  e3 : M[i3]? = some (.dic [])
  l : 6 ≤ V ∧ 6 ≤ p ∧ 6 ≤ mx ∧ 6 ≤ i1 ∧ 6 ≤ i2 ∧ 6 ≤ i3
theorem VOk.kp {M M' : Mem} {V p mx i1 i2 i3 : Nat} {z : Int} (v : VOk M a b c d st rows V p mx i1 i2 i3 z) (k : Kp M M') : VOk M' a b c d st rows V p mx i1 i2 i3 z := by
  obtain ⟨h1, h2, h3, h4, h5, h6, l1, l2, l3, l4, l5, l6⟩ := v
  exact ⟨k.2 _ _ l1 h1, k.2 _ _ l2 h2, k.2 _ _ l3 h3, k.2 _ _ l4 h4, k.2 _ _ l5 h5, k.2 _ _ l6 h6, l1, l2, l3, l4, l5, l6⟩
def valsP (a b c d : Int) (st : Str) (rows : List Row) (z : Int) : PyData := .list [.none, .int z, .bool true, .tuple [.tuple ([a, b, c, d].map .int), .tuple [.str st, .tuple (rows.map rowP)]], .tuple ((wordsOf a b c d st rows).map .str), .list ((wordsOf a b c d st rows).map .str),
  .dict [(.str "text", .str (textOf a b c d st rows))], .list [], .tuple [], .int (-1), .list [.str (textOf a b c d st rows)], .dict []]
theorem VOk.ds {V p mx i1 i2 i3 : Nat} {z : Int} (v : VOk M a b c d st rows V p mx i1 i2 i3 z) : DS M (.ref V) (valsP a b c d st rows z) := by
  refine .lst v.v (.cons .non (.cons (.int z) (.cons (.bl true) (.cons (.tup (.cons (.tup (ds_ints M [a, b, c, d])) (.cons (.tup (.cons (.str _) (.cons (.tup (ds_rows M rows)) .nil))) .nil))) (.cons (.tup (ds_strs M _)) (.cons (.lst v.w (ds_strs M _)) (.cons ?_ (.cons (.lst v.e1 .nil) (.cons (.tup .nil) (.cons (.int _) (.cons (.lst v.e2 (.cons (.str _) .nil)) (.cons ?_ .nil))))))))))))
  · exact DS.dic (kvs := [(.inr "text", .str (textOf a b c d st rows))]) v.m (.cons (.str _) .nil)
  · exact DS.dic (kvs := []) v.e3 .nil
theorem fit_edict : Fit 0 1 (.dict []) := ⟨rfl, by decide, rfl, Nat.le_refl _⟩
theorem fit_vals (C : Case a b c d st rows) {z : Int} (z0 : 0 ≤ z) (z1 : z ≤ 1000000) : Fit 9000 6 (valsP a b c d st rows z) := by
  have tl := text_len C
  have fw := fit_words C
  have ft : Fit 600 0 (.str (textOf a b c d st rows)) := (Fit.str (low_text C)).mono tl (Nat.le_refl _)
  have fn : Fit 4 5 (.tuple ([a, b, c, d].map .int)) := by
    have := right_case C
    exact (fit_nums this.1 this.2.1).mono (Nat.le_refl _) (by decide)
  have fl : Fit 300 4 (.tuple [.str st, .tuple (rows.map rowP)]) := (fit_log C.s C.w C.l).mono (Nat.le_refl _) (by decide)
  have h4 : Fit 310 5 (.tuple [.tuple ([a, b, c, d].map .int), .tuple [.str st, .tuple (rows.map rowP)]]) := by
    have fn' : Fit 4 4 (.tuple ([a, b, c, d].map .int)) := by
      have := right_case C
      exact (fit_nums this.1 this.2.1).mono (Nat.le_refl _) (by decide)
    exact (Fit.tuple (FitAll.cons fn' (FitAll.cons fl .nil))).mono (by decide) (Nat.le_refl _)
  have l4 : ("text" : Str).length = 4 := by decide
  have fd : Fit 606 5 (.dict [(.str "text", .str (textOf a b c d st rows))]) := (fit_dict low_tx ft).mono (by rw [l4]; omega) (by decide)
  refine (Fit.list (dp := 5) (FitAll.cons (Fit.non.mono (Nat.le_refl _) (by decide)) (FitAll.cons ((Fit.int z0 z1).mono (Nat.le_refl _) (by decide)) (FitAll.cons (Fit.bl.mono (Nat.le_refl _) (by decide)) (FitAll.cons h4 (FitAll.cons ((Fit.tuple fw).mono (Nat.le_refl _) (by decide)) (FitAll.cons ((Fit.list fw).mono (Nat.le_refl _) (by decide))
    (FitAll.cons fd (FitAll.cons ((Fit.list FitAll.nil (dp := 0)).mono (Nat.le_refl _) (by decide)) (FitAll.cons ((Fit.tuple FitAll.nil (dp := 0)).mono (Nat.le_refl _) (by decide)) (FitAll.cons (Fit.neg1.mono (Nat.le_refl _) (by decide)) (FitAll.cons ((Fit.list (FitAll.cons ft .nil)).mono (Nat.le_refl _) (by decide)) (FitAll.cons (fit_edict.mono (Nat.le_refl _) (by decide)) .nil))))))))))))).mono (by decide) (by decide)
theorem r_badP {q : Nat} (h0 : M[q]? = some (.lst [.str "BadText", .non])) (h : P (.str (PyData.list [.str "BadText", .none]).shown) M) : fRepr (.ref q) M P :=
  r_repr (.lst h0 (.cons (.str _) (.cons .non .nil))) (Fit.list (FitAll.cons (.str low_bad) (FitAll.cons .non .nil))) (by decide) (by decide) h
/-- told of a value that is picked -/
theorem r_pickTold (ko : KOk K) (B : Bag M) {V p mx i1 i2 i3 : Nat} {z : Int} (v : VOk M a b c d st rows V p mx i1 i2 i3 z)
    (h : ∀ y M', Bag M' → Kp M M' → (∀ (P : PD), (∀ M2 q, Old M' M2 → M2[q]? = some (.lst [.str "BadText", .non]) → P (.ref q) M2) → wp__law_told K [y] M' P E) → P y M') : wp__law_pick K [.ref 5, .ref V] M P E := by
  refine r_pickL B v.l.1 v.v (by simp) (by simp) fun y M' hy B' k => h y M' B' k fun P hP => ?_
  have v' := v.kp k
  have go : ∀ {t : String}, kind? y M' = some t → kitB t "str" = some false → wp__law_told K [y] M' P E := fun h1 h2 => r_toldN ko h1 h2 fun M2 q o hq _ => hP M2 q o hq
  simp only [List.mem_cons, List.not_mem_nil, or_false] at hy
  rcases hy with rfl | rfl | rfl | rfl | rfl | rfl | rfl | rfl | rfl | rfl | rfl | rfl
  · exact go rfl kit_non
  · exact go rfl kit_int
  · exact go rfl kit_bool
  · exact go rfl kit_tup
  · exact go rfl kit_tup
  · exact go (by simp only [kind?, v'.w]) kit_lst
  · exact go (by simp only [kind?, v'.m]) kit_dic
  · exact go (by simp only [kind?, v'.e1]) kit_lst
  · exact go rfl kit_tup
  · exact go rfl kit_int
  · exact go (by simp only [kind?, v'.e2]) kit_lst
  · exact go (by simp only [kind?, v'.e3]) kit_dic
/-- the last part of the law: values that are no texts -/
theorem r_last (ko : KOk K) (C : Case a b c d st rows) {p : Nat} {s7 s8 : Option D} {s6 : D} (B : Bag M) (h6 : 6 ≤ p) (hw : M[p]? = some (.lst (wordsD a b c d st rows))) (h : ∀ M', P (.bl true) M') :
    kSeq (kSet 9 (mDisp [((mC (.str "text")), (mV 4))]))
  (kSeq (kSet 10 (mLst (mCons (mC .non) (mCons (mFn (wp__law_draw K) (mCons (mV 1) (mCons (mC (.int 100)) mNil))) (mCons (mC (.bl true)) (mCons (mTup (mCons (mV 2) (mCons (mV 3) mNil))) (mCons (mCall (a1 fTuple) (mCons (mV 5) mNil)) (mCons (mV 5) (mCons (mV 9) (mCons (mLst mNil) (mCons (mTup mNil) (mCons (mNeg (mC (.int 1))) (mCons (mLst (mCons (mV 4) mNil)) (mCons mDNew mNil))))))))))))))
  (kSeq (kSet 11 (mCall (a1 fRepr) (mCons (mV 10) mNil)))
  (kSeq (kFor (iRange1 (mC (.int 3))) (gN 8)
  (kSeq (kSet 12 (mFn (wp__law_told K) (mCons (mFn (wp__law_pick K) (mCons (mV 1) (mCons (mV 10) mNil))) mNil)))
  (kIf (mTest (m2' aNe (mCall (a1 fRepr) (mCons (mV 12) mNil)) (mCall (a1 fRepr) (mCons (mLst (mCons (mC (.str "BadText")) (mCons (mC .non) mNil))) mNil)))) (kRet (mC (.bl false))) kNext)))
  (kRet (mAndV (mFn (wp__law_is_right K) (mCons (mV 4) mNil)) (m2' aEq (mCall (a1 fRepr) (mCons (mV 10) mNil)) (mV 11)))))))
  [some (.ref 0), some (.ref 5), some (.tup [.int a, .int b, .int c, .int d]), some (.tup [.str st, .tup (rows.map rowD)]), some (.str (textOf a b c d st rows)), some (.ref p), some s6, s7, s8, none, none, none, none] M (ends P E) := by
  have b6 := B.len
  have tl := text_len C
  walk_at "al"
  refine r_disp1 (v := .str (textOf a b c d st rows)) (fun M' Q q => ?_) ?_
  · walk_at "al"
    exact q
  walk_at "al"
  refine r_draw B.app (by decide) (by decide) fun z M1 z0 z1 B1 k1 => ?_
  have k01 : Kp M M1 := Kp.app.trans k1
  have w1 := k01.2 _ _ h6 hw
  have x1 := k1.2 _ _ b6 (at_end (M := M) (o := .dic [(.inr "text", .str (textOf a b c d st rows))]))
  have b1 := B1.len
  walk_at "al"
  refine r_tupL w1 ?_
  walk_at "al"
  refine r_dnew ?_
  walk_at "al"
  have n1 : (M1 ++ [MO.lst []]).length = M1.length + 1 := by simp
  have n2 : (M1 ++ [MO.lst []] ++ [MO.lst [D.str (textOf a b c d st rows)]]).length = M1.length + 2 := by simp
  have n3 : (M1 ++ [MO.lst []] ++ [MO.lst [D.str (textOf a b c d st rows)]] ++ [MO.dic []]).length = M1.length + 3 := by simp
  rw [n1, n2, n3]
  generalize hM2 : M1 ++ [MO.lst []] ++ [MO.lst [D.str (textOf a b c d st rows)]] ++ [MO.dic []] ++ [MO.lst [D.non, D.int z, D.bl true, D.tup [D.tup [D.int a, D.int b, D.int c, D.int d], D.tup [D.str st, D.tup (rows.map rowD)]], D.tup (wordsD a b c d st rows), D.ref p, D.ref M.length, D.ref M1.length, D.tup [], D.int (-1), D.ref (M1.length + 1), D.ref (M1.length + 2)]] = M2
  have k12 : Kp M1 M2 := by rw [← hM2]; exact ((Kp.app.trans .app).trans .app).trans .app
  have B2 : Bag M2 := by rw [← hM2]; exact B1.app.app.app.app
  have v : VOk M2 a b c d st rows (M1.length + 3) p M.length M1.length (M1.length + 1) (M1.length + 2) z := by
    refine ⟨?_, k12.2 _ _ h6 w1, k12.2 _ _ b6 x1, ?_, ?_, ?_, by omega, h6, b6, b1, by omega, by omega⟩
    · rw [← hM2, ← n3]; exact at_end
    · rw [← hM2]; exact at_l (at_l (at_l at_end))
    · rw [← hM2, ← n1]; exact at_l (at_l at_end)
    · rw [← hM2, ← n2]; exact at_l at_end
  clear hM2 n1 n2 n3
  have fv := fit_vals C z0 (by omega)
  refine r_repr v.ds fv (by decide) (by decide) ?_
  walk_at "al"
  refine ⟨⟨by decide, by decide⟩, ?_⟩
  refine forA_inv (fun _ ρ M' => ∃ s8 s12, ρ = [some (.ref 0), some (.ref 5), some (.tup [.int a, .int b, .int c, .int d]), some (.tup [.str st, .tup (rows.map rowD)]), some (.str (textOf a b c d st rows)), some (.ref p), some s6, s7, s8, some (.ref M.length), some (.ref (M1.length + 3)), some (.str (valsP a b c d st rows z).shown), s12] ∧ Bag M' ∧ Kp M2 M')
    ⟨_, _, rfl, B2, .refl⟩ (fun i x ρ M' K' hx ⟨s8, s12, e1, B', kp⟩ q => ?_) (fun ρ M' ⟨s8, s12, e1, B', kp⟩ => ?_)
  · subst e1
    refine ⟨trivial, _, rfl, ?_⟩
    walk_at "al"
    refine r_pickTold ko B' (v.kp kp) fun y M3 B3 k3 told => ?_
    walk_at "al"
    refine told _ fun M4 q4 o4 h4 => ?_
    walk_at "al"
    refine r_badP h4 ?_
    walk_at "al"
    refine r_badP at_end ?_
    walk_at "al"
    refine r_iteN (fun z => absurd rfl z) (fun _ => ?_)
    walk_at "al"
    exact q _ _ ⟨_, _, rfl, (o4.bag B3).app, ((kp.trans k3).trans o4.kp).trans .app⟩
  · subst e1
    refine ⟨trivial, ?_⟩
    walk_at "al"
    refine r_right ko (by omega) fun M3 o3 => ?_
    walk_at "al"
    refine r_repr ((v.kp kp).kp o3.kp).ds fv (by decide) (by decide) ?_
    walk_at "al"
    rw [decide_eq_true rfl]
    exact h _
end
section
variable {K : PySem.W.Frag} {M : Mem} {P : PD} {E : XP} {a b c d : Int} {st : Str} {rows : List Row}
/-- THE READING: the law says True -/
theorem r_law (ko : KOk K) {ns : List Int} (hn : ns.length ≤ 63) (h : ∀ M', P (.bl true) M') : wp_law K [.ref 0] [.fls (ns.map .int)] P E := by
  refine ⟨rfl, ?_⟩
  unfold n_law
  walk_at "al"
  refine r_bag hn fun M1 B1 => ?_
  walk_at "al"
  refine r_ranges B1 fun a b c d M2 r B2 _ => ?_
  walk_at "ae"
  with_reducible refine r_seqJ (fun ρ' M' => Bag M' ∧ ∃ a b c d, OkR a b c d ∧ ρ' = [some (.ref 0), some (.ref 5), some (.tup [.int a, .int b, .int c, .int d]), none, none, none, none, none, none, none, none, none, none]) (fun NX hx => ?_) ?_
  · walk_at "al"
    refine r_draw B2 (by decide) (by decide) fun v M3 _ _ B3 _ => ?_
    walk_at "al"
    refine r_iteD (fun hg => ?_) (fun hg => ?_)
    · walk_at "al"
      refine r_pickL B3.app B3.len at_end (by simp) (by simp) fun y M4 hy B4 _ => ?_
      walk_at "al"
      simp only [List.mem_cons, List.not_mem_nil, or_false] at hy
      rcases hy with rfl | rfl | rfl | rfl
      · exact hx _ _ ⟨B4, _, _, _, _, ⟨by decide, by decide, by decide, by decide, by decide⟩, rfl⟩
      · exact hx _ _ ⟨B4, _, _, _, _, ⟨by decide, by decide, by decide, by decide, by decide⟩, rfl⟩
      · exact hx _ _ ⟨B4, _, _, _, _, ⟨by decide, by decide, by decide, by decide, by decide⟩, rfl⟩
      · exact hx _ _ ⟨B4, _, _, _, _, ⟨by decide, by decide, by decide, by decide, by decide⟩, rfl⟩
    · walk_at "al"
      exact hx _ _ ⟨B3, a, b, c, d, r, rfl⟩
  clear r B2 B1 hn
  rintro ρ' M3 ⟨B3, a, b, c, d, r, rfl⟩
  walk_at "al"
  refine r_pickI (xs := [0, 1, 2, 3, 7, 20, 39, 40]) B3 (by simp) (by simp) fun many M4 hm B4 _ => ?_
  have hm : 0 ≤ many ∧ many ≤ 40 := by
    simp only [List.mem_cons, List.not_mem_nil, or_false] at hm
    omega
  walk_at "al"
  refine r_log B4 r hm.1 hm.2 fun st rows M5 hs hw hl B5 _ => ?_
  have C : Case a b c d st rows := ⟨r, hs, hw, hl⟩
  clear hs hw hl hm B4 B3
  walk_at "al"
  refine r_text B5 C.r C.s C.w C.l fun M6 B6 _ => ?_
  have tl := text_len C
  have jt := judge_text C
  have sp := split_text C
  have rc := right_case C
  walk_at "al"
  refine r_meth ?_
  walk_at "al"
  refine ⟨rfl, ?_⟩
  walk_at "al"
  refine r_split (t := space) (by decide) (by rw [sizeLine_eq]; omega) ?_
  rw [sp]
  have b6 := B6.len
  walk_at "al"
  generalize hM7 : M6 ++ [MO.lst ((wordsOf a b c d st rows).map D.str)] ++ [MO.lst [D.str "case", D.tup [D.int a, D.int b, D.int c, D.int d], D.tup [D.str st, D.tup (rows.map rowD)]]] = M7
  have B7 : Bag M7 := by rw [← hM7]; exact B6.app.app
  have w7 : M7[M6.length]? = some (.lst (wordsD a b c d st rows)) := by rw [← hM7]; exact at_l at_end
  have eq1 : (M6 ++ [MO.lst ((wordsOf a b c d st rows).map D.str)]).length = M6.length + 1 := by simp
  have d7 : M7[M6.length + 1]? = some (.lst (resD (.inr ([a, b, c, d], st, rows)))) := by rw [← hM7, ← eq1]; exact at_end
  rw [eq1]
  refine r_toldS ko (by omega) fun M8 q8 o8 h8 _ => ?_
  rw [jt] at h8
  walk_at "al"
  refine r_reprRes rc h8 ?_
  walk_at "al"
  refine r_reprRes rc (o8.2 _ _ d7) ?_
  walk_at "al"
  refine r_iteN (fun z => absurd rfl z) (fun _ => ?_)
  walk_at "al"
  refine r_toldS ko (by omega) fun M9 q9 o9 h9 _ => ?_
  rw [jt] at h9
  have o79 := o8.trans o9
  walk_at "al"
  refine r_neRes rc h9 (o79.2 _ _ d7) ?_
  walk_at "al"
  have B9 := o79.bag B7
  have b9 := B9.len
  have w9 := o79.2 _ _ w7
  generalize hX : M9 ++ [MO.lst [D.int 0, D.int 4, D.int 4, D.int 2, D.int 0, D.int 3, D.int 4, D.int 4, D.int 1, D.int 0, D.int 4, D.int 0, D.int 5, D.int 2, D.int 4, D.int 0, D.int 5]] = M10
  have e10 : M10[M9.length]? = some (.lst [D.int 0, D.int 4, D.int 4, D.int 2, D.int 0, D.int 3, D.int 4, D.int 4, D.int 1, D.int 0, D.int 4, D.int 0, D.int 5, D.int 2, D.int 4, D.int 0, D.int 5]) := by rw [← hX]; exact at_end
  have B10 : Bag M10 := by rw [← hX]; exact B9.app
  have w10 : M10[M6.length]? = some (.lst (wordsD a b c d st rows)) := by rw [← hX]; exact at_l w9
  clear hX hM7
  refine r_iL e10 ?_
  refine forA_inv (fun _ ρ M' => ∃ s7, ρ = [some (.ref 0), some (.ref 5), some (.tup [.int a, .int b, .int c, .int d]), some (.tup [.str st, .tup (rows.map rowD)]), some (.str (textOf a b c d st rows)), some (.ref M6.length), some (.ref (M6.length + 1)), s7, none, none, none, none, none] ∧ Bag M' ∧ Kp M10 M')
    ⟨_, rfl, B10, .refl⟩ (fun i x ρ M' K' hx ⟨s7, e1, B', kp⟩ q => ?_) (fun ρ M' ⟨s7, e1, B', kp⟩ => ?_)
  · subst e1
    obtain ⟨way, rfl⟩ : ∃ way : Int, x = .int way := by
      obtain ⟨w, hw, _⟩ := mem_ints (xs := [0, 4, 4, 2, 0, 3, 4, 4, 1, 0, 4, 0, 5, 2, 4, 0, 5]) (List.mem_of_getElem? hx)
      exact ⟨w, hw⟩
    refine ⟨kp.2 _ _ b9 e10, _, rfl, ?_⟩
    have w' := kp.2 _ _ b6 w10
    walk_at "al"
    refine r_odd C B' b6 w' fun t M11 ht B11 k11 => ?_
    walk_at "al"
    refine r_right ko ht fun M12 o12 => ?_
    walk_at "al"
    refine r_iteD (fun hg => ?_) (fun hg => ?_)
    · walk_at "al"
      refine r_right ko (by omega) fun M13 o13 => ?_
      walk_at "al"
      exact q _ _ ⟨_, rfl, o13.bag (o12.bag B11), ((kp.trans k11).trans o12.kp).trans o13.kp⟩
    · walk_at "al"
      exact q _ _ ⟨_, rfl, o12.bag B11, (kp.trans k11).trans o12.kp⟩
  subst e1
  refine ⟨kp.2 _ _ b9 e10, ?_⟩
  have wA := kp.2 _ _ b6 w10
  walk_at "al"
  refine ⟨⟨by decide, by decide⟩, ?_⟩
  refine forA_inv (fun _ ρ M' => ∃ s8, ρ = [some (.ref 0), some (.ref 5), some (.tup [.int a, .int b, .int c, .int d]), some (.tup [.str st, .tup (rows.map rowD)]), some (.str (textOf a b c d st rows)), some (.ref M6.length), some (.ref (M6.length + 1)), s7, s8, none, none, none, none] ∧ Bag M' ∧ Kp M10 M')
    ⟨_, rfl, B', kp⟩ (fun i x ρ M' K' hx ⟨s8, e1, B', kp⟩ q => ?_) (fun ρ M' ⟨s8, e1, B', kp⟩ => ?_)
  · subst e1
    refine ⟨trivial, _, rfl, ?_⟩
    have w' := kp.2 _ _ b6 w10
    walk_at "al"
    refine r_long C B' b6 w' fun t M11 ht B11 k11 => ?_
    walk_at "al"
    refine r_right ko ht fun M12 o12 => ?_
    walk_at "al"
    exact q _ _ ⟨_, rfl, o12.bag B11, (kp.trans k11).trans o12.kp⟩
  subst e1
  refine ⟨trivial, ?_⟩
  have w' := kp.2 _ _ b6 w10
  exact r_last ko C B' b6 w' h
end
end K56
set_option maxHeartbeats 0
namespace K56
open PySem PySem.Spec PyProof.Rows L2 AL
def d__law_bag : He.DefD := ⟨("_law_bag", none), "_law_bag", "_law_bag", defArgs (top 36), defBody (top 36), defScope (top 36), [], []⟩
def d__law_draw : He.DefD := ⟨("_law_draw", none), "_law_draw", "_law_draw", defArgs (top 37), defBody (top 37), defScope (top 37), [], []⟩
def d__law_pick : He.DefD := ⟨("_law_pick", none), "_law_pick", "_law_pick", defArgs (top 38), defBody (top 38), defScope (top 38), [], []⟩
def d__law_own_ranges : He.DefD := ⟨("_law_own_ranges", none), "_law_own_ranges", "_law_own_ranges", defArgs (top 39), defBody (top 39), defScope (top 39), [], []⟩
def d__law_own_reading : He.DefD := ⟨("_law_own_reading", none), "_law_own_reading", "_law_own_reading", defArgs (top 40), defBody (top 40), defScope (top 40), [], []⟩
def d__law_own_log : He.DefD := ⟨("_law_own_log", none), "_law_own_log", "_law_own_log", defArgs (top 41), defBody (top 41), defScope (top 41), [], []⟩
def d__law_own_text : He.DefD := ⟨("_law_own_text", none), "_law_own_text", "_law_own_text", defArgs (top 42), defBody (top 42), defScope (top 42), [], []⟩
def d_number_of : He.DefD := ⟨("number_of", none), "number_of", "number_of", defArgs (top 30), defBody (top 30), defScope (top 30), [], []⟩
def d_reading_of : He.DefD := ⟨("reading_of", none), "reading_of", "reading_of", defArgs (top 31), defBody (top 31), defScope (top 31), [], []⟩
def d_is_state : He.DefD := ⟨("is_state", none), "is_state", "is_state", defArgs (top 27), defBody (top 27), defScope (top 27), [], []⟩
def d_row_of : He.DefD := ⟨("row_of", none), "row_of", "row_of", defArgs (top 32), defBody (top 32), defScope (top 32), [], []⟩
def d_goes_on : He.DefD := ⟨("goes_on", none), "goes_on", "goes_on", defArgs (top 33), defBody (top 33), defScope (top 33), [], []⟩
def d_parse_case : He.DefD := ⟨("parse_case", none), "parse_case", "parse_case", defArgs (top 34), defBody (top 34), defScope (top 34), [], []⟩
def d__law_told : He.DefD := ⟨("_law_told", none), "_law_told", "_law_told", defArgs (top 50), defBody (top 50), defScope (top 50), [], []⟩
def d__law_goes_on : He.DefD := ⟨("_law_goes_on", none), "_law_goes_on", "_law_goes_on", defArgs (top 45), defBody (top 45), defScope (top 45), [], []⟩
def d__law_number : He.DefD := ⟨("_law_number", none), "_law_number", "_law_number", defArgs (top 43), defBody (top 43), defScope (top 43), [], []⟩
def d__law_row : He.DefD := ⟨("_law_row", none), "_law_row", "_law_row", defArgs (top 44), defBody (top 44), defScope (top 44), [], []⟩
def d__law_due : He.DefD := ⟨("_law_due", none), "_law_due", "_law_due", defArgs (top 46), defBody (top 46), defScope (top 46), [], []⟩
def d__law_is_right : He.DefD := ⟨("_law_is_right", none), "_law_is_right", "_law_is_right", defArgs (top 51), defBody (top 51), defScope (top 51), [], []⟩
def d__law_odd_word : He.DefD := ⟨("_law_odd_word", none), "_law_odd_word", "_law_odd_word", defArgs (top 47), defBody (top 47), defScope (top 47), [], []⟩
def d__law_odd_sign : He.DefD := ⟨("_law_odd_sign", none), "_law_odd_sign", "_law_odd_sign", defArgs (top 48), defBody (top 48), defScope (top 48), [], []⟩
def d__law_odd_text : He.DefD := ⟨("_law_odd_text", none), "_law_odd_text", "_law_odd_text", defArgs (top 49), defBody (top 49), defScope (top 49), [], []⟩
def d__law_long_text : He.DefD := ⟨("_law_long_text", none), "_law_long_text", "_law_long_text", defArgs (top 52), defBody (top 52), defScope (top 52), [], []⟩
def d_law : He.DefD := ⟨("law", none), "law", "law", defArgs (top 53), defBody (top 53), defScope (top 53), [], []⟩
def di_BadText : He.DefD := ⟨("BadText", some "__init__"), "__init__", "BadText.__init__", defArgs (inClass (top 22) 0), defBody (inClass (top 22) 0), defScope (inClass (top 22) 0), [], []⟩
def fn : List He.DefD := [d__law_bag, d__law_draw, d__law_pick, d__law_own_ranges, d__law_own_reading, d__law_own_log, d__law_own_text, d_number_of, d_reading_of, d_is_state, d_row_of, d_goes_on, d_parse_case, d__law_told, d__law_goes_on, d__law_number, d__law_row, d__law_due, d__law_is_right, d__law_odd_word, d__law_odd_sign, d__law_odd_text, d__law_long_text, d_law, di_BadText]
def fa : List He.Fa := [.free "LookupError", .free "ValueError", .free "abs", .free "all", .free "any", .free "enumerate", .free "int", .free "isinstance", .free "len", .free "list", .free "max", .free "min", .free "range", .free "repr", .free "reversed", .free "str", .free "tuple", .int "MAX_ROWS" 40, .int "MAX_READING" 1000000, .str "FIGURES" "0123456789", .glo "Apart", .glo "BadEdit", .glo "BadEdits", .glo "BadLog", .glo "BadMarks", .glo "BadNumber", .glo "BadRanges", .glo "BadReading", .glo "BadSpan", .glo "BadState", .glo "BadText", .glo "Busy", .glo "MarkError", .glo "NoMarks", .glo "NoPlace", .glo "NoRow", .glo "NoVersion", .glo "NothingToUndo", .glo "Rejected", .glo "TooFew", .glo "TooLarge", .glo "TooManyEdits", .glo "TooManyRows", .glo "_law_bag", .glo "_law_draw", .glo "_law_due", .glo "_law_goes_on", .glo "_law_is_right", .glo "_law_long_text", .glo "_law_number", .glo "_law_odd_sign", .glo "_law_odd_text", .glo "_law_odd_word", .glo "_law_own_log", .glo "_law_own_ranges", .glo "_law_own_reading", .glo "_law_own_text", .glo "_law_pick", .glo "_law_row", .glo "_law_told", .glo "goes_on", .glo "is_state", .glo "law", .glo "number_of", .glo "parse_case", .glo "reading_of", .glo "row_of", .noat "BadText" "index"]
def ex : List HX.TB := [HX.noListB, HX.sysB, HX.oexB "BadText", HX.initB "BadText", (fun K => decide (PySem.W.exmOne K (BT K) (BT K) = some true)), HX.excB "BadText", HX.xfB' "BadText", HX.kitAnyB "BadText" otherN false, HX.kitOneB "BadText" (.own "MarkError") true, HX.kitOneB "BadText" (.ty "ValueError") true, (fun K => decide (PySem.W.findIn K (.ref (He.ga K "BadText")) "index" = some none))]
def names0 : List PySem.Str := ["MAX_READING", "MAX_ROWS", "MarkError", "NoMarks", "Apart", "Busy", "TooManyEdits", "TooManyRows", "NothingToUndo", "BadEdits", "TooLarge", "BadSpan"]
def names1 : List PySem.Str := ["BadMarks", "BadState", "BadReading", "BadRanges", "BadLog", "BadEdit", "Rejected", "BadNumber", "TooFew", "BadText", "NoRow", "NoPlace"]
def names2 : List PySem.Str := ["NoVersion", "is_state", "FIGURES", "number_of", "reading_of", "row_of", "goes_on", "parse_case", "_law_bag", "_law_draw", "_law_pick", "_law_own_ranges"]
def names3 : List PySem.Str := ["_law_own_reading", "_law_own_log", "_law_own_text", "_law_number", "_law_row", "_law_goes_on", "_law_due", "_law_odd_word", "_law_odd_sign", "_law_odd_text", "_law_told", "_law_is_right"]
def names4 : List PySem.Str := ["_law_long_text"]
def names : List PySem.Str := names0 ++ names1 ++ names2 ++ names3 ++ names4
abbrev R : PySem.W.OpenRow := PySem.W.OpenLaw.row PySem.Challenge.rw_marksought_k56_parse_case
abbrev hk : PySem.W.Hook := HX.hookX 4 fa fn ex
def ob (s : PySem.W.SharedT) : HX.AlX := HX.obsXG 4 fa fn ex (HandSHeadRun.getT s)
theorem ob_eq (s : PySem.W.SharedT) : ob s = hk.obs s.abs := HX.obsXG_eq (HandSHeadRun.getT_eq s)
theorem run (w : World) : HandSHeadRun.RunEq R (PySem.W.view R.prog [53]) hk ob 40000 names w := by
  intro os
  kernel_rfl
section
variable {P : Program} {w : World} {K : PySem.W.Frag} {mg : Str → Option Value} {base : Heap}
theorem sci_BadText : FnScope ["self", "index"] ["self", "index"] (defScope (inClass (top 22) 0)) := ⟨rfl, rfl, rfl, by decide +kernel, rfl, by decide +kernel, by decide +kernel⟩
theorem xc_BadText (X : K.In base) (G : base.Ns mainGlobals mg) (c : HX.SaysX fa fn ex K) : XC P w K mg base "BadText" (He.ga K "BadText") "index" := by
  obtain ⟨h1, h2⟩ := HX.init_is (c.test 3 (f := HX.initB "BadText") rfl)
  obtain ⟨fd, F⟩ := c.def_ 24 (d := di_BadText) rfl
  have T := HX.oex_ok (c.test 2 (f := HX.oexB "BadText") rfl)
  exact ⟨T, He.glo_ok X G (c.fact 30 rfl), ⟨_, fd, h1, h2, init_ok T (He.noat_ok (c.fact 67 (f := .noat "BadText" "index") rfl)) F sci_BadText rfl rfl (by decide) (by decide), FunD.bindsN F (fun _ _ _ _ _ _ us hl => match us, hl with | [_, _], _ => rfl)⟩⟩
theorem fx_of (X : K.In base) (G : base.Ns mainGlobals mg) (c : HX.SaysX fa fn ex K) : Fx P w K mg base where
  f_LookupError := He.free_ok X G (c.fact 0 rfl)
  f_ValueError := He.free_ok X G (c.fact 1 rfl)
  f_abs := He.free_ok X G (c.fact 2 rfl)
  f_all := He.free_ok X G (c.fact 3 rfl)
  f_any := He.free_ok X G (c.fact 4 rfl)
  f_enumerate := He.free_ok X G (c.fact 5 rfl)
  f_int := He.free_ok X G (c.fact 6 rfl)
  f_isinstance := He.free_ok X G (c.fact 7 rfl)
  f_len := He.free_ok X G (c.fact 8 rfl)
  f_list := He.free_ok X G (c.fact 9 rfl)
  f_max := He.free_ok X G (c.fact 10 rfl)
  f_min := He.free_ok X G (c.fact 11 rfl)
  f_range := He.free_ok X G (c.fact 12 rfl)
  f_repr := He.free_ok X G (c.fact 13 rfl)
  f_reversed := He.free_ok X G (c.fact 14 rfl)
  f_str := He.free_ok X G (c.fact 15 rfl)
  f_tuple := He.free_ok X G (c.fact 16 rfl)
  i_MAX_ROWS := He.int_ok X G (c.fact 17 rfl)
  i_MAX_READING := He.int_ok X G (c.fact 18 rfl)
  s_FIGURES := He.str_ok X G (c.fact 19 rfl)
  m_Apart := He.glo_ok X G (c.fact 20 rfl)
  m_BadEdit := He.glo_ok X G (c.fact 21 rfl)
  m_BadEdits := He.glo_ok X G (c.fact 22 rfl)
  m_BadLog := He.glo_ok X G (c.fact 23 rfl)
  m_BadMarks := He.glo_ok X G (c.fact 24 rfl)
  m_BadNumber := He.glo_ok X G (c.fact 25 rfl)
  m_BadRanges := He.glo_ok X G (c.fact 26 rfl)
  m_BadReading := He.glo_ok X G (c.fact 27 rfl)
  m_BadSpan := He.glo_ok X G (c.fact 28 rfl)
  m_BadState := He.glo_ok X G (c.fact 29 rfl)
  m_BadText := He.glo_ok X G (c.fact 30 rfl)
  m_Busy := He.glo_ok X G (c.fact 31 rfl)
  m_MarkError := He.glo_ok X G (c.fact 32 rfl)
  m_NoMarks := He.glo_ok X G (c.fact 33 rfl)
  m_NoPlace := He.glo_ok X G (c.fact 34 rfl)
  m_NoRow := He.glo_ok X G (c.fact 35 rfl)
  m_NoVersion := He.glo_ok X G (c.fact 36 rfl)
  m_NothingToUndo := He.glo_ok X G (c.fact 37 rfl)
  m_Rejected := He.glo_ok X G (c.fact 38 rfl)
  m_TooFew := He.glo_ok X G (c.fact 39 rfl)
  m_TooLarge := He.glo_ok X G (c.fact 40 rfl)
  m_TooManyEdits := He.glo_ok X G (c.fact 41 rfl)
  m_TooManyRows := He.glo_ok X G (c.fact 42 rfl)
  m__law_bag := He.glo_ok X G (c.fact 43 rfl)
  m__law_draw := He.glo_ok X G (c.fact 44 rfl)
  m__law_due := He.glo_ok X G (c.fact 45 rfl)
  m__law_goes_on := He.glo_ok X G (c.fact 46 rfl)
  m__law_is_right := He.glo_ok X G (c.fact 47 rfl)
  m__law_long_text := He.glo_ok X G (c.fact 48 rfl)
  m__law_number := He.glo_ok X G (c.fact 49 rfl)
  m__law_odd_sign := He.glo_ok X G (c.fact 50 rfl)
  m__law_odd_text := He.glo_ok X G (c.fact 51 rfl)
  m__law_odd_word := He.glo_ok X G (c.fact 52 rfl)
  m__law_own_log := He.glo_ok X G (c.fact 53 rfl)
  m__law_own_ranges := He.glo_ok X G (c.fact 54 rfl)
  m__law_own_reading := He.glo_ok X G (c.fact 55 rfl)
  m__law_own_text := He.glo_ok X G (c.fact 56 rfl)
  m__law_pick := He.glo_ok X G (c.fact 57 rfl)
  m__law_row := He.glo_ok X G (c.fact 58 rfl)
  m__law_told := He.glo_ok X G (c.fact 59 rfl)
  m_goes_on := He.glo_ok X G (c.fact 60 rfl)
  m_is_state := He.glo_ok X G (c.fact 61 rfl)
  m_law := He.glo_ok X G (c.fact 62 rfl)
  m_number_of := He.glo_ok X G (c.fact 63 rfl)
  m_parse_case := He.glo_ok X G (c.fact 64 rfl)
  m_reading_of := He.glo_ok X G (c.fact 65 rfl)
  m_row_of := He.glo_ok X G (c.fact 66 rfl)
  u__law_bag := c.def_ 0 (d := d__law_bag) rfl
  u__law_draw := c.def_ 1 (d := d__law_draw) rfl
  u__law_pick := c.def_ 2 (d := d__law_pick) rfl
  u__law_own_ranges := c.def_ 3 (d := d__law_own_ranges) rfl
  u__law_own_reading := c.def_ 4 (d := d__law_own_reading) rfl
  u__law_own_log := c.def_ 5 (d := d__law_own_log) rfl
  u__law_own_text := c.def_ 6 (d := d__law_own_text) rfl
  u_number_of := c.def_ 7 (d := d_number_of) rfl
  u_reading_of := c.def_ 8 (d := d_reading_of) rfl
  u_is_state := c.def_ 9 (d := d_is_state) rfl
  u_row_of := c.def_ 10 (d := d_row_of) rfl
  u_goes_on := c.def_ 11 (d := d_goes_on) rfl
  u_parse_case := c.def_ 12 (d := d_parse_case) rfl
  u__law_told := c.def_ 13 (d := d__law_told) rfl
  u__law_goes_on := c.def_ 14 (d := d__law_goes_on) rfl
  u__law_number := c.def_ 15 (d := d__law_number) rfl
  u__law_row := c.def_ 16 (d := d__law_row) rfl
  u__law_due := c.def_ 17 (d := d__law_due) rfl
  u__law_is_right := c.def_ 18 (d := d__law_is_right) rfl
  u__law_odd_word := c.def_ 19 (d := d__law_odd_word) rfl
  u__law_odd_sign := c.def_ 20 (d := d__law_odd_sign) rfl
  u__law_odd_text := c.def_ 21 (d := d__law_odd_text) rfl
  u__law_long_text := c.def_ 22 (d := d__law_long_text) rfl
  u_law := c.def_ 23 (d := d_law) rfl
  x_BadText := xc_BadText X G c
  sys := HX.sys_ok (c.test 1 (f := HX.sysB) rfl)
theorem g_law {f : Addr} {fd : FuncData} (D : Fx P w K mg base) (F : FunD K "law" "law" (defArgs s_law) (defBody s_law) (defScope s_law) [] [] f fd) : FnG P w K mg base 8 f fd ["script"] (spA 1 (wp_law K)) :=
  fng_mk F sc_law (fun cdv A fr s H E room gd =>
  (cs_cons (cs_set 1 sc_law.nd (c_call (a__law_bag D) (room.mono (by decide)) gd (L2N.takes_of rfl rfl rfl rfl) (ca_cons (cv 0) ca_nil)))
  (cs_cons (cs_set 2 sc_law.nd (c_call (a__law_own_ranges D) (room.mono (by decide)) gd (L2N.takes_of rfl rfl rfl rfl) (ca_cons (cv 1) ca_nil)))
  (cs_cons (cs_if (ct_cmp (opA_eq room.units) (c_call (a__law_draw D) (room.mono (by decide)) gd (L2N.takes_of rfl rfl rfl rfl) (ca_cons (cv 1) (ca_cons c_int ca_nil))) c_int (nomark _)) (cs_one (cs_set 2 sc_law.nd (c_call (a__law_pick D) (room.mono (by decide)) gd (L2N.takes_of rfl rfl rfl rfl) (ca_cons (cv 1) (ca_cons (c_lst (ca_cons (c_tup (ca_cons c_int (ca_cons c_int (ca_cons (ce_op opA_pow c_int c_int) (ca_cons (ce_op opA_pow c_int c_int) ca_nil))))) (ca_cons (c_tup (ca_cons c_int (ca_cons c_int (ca_cons (ce_op opA_pow c_int c_int) (ca_cons (ce_op opA_pow c_int c_int) ca_nil))))) (ca_cons (c_tup (ca_cons c_int (ca_cons c_int (ca_cons c_int (ca_cons (ce_op opA_pow c_int c_int) ca_nil))))) (ca_cons (c_tup (ca_cons c_int (ca_cons c_int (ca_cons c_int (ca_cons c_int ca_nil))))) ca_nil))))) ca_nil))))) cs_nil)
  (cs_cons (cs_set 3 sc_law.nd (c_call (a__law_own_log D) (room.mono (by decide)) gd (L2N.takes_of rfl rfl rfl rfl) (ca_cons (cv 1) (ca_cons (cv 2) (ca_cons (c_call (a__law_pick D) (room.mono (by decide)) gd (L2N.takes_of rfl rfl rfl rfl) (ca_cons (cv 1) (ca_cons (c_lst (ca_cons c_int (ca_cons c_int (ca_cons c_int (ca_cons c_int (ca_cons c_int (ca_cons c_int (ca_cons c_int (ca_cons c_int ca_nil))))))))) ca_nil))) ca_nil)))))
  (cs_cons (cs_set 4 sc_law.nd (c_call (a__law_own_text D) (room.mono (by decide)) gd (L2N.takes_of rfl rfl rfl rfl) (ca_cons (cv 2) (ca_cons (cv 3) ca_nil))))
  (cs_cons (cs_set 5 sc_law.nd (c_bm PySem.F.plainAttrs_str PySem.F.slot_str_split PySem.F.type_str_split mtA_split (cv 4) (ca_cons c_str ca_nil)))
  (cs_cons (cs_set 6 sc_law.nd (c_lst (ca_cons c_str (ca_cons (cv 2) (ca_cons (cv 3) ca_nil)))))
  (cs_cons (cs_if (ct_w (cw_or (ct_cmp (opA_ne room.units) (c_callB (call_reprA gd room.units D.sys) boot_repr D.f_repr (ca_cons (c_call (a__law_told D) (room.mono (by decide)) gd (L2N.takes_of rfl rfl rfl rfl) (ca_cons (cv 4) ca_nil)) ca_nil)) (c_callB (call_reprA gd room.units D.sys) boot_repr D.f_repr (ca_cons (cv 6) ca_nil)) (nomark _)) (cw_or1 (ct_cmp (opA_ne room.units) (c_call (a__law_told D) (room.mono (by decide)) gd (L2N.takes_of rfl rfl rfl rfl) (ca_cons (cv 4) ca_nil)) (cv 6) (nomark _))))) (cs_one (cs_ret c_bl)) cs_nil)
  (cs_cons (cs_for (passes_of rfl) rfl (ci_seq (c_lst (ca_cons c_int (ca_cons c_int (ca_cons c_int (ca_cons c_int (ca_cons c_int (ca_cons c_int (ca_cons c_int (ca_cons c_int (ca_cons c_int (ca_cons c_int (ca_cons c_int (ca_cons c_int (ca_cons c_int (ca_cons c_int (ca_cons c_int (ca_cons c_int (ca_cons c_int ca_nil))))))))))))))))))) (g_name 7 sc_law.nd)
  (cs_cons (cs_if (ct_not (ct_tru (c_call (a__law_is_right D) (room.mono (by decide)) gd (L2N.takes_of rfl rfl rfl rfl) (ca_cons (c_call (a__law_odd_text D) (room.mono (by decide)) gd (L2N.takes_of rfl rfl rfl rfl) (ca_cons (cv 1) (ca_cons (cv 5) (ca_cons (cv 7) ca_nil)))) ca_nil)))) (cs_one (cs_ret c_bl)) cs_nil)
  (cs_one (cs_if (ct_w (cw_and (ct_cmp (opA_eq room.units) (cv 7) c_int (nomark _)) (cw_and1 (ct_not (ct_tru (c_call (a__law_is_right D) (room.mono (by decide)) gd (L2N.takes_of rfl rfl rfl rfl) (ca_cons (cv 4) ca_nil))))))) (cs_one (cs_ret c_bl)) cs_nil))))
  (cs_cons (cs_for (passes_of rfl) rfl (ci_range1 D.f_range c_int) (g_name 8 sc_law.nd)
  (cs_one (cs_if (ct_not (ct_tru (c_call (a__law_is_right D) (room.mono (by decide)) gd (L2N.takes_of rfl rfl rfl rfl) (ca_cons (c_call (a__law_long_text D) (room.mono (by decide)) gd (L2N.takes_of rfl rfl rfl rfl) (ca_cons (cv 1) (ca_cons (cv 5) ca_nil))) ca_nil)))) (cs_one (cs_ret c_bl)) cs_nil)))
  (cs_cons (cs_set 9 sc_law.nd (c_disp (cp_cons c_str (cv 4) cp_nil)))
  (cs_cons (cs_set 10 sc_law.nd (c_lst (ca_cons c_non (ca_cons (c_call (a__law_draw D) (room.mono (by decide)) gd (L2N.takes_of rfl rfl rfl rfl) (ca_cons (cv 1) (ca_cons c_int ca_nil))) (ca_cons c_bl (ca_cons (c_tup (ca_cons (cv 2) (ca_cons (cv 3) ca_nil))) (ca_cons (c_callT call_tupleA boot_tuple D.f_tuple (ca_cons (cv 5) ca_nil)) (ca_cons (cv 5) (ca_cons (cv 9) (ca_cons (c_lst ca_nil) (ca_cons (c_tup ca_nil) (ca_cons (c_neg c_int) (ca_cons (c_lst (ca_cons (cv 4) ca_nil)) (ca_cons c_dnew ca_nil))))))))))))))
  (cs_cons (cs_set 11 sc_law.nd (c_callB (call_reprA gd room.units D.sys) boot_repr D.f_repr (ca_cons (cv 10) ca_nil)))
  (cs_cons (cs_for (passes_of rfl) rfl (ci_range1 D.f_range c_int) (g_name 8 sc_law.nd)
  (cs_cons (cs_set 12 sc_law.nd (c_call (a__law_told D) (room.mono (by decide)) gd (L2N.takes_of rfl rfl rfl rfl) (ca_cons (c_call (a__law_pick D) (room.mono (by decide)) gd (L2N.takes_of rfl rfl rfl rfl) (ca_cons (cv 1) (ca_cons (cv 10) ca_nil))) ca_nil)))
  (cs_one (cs_if (ct_cmp (opA_ne room.units) (c_callB (call_reprA gd room.units D.sys) boot_repr D.f_repr (ca_cons (cv 12) ca_nil)) (c_callB (call_reprA gd room.units D.sys) boot_repr D.f_repr (ca_cons (c_lst (ca_cons c_str (ca_cons c_non ca_nil))) ca_nil)) (nomark _)) (cs_one (cs_ret c_bl)) cs_nil))))
  (cs_one (cs_ret (c_and (c_call (a__law_is_right D) (room.mono (by decide)) gd (L2N.takes_of rfl rfl rfl rfl) (ca_cons (cv 4) ca_nil)) (c_one (ce_cmp (opA_eq room.units) (c_callB (call_reprA gd room.units D.sys) boot_repr D.f_repr (ca_cons (cv 10) ca_nil)) (cv 11) (nomark _))))))))))))))))))))) (fun _ _ _ _ _ h => h.2)
theorem ko_of (c : HX.SaysX fa fn ex K) : KOk K where
  ex := of_decide_eq_true (c.test 4 (f := fun K => decide (PySem.W.exmOne K (BT K) (BT K) = some true)) rfl)
  xc := HX.exc_is (c.test 5 (f := HX.excB "BadText") rfl)
  xf := L2.xfB_ok (c.test 6 (f := HX.xfB' "BadText") rfl)
  no := of_decide_eq_true (c.test 10 (f := fun K => decide (PySem.W.findIn K (.ref (He.ga K "BadText")) "index" = some none)) rfl)
  more := HX.kitAny_is (c.test 7 (f := HX.kitAnyB "BadText" otherN false) rfl)
  mke := HX.kitOne_is (c.test 8 (f := HX.kitOneB "BadText" (.own "MarkError") true) rfl)
  ve := HX.kitOne_is (c.test 9 (f := HX.kitOneB "BadText" (.ty "ValueError") true) rfl)
theorem end_law (c : HX.SaysX fa fn ex K) {ns : List Int} {H : Hp} {a : Addr} {o : Obj} (hl : ns.length ≤ 63) (hH : H a = some (.frz o (.lst (ns.map V.int)))) : spA 1 (wp_law K) [.ref a] H (fun v _ => v = .bl true) (fun _ _ _ => False) := by
  refine ⟨[a], [.fls (ns.map .int)], [.ref 0], fun d _ => d = .bl true, fun _ _ _ => False, ⟨rfl, by simp, fun n b o' h1 h2 => ?_⟩, .cons (.ref rfl) .nil, ⟨rfl, r_law (ko_of c) hl fun _ => rfl⟩, fun d M' ι' H' v hd _ _ hr => ?_, fun _ _ _ _ _ _ _ z => z.elim⟩
  · match n, h1, h2 with
    | 0, h1, h2 =>
      cases h1; cases h2
      exact ⟨o, _, hH, reps_ints ns⟩
  · subst hd
    cases hr
    rfl
end
end K56
open PySem PySem.W PySem.Calls PyProof.Rows
theorem PySem.Challenge.cw_marksought_k56_parse_case_holds : PySem.Challenge.rw_marksought_k56_parse_case.Holds := by
  w_on; o_law
  refine HandSHeadRun.head_any (r := OpenLaw.row PySem.Challenge.rw_marksought_k56_parse_case) (q := view (OpenLaw.row PySem.Challenge.rw_marksought_k56_parse_case).prog [53]) (H := K56.hk) (ob := K56.ob) (M := 40000) (loose := K56.names) (d := HandSHeadRun.topDef (OpenLaw.row PySem.Challenge.rw_marksought_k56_parse_case).prog 53) (kwd := []) K56.ob_eq
    (by kernel_rfl) (fun s => by kernel_rfl) K56.run (by kernel_rfl) (by kernel_rfl) (by kernel_rfl) (by rfl) (by first | assumption | decide +kernel) (by decide +kernel) ⟨rfl, rfl, rfl, rfl, rfl, by decide +kernel⟩ ?hw ?hc
  case hw => w_witness2
  case hc =>
    refine AL.law_end (l := PySem.Challenge.rw_marksought_k56_parse_case) (n := 63) (k := 8) (x := "script") rfl (by decide) (by kernel_rfl) ⟨rfl, by decide, by decide⟩ ?F
    intro w mg fa h Y G hmg0
    obtain ⟨K, KX, c⟩ := Y
    have hmg : mg ("law" : PySem.Str) = some (.ref fa) := by
      have e : (HandSHeadRun.topDef (OpenLaw.row PySem.Challenge.rw_marksought_k56_parse_case).prog 53).name = ("law" : PySem.Str) := by kernel_rfl
      rw [← e]
      exact hmg0
    obtain ⟨fd, F⟩ := HX.SaysX.def_ c 23 (d := K56.d_law) rfl
    have e := hmg.symm.trans (He.glo_ok KX G (HX.SaysX.fact c 62 (f := .glo "law") rfl))
    cases e
    have b := L2.FunD.bindsA (ps := ["script"]) F fun _ _ _ _ _ _ us hl => match us, hl with | [_], _ => rfl
    exact ⟨K, fd, _, KX, fun s v => b s [v] rfl, fun H a o ns hl hH => K56.end_law c hl hH, HX.noList_ok (HX.SaysX.test c 0 (f := HX.noListB) rfl), fun base KB GB => K56.g_law (K56.fx_of KB GB c) F⟩
