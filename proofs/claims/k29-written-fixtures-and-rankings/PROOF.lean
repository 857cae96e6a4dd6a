import PyProof.Rows.All
import Wide.All
import OpenK.AllK
import Wide.FinOn
import HandS.ForMost
import HandS.ForExc
import HandS.Property
import HandS.Star
import HandS.ClsMeth
import HandS.IsInst
import HandS.OwnEq
import HandS.TupAny
import HandS.TupMul
import HandS.Deep
import HandS.Style
import HandS.SortInts
import HandS.Zip
import HandS.More
import HandS.Small
import HandS.RaiseMore
import KE.KStateDown
import HandS.Head0
import HandS.Head1
import HandS.Head2
import HandS.HeadEnd
import HandS.HeadHook1
import HandS.HeadHook2
import KE.KTupSum
import PyProof.WalkInts
import KE.KOpsOwn
import OpenK.KMeth
import HandS.TupSets
import PyProof.P3In
import KE.GoesEnum
import HandS.Strs
import HandS.SetFor
import PySem.Challenge.RW_pointsystems_k29_written_fixtures_and_ra
set_option Elab.async false
set_option linter.all false
set_option maxRecDepth 100000
set_option maxHeartbeats 0
/-! Value semantics over the hand layer: data, the frozen part of the heap, cells of slots. -/
namespace Mz
open PySem PySem.Spec PyProof.Rows L2

/-! ### data -/
inductive D where
  | non | bl (b : Bool) | int (i : Int) | str (s : Str)
  | lst (xs : List D) | tup (xs : List D) | ins (c : Nat) (fs : List D) | ro (ns : List Int)
  | dct (ks : List Key) (ds : List D)
abbrev Rho := Nat → Option (Addr × List Str)
abbrev Xa := Nat → Option Addr

/-- a value and what it is worth, by a part of the heap that stays -/
inductive Dt (K : PySem.W.Frag) (ρ : Rho) (G : Hp) : V → D → Prop
  | non : Dt K ρ G .non .non
  | bl (b : Bool) : Dt K ρ G (.bl b) (.bl b)
  | int (i : Int) : Dt K ρ G (.int i) (.int i)
  | str (s : Str) : Dt K ρ G (.str s) (.str s)
  | lst {p : Addr} {vs : List V} {ds : List D} (h : G p = some (.lst vs)) (hl : vs.length = ds.length) (hi : ∀ (i : Nat) v d, vs[i]? = some v → ds[i]? = some d → Dt K ρ G v d) : Dt K ρ G (.ref p) (.lst ds)
  | ro {p : Addr} {ns : List Int} (h : SqL K G p (ns.map V.int)) : Dt K ρ G (.ref p) (.ro ns)
  | dct {p : Addr} {ks : List Key} {vs : List V} {ds : List D} (h : G p = some (.dK (ks.zip vs))) (hk : ks.length = vs.length) (hl : vs.length = ds.length) (hi : ∀ (i : Nat) v d, vs[i]? = some v → ds[i]? = some d → Dt K ρ G v d) : Dt K ρ G (.ref p) (.dct ks ds)
  | tup {p : Addr} {vs : List V} {ds : List D} (h : SqT K G p vs) (hl : vs.length = ds.length) (hi : ∀ (i : Nat) v d, vs[i]? = some v → ds[i]? = some d → Dt K ρ G v d) : Dt K ρ G (.ref p) (.tup ds)
  | ins {p C dx : Addr} {ns : List Str} {fs : List (Str × V)} {c : Nat} {ds : List D} (hc : ρ c = some (C, ns)) (h : G p = some (.ins C dx fs)) (hn : fs.map (·.1) = ns) (hl : fs.length = ds.length)
      (hi : ∀ (i : Nat) v d, (fs.map (·.2))[i]? = some v → ds[i]? = some d → Dt K ρ G v d) : Dt K ρ G (.ref p) (.ins c ds)

section
variable {K : PySem.W.Frag} {ρ : Rho} {G G' F R H : Hp}
theorem Dt.mono (x : Ext G G') {v : V} {d : D} (h : Dt K ρ G v d) : Dt K ρ G' v d := by
  induction h with
  | non => exact .non
  | bl b => exact .bl b
  | int i => exact .int i
  | str s => exact .str s
  | lst h hl _ ih => exact .lst (x _ _ h) hl ih
  | ro h => exact .ro (h.ext x)
  | dct h hk hl _ ih => exact .dct (x _ _ h) hk hl ih
  | tup h hl _ ih => exact .tup (h.ext x) hl ih
  | ins hc h hn hl _ ih => exact .ins hc (x _ _ h) hn hl ih
/-- item by item -/
def Sqs (K : PySem.W.Frag) (ρ : Rho) (G : Hp) (vs : List V) (ds : List D) : Prop := vs.length = ds.length ∧ ∀ (i : Nat) v d, vs[i]? = some v → ds[i]? = some d → Dt K ρ G v d
theorem Sqs.mono (x : Ext G G') {vs : List V} {ds : List D} (h : Sqs K ρ G vs ds) : Sqs K ρ G' vs ds := ⟨h.1, fun i v d a b => (h.2 i v d a b).mono x⟩
theorem Sqs.nil : Sqs K ρ G [] [] := ⟨rfl, fun i v d a _ => by simp at a⟩
theorem Sqs.cons {v : V} {d : D} {vs : List V} {ds : List D} (h : Dt K ρ G v d) (t : Sqs K ρ G vs ds) : Sqs K ρ G (v :: vs) (d :: ds) := by
  refine ⟨by simp [t.1], fun i a b h1 h2 => ?_⟩
  cases i with
  | zero => simp at h1 h2; subst h1; subst h2; exact h
  | succ i => simp at h1 h2; exact t.2 i a b h1 h2
theorem Sqs.append {vs ws : List V} {ds es : List D} (h : Sqs K ρ G vs ds) (t : Sqs K ρ G ws es) : Sqs K ρ G (vs ++ ws) (ds ++ es) := by
  refine ⟨by simp [h.1, t.1], fun i a b h1 h2 => ?_⟩
  by_cases hi : i < vs.length
  · rw [List.getElem?_append_left hi] at h1
    rw [List.getElem?_append_left (by rw [← h.1]; exact hi)] at h2
    exact h.2 i a b h1 h2
  · rw [List.getElem?_append_right (by omega)] at h1
    rw [List.getElem?_append_right (by rw [← h.1]; omega), ← h.1] at h2
    exact t.2 _ a b h1 h2
theorem Sqs.one {v : V} {d : D} (h : Dt K ρ G v d) : Sqs K ρ G [v] [d] := .cons h .nil
theorem Sqs.get {vs : List V} {ds : List D} (h : Sqs K ρ G vs ds) {i : Nat} {d : D} (e : ds[i]? = some d) : ∃ v, vs[i]? = some v ∧ Dt K ρ G v d := by
  obtain ⟨hi, _⟩ := List.getElem?_eq_some_iff.mp e
  have hv : i < vs.length := by rw [h.1]; exact hi
  exact ⟨vs[i], List.getElem?_eq_getElem hv, h.2 i _ _ (List.getElem?_eq_getElem hv) e⟩
theorem Sqs.getV {vs : List V} {ds : List D} (h : Sqs K ρ G vs ds) {i : Nat} {v : V} (e : vs[i]? = some v) : ∃ d, ds[i]? = some d ∧ Dt K ρ G v d := by
  obtain ⟨hi, _⟩ := List.getElem?_eq_some_iff.mp e
  have hv : i < ds.length := by rw [← h.1]; exact hi
  exact ⟨ds[i], List.getElem?_eq_getElem hv, h.2 i _ _ e (List.getElem?_eq_getElem hv)⟩
theorem Sqs.take {vs : List V} {ds : List D} (h : Sqs K ρ G vs ds) (n : Nat) : Sqs K ρ G (vs.take n) (ds.take n) := by
  refine ⟨by simp [h.1], fun i a b h1 h2 => ?_⟩
  rw [List.getElem?_take] at h1 h2
  split at h1 <;> simp_all
  exact h.2 i a b h1 h2
theorem Sqs.drop {vs : List V} {ds : List D} (h : Sqs K ρ G vs ds) (n : Nat) : Sqs K ρ G (vs.drop n) (ds.drop n) := by
  refine ⟨by simp [h.1], fun i a b h1 h2 => ?_⟩
  rw [List.getElem?_drop] at h1 h2
  exact h.2 _ a b h1 h2
theorem Sqs.set {vs : List V} {ds : List D} (h : Sqs K ρ G vs ds) (n : Nat) {v : V} {d : D} (x : Dt K ρ G v d) : Sqs K ρ G (vs.set n v) (ds.set n d) := by
  refine ⟨by simp [h.1], fun i a b h1 h2 => ?_⟩
  rw [List.getElem?_set] at h1 h2
  by_cases hn : n = i
  · subst hn
    simp only [if_true] at h1 h2
    split at h1
    · split at h2
      · cases h1; cases h2; exact x
      · cases h2
    · cases h1
  · rw [if_neg hn] at h1 h2
    exact h.2 i a b h1 h2
theorem Sqs.reverse {vs : List V} {ds : List D} (h : Sqs K ρ G vs ds) : Sqs K ρ G vs.reverse ds.reverse := by
  refine ⟨by simp [h.1], fun i a b h1 h2 => ?_⟩
  have k1 := (List.getElem?_eq_some_iff.mp h1).1
  have k2 := (List.getElem?_eq_some_iff.mp h2).1
  rw [List.length_reverse] at k1 k2
  rw [List.getElem?_reverse k1] at h1
  rw [List.getElem?_reverse k2, ← h.1] at h2
  exact h.2 _ a b h1 h2
theorem Sqs.dropLast {vs : List V} {ds : List D} (h : Sqs K ρ G vs ds) : Sqs K ρ G vs.dropLast ds.dropLast := by
  rw [List.dropLast_eq_take, List.dropLast_eq_take, h.1]
  exact h.take _

/-! ### slots -/
inductive Sl where
  | un | val (d : D) | own (d : D) | io (d : D) | mk (c : Nat) (fs : List (Str × D))
def Sl.cell : Sl → Bool
  | .own _ => true
  | .io _ => true
  | .mk _ _ => true
  | _ => false
abbrev En := List Sl
/-- a cell and its content -/
inductive CellO (K : PySem.W.Frag) (ρ : Rho) (F : Hp) : HO → D → Prop
  | lst {vs : List V} {ds : List D} (h : Sqs K ρ F vs ds) : CellO K ρ F (.lst vs) (.lst ds)
theorem CellO.mono (x : Ext G G') {o : HO} {d : D} (h : CellO K ρ G o d) : CellO K ρ G' o d := by
  cases h with
  | lst h => exact .lst (h.mono x)
def SlOk (K : PySem.W.Frag) (ρ : Rho) (io : Nat → Option Addr) (F R : Hp) (σ : L2.St) (H : Hp) (i : Nat) : Sl → Prop
  | .un => True
  | .val d => ∃ v, σ[i]? = some (some v) ∧ Dt K ρ F v d
  | .own d => ∃ p o, σ[i]? = some (some (.ref p)) ∧ F p = none ∧ R p = none ∧ H p = some o ∧ CellO K ρ F o d
  | .io d => ∃ p o, σ[i]? = some (some (.ref p)) ∧ F p = none ∧ R p = none ∧ H p = some o ∧ CellO K ρ F o d ∧ io i = some p
  | .mk c fs => ∃ p C ns dx vs, σ[i]? = some (some (.ref p)) ∧ F p = none ∧ R p = none ∧ ρ c = some (C, ns) ∧ H p = some (.ins C dx vs) ∧ vs.map (·.1) = fs.map (·.1) ∧ Sqs K ρ F (vs.map (·.2)) (fs.map (·.2)) ∧ io i = some p
structure Stt (K : PySem.W.Frag) (ρ : Rho) (io : Nat → Option Addr) (F R : Hp) (σ : L2.St) (e : En) (H : Hp) : Prop where
  len : σ.length = e.length
  ext : Ext F H
  fr : Ext R H
  dis : ∀ a o, R a = some o → F a = none
  slot : ∀ (i : Nat) (s : Sl), e[i]? = some s → SlOk K ρ io F R σ H i s
  inj : ∀ (i j : Nat) (si sj : Sl) (p : Addr), i ≠ j → e[i]? = some si → e[j]? = some sj → si.cell = true → sj.cell = true → σ[i]? = some (some (V.ref p)) → σ[j]? = some (some (V.ref p)) → False
def NoCell (σ : L2.St) (e : En) (p : Addr) : Prop := ∀ (i : Nat) (s : Sl), e[i]? = some s → s.cell = true → σ[i]? = some (some (V.ref p)) → False
variable {io : Nat → Option Addr} {σ : L2.St} {e e' : En}
/-- a cell's address -/
theorem SlOk.at_ {i : Nat} {s : Sl} (h : SlOk K ρ io F R σ H i s) (c : s.cell = true) : ∃ p o, σ[i]? = some (some (.ref p)) ∧ F p = none ∧ R p = none ∧ H p = some o := by
  cases s with
  | un => cases c
  | val d => cases c
  | own d => obtain ⟨p, o, h1, h2, h3, h4, _⟩ := h; exact ⟨p, o, h1, h2, h3, h4⟩
  | io d => obtain ⟨p, o, h1, h2, h3, h4, _⟩ := h; exact ⟨p, o, h1, h2, h3, h4⟩
  | mk c fs => obtain ⟨p, C, ns, dx, vs, h1, h2, h3, h4, h5, _⟩ := h; exact ⟨p, _, h1, h2, h3, h5⟩
/-- the frozen part grows, the heap changes, the cells stay -/
theorem SlOk.keep {F' R' H' : Hp} {i : Nat} {s : Sl} (h : SlOk K ρ io F R σ H i s) (x : Ext F F')
    (hc : s.cell = true → ∀ p, σ[i]? = some (some (.ref p)) → F' p = none ∧ R' p = none ∧ H' p = H p) : SlOk K ρ io F' R' σ H' i s := by
  cases s with
  | un => trivial
  | val d => obtain ⟨v, h1, h2⟩ := h; exact ⟨v, h1, h2.mono x⟩
  | own d =>
    obtain ⟨p, o, h1, h2, h3, h4, h5⟩ := h
    obtain ⟨a, b, c⟩ := hc rfl p h1
    exact ⟨p, o, h1, a, b, c.trans h4, h5.mono x⟩
  | io d =>
    obtain ⟨p, o, h1, h2, h3, h4, h5, h6⟩ := h
    obtain ⟨a, b, c⟩ := hc rfl p h1
    exact ⟨p, o, h1, a, b, c.trans h4, h5.mono x, h6⟩
  | mk c fs =>
    obtain ⟨p, C, ns, dx, vs, h1, h2, h3, h4, h5, h6, h7, h8⟩ := h
    obtain ⟨a, b, c⟩ := hc rfl p h1
    exact ⟨p, C, ns, dx, vs, h1, a, b, h4, c.trans h5, h6, h7.mono x, h8⟩
theorem Stt.none_F (s : Stt K ρ io F R σ e H) {p : Addr} (h : H p = none) : F p = none := by
  cases q : F p with
  | none => rfl
  | some o => rw [s.ext _ _ q] at h; cases h
theorem Stt.none_R (s : Stt K ρ io F R σ e H) {p : Addr} (h : H p = none) : R p = none := by
  cases q : R p with
  | none => rfl
  | some o => rw [s.fr _ _ q] at h; cases h
theorem Stt.noCell (s : Stt K ρ io F R σ e H) {p : Addr} (h : H p = none) : NoCell σ e p := fun i sl h1 h2 h3 => by
  obtain ⟨q, o, a, _, _, b⟩ := (s.slot i sl h1).at_ h2
  rw [a] at h3
  cases h3
  rw [h] at b; cases b
/-- a new object, at once frozen -/
theorem Stt.alloc (s : Stt K ρ io F R σ e H) {p : Addr} {o : HO} (h : H p = none) : Stt K ρ io (upd F p o) R σ e (upd H p o) ∧ Ext F (upd F p o) := by
  have nF := s.none_F h
  have nR := s.none_R h
  have nC := s.noCell h
  have x : Ext F (upd F p o) := Ext.upd nF
  refine ⟨⟨s.len, fun a u q => ?_, fun a u q => ?_, fun a u q => ?_, fun i sl q => (s.slot i sl q).keep x fun hc p' hp => ?_, s.inj⟩, x⟩
  · by_cases ha : a = p
    · subst ha; rw [upd_same] at q ⊢; exact q
    · rw [upd_ne ha] at q ⊢; exact s.ext _ _ q
  · rw [upd_ne (fun z => by rw [z, nR] at q; cases q)]; exact s.fr _ _ q
  · rw [upd_ne (fun z => by rw [z, nR] at q; cases q)]; exact s.dis _ _ q
  · have ne : p' ≠ p := fun z => nC i sl q hc (by rw [← z]; exact hp)
    obtain ⟨p2, o2, a1, a2, a3, _⟩ := (s.slot i sl q).at_ hc
    rw [a1] at hp; cases hp
    rw [upd_ne ne, upd_ne ne]
    exact ⟨a2, a3, rfl⟩
/-- a new object, held by nobody yet -/
theorem Stt.fresh (s : Stt K ρ io F R σ e H) {p : Addr} {o : HO} (h : H p = none) : Stt K ρ io F R σ e (upd H p o) := by
  have nF := s.none_F h
  have nR := s.none_R h
  have nC := s.noCell h
  refine ⟨s.len, fun a u q => ?_, fun a u q => ?_, s.dis, fun i sl q => (s.slot i sl q).keep Ext.rfl' fun hc p' hp => ?_, s.inj⟩
  · rw [upd_ne (fun z => by rw [z, nF] at q; cases q)]; exact s.ext _ _ q
  · rw [upd_ne (fun z => by rw [z, nR] at q; cases q)]; exact s.fr _ _ q
  · have ne : p' ≠ p := fun z => nC i sl q hc (by rw [← z]; exact hp)
    obtain ⟨p2, o2, a1, a2, a3, _⟩ := (s.slot i sl q).at_ hc
    rw [a1] at hp; cases hp
    rw [upd_ne ne]
    exact ⟨a2, a3, rfl⟩
/-- what nobody holds is frozen -/
theorem Stt.freeze (s : Stt K ρ io F R σ e H) {p : Addr} {o : HO} (nF : F p = none) (nR : R p = none) (nC : NoCell σ e p) (h : H p = some o) : Stt K ρ io (upd F p o) R σ e H ∧ Ext F (upd F p o) := by
  have x : Ext F (upd F p o) := Ext.upd nF
  refine ⟨⟨s.len, fun a u q => ?_, s.fr, fun a u q => ?_, fun i sl q => (s.slot i sl q).keep x fun hc p' hp => ?_, s.inj⟩, x⟩
  · by_cases ha : a = p
    · subst ha; rw [upd_same] at q; cases q; exact h
    · rw [upd_ne ha] at q; exact s.ext _ _ q
  · rw [upd_ne (fun z => by rw [z, nR] at q; cases q)]; exact s.dis _ _ q
  · have ne : p' ≠ p := fun z => nC i sl q hc (by rw [← z]; exact hp)
    obtain ⟨p2, o2, a1, a2, a3, _⟩ := (s.slot i sl q).at_ hc
    rw [a1] at hp; cases hp
    rw [upd_ne ne]
    exact ⟨a2, a3, rfl⟩
theorem Stt.setSlot (s : Stt K ρ io F R σ e H) {i : Nat} {v : V} {sl : Sl} (hs : i < e.length → SlOk K ρ io F R (σ.set i (some v)) H i sl)
    (hn : sl.cell = true → ∀ p, v = .ref p → ∀ (j : Nat) (s : Sl), j ≠ i → e[j]? = some s → s.cell = true → σ[j]? = some (some (.ref p)) → False) : Stt K ρ io F R (σ.set i (some v)) (e.set i sl) H := by
  refine ⟨by simp [s.len], s.ext, s.fr, s.dis, fun j s' q => ?_, fun j k sj sk p njk hj hk cj ck pj pk => ?_⟩
  · by_cases hji : i = j
    · subst hji
      have hl : i < e.length := by
        have := (List.getElem?_eq_some_iff.mp q).1
        simpa using this
      rw [List.getElem?_set_self hl] at q
      cases q
      exact hs hl
    · rw [List.getElem?_set_ne hji] at q
      have z := s.slot j s' q
      have e1 : (σ.set i (some v))[j]? = σ[j]? := List.getElem?_set_ne hji
      cases s' with
      | un => trivial
      | val d => obtain ⟨w, h1, h2⟩ := z; exact ⟨w, e1.trans h1, h2⟩
      | own d => obtain ⟨p, o, h1, h2⟩ := z; exact ⟨p, o, e1.trans h1, h2⟩
      | io d => obtain ⟨p, o, h1, h2⟩ := z; exact ⟨p, o, e1.trans h1, h2⟩
      | mk c fs => obtain ⟨p, C, ns, dx, vs, h1, h2⟩ := z; exact ⟨p, C, ns, dx, vs, e1.trans h1, h2⟩
  · have self : ∀ {m s' }, m = i → (e.set i sl)[m]? = some s' → (σ.set i (some v))[m]? = some (some (.ref p)) → s' = sl ∧ v = .ref p := fun {m s'} hm h1 h2 => by
      subst hm
      have hl : m < e.length := by
        have := (List.getElem?_eq_some_iff.mp h1).1
        simpa using this
      rw [List.getElem?_set_self hl] at h1
      rw [List.getElem?_set_self (by rw [s.len]; exact hl)] at h2
      cases h1; cases h2
      exact ⟨rfl, rfl⟩
    by_cases h1 : j = i
    · obtain ⟨a, b⟩ := self h1 hj pj
      subst a
      have nk : k ≠ i := fun z => njk (h1.trans z.symm)
      rw [List.getElem?_set_ne (Ne.symm nk)] at hk pk
      exact hn cj p b k sk nk hk ck pk
    · by_cases h2 : k = i
      · obtain ⟨a, b⟩ := self h2 hk pk
        subst a
        rw [List.getElem?_set_ne (Ne.symm h1)] at hj pj
        exact hn ck p b j sj h1 hj cj pj
      · rw [List.getElem?_set_ne (Ne.symm h1)] at hj pj
        rw [List.getElem?_set_ne (Ne.symm h2)] at hk pk
        exact s.inj j k sj sk p njk hj hk cj ck pj pk
theorem Stt.setVal (s : Stt K ρ io F R σ e H) {v : V} {d : D} (i : Nat) (h : Dt K ρ F v d) : Stt K ρ io F R (σ.set i (some v)) (e.set i (.val d)) H :=
  s.setSlot (fun hl => ⟨v, List.getElem?_set_self (by rw [s.len]; exact hl), h⟩) fun z => by cases z
/-- a new thing: nobody's cell -/
def New (K : PySem.W.Frag) (ρ : Rho) (F R : Hp) (σ : L2.St) (H : Hp) (e : En) (v : V) (d : D) : Prop := ∃ p o, v = .ref p ∧ F p = none ∧ R p = none ∧ NoCell σ e p ∧ H p = some o ∧ CellO K ρ F o d
theorem Stt.setOwn (s : Stt K ρ io F R σ e H) {v : V} {d : D} (i : Nat) (h : New K ρ F R σ H e v d) : Stt K ρ io F R (σ.set i (some v)) (e.set i (.own d)) H := by
  obtain ⟨p, o, rfl, nF, nR, nC, hp, co⟩ := h
  exact s.setSlot (fun hl => ⟨p, o, List.getElem?_set_self (by rw [s.len]; exact hl), nF, nR, hp, co⟩) fun _ q hq j sj _ hj cj pj => by
    cases hq; exact nC j sj hj cj pj
/-- the env forgets -/
theorem Stt.forget (s : Stt K ρ io F R σ e H) (i : Nat) : Stt K ρ io F R σ (e.set i .un) H := by
  refine ⟨by simp [s.len], s.ext, s.fr, s.dis, fun j s' q => ?_, fun j k sj sk p njk hj hk cj ck pj pk => ?_⟩
  · by_cases hji : i = j
    · subst hji
      have hl : i < e.length := by
        have := (List.getElem?_eq_some_iff.mp q).1
        simpa using this
      rw [List.getElem?_set_self hl] at q
      cases q; trivial
    · rw [List.getElem?_set_ne hji] at q
      exact s.slot j s' q
  · have up : ∀ {m : Nat} {s' : Sl}, (e.set i Sl.un)[m]? = some s' → s'.cell = true → e[m]? = some s' := fun {m s'} h1 h2 => by
      by_cases hm : i = m
      · subst hm
        have hl : i < e.length := by
          have := (List.getElem?_eq_some_iff.mp h1).1
          simpa using this
        rw [List.getElem?_set_self hl] at h1
        cases h1; cases h2
      · rw [List.getElem?_set_ne hm] at h1; exact h1
    exact s.inj j k sj sk p njk (up hj cj) (up hk ck) cj ck pj pk
end
end Mz

namespace Mz
open PySem PySem.Spec PyProof.Rows L2

/-! ### what an expression does -/
inductive W where
  | dat (d : D) | bor (i : Nat)
inductive Rs (α : Type) where
  | ok (a : α) (e : En) | ex (c : Nat) (pl : List D) (e : En)
abbrev Smx (α : Type) := En → Option (Rs α)
abbrev Sem := Smx W
def bnd {α β : Type} (r : Option (Rs α)) (k : α → En → Option (Rs β)) : Option (Rs β) :=
  match r with
  | none => none
  | some (.ok a e) => k a e
  | some (.ex c pl e) => some (.ex c pl e)
@[simp ↓] theorem bnd_u {α β : Type} (r : Option (Rs α)) (k : α → En → Option (Rs β)) : bnd r k =
  match r with
  | none => none
  | some (.ok a e) => k a e
  | some (.ex c pl e) => some (.ex c pl e) := rfl
@[simp] def rdS (e : En) (i : Nat) : Option D :=
  match e[i]? with
  | some (.own d) => some d
  | some (.io d) => some d
  | _ => none
@[simp] def rd (e : En) : W → Option D
  | .dat d => some d
  | .bor i => rdS e i
/-- the exception's own dict -/
def ExOk (K : PySem.W.Frag) (ρ : Rho) (xa : Xa) (F H : Hp) (cls : Value) (d : Option Addr) (c : Nat) (pl : List D) : Prop :=
  ∃ C, xa c = some C ∧ cls = .ref C ∧
    match pl with
    | [] => d = none
    | x :: _ => ∃ (dd : Addr) (v : V), d = some dd ∧ H dd = some (.xd [(("limit" : Str), v)]) ∧ Dt K ρ F v x
structure Gb where
  ρ : Rho
  xa : Xa
abbrev Rel (α β : Type) := Hp → Hp → L2.St → Hp → En → β → α → Prop
def Aft {α β : Type} (K : PySem.W.Frag) (g : Gb) (io : Nat → Option Addr) (rel : Rel α β) (W : WX) (F R : Hp) (σ : L2.St) (Q : β → Hp → Prop) : Option (Rs α) → Prop
  | none => False
  | some (.ok a e') => ∀ (F' H' : Hp) (v : β), Ext F F' → Stt K g.ρ io F' R σ e' H' → rel F' R σ H' e' v a → Q v H'
  | some (.ex c pl e') => ∀ (F' H' : Hp) (cls : Value) (d : Option Addr), Ext F F' → Stt K g.ρ io F' R σ e' H' → ExOk K g.ρ g.xa F' H' cls d c pl → W cls d σ H'
def tG {α β : Type} (K : PySem.W.Frag) (g : Gb) (io : Nat → Option Addr) (rel : Rel α β) (W : WX) (f : Smx α) : L2.St → Hp → (β → Hp → Prop) → Prop := fun σ H Q =>
  ∃ F R e, Stt K g.ρ io F R σ e H ∧ Aft K g io rel W F R σ Q (f e)
section
variable {K : PySem.W.Frag} {g : Gb} {io : Nat → Option Addr} {F F' R : Hp} {σ : L2.St} {Wx : WX} {α β γ δ : Type}
theorem Aft.weak {rel : Rel α β} {Q : β → Hp → Prop} {r : Option (Rs α)} (x : Ext F F') (h : Aft K g io rel Wx F R σ Q r) : Aft K g io rel Wx F' R σ Q r := by
  match r, h with
  | some (.ok a e'), h => exact fun F2 H2 v x2 s2 r2 => h F2 H2 v (x.trans x2) s2 r2
  | some (.ex c pl e'), h => exact fun F2 H2 cls d x2 s2 r2 => h F2 H2 cls d (x.trans x2) s2 r2
theorem Aft.bnd {rel : Rel α β} {rel' : Rel γ δ} {Q : δ → Hp → Prop} {Q' : β → Hp → Prop} {r : Option (Rs α)} {k : α → En → Option (Rs γ)} (h : Aft K g io rel' Wx F R σ Q (bnd r k))
    (hk : ∀ (a : α) (e' : En) (F' H' : Hp) (v : β), r = some (.ok a e') → Ext F F' → Stt K g.ρ io F' R σ e' H' → rel F' R σ H' e' v a → Aft K g io rel' Wx F' R σ Q (k a e') → Q' v H') : Aft K g io rel Wx F R σ Q' r := by
  match r, h with
  | some (.ok a e'), h => exact fun F2 H2 v x2 s2 r2 => hk a e' F2 H2 v rfl x2 s2 r2 (h.weak x2)
  | some (.ex c pl e'), h => exact h
/-- one stage done, the next wants a Q of its own -/
theorem Aft.ok {rel : Rel α β} {Q : β → Hp → Prop} {a : α} {e : En} {H : Hp} {v : β} (h : Aft K g io rel Wx F R σ Q (some (.ok a e))) (s : Stt K g.ρ io F R σ e H) (r : rel F R σ H e v a) : Q v H := h F H v Ext.rfl' s r
theorem Aft.imp {rel : Rel α β} {Q Q' : β → Hp → Prop} {r : Option (Rs α)} (h : Aft K g io rel Wx F R σ Q r) (q : ∀ v H, Q v H → Q' v H) : Aft K g io rel Wx F R σ Q' r := by
  match r, h with
  | some (.ok a e'), h => exact fun F2 H2 v x2 s2 r2 => q _ _ (h F2 H2 v x2 s2 r2)
  | some (.ex c pl e'), h => exact h
theorem Aft.some_of {rel : Rel α β} {Q : β → Hp → Prop} {r : Option (Rs α)} (h : Aft K g io rel Wx F R σ Q r) : r ≠ none := fun z => by rw [z] at h; exact h
end

/-! ### the relations -/
/-- an operand -/
def rE (K : PySem.W.Frag) (ρ : Rho) : Rel W V := fun F _ σ _ _ v w => match w with
  | .dat d => Dt K ρ F v d
  | .bor i => σ[i]? = some (some v)
def rN (K : PySem.W.Frag) (ρ : Rho) : Rel D V := fun F R σ H e v d => New K ρ F R σ H e v d
def rB : Rel Bool Bool := fun _ _ _ _ _ v a => v = a
inductive Opds (K : PySem.W.Frag) (ρ : Rho) (F : Hp) (σ : L2.St) : List V → List W → Prop
  | nil : Opds K ρ F σ [] []
  | dat {v d vs ws} (h : Dt K ρ F v d) (t : Opds K ρ F σ vs ws) : Opds K ρ F σ (v :: vs) (.dat d :: ws)
  | bor {v i vs ws} (h : σ[i]? = some (some v)) (t : Opds K ρ F σ vs ws) : Opds K ρ F σ (v :: vs) (.bor i :: ws)
def rA (K : PySem.W.Frag) (ρ : Rho) : Rel (List W) (List V) := fun F _ σ _ _ vs ws => Opds K ρ F σ vs ws
abbrev tE (K : PySem.W.Frag) (g : Gb) (io : Nat → Option Addr) (Wx : WX) (f : Sem) : TE := tG K g io (rE K g.ρ) Wx f
abbrev tN (K : PySem.W.Frag) (g : Gb) (io : Nat → Option Addr) (Wx : WX) (f : Smx D) : TE := tG K g io (rN K g.ρ) Wx f
abbrev tB (K : PySem.W.Frag) (g : Gb) (io : Nat → Option Addr) (Wx : WX) (f : Smx Bool) : TT := tG K g io rB Wx f
abbrev tA (K : PySem.W.Frag) (g : Gb) (io : Nat → Option Addr) (Wx : WX) (f : Smx (List W)) : TA := tG K g io (rA K g.ρ) Wx f
section
variable {K : PySem.W.Frag} {g : Gb} {io : Nat → Option Addr} {F F' R H : Hp} {σ : L2.St} {e : En} {Wx : WX}
theorem rE.mono {v : V} {w : W} {H' : Hp} {e' : En} (x : Ext F F') (h : rE K g.ρ F R σ H e v w) : rE K g.ρ F' R σ H' e' v w := by
  cases w with
  | dat d => exact Dt.mono x h
  | bor i => exact h
/-- an operand, looked at -/
theorem rE.view {v : V} {w : W} {d : D} {H' : Hp} {e' : En} (h : rE K g.ρ F R σ H' e' v w) (s : Stt K g.ρ io F R σ e H) (r : rd e w = some d) : Dt K g.ρ H v d := by
  cases w with
  | dat d' =>
    cases r
    exact Dt.mono s.ext h
  | bor i =>
    have r : rdS e i = some d := r
    have h : σ[i]? = some (some v) := h
    unfold rdS at r
    have go : ∀ {p : Addr} {o : HO}, σ[i]? = some (some (.ref p)) → H p = some o → CellO K g.ρ F o d → Dt K g.ρ H v d := fun {p o} h1 h2 h3 => by
      rw [h] at h1
      cases h1
      cases h3 with
      | lst q => exact .lst h2 q.1 fun i v d a b => (q.2 i v d a b).mono s.ext
    split at r
    · rename_i d' q
      cases r
      obtain ⟨p, o, h1, _, _, h4, h5⟩ := s.slot i _ q
      exact go h1 h4 h5
    · rename_i d' q
      cases r
      obtain ⟨p, o, h1, _, _, h4, h5, _⟩ := s.slot i _ q
      exact go h1 h4 h5
    · cases r
theorem Opds.mono {vs : List V} {ws : List W} (x : Ext F F') (h : Opds K g.ρ F σ vs ws) : Opds K g.ρ F' σ vs ws := by
  induction h with
  | nil => exact .nil
  | dat h _ ih => exact .dat (h.mono x) ih
  | bor h _ ih => exact .bor h ih
theorem Opds.cons {v : V} {w : W} {vs : List V} {ws : List W} {H' : Hp} {e' : En} (h : rE K g.ρ F R σ H' e' v w) (t : Opds K g.ρ F σ vs ws) : Opds K g.ρ F σ (v :: vs) (w :: ws) := by
  cases w with
  | dat d => exact .dat h t
  | bor i => exact .bor h t
end

/-! ### the simple expressions -/
def sVar (i : Nat) : Sem := fun e => match e[i]? with
  | some (.val d) => some (.ok (.dat d) e)
  | some (.own _) => some (.ok (.bor i) e)
  | some (.io _) => some (.ok (.bor i) e)
  | _ => none
@[simp ↓] theorem sVar_u (i : Nat) (e : En) : sVar i e = (match e[i]? with
  | some (.val d) => some (.ok (.dat d) e)
  | some (.own _) => some (.ok (.bor i) e)
  | some (.io _) => some (.ok (.bor i) e)
  | _ => none) := rfl
@[simp] def sC (d : D) : Sem := fun e => some (.ok (.dat d) e)
section
variable {X : Cx} {g : Gb} {io : Nat → Option Addr} {Wx : WX} {pos : Pos}
theorem PE.of {e : Expr} {t t' : TE} (h : PE X e t) (m : ∀ σ H Q, t' σ H Q → t σ H Q) : PE X e t' := ⟨fun pins s σ H Q I q => h.run pins s σ H Q I (m σ H Q q)⟩
theorem PT.of {e : Expr} {t t' : TT} (h : PT X e t) (m : ∀ σ H Q, t' σ H Q → t σ H Q) : PT X e t' := ⟨fun pins s σ H Q I q => h.run pins s σ H Q I (m σ H Q q)⟩
theorem PW.of {e : Expr} {t t' : TT} (h : PW X e t) (m : ∀ σ H Q, t' σ H Q → t σ H Q) : PW X e t' := ⟨fun wh pins s σ H Q I q => h.run wh pins s σ H Q I (m σ H Q q)⟩
theorem PA.of {es : List Expr} {t t' : TA} (h : PA X es t) (m : ∀ σ H Q, t' σ H Q → t σ H Q) : PA X es t' := ⟨fun pos pins s σ H Q I q => h.run pos pins s σ H Q I (m σ H Q q)⟩
theorem PS.of {st : Stmt} {t t' : TS} (h : PS X st t) (m : ∀ D σ H, t' D σ H → t D σ H) : PS X st t' := ⟨fun pins s σ H D I q => h.run pins s σ H D I (m D σ H q)⟩
theorem PSs.of {st : List Stmt} {t t' : TS} (h : PSs X st t) (m : ∀ D σ H, t' D σ H → t D σ H) : PSs X st t' := ⟨fun pins s σ H D I q => h.run pins s σ H D I (m D σ H q)⟩

theorem d_var {i : Nat} {x : Str} (hN : X.N[i]? = some x) (hv : Vis X.env.scope x) (hd : (x == ("__debug__" : Str)) = false := by decide) (hcd : (x == ("__classdict__" : Str)) = false := by decide) : PE X (.Name x pos) (tE X.K g io Wx (sVar i)) := by
  refine PE.of (pe_var hN hv hd hcd) fun σ H Q h => ?_
  obtain ⟨F, R, e, st, h⟩ := h
  unfold sVar at h
  split at h
  · rename_i d q
    obtain ⟨v, h1, h2⟩ := st.slot i _ q
    exact ⟨v, h1, Aft.ok (v := v) h st h2⟩
  · rename_i d q
    obtain ⟨p, o, h1, _⟩ := st.slot i _ q
    exact ⟨_, h1, Aft.ok (v := V.ref p) h st h1⟩
  · rename_i d q
    obtain ⟨p, o, h1, _⟩ := st.slot i _ q
    exact ⟨_, h1, Aft.ok (v := V.ref p) h st h1⟩
  · exact h.elim
theorem c_of {v : V} {d : D} (hd : ∀ F, Dt X.K g.ρ F v d) {ex : Expr} (h : PE X ex (tC v)) : PE X ex (tE X.K g io Wx (sC d)) := by
  refine PE.of h fun σ H Q h => ?_
  obtain ⟨F, R, e, st, h⟩ := h
  exact Aft.ok (v := v) h st (hd F)
theorem d_int {i j} : PE X (.Constant (.int i) j pos) (tE X.K g io Wx (sC (.int i))) := c_of (fun _ => .int i) pe_int
theorem d_bl {b j} : PE X (.Constant (.bool b) j pos) (tE X.K g io Wx (sC (.bl b))) := c_of (fun _ => .bl b) pe_bl
theorem d_non {j} : PE X (.Constant .none j pos) (tE X.K g io Wx (sC .non)) := c_of (fun _ => .non) pe_non
theorem d_str {x j} : PE X (.Constant (.str x) j pos) (tE X.K g io Wx (sC (.str x))) := c_of (fun _ => .str x) pe_str
/-- a module's constant int -/
theorem d_gint {x : Str} {i : Int} {t : Tok} (hg : Gl X x) (hm : X.mg x = some (.int i t)) (hd : (x == ("__debug__" : Str)) = false := by decide) : PE X (.Name x pos) (tE X.K g io Wx (sC (.int i))) := c_of (fun _ => .int i) (pe_glob hg hm ⟨t, rfl⟩ hd)
theorem d_gstr {x : Str} {z : Str} {t : Tok} (hg : Gl X x) (hm : X.mg x = some (.str z t)) (hd : (x == ("__debug__" : Str)) = false := by decide) : PE X (.Name x pos) (tE X.K g io Wx (sC (.str z))) := c_of (fun _ => .str z) (pe_glob hg hm ⟨t, rfl⟩ hd)

/-! ### two operands -/
/-- an operator on data: a value, or stuck -/
def sBin (op : D → D → Option D) (f h : Sem) : Sem := fun e => bnd (f e) fun w1 e1 => bnd (h e1) fun w2 e2 =>
  match rd e2 w1, rd e2 w2 with
  | some a, some b => (match op a b with
    | some d => some (.ok (.dat d) e2)
    | none => none)
  | _, _ => none
@[simp ↓] theorem sBin_u (op : D → D → Option D) (f h : Sem) (e : En) : sBin op f h e = (bnd (f e) fun w1 e1 => bnd (h e1) fun w2 e2 =>
  match rd e2 w1, rd e2 w2 with
  | some a, some b => (match op a b with
    | some d => some (.ok (.dat d) e2)
    | none => none)
  | _, _ => none) := rfl
/-- .. whose result is new -/
def sBinN (op : D → D → Option D) (f h : Sem) : Smx D := fun e => bnd (f e) fun w1 e1 => bnd (h e1) fun w2 e2 =>
  match rd e2 w1, rd e2 w2 with
  | some a, some b => (match op a b with
    | some d => some (.ok d e2)
    | none => none)
  | _, _ => none
@[simp ↓] theorem sBinN_u (op : D → D → Option D) (f h : Sem) (e : En) : sBinN op f h e = (bnd (f e) fun w1 e1 => bnd (h e1) fun w2 e2 =>
  match rd e2 w1, rd e2 w2 with
  | some a, some b => (match op a b with
    | some d => some (.ok d e2)
    | none => none)
  | _, _ => none) := rfl
/-- what an operator's rule must bear: it makes frozen data -/
def OpD (K : PySem.W.Frag) (g : Gb) (r : R2) (op : D → D → Option D) : Prop :=
  ∀ (io : Nat → Option Addr) (F R : Hp) (σ : L2.St) (e : En) (H : Hp) (x y : V) (a b d : D) (Q : VK), Stt K g.ρ io F R σ e H → Dt K g.ρ H x a → Dt K g.ρ H y b → op a b = some d →
    (∀ F' H' v, Ext F F' → Stt K g.ρ io F' R σ e H' → Dt K g.ρ F' v d → Q v H') → r x y H Q
/-- .. it makes a new list -/
def OpN (K : PySem.W.Frag) (g : Gb) (r : R2) (op : D → D → Option D) : Prop :=
  ∀ (io : Nat → Option Addr) (F R : Hp) (σ : L2.St) (e : En) (H : Hp) (x y : V) (a b d : D) (wx wy : W) (Q : VK), Stt K g.ρ io F R σ e H → rE K g.ρ F R σ H e x wx → rE K g.ρ F R σ H e y wy → rd e wx = some a → rd e wy = some b → op a b = some d →
    (∀ F' H' v, Ext F F' → Stt K g.ρ io F' R σ e H' → New K g.ρ F' R σ H' e v d → Q v H') → r x y H Q
theorem bin_of {f h : Sem} {α : Type} {rel : Rel α V} {k : W → W → En → Option (Rs α)} {r : R2}
    (hk : ∀ (F R : Hp) (σ : L2.St) (e : En) (H : Hp) (x y : V) (w1 w2 : W) (Q : VK), Stt X.K g.ρ io F R σ e H → rE X.K g.ρ F R σ H e x w1 → rE X.K g.ρ F R σ H e y w2 → Aft X.K g io rel Wx F R σ Q (k w1 w2 e) → r x y H Q)
    (σ : L2.St) (H : Hp) (Q : VK) (q : tG X.K g io rel Wx (fun e => bnd (f e) fun w1 e1 => bnd (h e1) fun w2 e2 => k w1 w2 e2) σ H Q) : tOp r (tE X.K g io Wx f) (tE X.K g io Wx h) σ H Q := by
  obtain ⟨F, R, e, st, q⟩ := q
  refine ⟨F, R, e, st, q.bnd fun w1 e1 F1 H1 v1 _ x1 s1 r1 q1 => ?_⟩
  refine ⟨F1, R, e1, s1, q1.bnd fun w2 e2 F2 H2 v2 _ x2 s2 r2 q2 => ?_⟩
  exact hk F2 R σ e2 H2 v1 v2 w1 w2 Q s2 (r1.mono x2) r2 q2
theorem bin_D {op : D → D → Option D} {r : R2} (ho : OpD X.K g r op) {f h : Sem} (σ : L2.St) (H : Hp) (Q : VK) (q : tE X.K g io Wx (sBin op f h) σ H Q) : tOp r (tE X.K g io Wx f) (tE X.K g io Wx h) σ H Q := by
  refine bin_of (k := fun w1 w2 e2 => match rd e2 w1, rd e2 w2 with
    | some a, some b => (match op a b with
      | some d => some (Rs.ok (W.dat d) e2)
      | none => none)
    | _, _ => none) (fun F R σ e H x y w1 w2 Q st r1 r2 h => ?_) σ H Q q
  cases e1 : rd e w1 with
  | none => rw [e1] at h; exact h.elim
  | some a =>
    cases e2 : rd e w2 with
    | none => rw [e1, e2] at h; exact h.elim
    | some b =>
      rw [e1, e2] at h
      cases e3 : op a b with
      | none => simp only [e3] at h; exact h.elim
      | some d =>
        simp only [e3] at h
        exact ho io F R σ e H x y a b d Q st (r1.view st e1) (r2.view st e2) e3 fun F' H' v x s z => h F' H' v x s z
theorem bin_N {op : D → D → Option D} {r : R2} (ho : OpN X.K g r op) {f h : Sem} (σ : L2.St) (H : Hp) (Q : VK) (q : tN X.K g io Wx (sBinN op f h) σ H Q) : tOp r (tE X.K g io Wx f) (tE X.K g io Wx h) σ H Q := by
  refine bin_of (k := fun w1 w2 e2 => match rd e2 w1, rd e2 w2 with
    | some a, some b => (match op a b with
      | some d => some (Rs.ok d e2)
      | none => none)
    | _, _ => none) (fun F R σ e H x y w1 w2 Q st r1 r2 h => ?_) σ H Q q
  cases e1 : rd e w1 with
  | none => rw [e1] at h; exact h.elim
  | some a =>
    cases e2 : rd e w2 with
    | none => rw [e1, e2] at h; exact h.elim
    | some b =>
      rw [e1, e2] at h
      cases e3 : op a b with
      | none => simp only [e3] at h; exact h.elim
      | some d =>
        simp only [e3] at h
        exact ho io F R σ e H x y a b d w1 w2 Q st r1 r2 e1 e2 e3 fun F' H' v x s z => h F' H' v x s z
/-- a new list, frozen -/
def sF (f : Smx D) : Sem := fun e => bnd (f e) fun d e' => some (.ok (.dat d) e')
@[simp ↓] theorem sF_u (f : Smx D) (e : En) : sF f e = (bnd (f e) fun d e' => some (.ok (.dat d) e')) := rfl
theorem New.freeze {K : PySem.W.Frag} {F R : Hp} {σ : L2.St} {H : Hp} {e : En} {v : V} {d : D} (s : Stt K g.ρ io F R σ e H) (n : New K g.ρ F R σ H e v d) : ∃ F', Ext F F' ∧ Stt K g.ρ io F' R σ e H ∧ Dt K g.ρ F' v d := by
  obtain ⟨p, o, rfl, nF, nR, nC, hp, co⟩ := n
  obtain ⟨s', x⟩ := s.freeze nF nR nC hp
  refine ⟨_, x, s', ?_⟩
  cases co with
  | lst q => exact .lst upd_same q.1 fun i v d a b => (q.2 i v d a b).mono x
theorem d_f {ex : Expr} {f : Smx D} (h : PE X ex (tN X.K g io Wx f)) : PE X ex (tE X.K g io Wx (sF f)) := by
  refine PE.of h fun σ H Q q => ?_
  obtain ⟨F, R, e, st, q⟩ := q
  refine ⟨F, R, e, st, Aft.bnd (k := fun d e' => some (.ok (W.dat d) e')) q fun d e' F' H' v _ x s n q => ?_⟩
  obtain ⟨F2, x2, s2, dt⟩ := New.freeze s n
  exact q F2 H' v x2 s2 dt
end
end Mz

namespace Mz
open PySem PySem.Spec PyProof.Rows L2

/-! ### argument lists, displays -/
@[simp] def sNil : Smx (List W) := fun e => some (.ok [] e)
def sCons (f : Sem) (h : Smx (List W)) : Smx (List W) := fun e => bnd (f e) fun w e1 => bnd (h e1) fun ws e2 => some (.ok (w :: ws) e2)
@[simp ↓] theorem sCons_u (f : Sem) (h : Smx (List W)) (e : En) : sCons f h e = (bnd (f e) fun w e1 => bnd (h e1) fun ws e2 => some (.ok (w :: ws) e2)) := rfl
@[simp] def rds (e : En) : List W → Option (List D)
  | [] => some []
  | w :: ws => match rd e w, rds e ws with
    | some d, some ds => some (d :: ds)
    | _, _ => none
/-- all frozen -/
@[simp] def dats : List W → Option (List D)
  | [] => some []
  | .dat d :: ws => (match dats ws with
    | some ds => some (d :: ds)
    | none => none)
  | .bor _ :: _ => none
section
variable {K : PySem.W.Frag} {g : Gb} {io : Nat → Option Addr} {F R H : Hp} {σ : L2.St} {e : En}
theorem Opds.view (s : Stt K g.ρ io F R σ e H) : ∀ {vs : List V} {ws : List W} {ds : List D}, Opds K g.ρ F σ vs ws → rds e ws = some ds → Sqs K g.ρ H vs ds
  | _, _, _, .nil, r => by cases r; exact .nil
  | _, _, _, .dat (d := d) (ws := ws) h t, r => by
    have r : (match rd e (.dat d), rds e ws with
      | some d, some ds => some (d :: ds)
      | _, _ => none) = some _ := r
    cases q : rds e ws with
    | none => rw [q] at r; cases r
    | some ds =>
      rw [q] at r
      cases r
      exact .cons (h.mono s.ext) (Opds.view s t q)
  | _, _, _, .bor (i := i) (ws := ws) h t, r => by
    have r : (match rd e (.bor i), rds e ws with
      | some d, some ds => some (d :: ds)
      | _, _ => none) = some _ := r
    cases q0 : rd e (.bor i) with
    | none => rw [q0] at r; cases r
    | some d =>
      cases q : rds e ws with
      | none => rw [q0, q] at r; cases r
      | some ds =>
        rw [q0, q] at r
        cases r
        exact .cons (rE.view (F := F) (R := R) (H' := H) (e' := e) (w := .bor i) h s q0) (Opds.view s t q)
theorem Opds.frozen : ∀ {vs : List V} {ws : List W} {ds : List D}, Opds K g.ρ F σ vs ws → dats ws = some ds → Sqs K g.ρ F vs ds
  | _, _, _, .nil, r => by cases r; exact .nil
  | _, _, _, .dat (d := d) (ws := ws) h t, r => by
    unfold dats at r
    cases q : dats ws with
    | none => rw [q] at r; cases r
    | some ds =>
      rw [q] at r
      cases r
      exact .cons h (Opds.frozen t q)
end
section
variable {X : Cx} {g : Gb} {io : Nat → Option Addr} {Wx : WX} {pos : Pos}
theorem a_nil : PA X [] (tA X.K g io Wx sNil) := by
  refine PA.of pa_nil fun σ H Q h => ?_
  obtain ⟨F, R, e, st, h⟩ := h
  exact Aft.ok (v := []) h st .nil
theorem a_cons {a : Expr} {es : List Expr} {f : Sem} {h : Smx (List W)} (ha : PE X a (tE X.K g io Wx f)) (hr : PA X es (tA X.K g io Wx h)) (hs : starEach (a :: es) X.env = (false, eval a X.env) :: starEach es X.env := by rfl) :
    PA X (a :: es) (tA X.K g io Wx (sCons f h)) := by
  refine PA.of (pa_cons ha hr hs) fun σ H Q q => ?_
  obtain ⟨F, R, e, st, q⟩ := q
  refine ⟨F, R, e, st, Aft.bnd (k := fun w e1 => bnd (h e1) fun ws e2 => some (.ok (w :: ws) e2)) q fun w e1 F1 H1 v1 _ x1 s1 r1 q1 => ?_⟩
  refine ⟨F1, R, e1, s1, Aft.bnd (k := fun ws e2 => some (.ok (w :: ws) e2)) q1 fun ws e2 F2 H2 v2 _ x2 s2 r2 q2 => ?_⟩
  exact Aft.ok (v := v1 :: v2) q2 s2 (Opds.cons (H' := H2) (e' := e2) (r1.mono (R := R) (H := H2) (e := e2) x2) r2)
/-- a tuple display -/
def sTup (h : Smx (List W)) : Sem := fun e => bnd (h e) fun ws e' => match dats ws with
  | some ds => if ds.length ≤ sizeLine then some (.ok (.dat (.tup ds)) e') else none
  | none => none
@[simp ↓] theorem sTup_u (h : Smx (List W)) (e : En) : sTup h e = (bnd (h e) fun ws e' => match dats ws with
  | some ds => if ds.length ≤ sizeLine then some (.ok (.dat (.tup ds)) e') else none
  | none => none) := rfl
/-- a list display: new -/
def sLst (h : Smx (List W)) : Smx D := fun e => bnd (h e) fun ws e' => match dats ws with
  | some ds => if ds.length ≤ sizeLine then some (.ok (.lst ds) e') else none
  | none => none
@[simp ↓] theorem sLst_u (h : Smx (List W)) (e : En) : sLst h e = (bnd (h e) fun ws e' => match dats ws with
  | some ds => if ds.length ≤ sizeLine then some (.ok (.lst ds) e') else none
  | none => none) := rfl
theorem new_list {K : PySem.W.Frag} {F R H : Hp} {σ : L2.St} {e : En} {p : Addr} {vs : List V} {ds : List D} (s : Stt K g.ρ io F R σ e H) (hp : H p = none) (q : Sqs K g.ρ F vs ds) : New K g.ρ F R σ (upd H p (.lst vs)) e (.ref p) (.lst ds) :=
  ⟨p, _, rfl, s.none_F hp, s.none_R hp, s.noCell hp, upd_same, .lst q⟩
theorem d_tup {es : List Expr} {h : Smx (List W)} {x1} (ha : PA X es (tA X.K g io Wx h)) : PE X (.Tuple es x1 pos) (tE X.K g io Wx (sTup h)) := by
  refine PE.of (pe_tup ha) fun σ H Q q => ?_
  obtain ⟨F, R, e, st, q⟩ := q
  refine ⟨F, R, e, st, Aft.bnd (k := fun ws e' => match dats ws with
    | some ds => if ds.length ≤ sizeLine then some (Rs.ok (W.dat (.tup ds)) e') else none
    | none => none) q fun ws e' F' H' vs _ x s r q => ?_⟩
  cases e1 : dats ws with
  | none => rw [e1] at q; exact q.elim
  | some ds =>
    rw [e1] at q
    have sq := Opds.frozen r e1
    by_cases hz : ds.length ≤ sizeLine
    · simp only [hz, if_true] at q
      refine ⟨by rw [sq.1]; exact hz, fun p hp => ?_⟩
      obtain ⟨s2, x2⟩ := s.alloc (o := .tup vs) hp
      exact q _ _ (V.ref p) x2 s2 (.tup (SqT.of upd_same) sq.1 fun i v d a b => (sq.2 i v d a b).mono x2)
    · simp only [hz, if_false] at q
      exact q.elim
theorem n_lst {es : List Expr} {h : Smx (List W)} (ha : PA X es (tA X.K g io Wx h)) : PE X (.List es pos) (tN X.K g io Wx (sLst h)) := by
  refine PE.of (pe_lst ha) fun σ H Q q => ?_
  obtain ⟨F, R, e, st, q⟩ := q
  refine ⟨F, R, e, st, Aft.bnd (k := fun ws e' => match dats ws with
    | some ds => if ds.length ≤ sizeLine then some (Rs.ok (D.lst ds) e') else none
    | none => none) q fun ws e' F' H' vs _ x s r q => ?_⟩
  cases e1 : dats ws with
  | none => rw [e1] at q; exact q.elim
  | some ds =>
    rw [e1] at q
    have sq := Opds.frozen r e1
    by_cases hz : ds.length ≤ sizeLine
    · simp only [hz, if_true] at q
      refine ⟨by rw [sq.1]; exact hz, fun p hp => ?_⟩
      exact q _ _ (V.ref p) Ext.rfl' (s.fresh hp) (new_list s hp sq)
    · simp only [hz, if_false] at q
      exact q.elim

/-! ### operators -/
theorem d_bin {op : Operator} {r : R2} {o : D → D → Option D} {a b : Expr} {f h : Sem} (ho : OpR X (binaryOp op) r) (hd : OpD X.K g r o) (ha : PE X a (tE X.K g io Wx f)) (hb : PE X b (tE X.K g io Wx h)) : PE X (.BinOp a op b pos) (tE X.K g io Wx (sBin o f h)) :=
  PE.of (pe_op ho ha hb) fun σ H Q q => bin_D hd σ H Q q
theorem n_bin {op : Operator} {r : R2} {o : D → D → Option D} {a b : Expr} {f h : Sem} (ho : OpR X (binaryOp op) r) (hd : OpN X.K g r o) (ha : PE X a (tE X.K g io Wx f)) (hb : PE X b (tE X.K g io Wx h)) : PE X (.BinOp a op b pos) (tN X.K g io Wx (sBinN o f h)) :=
  PE.of (pe_op ho ha hb) fun σ H Q q => bin_N hd σ H Q q
theorem d_cmp {op : CmpOp} {r : R2} {o : D → D → Option D} {a b : Expr} {f h : Sem} (ho : OpR X (compareOp op) r) (hd : OpD X.K g r o) (ha : PE X a (tE X.K g io Wx f)) (hb : PE X b (tE X.K g io Wx h)) (hm : behindInMarks op b = false) :
    PE X (.Compare a [op] [b] pos) (tE X.K g io Wx (sBin o f h)) := PE.of (pe_cmpR ho ha hb hm) fun σ H Q q => bin_D hd σ H Q q
/-- ints -/
@[simp] def dI2 (f : Int → Int → D) : D → D → Option D
  | .int i, .int j => some (f i j)
  | _, _ => none
@[simp] def dI2c (c : Int → Int → Bool) (f : Int → Int → D) : D → D → Option D
  | .int i, .int j => if c i j = true then some (f i j) else none
  | _, _ => none
theorem opd_I0 {k : Int → Int → V} {f : Int → Int → D} (h : ∀ F i j, Dt X.K g.ρ F (k i j) (f i j)) : OpD X.K g (rI0 k) (dI2 f) := by
  intro io F R σ e H x y a b d Q st ha hb ho q
  cases a with
  | int i =>
    cases b with
    | int j =>
      cases ha
      cases hb
      cases ho
      exact ⟨i, j, rfl, rfl, q F H _ Ext.rfl' st (h F i j)⟩
    | _ => cases ho
  | _ => cases ho
theorem opd_I {C : Int → Int → Prop} {k : Int → Int → V} {c : Int → Int → Bool} {f : Int → Int → D} (hc : ∀ i j, c i j = true → C i j) (h : ∀ F i j, Dt X.K g.ρ F (k i j) (f i j)) : OpD X.K g (rI C k) (dI2c c f) := by
  intro io F R σ e H x y a b d Q st ha hb ho q
  cases a with
  | int i =>
    cases b with
    | int j =>
      cases ha
      cases hb
      have ho : (if c i j = true then some (f i j) else none) = some d := ho
      by_cases z : c i j = true
      · rw [if_pos z] at ho
        cases ho
        exact ⟨i, j, rfl, rfl, hc i j z, q F H _ Ext.rfl' st (h F i j)⟩
      · rw [if_neg z] at ho
        cases ho
    | _ => cases ho
  | _ => cases ho
@[simp] def cMul (i j : Int) : Bool := decide (i.natAbs < 2 ^ 64) || decide (j.natAbs < 2 ^ 64)
theorem cMul_ok (i j : Int) (h : cMul i j = true) : CMul i j := by
  unfold cMul at h
  simp only [Bool.or_eq_true, decide_eq_true_eq] at h
  unfold CMul
  omega
@[simp] def cDiv (_ j : Int) : Bool := decide (0 < j) && decide (j < 1073741824)
theorem cDiv_ok (i j : Int) (h : cDiv i j = true) : CDiv i j := by
  unfold cDiv at h
  simp only [Bool.and_eq_true, decide_eq_true_eq] at h
  exact h
@[simp] def cMod (_ j : Int) : Bool := decide (0 < j)
@[simp] def cPow (i j : Int) : Bool := decide (0 ≤ j) && decide (j ≤ 1000000) && decide (i.natAbs < 2 ^ 64)
theorem cPow_ok (i j : Int) (h : cPow i j = true) : CPow i j := by
  unfold cPow at h
  simp only [Bool.and_eq_true, decide_eq_true_eq] at h
  exact ⟨h.1.1, h.1.2, h.2⟩
@[simp] abbrev oSub := dI2 fun i j => .int (i - j)
@[simp] abbrev oMul := dI2c cMul fun i j => .int (i * j)
@[simp] abbrev oDiv := dI2c cDiv fun i j => .int (i / j)
@[simp] abbrev oMod := dI2c cMod fun i j => .int (i % j)
@[simp] abbrev oPow := dI2c cPow fun i j => .int (i ^ j.toNat)
@[simp] abbrev oLt := dI2 fun i j => .bl (decide (i < j))
@[simp] abbrev oLe := dI2 fun i j => .bl (decide (i ≤ j))
@[simp] abbrev oGt := dI2 fun i j => .bl (decide (j < i))
@[simp] abbrev oGe := dI2 fun i j => .bl (decide (j ≤ i))
variable {a b : Expr} {f h : Sem}
theorem d_addI (ha : PE X a (tE X.K g io Wx f)) (hb : PE X b (tE X.K g io Wx h)) : PE X (.BinOp a .Add b pos) (tE X.K g io Wx (sBin (dI2 fun i j => .int (i + j)) f h)) := d_bin op_add (opd_I0 fun _ i j => .int _) ha hb
theorem d_sub (ha : PE X a (tE X.K g io Wx f)) (hb : PE X b (tE X.K g io Wx h)) : PE X (.BinOp a .Sub b pos) (tE X.K g io Wx (sBin oSub f h)) := d_bin op_sub (opd_I0 fun _ i j => .int _) ha hb
theorem d_mulI (ha : PE X a (tE X.K g io Wx f)) (hb : PE X b (tE X.K g io Wx h)) : PE X (.BinOp a .Mult b pos) (tE X.K g io Wx (sBin oMul f h)) := d_bin op_mul (opd_I cMul_ok fun _ i j => .int _) ha hb
theorem d_div (ha : PE X a (tE X.K g io Wx f)) (hb : PE X b (tE X.K g io Wx h)) : PE X (.BinOp a .FloorDiv b pos) (tE X.K g io Wx (sBin oDiv f h)) := d_bin op_fdiv (opd_I cDiv_ok fun _ i j => .int _) ha hb
theorem d_mod (ha : PE X a (tE X.K g io Wx f)) (hb : PE X b (tE X.K g io Wx h)) : PE X (.BinOp a .Mod b pos) (tE X.K g io Wx (sBin oMod f h)) := d_bin op_mod (opd_I (fun i j z => of_decide_eq_true z) fun _ i j => .int _) ha hb
theorem d_pow (ha : PE X a (tE X.K g io Wx f)) (hb : PE X b (tE X.K g io Wx h)) : PE X (.BinOp a .Pow b pos) (tE X.K g io Wx (sBin oPow f h)) := d_bin op_pow (opd_I cPow_ok fun _ i j => .int _) ha hb
theorem d_lt (ha : PE X a (tE X.K g io Wx f)) (hb : PE X b (tE X.K g io Wx h)) : PE X (.Compare a [.Lt] [b] pos) (tE X.K g io Wx (sBin oLt f h)) := d_cmp op_lt (opd_I0 fun _ i j => .bl _) ha hb (nomark _)
theorem d_le (ha : PE X a (tE X.K g io Wx f)) (hb : PE X b (tE X.K g io Wx h)) : PE X (.Compare a [.LtE] [b] pos) (tE X.K g io Wx (sBin oLe f h)) := d_cmp op_le (opd_I0 fun _ i j => .bl _) ha hb (nomark _)
theorem d_gt (ha : PE X a (tE X.K g io Wx f)) (hb : PE X b (tE X.K g io Wx h)) : PE X (.Compare a [.Gt] [b] pos) (tE X.K g io Wx (sBin oGt f h)) := d_cmp op_gt (opd_I0 fun _ i j => .bl _) ha hb (nomark _)
theorem d_ge (ha : PE X a (tE X.K g io Wx f)) (hb : PE X b (tE X.K g io Wx h)) : PE X (.Compare a [.GtE] [b] pos) (tE X.K g io Wx (sBin oGe f h)) := d_cmp op_ge (opd_I0 fun _ i j => .bl _) ha hb (nomark _)
/-- a negative number as written -/
def sNeg (f : Sem) : Sem := fun e => bnd (f e) fun w e' => match rd e' w with
  | some (.int i) => some (.ok (.dat (.int (-i))) e')
  | _ => none
@[simp ↓] theorem sNeg_u (f : Sem) (e : En) : sNeg f e = (bnd (f e) fun w e' => match rd e' w with
  | some (.int i) => some (.ok (.dat (.int (-i))) e')
  | _ => none) := rfl
/-- one operand -/
theorem un_of {f : Sem} {α : Type} {rel : Rel α V} {k : W → En → Option (Rs α)} {r : V → Hp → VK → Prop}
    (hk : ∀ (F R : Hp) (σ : L2.St) (e : En) (H : Hp) (x : V) (w : W) (Q : VK), Stt X.K g.ρ io F R σ e H → rE X.K g.ρ F R σ H e x w → Aft X.K g io rel Wx F R σ Q (k w e) → r x H Q)
    (σ : L2.St) (H : Hp) (Q : VK) (q : tG X.K g io rel Wx (fun e => bnd (f e) k) σ H Q) : tE X.K g io Wx f σ H (fun x H1 => r x H1 Q) := by
  obtain ⟨F, R, e, st, q⟩ := q
  exact ⟨F, R, e, st, q.bnd fun w1 e1 F1 H1 v1 _ x1 s1 r1 q1 => hk F1 R σ e1 H1 v1 w1 Q s1 r1 q1⟩
theorem d_neg (ha : PE X a (tE X.K g io Wx f)) : PE X (.UnaryOp .USub a pos) (tE X.K g io Wx (sNeg f)) := by
  refine PE.of (pe_un un_neg ha) fun σ H Q q => un_of (k := fun w e' => match rd e' w with
    | some (.int i) => some (Rs.ok (W.dat (.int (-i))) e')
    | _ => none) (fun F R σ e H x w Q st r h => ?_) σ H Q q
  cases e1 : rd e w with
  | none => rw [e1] at h; exact h.elim
  | some d =>
    have v := r.view st e1
    rw [e1] at h
    cases d with
    | int i =>
      cases v
      exact ⟨i, rfl, Aft.ok (v := V.int (-i)) h st (.int _)⟩
    | _ => exact h.elim
end
end Mz

namespace Mz
open PySem PySem.Spec PyProof.Rows L2

/-! ### data as the kit's == takes it -/
mutual
def toPy : D → Option PyData
  | .non => some .none
  | .bl b => some (.bool b)
  | .int i => some (.int i)
  | .str s => some (.str s)
  | .lst xs => (toPys xs).map .list
  | .tup xs => (toPys xs).map .tuple
  | .ins _ _ => none
  | .ro _ => none
  | .dct _ _ => none
def toPys : List D → Option (List PyData)
  | [] => some []
  | x :: xs => match toPy x, toPys xs with
    | some d, some ds => some (d :: ds)
    | _, _ => none
end
theorem dpAll_of {K : PySem.W.Frag} {H : Hp} : ∀ {vs : List V} {ds : List PyData}, vs.length = ds.length → (∀ (i : Nat) v d, vs[i]? = some v → ds[i]? = some d → Dp K H v d) → DpAll K H vs ds
  | [], [], _, _ => .nil
  | [], _ :: _, h, _ => by simp at h
  | _ :: _, [], h, _ => by simp at h
  | v :: vs, d :: ds, h, q => .cons (q 0 v d rfl rfl) (dpAll_of (by simpa using h) fun i v d a b => q (i + 1) v d (by simpa using a) (by simpa using b))
theorem toPys_get : ∀ {xs : List D} {ds : List PyData}, toPys xs = some ds → xs.length = ds.length ∧ ∀ (i : Nat) d, ds[i]? = some d → ∃ x, xs[i]? = some x ∧ toPy x = some d
  | [], ds, h => by
    have h : some [] = some ds := h
    cases h
    exact ⟨rfl, fun i d e => by simp at e⟩
  | x :: xs, ds, h => by
    unfold toPys at h
    cases e1 : toPy x with
    | none => rw [e1] at h; cases h
    | some d0 =>
      cases e2 : toPys xs with
      | none => rw [e1, e2] at h; cases h
      | some ds0 =>
        rw [e1, e2] at h
        cases h
        obtain ⟨l, q⟩ := toPys_get e2
        refine ⟨by simp [l], fun i d e => ?_⟩
        cases i with
        | zero => simp at e; subst e; exact ⟨x, rfl, e1⟩
        | succ i => simp at e; obtain ⟨y, a, b⟩ := q i d e; exact ⟨y, by simpa using a, b⟩
theorem Dt.dp {K : PySem.W.Frag} {ρ : Rho} {H : Hp} {v : V} {d : D} (h : Dt K ρ H v d) : ∀ {p : PyData}, toPy d = some p → Dp K H v p := by
  induction h with
  | non => intro p e; simp [toPy] at e; subst e; exact .non
  | bl b => intro p e; simp [toPy] at e; subst e; exact .bl b
  | int i => intro p e; simp [toPy] at e; subst e; exact .int i
  | str s => intro p e; simp [toPy] at e; subst e; exact .str s
  | lst h hl _ ih =>
    intro p e
    simp only [toPy, Option.map_eq_some_iff] at e
    obtain ⟨ds, e, rfl⟩ := e
    obtain ⟨l, q⟩ := toPys_get e
    refine .lst (SqL.of h) (dpAll_of (hl.trans l) fun i v d a b => ?_)
    obtain ⟨x, hx, hd⟩ := q i d b
    exact ih i v x a hx hd
  | tup h hl _ ih =>
    intro p e
    simp only [toPy, Option.map_eq_some_iff] at e
    obtain ⟨ds, e, rfl⟩ := e
    obtain ⟨l, q⟩ := toPys_get e
    refine .tup h (dpAll_of (hl.trans l) fun i v d a b => ?_)
    obtain ⟨x, hx, hd⟩ := q i d b
    exact ih i v x a hx hd
  | ins _ _ _ _ _ _ => intro p e; simp [toPy] at e
  | ro _ => intro p e; simp [toPy] at e
  | dct _ _ _ _ _ => intro p e; simp [toPy] at e
/-- data of our own kinds within the kit's bounds -/
def eqD (a b : D) : Option Bool :=
  match toPy a, toPy b with
  | some x, some y => if (SeqAt.shaped x && SeqAt.shaped y) = true then some (PyData.eqv x y) else none
  | _, _ => none
def oEq : D → D → Option D := fun a b => (eqD a b).map .bl
def oNe : D → D → Option D := fun a b => (eqD a b).map fun r => .bl (!r)
def inD (a b : D) : Option Bool :=
  match toPy a, toPy b with
  | some x, some (.list ys) => if (SeqAt.shaped x && SeqAt.shaped (.list ys)) = true then some (ys.any fun z => PyData.eqv z x) else none
  | _, _ => none
def oInL : D → D → Option D := fun a b => (inD a b).map .bl
def oNotInL : D → D → Option D := fun a b => (inD a b).map fun r => .bl (!r)
section
variable {X : Cx} {g : Gb} {io : Nat → Option Addr} {Wx : WX} {pos : Pos} {a b : Expr} {f h : Sem}
theorem eqD_some {a b : D} {r : Bool} (h : eqD a b = some r) : ∃ x y, toPy a = some x ∧ toPy b = some y ∧ SeqAt.shaped x = true ∧ SeqAt.shaped y = true ∧ r = PyData.eqv x y := by
  unfold eqD at h
  cases e1 : toPy a with
  | none => rw [e1] at h; cases h
  | some x =>
    cases e2 : toPy b with
    | none => rw [e1, e2] at h; cases h
    | some y =>
      rw [e1, e2] at h
      simp only at h
      by_cases z : (SeqAt.shaped x && SeqAt.shaped y) = true
      · rw [if_pos z] at h
        cases h
        rw [Bool.and_eq_true] at z
        exact ⟨x, y, rfl, rfl, z.1, z.2, rfl⟩
      · rw [if_neg z] at h; cases h
theorem opd_eq : OpD X.K g (rEqD X.K) oEq := by
  intro io F R σ e H x y a b d Q st ha hb ho q
  unfold oEq at ho
  rw [Option.map_eq_some_iff] at ho
  obtain ⟨r, ho, rfl⟩ := ho
  obtain ⟨p, p', e1, e2, s1, s2, rfl⟩ := eqD_some ho
  exact ⟨p, p', ha.dp e1, hb.dp e2, s1, s2, q F H _ Ext.rfl' st (.bl _)⟩
theorem opd_ne : OpD X.K g (rNeD X.K) oNe := by
  intro io F R σ e H x y a b d Q st ha hb ho q
  unfold oNe at ho
  rw [Option.map_eq_some_iff] at ho
  obtain ⟨r, ho, rfl⟩ := ho
  obtain ⟨p, p', e1, e2, s1, s2, rfl⟩ := eqD_some ho
  exact ⟨p, p', ha.dp e1, hb.dp e2, s1, s2, q F H _ Ext.rfl' st (.bl _)⟩
theorem inD_some {a b : D} {r : Bool} (h : inD a b = some r) : ∃ x ys, toPy a = some x ∧ toPy b = some (.list ys) ∧ SeqAt.shaped x = true ∧ SeqAt.shaped (.list ys) = true ∧ r = ys.any fun z => PyData.eqv z x := by
  unfold inD at h
  cases e1 : toPy a with
  | none => rw [e1] at h; cases h
  | some x =>
    cases e2 : toPy b with
    | none => rw [e1, e2] at h; cases h
    | some y =>
      rw [e1, e2] at h
      cases y with
      | list ys =>
        simp only at h
        by_cases z : (SeqAt.shaped x && SeqAt.shaped (.list ys)) = true
        · rw [if_pos z] at h
          cases h
          rw [Bool.and_eq_true] at z
          exact ⟨x, ys, rfl, rfl, z.1, z.2, rfl⟩
        · rw [if_neg z] at h; cases h
      | _ => cases h
theorem opd_inL : OpD X.K g (rInD X.K) oInL := by
  intro io F R σ e H x y a b d Q st ha hb ho q
  unfold oInL at ho
  rw [Option.map_eq_some_iff] at ho
  obtain ⟨r, ho, rfl⟩ := ho
  obtain ⟨p, p', e1, e2, s1, s2, rfl⟩ := inD_some ho
  exact ⟨p, p', ha.dp e1, hb.dp e2, s1, s2, q F H _ Ext.rfl' st (.bl _)⟩
theorem opd_notInL : OpD X.K g (rNotInD X.K) oNotInL := by
  intro io F R σ e H x y a b d Q st ha hb ho q
  unfold oNotInL at ho
  rw [Option.map_eq_some_iff] at ho
  obtain ⟨r, ho, rfl⟩ := ho
  obtain ⟨p, p', e1, e2, s1, s2, rfl⟩ := inD_some ho
  exact ⟨p, p', ha.dp e1, hb.dp e2, s1, s2, q F H _ Ext.rfl' st (.bl _)⟩
theorem d_eq {k : Nat} (hr : Room k X.A) (ha : PE X a (tE X.K g io Wx f)) (hb : PE X b (tE X.K g io Wx h)) : PE X (.Compare a [.Eq] [b] pos) (tE X.K g io Wx (sBin oEq f h)) := d_cmp (op_eqD hr.units) opd_eq ha hb (nomark _)
theorem d_ne {k : Nat} (hr : Room k X.A) (ha : PE X a (tE X.K g io Wx f)) (hb : PE X b (tE X.K g io Wx h)) : PE X (.Compare a [.NotEq] [b] pos) (tE X.K g io Wx (sBin oNe f h)) := d_cmp (op_neD hr.units) opd_ne ha hb (nomark _)
theorem units65 {k : Nat} {A : Around} (r : Room k A) : A.units + 65 < cLine := by have := r.un; omega
theorem d_inL {k : Nat} (hr : Room k X.A) (ha : PE X a (tE X.K g io Wx f)) (hb : PE X b (tE X.K g io Wx h)) (hm : behindInMarks .In b = false := by rfl) : PE X (.Compare a [.In] [b] pos) (tE X.K g io Wx (sBin oInL f h)) := d_cmp (op_inD (units65 hr)) opd_inL ha hb hm
theorem d_notInL {k : Nat} (hr : Room k X.A) (ha : PE X a (tE X.K g io Wx f)) (hb : PE X b (tE X.K g io Wx h)) (hm : behindInMarks .NotIn b = false := by rfl) : PE X (.Compare a [.NotIn] [b] pos) (tE X.K g io Wx (sBin oNotInL f h)) := d_cmp (op_notInD (units65 hr)) opd_notInL ha hb hm
/-- is None -/
@[simp] def oIsN : D → D → Option D
  | .non, .non => some (.bl true)
  | .ro _, .non => none
  | _, .non => some (.bl false)
  | _, _ => none
@[simp] def oNotN : D → D → Option D
  | .non, .non => some (.bl false)
  | .ro _, .non => none
  | _, .non => some (.bl true)
  | _, _ => none
theorem opd_isN : OpD X.K g (fun x y H Q => y = .non ∧ Q (.bl (decide (x = .non))) H) oIsN := by
  intro io F R σ e H x y a b d Q st ha hb ho q
  cases b with
  | non =>
    cases hb
    refine ⟨rfl, ?_⟩
    cases ha <;> first
      | (cases ho; exact q F H _ Ext.rfl' st (.bl _))
      | (exact nomatch ho)
  | _ => cases a <;> exact nomatch ho
theorem opd_notN : OpD X.K g (fun x y H Q => y = .non ∧ Q (.bl (!decide (x = .non))) H) oNotN := by
  intro io F R σ e H x y a b d Q st ha hb ho q
  cases b with
  | non =>
    cases hb
    refine ⟨rfl, ?_⟩
    cases ha <;> first
      | (cases ho; exact q F H _ Ext.rfl' st (.bl _))
      | (exact nomatch ho)
  | _ => cases a <;> exact nomatch ho
theorem d_isN (ha : PE X a (tE X.K g io Wx f)) (hb : PE X b (tE X.K g io Wx h)) : PE X (.Compare a [.Is] [b] pos) (tE X.K g io Wx (sBin oIsN f h)) := d_cmp op_isN opd_isN ha hb (nomark _)
theorem d_notN (ha : PE X a (tE X.K g io Wx f)) (hb : PE X b (tE X.K g io Wx h)) : PE X (.Compare a [.IsNot] [b] pos) (tE X.K g io Wx (sBin oNotN f h)) := d_cmp op_notN opd_notN ha hb (nomark _)
/-- is True, is False (of bools) -/
@[simp] def oIsB : D → D → Option D
  | .bl a, .bl b => some (.bl (decide (a = b)))
  | _, _ => none
@[simp] def oNotB : D → D → Option D
  | .bl a, .bl b => some (.bl (!decide (a = b)))
  | _, _ => none
theorem opd_isB : OpD X.K g rIsB oIsB := by
  intro io F R σ e H x y a b d Q st ha hb ho q
  cases a with
  | bl a =>
    cases b with
    | bl b => cases ha; cases hb; cases ho; exact ⟨a, b, rfl, rfl, q F H _ Ext.rfl' st (.bl _)⟩
    | _ => exact nomatch ho
  | _ => exact nomatch ho
theorem opd_notB : OpD X.K g rNotB oNotB := by
  intro io F R σ e H x y a b d Q st ha hb ho q
  cases a with
  | bl a =>
    cases b with
    | bl b => cases ha; cases hb; cases ho; exact ⟨a, b, rfl, rfl, q F H _ Ext.rfl' st (.bl _)⟩
    | _ => exact nomatch ho
  | _ => exact nomatch ho
theorem d_isB (ha : PE X a (tE X.K g io Wx f)) (hb : PE X b (tE X.K g io Wx h)) : PE X (.Compare a [.Is] [b] pos) (tE X.K g io Wx (sBin oIsB f h)) := d_cmp op_isBl opd_isB ha hb (nomark _)
theorem d_notB (ha : PE X a (tE X.K g io Wx f)) (hb : PE X b (tE X.K g io Wx h)) : PE X (.Compare a [.IsNot] [b] pos) (tE X.K g io Wx (sBin oNotB f h)) := d_cmp op_notBl opd_notB ha hb (nomark _)
/-- chains -/
def sChain (o o' : D → D → Option D) (f h h2 : Sem) : Sem := fun e => bnd (f e) fun w1 e1 => bnd (h e1) fun w2 e2 =>
  match rd e2 w1, rd e2 w2 with
  | some a, some b => (match o a b with
    | some (.bl true) => bnd (h2 e2) fun w3 e3 => (match rd e3 w2, rd e3 w3 with
      | some b', some c => (match o' b' c with
        | some d => some (.ok (.dat d) e3)
        | none => none)
      | _, _ => none)
    | some (.bl false) => some (.ok (.dat (.bl false)) e2)
    | _ => none)
  | _, _ => none
@[simp ↓] theorem sChain_u (o o' : D → D → Option D) (f h h2 : Sem) (e : En) : sChain o o' f h h2 e = (bnd (f e) fun w1 e1 => bnd (h e1) fun w2 e2 =>
  match rd e2 w1, rd e2 w2 with
  | some a, some b => (match o a b with
    | some (.bl true) => bnd (h2 e2) fun w3 e3 => (match rd e3 w2, rd e3 w3 with
      | some b', some c => (match o' b' c with
        | some d => some (.ok (.dat d) e3)
        | none => none)
      | _, _ => none)
    | some (.bl false) => some (.ok (.dat (.bl false)) e2)
    | _ => none)
  | _, _ => none) := rfl
theorem d_chain {op op' : CmpOp} {r r' : R2} {o o' : D → D → Option D} {c : Expr} {h2 : Sem} (ho : OpR X (compareOp op) r) (ho' : OpR X (compareOp op') r') (hd : OpD X.K g r o) (hd' : OpD X.K g r' o')
    (ha : PE X a (tE X.K g io Wx f)) (hb : PE X b (tE X.K g io Wx h)) (hc : PE X c (tE X.K g io Wx h2)) (hm : lastMarks [op, op'] [b, c] = false := by with_unfolding_all rfl) :
    PE X (.Compare a [op, op'] [b, c] pos) (tE X.K g io Wx (sChain o o' f h h2)) := by
  refine PE.of (pe_chain ho ho' ha hb hc hm) fun σ H Q q => ?_
  obtain ⟨F, R, e, st, q⟩ := q
  unfold sChain at q
  refine ⟨F, R, e, st, q.bnd fun w1 e1 F1 H1 v1 _ x1 s1 r1 q1 => ?_⟩
  refine ⟨F1, R, e1, s1, q1.bnd fun w2 e2 F2 H2 v2 _ x2 s2 r2 q2 => ?_⟩
  have r1' : rE X.K g.ρ F2 R σ H2 e2 v1 w1 := r1.mono x2
  cases z1 : rd e2 w1 with
  | none => rw [z1] at q2; exact q2.elim
  | some da =>
    cases z2 : rd e2 w2 with
    | none => rw [z1, z2] at q2; exact q2.elim
    | some db =>
      rw [z1, z2] at q2
      simp only at q2
      cases z3 : o da db with
      | none => rw [z3] at q2; exact q2.elim
      | some d =>
        rw [z3] at q2
        refine hd io F2 R σ e2 H2 v1 v2 da db d _ s2 (r1'.view s2 z1) (r2.view s2 z2) z3 fun F3 H3 v x3 s3 dt => ?_
        cases d with
        | bl k =>
          cases dt
          refine ⟨k, rfl, ?_⟩
          cases k with
          | false =>
            rw [if_neg Bool.false_ne_true]
            exact (q2.weak x3).ok s3 (.bl _)
          | true =>
            rw [if_pos rfl]
            simp only at q2
            refine ⟨F3, R, e2, s3, (q2.weak x3).bnd fun w3 e3 F4 H4 v4 _ x4 s4 r4 q4 => ?_⟩
            have r2' : rE X.K g.ρ F4 R σ H4 e3 v2 w2 := rE.mono (R := R) (H := H2) (e := e2) (x3.trans x4) r2
            cases z4 : rd e3 w2 with
            | none => rw [z4] at q4; exact q4.elim
            | some db' =>
              cases z5 : rd e3 w3 with
              | none => rw [z4, z5] at q4; exact q4.elim
              | some dc =>
                rw [z4, z5] at q4
                simp only at q4
                cases z6 : o' db' dc with
                | none => rw [z6] at q4; exact q4.elim
                | some d' =>
                  rw [z6] at q4
                  exact hd' io F4 R σ e3 H4 v2 v4 db' dc d' _ s4 (r2'.view s4 z4) (r4.view s4 z5) z6 fun F5 H5 v5 x5 s5 dt5 => (q4.weak x5).ok s5 dt5
        | _ => exact q2.elim
end
end Mz

namespace Mz
open PySem PySem.Spec PyProof.Rows L2

/-! ### comparisons as rules; tests -/
structure CmpOk (X : Cx) (g : Gb) (op : CmpOp) (o : D → D → Option D) : Prop where
  ex : ∃ r, OpR X (compareOp op) r ∧ OpD X.K g r o
def sT (f : Sem) : Smx Bool := fun e => bnd (f e) fun w e' => match rd e' w with
  | some (.bl b) => some (.ok b e')
  | _ => none
@[simp ↓] theorem sT_u (f : Sem) (e : En) : sT f e = (bnd (f e) fun w e' => match rd e' w with
  | some (.bl b) => some (.ok b e')
  | _ => none) := rfl
def bAnd (s t : Smx Bool) : Smx Bool := fun e => bnd (s e) fun b e' => match b with
  | true => t e'
  | false => some (.ok false e')
@[simp ↓] theorem bAnd_u (s t : Smx Bool) (e : En) : bAnd s t e = (bnd (s e) fun b e' => match b with
  | true => t e'
  | false => some (.ok false e')) := rfl
def bOr (s t : Smx Bool) : Smx Bool := fun e => bnd (s e) fun b e' => match b with
  | true => some (.ok true e')
  | false => t e'
@[simp ↓] theorem bOr_u (s t : Smx Bool) (e : En) : bOr s t e = (bnd (s e) fun b e' => match b with
  | true => some (.ok true e')
  | false => t e') := rfl
def bNot (s : Smx Bool) : Smx Bool := fun e => bnd (s e) fun b e' => some (.ok (!b) e')
@[simp ↓] theorem bNot_u (s : Smx Bool) (e : En) : bNot s e = (bnd (s e) fun b e' => some (.ok (!b) e')) := rfl
/-- values -/
def sAnd (f h : Sem) : Sem := fun e => bnd (f e) fun w e' => match rd e' w with
  | some (.bl true) => h e'
  | some (.bl false) => some (.ok (.dat (.bl false)) e')
  | _ => none
@[simp ↓] theorem sAnd_u (f h : Sem) (e : En) : sAnd f h e = (bnd (f e) fun w e' => match rd e' w with
  | some (.bl true) => h e'
  | some (.bl false) => some (.ok (.dat (.bl false)) e')
  | _ => none) := rfl
def sOr (f h : Sem) : Sem := fun e => bnd (f e) fun w e' => match rd e' w with
  | some (.bl true) => some (.ok (.dat (.bl true)) e')
  | some (.bl false) => h e'
  | _ => none
@[simp ↓] theorem sOr_u (f h : Sem) (e : En) : sOr f h e = (bnd (f e) fun w e' => match rd e' w with
  | some (.bl true) => some (.ok (.dat (.bl true)) e')
  | some (.bl false) => h e'
  | _ => none) := rfl
def sNot (f : Sem) : Sem := fun e => bnd (f e) fun w e' => match rd e' w with
  | some (.bl b) => some (.ok (.dat (.bl (!b))) e')
  | _ => none
@[simp ↓] theorem sNot_u (f : Sem) (e : En) : sNot f e = (bnd (f e) fun w e' => match rd e' w with
  | some (.bl b) => some (.ok (.dat (.bl (!b))) e')
  | _ => none) := rfl
def sIfE (t : Smx Bool) (f h : Sem) : Sem := fun e => bnd (t e) fun b e' => match b with
  | true => f e'
  | false => h e'
@[simp ↓] theorem sIfE_u (t : Smx Bool) (f h : Sem) (e : En) : sIfE t f h e = (bnd (t e) fun b e' => match b with
  | true => f e'
  | false => h e') := rfl
section
variable {X : Cx} {g : Gb} {io : Nat → Option Addr} {Wx : WX} {pos : Pos} {a b : Expr} {f h : Sem} {s t : Smx Bool}
theorem c_lt : CmpOk X g .Lt oLt := ⟨_, op_lt, opd_I0 fun _ i j => .bl _⟩
theorem c_le : CmpOk X g .LtE oLe := ⟨_, op_le, opd_I0 fun _ i j => .bl _⟩
theorem c_gt : CmpOk X g .Gt oGt := ⟨_, op_gt, opd_I0 fun _ i j => .bl _⟩
theorem c_ge : CmpOk X g .GtE oGe := ⟨_, op_ge, opd_I0 fun _ i j => .bl _⟩
theorem c_eq {k : Nat} (hr : Room k X.A) : CmpOk X g .Eq oEq := ⟨_, op_eqD hr.units, opd_eq⟩
theorem c_ne {k : Nat} (hr : Room k X.A) : CmpOk X g .NotEq oNe := ⟨_, op_neD hr.units, opd_ne⟩
theorem c_inL {k : Nat} (hr : Room k X.A) : CmpOk X g .In oInL := ⟨_, op_inD (units65 hr), opd_inL⟩
theorem c_notInL {k : Nat} (hr : Room k X.A) : CmpOk X g .NotIn oNotInL := ⟨_, op_notInD (units65 hr), opd_notInL⟩
theorem c_isN : CmpOk X g .Is oIsN := ⟨_, op_isN, opd_isN⟩
theorem c_notN : CmpOk X g .IsNot oNotN := ⟨_, op_notN, opd_notN⟩
theorem c_isB : CmpOk X g .Is oIsB := ⟨_, op_isBl, opd_isB⟩
theorem c_notB : CmpOk X g .IsNot oNotB := ⟨_, op_notBl, opd_notB⟩
theorem d_cm {op : CmpOp} {o : D → D → Option D} (c : CmpOk X g op o) (ha : PE X a (tE X.K g io Wx f)) (hb : PE X b (tE X.K g io Wx h)) (hm : behindInMarks op b = false := by first | exact nomark _ | rfl) :
    PE X (.Compare a [op] [b] pos) (tE X.K g io Wx (sBin o f h)) := by
  obtain ⟨r, ho, hd⟩ := c.ex
  exact PE.of (pe_cmpR ho ha hb hm) fun σ H Q q => bin_D hd σ H Q q
theorem test_of {rdg : TE} (hh : ∀ σ H Q, tE X.K g io Wx f σ H Q → rdg σ H Q) (σ : L2.St) (H : Hp) (Q : Bool → Hp → Prop) (q : tB X.K g io Wx (sT f) σ H Q) : tTest rdg σ H Q := by
  obtain ⟨F, R, e, st, q⟩ := q
  refine hh σ H _ ⟨F, R, e, st, Aft.bnd (k := fun w e' => match rd e' w with
    | some (.bl b) => some (Rs.ok b e')
    | _ => none) q fun w e' F' H' v _ x s r q => ?_⟩
  cases e1 : rd e' w with
  | none => rw [e1] at q; exact q.elim
  | some d =>
    have dt := r.view s e1
    rw [e1] at q
    cases d with
    | bl b => cases dt; exact ⟨b, rfl, q.ok s rfl⟩
    | _ => exact q.elim
theorem t_cm {op : CmpOp} {o : D → D → Option D} (c : CmpOk X g op o) (ha : PE X a (tE X.K g io Wx f)) (hb : PE X b (tE X.K g io Wx h)) (hm : behindInMarks op b = false := by first | exact nomark _ | rfl) :
    PT X (.Compare a [op] [b] pos) (tB X.K g io Wx (sT (sBin o f h))) := by
  obtain ⟨r, ho, hd⟩ := c.ex
  exact PT.of (pt_cmpR ho ha hb hm) fun σ H Q q => test_of (fun σ H Q q => bin_D hd σ H Q q) σ H Q q
theorem chain_of {op op' : CmpOp} {r r' : R2} {o o' : D → D → Option D} {c : Expr} {h2 : Sem} (hd : OpD X.K g r o) (hd' : OpD X.K g r' o') (σ : L2.St) (H : Hp) (Q : VK) (q : tE X.K g io Wx (sChain o o' f h h2) σ H Q) :
    tChain r r' (tE X.K g io Wx f) (tE X.K g io Wx h) (tE X.K g io Wx h2) σ H Q := by
  obtain ⟨F, R, e, st, q⟩ := q
  unfold sChain at q
  refine ⟨F, R, e, st, q.bnd fun w1 e1 F1 H1 v1 _ x1 s1 r1 q1 => ?_⟩
  refine ⟨F1, R, e1, s1, q1.bnd fun w2 e2 F2 H2 v2 _ x2 s2 r2 q2 => ?_⟩
  have r1' : rE X.K g.ρ F2 R σ H2 e2 v1 w1 := r1.mono x2
  cases z1 : rd e2 w1 with
  | none => rw [z1] at q2; exact q2.elim
  | some da =>
    cases z2 : rd e2 w2 with
    | none => rw [z1, z2] at q2; exact q2.elim
    | some db =>
      rw [z1, z2] at q2
      simp only at q2
      cases z3 : o da db with
      | none => rw [z3] at q2; exact q2.elim
      | some d =>
        rw [z3] at q2
        refine hd io F2 R σ e2 H2 v1 v2 da db d _ s2 (r1'.view s2 z1) (r2.view s2 z2) z3 fun F3 H3 v x3 s3 dt => ?_
        cases d with
        | bl k =>
          cases dt
          refine ⟨k, rfl, ?_⟩
          cases k with
          | false =>
            rw [if_neg Bool.false_ne_true]
            exact (q2.weak x3).ok s3 (.bl _)
          | true =>
            rw [if_pos rfl]
            simp only at q2
            refine ⟨F3, R, e2, s3, (q2.weak x3).bnd fun w3 e3 F4 H4 v4 _ x4 s4 r4 q4 => ?_⟩
            have r2' : rE X.K g.ρ F4 R σ H4 e3 v2 w2 := rE.mono (R := R) (H := H2) (e := e2) (x3.trans x4) r2
            cases z4 : rd e3 w2 with
            | none => rw [z4] at q4; exact q4.elim
            | some db' =>
              cases z5 : rd e3 w3 with
              | none => rw [z4, z5] at q4; exact q4.elim
              | some dc =>
                rw [z4, z5] at q4
                simp only at q4
                cases z6 : o' db' dc with
                | none => rw [z6] at q4; exact q4.elim
                | some d' =>
                  rw [z6] at q4
                  exact hd' io F4 R σ e3 H4 v2 v4 db' dc d' _ s4 (r2'.view s4 z4) (r4.view s4 z5) z6 fun F5 H5 v5 x5 s5 dt5 => (q4.weak x5).ok s5 dt5
        | _ => exact q2.elim
theorem d_ch {op op' : CmpOp} {o o' : D → D → Option D} {c : Expr} {h2 : Sem} (c1 : CmpOk X g op o) (c2 : CmpOk X g op' o') (ha : PE X a (tE X.K g io Wx f)) (hb : PE X b (tE X.K g io Wx h)) (hc : PE X c (tE X.K g io Wx h2)) (hm : lastMarks [op, op'] [b, c] = false := by with_unfolding_all rfl) :
    PE X (.Compare a [op, op'] [b, c] pos) (tE X.K g io Wx (sChain o o' f h h2)) := by
  obtain ⟨r, ho, hd⟩ := c1.ex
  obtain ⟨r', ho', hd'⟩ := c2.ex
  exact PE.of (pe_chain ho ho' ha hb hc hm) fun σ H Q q => chain_of (op := op) (op' := op') (c := c) hd hd' σ H Q q
theorem t_ch {op op' : CmpOp} {o o' : D → D → Option D} {c : Expr} {h2 : Sem} (c1 : CmpOk X g op o) (c2 : CmpOk X g op' o') (ha : PE X a (tE X.K g io Wx f)) (hb : PE X b (tE X.K g io Wx h)) (hc : PE X c (tE X.K g io Wx h2)) (hm : lastMarks [op, op'] [b, c] = false := by with_unfolding_all rfl) :
    PT X (.Compare a [op, op'] [b, c] pos) (tB X.K g io Wx (sT (sChain o o' f h h2))) := by
  obtain ⟨r, ho, hd⟩ := c1.ex
  obtain ⟨r', ho', hd'⟩ := c2.ex
  exact PT.of (pt_chain ho ho' ha hb hc hm) fun σ H Q q => test_of (fun σ H Q q => chain_of (op := op) (op' := op') (c := c) hd hd' σ H Q q) σ H Q q
theorem t_val {ex : Expr} (ha : PE X ex (tE X.K g io Wx f)) (he : ∀ whole, isTrue ex X.env whole = (do let v ← whole; standAt ex.pos; holding [v] (truthy v)) := by intro _; rfl) : PT X ex (tB X.K g io Wx (sT f)) :=
  PT.of (pt_val ha he) fun σ H Q q => test_of (fun σ H Q q => q) σ H Q q
theorem t_and1 (ha : PT X a (tB X.K g io Wx s)) : PW X (.BoolOp .And [a] pos) (tB X.K g io Wx s) := pw_and1 ha
theorem t_or1 (ha : PT X a (tB X.K g io Wx s)) : PW X (.BoolOp .Or [a] pos) (tB X.K g io Wx s) := pw_or1 ha
theorem t_and {rest : List Expr} (ha : PT X a (tB X.K g io Wx s)) (hb : PW X (.BoolOp .And (b :: rest) pos) (tB X.K g io Wx t)) : PW X (.BoolOp .And (a :: b :: rest) pos) (tB X.K g io Wx (bAnd s t)) := by
  refine PW.of (pw_and ha hb) fun σ H Q q => ?_
  obtain ⟨F, R, e, st, q⟩ := q
  refine ⟨F, R, e, st, Aft.bnd (k := fun b e' => match b with
    | true => t e'
    | false => some (.ok false e')) q fun k e' F' H' v _ x s r q => ?_⟩
  have r : v = k := r
  subst r
  cases v with
  | true => rw [if_pos rfl]; exact ⟨F', R, e', s, q⟩
  | false => rw [if_neg Bool.false_ne_true]; exact q.ok s rfl
theorem t_or {rest : List Expr} (ha : PT X a (tB X.K g io Wx s)) (hb : PW X (.BoolOp .Or (b :: rest) pos) (tB X.K g io Wx t)) : PW X (.BoolOp .Or (a :: b :: rest) pos) (tB X.K g io Wx (bOr s t)) := by
  refine PW.of (pw_or ha hb) fun σ H Q q => ?_
  obtain ⟨F, R, e, st, q⟩ := q
  refine ⟨F, R, e, st, Aft.bnd (k := fun b e' => match b with
    | true => some (.ok true e')
    | false => t e') q fun k e' F' H' v _ x s r q => ?_⟩
  have r : v = k := r
  subst r
  cases v with
  | true => rw [if_pos rfl]; exact q.ok s rfl
  | false => rw [if_neg Bool.false_ne_true]; exact ⟨F', R, e', s, q⟩
theorem t_not (ha : PT X a (tB X.K g io Wx s)) : PT X (.UnaryOp .Not a pos) (tB X.K g io Wx (bNot s)) := by
  refine PT.of (pt_not ha) fun σ H Q q => ?_
  obtain ⟨F, R, e, st, q⟩ := q
  refine ⟨F, R, e, st, Aft.bnd (k := fun b e' => some (.ok (!b) e')) q fun k e' F' H' v _ x s r q => ?_⟩
  have r : v = k := r
  subst r
  exact q.ok s rfl
theorem bool_of {k : Bool → En → Option (Rs W)} {P : L2.St → Hp → VK → Bool → Prop} (σ : L2.St) (H : Hp) (Q : VK)
    (q : tE X.K g io Wx (fun e => bnd (f e) fun w e' => match rd e' w with
      | some (.bl b) => k b e'
      | _ => none) σ H Q) (hk : ∀ (F R : Hp) (e : En) (H : Hp) (b : Bool), Stt X.K g.ρ io F R σ e H → Aft X.K g io (rE X.K g.ρ) Wx F R σ Q (k b e) → P σ H Q b) : tE X.K g io Wx f σ H (fun x H1 => ∃ c, x = .bl c ∧ P σ H1 Q c) := by
  obtain ⟨F, R, e, st, q⟩ := q
  refine ⟨F, R, e, st, q.bnd fun w e' F' H' v _ x s r q => ?_⟩
  cases e1 : rd e' w with
  | none => rw [e1] at q; exact q.elim
  | some d =>
    have dt := r.view s e1
    rw [e1] at q
    cases d with
    | bl b => cases dt; exact ⟨b, rfl, hk F' R e' H' b s q⟩
    | _ => exact q.elim
theorem d_one {op} (ha : PE X a (tE X.K g io Wx f)) : PE X (.BoolOp op [a] pos) (tE X.K g io Wx f) := pe_one ha
theorem d_and {rest : List Expr} (ha : PE X a (tE X.K g io Wx f)) (hb : PE X (.BoolOp .And (b :: rest) pos) (tE X.K g io Wx h)) : PE X (.BoolOp .And (a :: b :: rest) pos) (tE X.K g io Wx (sAnd f h)) := by
  refine PE.of (pe_and ha hb) fun σ H Q q => bool_of (P := fun σ H Q c => if c = true then tE X.K g io Wx h σ H Q else Q (.bl false) H) (k := fun b e' => match b with
    | true => h e'
    | false => some (.ok (.dat (.bl false)) e')) σ H Q ?_ fun F R e H b st q => ?_
  · obtain ⟨F, R, e, st, q⟩ := q
    refine ⟨F, R, e, st, ?_⟩
    have : (fun w e' => match rd e' w with
      | some (.bl true) => h e'
      | some (.bl false) => some (Rs.ok (W.dat (.bl false)) e')
      | _ => none) = (fun w e' => match rd e' w with
      | some (.bl b) => (match b with
        | true => h e'
        | false => some (Rs.ok (W.dat (.bl false)) e'))
      | _ => none) := by
      funext w e'
      split <;> simp_all
    unfold sAnd at q
    rw [this] at q
    exact q
  · cases b with
    | true => rw [if_pos rfl]; exact ⟨F, R, e, st, q⟩
    | false => rw [if_neg Bool.false_ne_true]; exact q.ok st (.bl _)
theorem d_or {rest : List Expr} (ha : PE X a (tE X.K g io Wx f)) (hb : PE X (.BoolOp .Or (b :: rest) pos) (tE X.K g io Wx h)) : PE X (.BoolOp .Or (a :: b :: rest) pos) (tE X.K g io Wx (sOr f h)) := by
  refine PE.of (pe_or ha hb) fun σ H Q q => bool_of (P := fun σ H Q c => if c = true then Q (.bl true) H else tE X.K g io Wx h σ H Q) (k := fun b e' => match b with
    | true => some (.ok (.dat (.bl true)) e')
    | false => h e') σ H Q ?_ fun F R e H b st q => ?_
  · obtain ⟨F, R, e, st, q⟩ := q
    refine ⟨F, R, e, st, ?_⟩
    have : (fun w e' => match rd e' w with
      | some (.bl true) => some (Rs.ok (W.dat (.bl true)) e')
      | some (.bl false) => h e'
      | _ => none) = (fun w e' => match rd e' w with
      | some (.bl b) => (match b with
        | true => some (Rs.ok (W.dat (.bl true)) e')
        | false => h e')
      | _ => none) := by
      funext w e'
      split <;> simp_all
    unfold sOr at q
    rw [this] at q
    exact q
  · cases b with
    | true => rw [if_pos rfl]; exact q.ok st (.bl _)
    | false => rw [if_neg Bool.false_ne_true]; exact ⟨F, R, e, st, q⟩
theorem d_not (ha : PE X a (tE X.K g io Wx f)) : PE X (.UnaryOp .Not a pos) (tE X.K g io Wx (sNot f)) := by
  refine PE.of (pe_not ha) fun σ H Q q => bool_of (P := fun σ H Q c => Q (.bl (!c)) H) (k := fun b e' => some (.ok (.dat (.bl (!b))) e')) σ H Q q fun F R e H b st q => q.ok st (.bl _)
theorem d_ifE {c : Expr} (hc : PT X c (tB X.K g io Wx s)) (ha : PE X a (tE X.K g io Wx f)) (hb : PE X b (tE X.K g io Wx h)) : PE X (.IfExp c a b pos) (tE X.K g io Wx (sIfE s f h)) := by
  refine PE.of (pe_ifExp hc ha hb) fun σ H Q q => ?_
  obtain ⟨F, R, e, st, q⟩ := q
  refine ⟨F, R, e, st, Aft.bnd (k := fun b e' => match b with
    | true => f e'
    | false => h e') q fun k e' F' H' v _ x s r q => ?_⟩
  have r : v = k := r
  subst r
  cases v with
  | true => rw [if_pos rfl]; exact ⟨F', R, e', s, q⟩
  | false => rw [if_neg Bool.false_ne_true]; exact ⟨F', R, e', s, q⟩
end
end Mz

namespace Mz
open PySem PySem.Spec PyProof.Rows L2

/-! ### items -/
theorem rE.seqL {K : PySem.W.Frag} {g : Gb} {io : Nat → Option Addr} {F R H H' : Hp} {σ : L2.St} {e e' : En} {v : V} {w : W} {ds : List D} (h : rE K g.ρ F R σ H' e' v w) (s : Stt K g.ρ io F R σ e H) (r : rd e w = some (.lst ds)) :
    ∃ p vs, v = .ref p ∧ H p = some (.lst vs) ∧ Sqs K g.ρ F vs ds := by
  cases w with
  | dat d' =>
    cases r
    have h : Dt K g.ρ F v (.lst ds) := h
    cases h with
    | lst q hl hi => exact ⟨_, _, rfl, s.ext _ _ q, hl, hi⟩
  | bor i =>
    have r : rdS e i = some (.lst ds) := r
    have h : σ[i]? = some (some v) := h
    unfold rdS at r
    split at r
    · rename_i d' q
      cases r
      obtain ⟨p, o, h1, _, _, h4, h5⟩ := s.slot i _ q
      rw [h] at h1
      cases h1
      cases h5 with
      | lst h5 => exact ⟨p, _, rfl, h4, h5⟩
    · rename_i d' q
      cases r
      obtain ⟨p, o, h1, _, _, h4, h5, _⟩ := s.slot i _ q
      rw [h] at h1
      cases h1
      cases h5 with
      | lst h5 => exact ⟨p, _, rfl, h4, h5⟩
    · cases r
theorem rE.seqT {K : PySem.W.Frag} {g : Gb} {io : Nat → Option Addr} {F R H H' : Hp} {σ : L2.St} {e e' : En} {v : V} {w : W} {ds : List D} (h : rE K g.ρ F R σ H' e' v w) (s : Stt K g.ρ io F R σ e H) (r : rd e w = some (.tup ds)) :
    ∃ p vs, v = .ref p ∧ SqT K F p vs ∧ Sqs K g.ρ F vs ds := by
  cases w with
  | dat d' =>
    cases r
    have h : Dt K g.ρ F v (.tup ds) := h
    cases h with
    | tup q hl hi => exact ⟨_, _, rfl, q, hl, hi⟩
  | bor i =>
    have r : rdS e i = some (.tup ds) := r
    unfold rdS at r
    split at r
    · rename_i d' q
      cases r
      obtain ⟨p, o, _, _, _, _, h5⟩ := s.slot i _ q
      cases h5
    · rename_i d' q
      cases r
      obtain ⟨p, o, _, _, _, _, h5, _⟩ := s.slot i _ q
      cases h5
    · cases r
/-- what is no list comes frozen -/
def D.isL : D → Bool
  | .lst _ => true
  | _ => false
theorem rE.dat {K : PySem.W.Frag} {g : Gb} {io : Nat → Option Addr} {F R H H' : Hp} {σ : L2.St} {e e' : En} {v : V} {w : W} {d : D} (h : rE K g.ρ F R σ H' e' v w) (s : Stt K g.ρ io F R σ e H) (r : rd e w = some d) (n : d.isL = false) : Dt K g.ρ F v d := by
  cases w with
  | dat d' => cases r; exact h
  | bor i =>
    have r : rdS e i = some d := r
    unfold rdS at r
    split at r
    · rename_i d' q
      cases r
      obtain ⟨p, o, _, _, _, _, h5⟩ := s.slot i _ q
      cases h5
      cases n
    · rename_i d' q
      cases r
      obtain ⟨p, o, _, _, _, _, h5, _⟩ := s.slot i _ q
      cases h5
      cases n
    · cases r
theorem Sqs.at_ {K : PySem.W.Frag} {ρ : Rho} {F : Hp} {vs : List V} {ds : List D} (q : Sqs K ρ F vs ds) {i : Int} {d : D} (h : atI ds i = some d) : ∃ v, atI vs i = some v ∧ Dt K ρ F v d := by
  unfold atI at h ⊢
  rw [q.1]
  cases e : ixN ds.length i with
  | none => rw [e] at h; cases h
  | some j =>
    rw [e] at h
    exact q.get h
@[simp] def oIx : D → D → Option D
  | .lst ds, .int i => atI ds i
  | .tup ds, .int i => atI ds i
  | .ro ns, .int i => (atI ns i).map .int
  | .str z, .int i => if z.length ≤ sizeLine then (atI z.cps.toList i).map fun c => .str ⟨#[c]⟩ else none
  | _, _ => none
/-- an operator over operands, frozen data out -/
def OpE (K : PySem.W.Frag) (g : Gb) (r : R2) (op : D → D → Option D) : Prop :=
  ∀ (io : Nat → Option Addr) (F R : Hp) (σ : L2.St) (e : En) (H : Hp) (x y : V) (a b d : D) (wx wy : W) (Q : VK), Stt K g.ρ io F R σ e H → rE K g.ρ F R σ H e x wx → rE K g.ρ F R σ H e y wy → rd e wx = some a → rd e wy = some b → op a b = some d →
    (∀ F' H' v, Ext F F' → Stt K g.ρ io F' R σ e H' → Dt K g.ρ F' v d → Q v H') → r x y H Q
section
variable {X : Cx} {g : Gb} {io : Nat → Option Addr} {Wx : WX} {pos : Pos} {a b : Expr} {f h : Sem}
theorem bin_E {op : D → D → Option D} {r : R2} (ho : OpE X.K g r op) (σ : L2.St) (H : Hp) (Q : VK) (q : tE X.K g io Wx (sBin op f h) σ H Q) : tOp r (tE X.K g io Wx f) (tE X.K g io Wx h) σ H Q := by
  refine bin_of (k := fun w1 w2 e2 => match rd e2 w1, rd e2 w2 with
    | some a, some b => (match op a b with
      | some d => some (Rs.ok (W.dat d) e2)
      | none => none)
    | _, _ => none) (fun F R σ e H x y w1 w2 Q st r1 r2 h => ?_) σ H Q q
  cases e1 : rd e w1 with
  | none => rw [e1] at h; exact h.elim
  | some a =>
    cases e2 : rd e w2 with
    | none => rw [e1, e2] at h; exact h.elim
    | some b =>
      rw [e1, e2] at h
      cases e3 : op a b with
      | none => simp only [e3] at h; exact h.elim
      | some d =>
        simp only [e3] at h
        exact ho io F R σ e H x y a b d w1 w2 Q st r1 r2 e1 e2 e3 fun F' H' v x s z => h F' H' v x s z
theorem ope_ix : OpE X.K g (rIx X.K) oIx := by
  intro io F R σ e H x y a b d wx wy Q st rx ry ea eb ho q
  have hy := ry.view st eb
  cases b with
  | int i =>
    cases hy
    cases a with
    | lst ds =>
      obtain ⟨p, vs, rfl, h1, h2⟩ := rx.seqL st ea
      obtain ⟨v, e1, dv⟩ := h2.at_ (i := i) ho
      exact .inl ⟨p, vs, i, v, rfl, rfl, SqL.of h1, e1, q F H v Ext.rfl' st dv⟩
    | tup ds =>
      obtain ⟨p, vs, rfl, h1, h2⟩ := rx.seqT st ea
      obtain ⟨v, e1, dv⟩ := h2.at_ (i := i) ho
      exact .inr (.inl ⟨p, vs, i, v, rfl, rfl, h1.ext st.ext, e1, q F H v Ext.rfl' st dv⟩)
    | ro ns =>
      have dt := rx.view st ea
      have ho : (atI ns i).map D.int = some d := ho
      rw [Option.map_eq_some_iff] at ho
      obtain ⟨n, e1, rfl⟩ := ho
      cases dt with
      | ro hS =>
        refine .inl ⟨_, _, i, V.int n, rfl, rfl, hS, ?_, q F H _ Ext.rfl' st (.int n)⟩
        unfold atI at e1 ⊢
        rw [List.length_map]
        cases e2 : ixN ns.length i with
        | none => rw [e2] at e1; cases e1
        | some j =>
          rw [e2] at e1
          show (ns.map V.int)[j]? = some (V.int n)
          rw [List.getElem?_map]
          have e1 : ns[j]? = some n := e1
          rw [e1] <;> rfl
    | str z =>
      have dt := rx.view st ea
      have ho : (if z.length ≤ sizeLine then (atI z.cps.toList i).map fun c => D.str ⟨#[c]⟩ else none) = some d := ho
      by_cases hz : z.length ≤ sizeLine
      · rw [if_pos hz, Option.map_eq_some_iff] at ho
        obtain ⟨c, e1, rfl⟩ := ho
        cases dt
        exact .inr (.inr ⟨z, i, c, rfl, rfl, hz, e1, q F H _ Ext.rfl' st (.str _)⟩)
      · rw [if_neg hz] at ho; cases ho
    | _ => exact nomatch ho
  | _ => cases a <;> exact nomatch ho
theorem d_ix (ha : PE X a (tE X.K g io Wx f)) (hb : PE X b (tE X.K g io Wx h)) (hs : PlainIx b := by exact fun _ _ => rfl) : PE X (.Subscript a b pos) (tE X.K g io Wx (sBin oIx f h)) := PE.of (pe_ix ix_seq ha hb hs) fun σ H Q q => bin_E ope_ix σ H Q q

/-! ### built-in functions by their name -/
@[simp] def kBlt (o : List D → Option D) (ws : List W) (e : En) : Option (Rs W) := match rds e ws with
  | some ds => (match o ds with
    | some d => some (.ok (.dat d) e)
    | none => none)
  | none => none
def sBlt (o : List D → Option D) (hs : Smx (List W)) : Sem := fun e => bnd (hs e) (kBlt o)
@[simp ↓] theorem sBlt_u (o : List D → Option D) (hs : Smx (List W)) (e : En) : sBlt o hs e = (bnd (hs e) (kBlt o)) := rfl
@[simp] def kBltN (o : List D → Option D) (ws : List W) (e : En) : Option (Rs D) := match rds e ws with
  | some ds => (match o ds with
    | some d => some (.ok d e)
    | none => none)
  | none => none
def sBltN (o : List D → Option D) (hs : Smx (List W)) : Smx D := fun e => bnd (hs e) (kBltN o)
@[simp ↓] theorem sBltN_u (o : List D → Option D) (hs : Smx (List W)) (e : En) : sBltN o hs e = (bnd (hs e) (kBltN o)) := rfl
def OpsE (K : PySem.W.Frag) (g : Gb) (r : List V → Hp → VK → Prop) (op : List D → Option D) : Prop :=
  ∀ (io : Nat → Option Addr) (F R : Hp) (σ : L2.St) (e : En) (H : Hp) (vs : List V) (ws : List W) (ds : List D) (d : D) (Q : VK), Stt K g.ρ io F R σ e H → Opds K g.ρ F σ vs ws → rds e ws = some ds → op ds = some d →
    (∀ F' H' v, Ext F F' → Stt K g.ρ io F' R σ e H' → Dt K g.ρ F' v d → Q v H') → r vs H Q
def OpsN (K : PySem.W.Frag) (g : Gb) (r : List V → Hp → VK → Prop) (op : List D → Option D) : Prop :=
  ∀ (io : Nat → Option Addr) (F R : Hp) (σ : L2.St) (e : En) (H : Hp) (vs : List V) (ws : List W) (ds : List D) (d : D) (Q : VK), Stt K g.ρ io F R σ e H → Opds K g.ρ F σ vs ws → rds e ws = some ds → op ds = some d →
    (∀ F' H' v, Ext F F' → Stt K g.ρ io F' R σ e H' → New K g.ρ F' R σ H' e v d → Q v H') → r vs H Q
structure BltOk (X : Cx) (g : Gb) (fv : Value) (o : List D → Option D) : Prop where
  ex : ∃ r, CallR X fv r ∧ OpsE X.K g r o
structure BltNew (X : Cx) (g : Gb) (fv : Value) (o : List D → Option D) : Prop where
  ex : ∃ r, CallR X fv r ∧ OpsN X.K g r o
variable {es : List Expr} {hs : Smx (List W)} {x : Str} {p : Pos}
theorem blt_E {r : List V → Hp → VK → Prop} {o : List D → Option D} (hr : OpsE X.K g r o) (σ : L2.St) (H : Hp) (Q : VK) (q : tE X.K g io Wx (sBlt o hs) σ H Q) : tCB r (tA X.K g io Wx hs) σ H Q := by
  obtain ⟨F, R, e, st, q⟩ := q
  refine ⟨F, R, e, st, Aft.bnd (k := kBlt o) q fun ws e1 F1 H1 vs _ x1 s1 r1 q1 => ?_⟩
  unfold kBlt at q1
  cases e1' : rds e1 ws with
  | none => rw [e1'] at q1; exact q1.elim
  | some ds =>
    rw [e1'] at q1
    simp only at q1
    cases e2 : o ds with
    | none => rw [e2] at q1; exact q1.elim
    | some d =>
      rw [e2] at q1
      exact hr io F1 R σ e1 H1 vs ws ds d Q s1 r1 e1' e2 fun F' H' v x s z => q1 F' H' v x s z
theorem blt_N {r : List V → Hp → VK → Prop} {o : List D → Option D} (hr : OpsN X.K g r o) (σ : L2.St) (H : Hp) (Q : VK) (q : tN X.K g io Wx (sBltN o hs) σ H Q) : tCB r (tA X.K g io Wx hs) σ H Q := by
  obtain ⟨F, R, e, st, q⟩ := q
  refine ⟨F, R, e, st, Aft.bnd (k := kBltN o) q fun ws e1 F1 H1 vs _ x1 s1 r1 q1 => ?_⟩
  unfold kBltN at q1
  cases e1' : rds e1 ws with
  | none => rw [e1'] at q1; exact q1.elim
  | some ds =>
    rw [e1'] at q1
    simp only at q1
    cases e2 : o ds with
    | none => rw [e2] at q1; exact q1.elim
    | some d =>
      rw [e2] at q1
      exact hr io F1 R σ e1 H1 vs ws ds d Q s1 r1 e1' e2 fun F' H' v x s z => q1 F' H' v x s z
theorem d_bltB {id : String} {o : List D → Option D} (c : BltOk X g (.builtin id) o) (hg : Gl X x) (hm : X.mg x = none) (hv : bootBuiltins x = some (.builtin id)) (ha : PA X (a :: es) (tA X.K g io Wx hs)) (hn : x ≠ "__name__" := by decide) (hdb : (x == ("__debug__" : Str)) = false := by decide)
    (he : starEach (a :: es) X.env = (false, eval a X.env) :: starEach es X.env := by rfl) (hpl : (backTo pos (starEach es X.env)).any (·.1) = false := by rfl) : PE X (.Call (.Name x p) (a :: es) [] pos) (tE X.K g io Wx (sBlt o hs)) := by
  obtain ⟨r, h1, h2⟩ := c.ex
  exact PE.of (pe_callB h1 hg hm hv ha hn hdb he hpl) fun σ H Q q => blt_E h2 σ H Q q
theorem d_bltT {T : String} {o : List D → Option D} (c : BltOk X g (.type T) o) (hg : Gl X x) (hm : X.mg x = none) (hv : bootBuiltins x = some (.type T)) (ha : PA X (a :: es) (tA X.K g io Wx hs)) (hn : x ≠ "__name__" := by decide) (hdb : (x == ("__debug__" : Str)) = false := by decide)
    (he : starEach (a :: es) X.env = (false, eval a X.env) :: starEach es X.env := by rfl) (hpl : (backTo pos (starEach es X.env)).any (·.1) = false := by rfl) : PE X (.Call (.Name x p) (a :: es) [] pos) (tE X.K g io Wx (sBlt o hs)) := by
  obtain ⟨r, h1, h2⟩ := c.ex
  exact PE.of (pe_callTy h1 hg hm hv ha hn hdb he hpl) fun σ H Q q => blt_E h2 σ H Q q
theorem n_bltB {id : String} {o : List D → Option D} (c : BltNew X g (.builtin id) o) (hg : Gl X x) (hm : X.mg x = none) (hv : bootBuiltins x = some (.builtin id)) (ha : PA X (a :: es) (tA X.K g io Wx hs)) (hn : x ≠ "__name__" := by decide) (hdb : (x == ("__debug__" : Str)) = false := by decide)
    (he : starEach (a :: es) X.env = (false, eval a X.env) :: starEach es X.env := by rfl) (hpl : (backTo pos (starEach es X.env)).any (·.1) = false := by rfl) : PE X (.Call (.Name x p) (a :: es) [] pos) (tN X.K g io Wx (sBltN o hs)) := by
  obtain ⟨r, h1, h2⟩ := c.ex
  exact PE.of (pe_callB h1 hg hm hv ha hn hdb he hpl) fun σ H Q q => blt_N h2 σ H Q q
theorem n_bltT {T : String} {o : List D → Option D} (c : BltNew X g (.type T) o) (hg : Gl X x) (hm : X.mg x = none) (hv : bootBuiltins x = some (.type T)) (ha : PA X (a :: es) (tA X.K g io Wx hs)) (hn : x ≠ "__name__" := by decide) (hdb : (x == ("__debug__" : Str)) = false := by decide)
    (he : starEach (a :: es) X.env = (false, eval a X.env) :: starEach es X.env := by rfl) (hpl : (backTo pos (starEach es X.env)).any (·.1) = false := by rfl) : PE X (.Call (.Name x p) (a :: es) [] pos) (tN X.K g io Wx (sBltN o hs)) := by
  obtain ⟨r, h1, h2⟩ := c.ex
  exact PE.of (pe_callTy h1 hg hm hv ha hn hdb he hpl) fun σ H Q q => blt_N h2 σ H Q q

/-! ### one by one -/
theorem opds1 {K : PySem.W.Frag} {F R H : Hp} {σ : L2.St} {e : En} {vs : List V} {ws : List W} {d : D} (h : Opds K g.ρ F σ vs ws) (r : rds e ws = some [d]) : ∃ v w, vs = [v] ∧ rE K g.ρ F R σ H e v w ∧ rd e w = some d := by
  cases h with
  | nil => cases r
  | @dat v d' vs ws h t =>
    have r : (match rd e (.dat d'), rds e ws with
      | some d, some ds => some (d :: ds)
      | _, _ => none) = some [d] := r
    cases q : rds e ws with
    | none => rw [q] at r; cases r
    | some ds =>
      rw [q] at r
      cases r
      cases t with
      | nil => exact ⟨v, .dat d, rfl, h, rfl⟩
      | dat h2 t2 =>
        simp only [rds] at q
        split at q <;> cases q
      | bor h2 t2 =>
        simp only [rds] at q
        split at q <;> cases q
  | @bor v i vs ws h t =>
    have r : (match rd e (.bor i), rds e ws with
      | some d, some ds => some (d :: ds)
      | _, _ => none) = some [d] := r
    cases q0 : rd e (.bor i) with
    | none => rw [q0] at r; cases r
    | some d0 =>
      cases q : rds e ws with
      | none => rw [q0, q] at r; cases r
      | some ds =>
        rw [q0, q] at r
        cases r
        cases t with
        | nil => exact ⟨v, .bor i, rfl, h, q0⟩
        | dat h2 t2 =>
          simp only [rds] at q
          split at q <;> cases q
        | bor h2 t2 =>
          simp only [rds] at q
          split at q <;> cases q
theorem sqs1 {K : PySem.W.Frag} {ρ : Rho} {H : Hp} {vs : List V} {d : D} (h : Sqs K ρ H vs [d]) : ∃ v, vs = [v] ∧ Dt K ρ H v d := by
  obtain ⟨l, q⟩ := h
  match vs, l with
  | [v], _ => exact ⟨v, rfl, q 0 v d rfl rfl⟩
theorem sqs2 {K : PySem.W.Frag} {ρ : Rho} {H : Hp} {vs : List V} {d d' : D} (h : Sqs K ρ H vs [d, d']) : ∃ v v', vs = [v, v'] ∧ Dt K ρ H v d ∧ Dt K ρ H v' d' := by
  obtain ⟨l, q⟩ := h
  match vs, l with
  | [v, v'], _ => exact ⟨v, v', rfl, q 0 v d rfl rfl, q 1 v' d' rfl rfl⟩
/-- a list of ints as data -/
def toInts : List D → Option (List Int)
  | [] => some []
  | .int i :: ds => (toInts ds).map (i :: ·)
  | _ :: _ => none
theorem toInts_eq : ∀ (ds : List D) (ns : List Int), toInts ds = some ns → ds = ns.map .int := by
  intro ds
  induction ds with
  | nil => intro ns h; cases h; rfl
  | cons d ds ih =>
    intro ns h
    cases d with
    | int i =>
      have h : (toInts ds).map (i :: ·) = some ns := h
      rw [Option.map_eq_some_iff] at h
      obtain ⟨m, h', rfl⟩ := h
      have e := ih m h'
      subst e
      rfl
    | _ => cases h
theorem toInts_map (ns : List Int) : toInts (ns.map .int) = some ns := by
  induction ns with
  | nil => rfl
  | cons i ns ih => show (toInts (ns.map .int)).map (i :: ·) = _; rw [ih]; rfl
theorem Sqs.ints {K : PySem.W.Frag} {ρ : Rho} {H : Hp} : ∀ {vs : List V} {ns : List Int}, Sqs K ρ H vs (ns.map .int) → vs = ns.map V.int
  | [], [], _ => rfl
  | [], _ :: _, h => by have := h.1; simp at this
  | _ :: _, [], h => by have := h.1; simp at this
  | v :: vs, n :: ns, h => by
    have h0 := h.2 0 v (.int n) rfl rfl
    cases h0
    rw [Sqs.ints (vs := vs) (ns := ns) ⟨by simpa using h.1, fun i v d a b => h.2 (i + 1) v d (by simpa using a) (by simpa using b)⟩]
    rfl
def toBls : List D → Option (List Bool)
  | [] => some []
  | .bl i :: ds => (toBls ds).map (i :: ·)
  | _ :: _ => none
theorem toBls_eq : ∀ (ds : List D) (ns : List Bool), toBls ds = some ns → ds = ns.map .bl := by
  intro ds
  induction ds with
  | nil => intro ns h; cases h; rfl
  | cons d ds ih =>
    intro ns h
    cases d with
    | bl i =>
      have h : (toBls ds).map (i :: ·) = some ns := h
      rw [Option.map_eq_some_iff] at h
      obtain ⟨m, h', rfl⟩ := h
      have e := ih m h'
      subst e
      rfl
    | _ => cases h
theorem toBls_map (ns : List Bool) : toBls (ns.map .bl) = some ns := by
  induction ns with
  | nil => rfl
  | cons i ns ih => show (toBls (ns.map .bl)).map (i :: ·) = _; rw [ih]; rfl
theorem Sqs.bls {K : PySem.W.Frag} {ρ : Rho} {H : Hp} : ∀ {vs : List V} {ns : List Bool}, Sqs K ρ H vs (ns.map .bl) → vs = ns.map V.bl
  | [], [], _ => rfl
  | [], _ :: _, h => by have := h.1; simp at this
  | _ :: _, [], h => by have := h.1; simp at this
  | v :: vs, n :: ns, h => by
    have h0 := h.2 0 v (.bl n) rfl rfl
    cases h0
    rw [Sqs.bls (vs := vs) (ns := ns) ⟨by simpa using h.1, fun i v d a b => h.2 (i + 1) v d (by simpa using a) (by simpa using b)⟩]
    rfl
@[simp] def oLen : List D → Option D
  | [.lst ds] => some (.int ds.length)
  | [.tup ds] => some (.int ds.length)
  | [.ro ns] => some (.int ns.length)
  | [.str z] => if z.length ≤ sizeLine then some (.int z.length) else none
  | _ => none
theorem b_len : BltOk X g (.builtin "len") oLen := by
  refine ⟨_, call_len, fun io F R σ e H vs ws ds d Q st ho hr hop q => ?_⟩
  match ds, hop with
  | [.lst ds], hop =>
    obtain ⟨v, w, rfl, r, er⟩ := opds1 (R := R) (H := H) ho hr
    obtain ⟨p, vs, rfl, h1, h2⟩ := r.seqL st er
    cases hop
    exact ⟨_, vs.length, rfl, .inl ⟨vs, SqL.of h1, rfl⟩, by rw [h2.1]; exact q F H _ Ext.rfl' st (.int _)⟩
  | [.tup ds], hop =>
    obtain ⟨v, w, rfl, r, er⟩ := opds1 (R := R) (H := H) ho hr
    obtain ⟨p, vs, rfl, h1, h2⟩ := r.seqT st er
    cases hop
    exact ⟨_, vs.length, rfl, .inr ⟨vs, h1.ext st.ext, rfl⟩, by rw [h2.1]; exact q F H _ Ext.rfl' st (.int _)⟩
  | [.ro ns], hop =>
    obtain ⟨v, w, rfl, r, er⟩ := opds1 (R := R) (H := H) ho hr
    have dt := r.view st er
    cases hop
    cases dt with
    | ro h => exact ⟨_, ns.length, rfl, .inl ⟨_, h, by simp⟩, q F H _ Ext.rfl' st (.int _)⟩
  | [.str z], hop =>
    obtain ⟨v, w, rfl, r, er⟩ := opds1 (R := R) (H := H) ho hr
    have dt := r.view st er
    have hop : (if z.length ≤ sizeLine then some (D.int z.length) else none) = some d := hop
    by_cases hz : z.length ≤ sizeLine
    · rw [if_pos hz] at hop
      cases hop
      cases dt
      exact ⟨_, z.length, rfl, ⟨hz, rfl⟩, q F H _ Ext.rfl' st (.int _)⟩
    · rw [if_neg hz] at hop; cases hop
@[simp] def oAbs : List D → Option D
  | [.int i] => some (.int (if i < 0 then -i else i))
  | _ => none
theorem b_abs : BltOk X g (.builtin "abs") oAbs := by
  refine ⟨_, call_abs, fun io F R σ e H vs ws ds d Q st ho hr hop q => ?_⟩
  match ds, hop with
  | [.int i], hop =>
    obtain ⟨v, rfl, dt⟩ := sqs1 (Opds.view st ho hr)
    cases dt; cases hop
    exact ⟨i, rfl, q F H _ Ext.rfl' st (.int _)⟩
@[simp] def oMax2 : List D → Option D
  | [.int i, .int j] => some (.int (if j > i then j else i))
  | _ => none
@[simp] def oMin2 : List D → Option D
  | [.int i, .int j] => some (.int (if j < i then j else i))
  | _ => none
theorem b_max2 (hc : X.calm = true) : BltOk X g (.builtin "max") oMax2 := by
  refine ⟨_, call_max2 hc, fun io F R σ e H vs ws ds d Q st ho hr hop q => ?_⟩
  match ds, hop with
  | [.int i, .int j], hop =>
    obtain ⟨v, v', rfl, dt, dt'⟩ := sqs2 (Opds.view st ho hr)
    cases dt; cases dt'; cases hop
    exact ⟨i, j, rfl, q F H _ Ext.rfl' st (.int _)⟩
theorem b_min2 (hc : X.calm = true) : BltOk X g (.builtin "min") oMin2 := by
  refine ⟨_, call_min2 hc, fun io F R σ e H vs ws ds d Q st ho hr hop q => ?_⟩
  match ds, hop with
  | [.int i, .int j], hop =>
    obtain ⟨v, v', rfl, dt, dt'⟩ := sqs2 (Opds.view st ho hr)
    cases dt; cases dt'; cases hop
    exact ⟨i, j, rfl, q F H _ Ext.rfl' st (.int _)⟩
@[simp] def oInt1 : List D → Option D
  | [.int i] => some (.int i)
  | [.bl b] => some (.int (if b then 1 else 0))
  | _ => none
theorem b_int : BltOk X g (.type "int") oInt1 := by
  refine ⟨_, call_int1, fun io F R σ e H vs ws ds d Q st ho hr hop q => ?_⟩
  match ds, hop with
  | [.int i], hop =>
    obtain ⟨v, rfl, dt⟩ := sqs1 (Opds.view st ho hr)
    cases dt; cases hop
    exact .inl ⟨i, rfl, q F H _ Ext.rfl' st (.int _)⟩
  | [.bl b], hop =>
    obtain ⟨v, rfl, dt⟩ := sqs1 (Opds.view st ho hr)
    cases dt; cases hop
    exact .inr ⟨b, rfl, q F H _ Ext.rfl' st (.int _)⟩
def oStrI : List D → Option D
  | [.int i] => if i.natAbs.log2 < 1920 then some (.str (toString i)) else none
  | _ => none
theorem b_str : BltOk X g (.type "str") oStrI := by
  refine ⟨_, call_str_int, fun io F R σ e H vs ws ds d Q st ho hr hop q => ?_⟩
  match ds, hop with
  | [.int i], hop =>
    obtain ⟨v, rfl, dt⟩ := sqs1 (Opds.view st ho hr)
    have hop : (if i.natAbs.log2 < 1920 then some (D.str (toString i)) else none) = some d := hop
    by_cases hz : i.natAbs.log2 < 1920
    · rw [if_pos hz] at hop
      cases dt; cases hop
      exact ⟨i, rfl, hz, q F H _ Ext.rfl' st (.str _)⟩
    · rw [if_neg hz] at hop; cases hop
/-- over a list of ints -/
def oListI (k : List Int → Option D) : List D → Option D
  | [.lst ds] => (toInts ds).bind k
  | _ => none
theorem listI {K : PySem.W.Frag} {F R H : Hp} {σ : L2.St} {e : En} {vs : List V} {ws : List W} {ds : List D} {d : D} {k : List Int → Option D} (st : Stt K g.ρ io F R σ e H) (ho : Opds K g.ρ F σ vs ws) (hr : rds e ws = some ds) (hop : oListI k ds = some d) :
    ∃ p ns, vs = [V.ref p] ∧ H p = some (.lst (ns.map V.int)) ∧ k ns = some d := by
  match ds, hop with
  | [.lst ds], hop =>
    have hop : (toInts ds).bind k = some d := hop
    rw [Option.bind_eq_some_iff] at hop
    obtain ⟨ns, h1, h2⟩ := hop
    obtain ⟨v, w, rfl, r, er⟩ := opds1 (R := R) (H := H) ho hr
    obtain ⟨p, vs, rfl, h3, h4⟩ := r.seqL st er
    rw [toInts_eq _ _ h1] at h4
    rw [h4.ints] at h3
    exact ⟨p, ns, rfl, h3, h2⟩
def oSum : List D → Option D := oListI fun ns => some (.int ns.sum)
theorem b_sum (hc : X.calm = true) : BltOk X g (.builtin "sum") oSum := by
  refine ⟨_, cr_sum hc, fun io F R σ e H vs ws ds d Q st ho hr hop q => ?_⟩
  obtain ⟨p, ns, rfl, h1, h2⟩ := listI st ho hr hop
  cases h2
  exact ⟨p, ns, rfl, SqL.of h1, q F H _ Ext.rfl' st (.int _)⟩
def maxI : List Int → Option Int
  | [] => none
  | i :: is => some (is.foldl (fun a b => if b > a then b else a) i)
def minI : List Int → Option Int
  | [] => none
  | i :: is => some (is.foldl (fun a b => if b < a then b else a) i)
theorem foldl_max : ∀ (is : List Int) (a : Int), (is.foldl (fun a b => if b > a then b else a) a = a ∨ is.foldl (fun a b => if b > a then b else a) a ∈ is) ∧ a ≤ is.foldl (fun a b => if b > a then b else a) a ∧ ∀ y ∈ is, y ≤ is.foldl (fun a b => if b > a then b else a) a
  | [], a => ⟨.inl rfl, Int.le_refl _, fun y h => by simp at h⟩
  | b :: is, a => by
    obtain ⟨h1, h2, h3⟩ := foldl_max is (if b > a then b else a)
    simp only [List.foldl_cons]
    refine ⟨?_, ?_, fun y hy => ?_⟩
    · rcases h1 with h1 | h1
      · rw [h1]; split
        · exact .inr List.mem_cons_self
        · exact .inl rfl
      · exact .inr (List.mem_cons_of_mem _ h1)
    · refine Int.le_trans ?_ h2; split <;> omega
    · rcases List.mem_cons.mp hy with rfl | hy
      · refine Int.le_trans ?_ h2; split <;> omega
      · exact h3 y hy
theorem foldl_min : ∀ (is : List Int) (a : Int), (is.foldl (fun a b => if b < a then b else a) a = a ∨ is.foldl (fun a b => if b < a then b else a) a ∈ is) ∧ is.foldl (fun a b => if b < a then b else a) a ≤ a ∧ ∀ y ∈ is, is.foldl (fun a b => if b < a then b else a) a ≤ y
  | [], a => ⟨.inl rfl, Int.le_refl _, fun y h => by simp at h⟩
  | b :: is, a => by
    obtain ⟨h1, h2, h3⟩ := foldl_min is (if b < a then b else a)
    simp only [List.foldl_cons]
    refine ⟨?_, ?_, fun y hy => ?_⟩
    · rcases h1 with h1 | h1
      · rw [h1]; split
        · exact .inr List.mem_cons_self
        · exact .inl rfl
      · exact .inr (List.mem_cons_of_mem _ h1)
    · refine Int.le_trans h2 ?_; split <;> omega
    · rcases List.mem_cons.mp hy with rfl | hy
      · refine Int.le_trans h2 ?_; split <;> omega
      · exact h3 y hy
theorem maxI_spec {is : List Int} {m : Int} (h : maxI is = some m) : m ∈ is ∧ ∀ y ∈ is, y ≤ m := by
  cases is with
  | nil => cases h
  | cons i is =>
    cases h
    obtain ⟨h1, h2, h3⟩ := foldl_max is i
    refine ⟨h1.elim (fun z => by rw [z]; exact List.mem_cons_self) (fun z => List.mem_cons_of_mem _ z), fun y hy => ?_⟩
    rcases List.mem_cons.mp hy with rfl | hy
    · exact h2
    · exact h3 y hy
theorem minI_spec {is : List Int} {m : Int} (h : minI is = some m) : m ∈ is ∧ ∀ y ∈ is, m ≤ y := by
  cases is with
  | nil => cases h
  | cons i is =>
    cases h
    obtain ⟨h1, h2, h3⟩ := foldl_min is i
    refine ⟨h1.elim (fun z => by rw [z]; exact List.mem_cons_self) (fun z => List.mem_cons_of_mem _ z), fun y hy => ?_⟩
    rcases List.mem_cons.mp hy with rfl | hy
    · exact h2
    · exact h3 y hy
def oMaxL : List D → Option D := oListI fun ns => (maxI ns).map .int
def oMinL : List D → Option D := oListI fun ns => (minI ns).map .int
theorem b_maxL (hc : X.calm = true) : BltOk X g (.builtin "max") oMaxL := by
  refine ⟨_, cr_max hc, fun io F R σ e H vs ws ds d Q st ho hr hop q => ?_⟩
  obtain ⟨p, ns, rfl, h1, h2⟩ := listI st ho hr hop
  rw [Option.map_eq_some_iff] at h2
  obtain ⟨m, h2, rfl⟩ := h2
  obtain ⟨s1, s2⟩ := maxI_spec h2
  refine ⟨p, ns, rfl, SqL.of h1, List.length_pos_of_mem s1, fun m' a b => ?_⟩
  have : m' = m := Int.le_antisymm (s2 m' a) (b m s1)
  rw [this]
  exact q F H _ Ext.rfl' st (.int _)
theorem b_minL (hc : X.calm = true) : BltOk X g (.builtin "min") oMinL := by
  refine ⟨_, cr_min hc, fun io F R σ e H vs ws ds d Q st ho hr hop q => ?_⟩
  obtain ⟨p, ns, rfl, h1, h2⟩ := listI st ho hr hop
  rw [Option.map_eq_some_iff] at h2
  obtain ⟨m, h2, rfl⟩ := h2
  obtain ⟨s1, s2⟩ := minI_spec h2
  refine ⟨p, ns, rfl, SqL.of h1, List.length_pos_of_mem s1, fun m' a b => ?_⟩
  have : m' = m := Int.le_antisymm (b m s1) (s2 m' a)
  rw [this]
  exact q F H _ Ext.rfl' st (.int _)
def oAll : List D → Option D
  | [.lst ds] => (toBls ds).map fun bs => .bl (bs.all id)
  | _ => none
theorem b_all (hc : X.calm = true) : BltOk X g (.builtin "all") oAll := by
  refine ⟨_, cr_all hc, fun io F R σ e H vs ws ds d Q st ho hr hop q => ?_⟩
  match ds, hop with
  | [.lst ds], hop =>
    have hop : ((toBls ds).map fun bs => D.bl (bs.all id)) = some d := hop
    rw [Option.map_eq_some_iff] at hop
    obtain ⟨ns, h1, rfl⟩ := hop
    obtain ⟨v, w, rfl, r, er⟩ := opds1 (R := R) (H := H) ho hr
    obtain ⟨p, vs, rfl, h3, h4⟩ := r.seqL st er
    rw [toBls_eq _ _ h1] at h4
    rw [h4.bls] at h3
    exact ⟨p, ns, rfl, SqL.of h3, q F H _ Ext.rfl' st (.bl _)⟩
/-- tuple(list), tuple(tuple) -/
@[simp] def oTupOf : List D → Option D
  | [.lst ds] => some (.tup ds)
  | [.tup ds] => some (.tup ds)
  | _ => none
theorem b_tup : BltOk X g (.type "tuple") oTupOf := by
  refine ⟨_, call_tuple_of, fun io F R σ e H vs ws ds d Q st ho hr hop q => ?_⟩
  match ds, hop with
  | [.lst ds], hop =>
    obtain ⟨v, w, rfl, r, er⟩ := opds1 (R := R) (H := H) ho hr
    obtain ⟨p, vs, rfl, h3, h4⟩ := r.seqL st er
    cases hop
    refine ⟨p, vs, rfl, .inl ⟨SqL.of h3, fun l hl => ?_⟩⟩
    obtain ⟨s2, x2⟩ := st.alloc (o := .tup vs) hl
    exact q _ _ _ x2 s2 (.tup (SqT.of upd_same) h4.1 fun i v d a b => (h4.2 i v d a b).mono x2)
  | [.tup ds], hop =>
    obtain ⟨v, w, rfl, r, er⟩ := opds1 (R := R) (H := H) ho hr
    obtain ⟨p, vs, rfl, h3, h4⟩ := r.seqT st er
    cases hop
    exact ⟨p, vs, rfl, .inr ⟨h3.ext st.ext, q F H _ Ext.rfl' st (.tup h3 h4.1 h4.2)⟩⟩
/-- list(list), list(tuple): new -/
@[simp] def oListOf : List D → Option D
  | [.lst ds] => some (.lst ds)
  | [.tup ds] => some (.lst ds)
  | _ => none
theorem bn_list : BltNew X g (.type "list") oListOf := by
  refine ⟨_, call_list_of, fun io F R σ e H vs ws ds d Q st ho hr hop q => ?_⟩
  match ds, hop with
  | [.lst ds], hop =>
    obtain ⟨v, w, rfl, r, er⟩ := opds1 (R := R) (H := H) ho hr
    obtain ⟨p, vs, rfl, h3, h4⟩ := r.seqL st er
    cases hop
    exact ⟨p, vs, rfl, .inl (SqL.of h3), fun l hl => q F _ _ Ext.rfl' (st.fresh hl) (new_list st hl h4)⟩
  | [.tup ds], hop =>
    obtain ⟨v, w, rfl, r, er⟩ := opds1 (R := R) (H := H) ho hr
    obtain ⟨p, vs, rfl, h3, h4⟩ := r.seqT st er
    cases hop
    exact ⟨p, vs, rfl, .inr (h3.ext st.ext), fun l hl => q F _ _ Ext.rfl' (st.fresh hl) (new_list st hl h4)⟩
end
end Mz

namespace Mz
open PySem PySem.Spec PyProof.Rows L2

/-! ### statements -/
inductive Fl where
  | nx (e : En) | rt (d : D) (fresh : Bool) (e : En) | bk (e : En) | ct (e : En) | ex (c : Nat) (pl : List D) (e : En)
abbrev SSem := En → Option Fl
/-- from an expression's end into a statement's -/
def run {α : Type} (r : Option (Rs α)) (k : α → En → Option Fl) : Option Fl :=
  match r with
  | none => none
  | some (.ok a e) => k a e
  | some (.ex c pl e) => some (.ex c pl e)
@[simp ↓] theorem run_u {α : Type} (r : Option (Rs α)) (k : α → En → Option Fl) : run r k =
  match r with
  | none => none
  | some (.ok a e) => k a e
  | some (.ex c pl e) => some (.ex c pl e) := rfl
/-- what a def hands back: frozen, or new -/
def Out_ (K : PySem.W.Frag) (ρ : Rho) (F R : Hp) (σ : L2.St) (H : Hp) (e : En) (v : V) (d : D) : Bool → Prop
  | false => Dt K ρ F v d
  | true => New K ρ F R σ H e v d
def AftS (K : PySem.W.Frag) (g : Gb) (io : Nat → Option Addr) (Wx : WX) (F R : Hp) (D' : Ends) : Option Fl → Prop
  | none => False
  | some (.nx e') => ∀ F' H' σ', Ext F F' → Stt K g.ρ io F' R σ' e' H' → D'.nx σ' H'
  | some (.rt d fr e') => ∀ F' H' σ' v, Ext F F' → Stt K g.ρ io F' R σ' e' H' → Out_ K g.ρ F' R σ' H' e' v d fr → D'.rt v H'
  | some (.bk e') => ∀ F' H' σ', Ext F F' → Stt K g.ρ io F' R σ' e' H' → D'.bk σ' H'
  | some (.ct e') => ∀ F' H' σ', Ext F F' → Stt K g.ρ io F' R σ' e' H' → D'.ct σ' H'
  | some (.ex c pl e') => ∀ F' H' σ' cls d, Ext F F' → Stt K g.ρ io F' R σ' e' H' → ExOk K g.ρ g.xa F' H' cls d c pl → Wx cls d σ' H'
def tS (K : PySem.W.Frag) (g : Gb) (io : Nat → Option Addr) (Wx : WX) (f : SSem) : TS := fun D' σ H => ∃ F R e, Stt K g.ρ io F R σ e H ∧ AftS K g io Wx F R D' (f e)
section
variable {K : PySem.W.Frag} {g : Gb} {io : Nat → Option Addr} {F F' R : Hp} {σ : L2.St} {Wx : WX} {D' D2 : Ends}
theorem AftS.weak {r : Option Fl} (x : Ext F F') (h : AftS K g io Wx F R D' r) : AftS K g io Wx F' R D' r := by
  match r, h with
  | some (.nx e'), h => exact fun F2 H2 σ' x2 => h F2 H2 σ' (x.trans x2)
  | some (.rt d fr e'), h => exact fun F2 H2 σ' v x2 => h F2 H2 σ' v (x.trans x2)
  | some (.bk e'), h => exact fun F2 H2 σ' x2 => h F2 H2 σ' (x.trans x2)
  | some (.ct e'), h => exact fun F2 H2 σ' x2 => h F2 H2 σ' (x.trans x2)
  | some (.ex c pl e'), h => exact fun F2 H2 σ' cls d x2 => h F2 H2 σ' cls d (x.trans x2)
theorem AftS.run {α β : Type} {rel : Rel α β} {Q' : β → Hp → Prop} {r : Option (Rs α)} {k : α → En → Option Fl} (h : AftS K g io Wx F R D' (run r k))
    (hk : ∀ (a : α) (e' : En) (F' H' : Hp) (v : β), Ext F F' → Stt K g.ρ io F' R σ e' H' → rel F' R σ H' e' v a → AftS K g io Wx F' R D' (k a e') → Q' v H') : Aft K g io rel Wx F R σ Q' r := by
  match r, h with
  | some (.ok a e'), h => exact fun F2 H2 v x2 s2 r2 => hk a e' F2 H2 v x2 s2 r2 (AftS.weak x2 h)
  | some (.ex c pl e'), h => exact fun F2 H2 cls d x2 s2 r2 => h F2 H2 σ cls d x2 s2 r2
end
@[simp] def sSkip : SSem := fun e => some (.nx e)
def sSeq (s t : SSem) : SSem := fun e => match s e with
  | some (.nx e') => t e'
  | r => r
@[simp ↓] theorem sSeq_u (s t : SSem) (e : En) : sSeq s t e = (match s e with
  | some (.nx e') => t e'
  | r => r) := rfl
section
variable {X : Cx} {g : Gb} {io : Nat → Option Addr} {Wx : WX} {pos : Pos} {a b : Expr} {f h : Sem} {s t : SSem} {st : Stmt} {rest : List Stmt}
theorem s_nil : PSs X [] (tS X.K g io Wx sSkip) := by
  refine PSs.of pss_nil fun D' σ H q => ?_
  obtain ⟨F, R, e, s, q⟩ := q
  exact q F H σ Ext.rfl' s
theorem s_cons (h1 : PS X st (tS X.K g io Wx s)) (h2 : PSs X rest (tS X.K g io Wx t)) : PSs X (st :: rest) (tS X.K g io Wx (sSeq s t)) := by
  refine PSs.of (pss_cons h1 h2) fun D' σ H q => ?_
  obtain ⟨F, R, e, st, q⟩ := q
  refine ⟨F, R, e, st, ?_⟩
  unfold sSeq at q
  cases e1 : s e with
  | none => rw [e1] at q; exact q.elim
  | some r =>
    rw [e1] at q
    cases r with
    | nx e' => exact fun F' H' σ' x s' => ⟨F', R, e', s', AftS.weak x q⟩
    | rt d fr e' => exact q
    | bk e' => exact q
    | ct e' => exact q
    | ex c pl e' => exact q
theorem s_one (h1 : PS X st (tS X.K g io Wx s)) : PSs X [st] (tS X.K g io Wx s) := PSs.of (pss_one h1) fun D' σ H q => q
theorem s_pass : PS X (.Pass pos) (tS X.K g io Wx sSkip) := by
  refine PS.of ps_pass fun D' σ H q => ?_
  obtain ⟨F, R, e, s, q⟩ := q
  exact q F H σ Ext.rfl' s
def sBrk : SSem := fun e => some (.bk e)
theorem s_break : PS X (.Break pos) (tS X.K g io Wx sBrk) := by
  refine PS.of ps_break fun D' σ H q => ?_
  obtain ⟨F, R, e, s, q⟩ := q
  exact q F H σ Ext.rfl' s
def sDrop (f : Sem) : SSem := fun e => run (f e) fun _ e' => some (.nx e')
@[simp ↓] theorem sDrop_u (f : Sem) (e : En) : sDrop f e = (run (f e) fun _ e' => some (.nx e')) := rfl
theorem s_expr (ha : PE X a (tE X.K g io Wx f)) (hs : swapsWith a none pos.line X.env = pure false := by rfl) : PS X (.Expr a pos) (tS X.K g io Wx (sDrop f)) := by
  refine PS.of (ps_expr ha hs) fun D' σ H q => ?_
  obtain ⟨F, R, e, st, q⟩ := q
  exact ⟨F, R, e, st, AftS.run (k := fun _ e' => some (.nx e')) q fun w e' F' H' v x s r q => q F' H' σ Ext.rfl' s⟩
/-- return: frozen data -/
def sRet (f : Sem) : SSem := fun e => run (f e) fun w e' => match w with
  | .dat d => some (.rt d false e')
  | .bor _ => none
@[simp ↓] theorem sRet_u (f : Sem) (e : En) : sRet f e = (run (f e) fun w e' => match w with
  | .dat d => some (.rt d false e')
  | .bor _ => none) := rfl
theorem s_ret (ha : PE X a (tE X.K g io Wx f)) : PS X (.Return (some a) pos) (tS X.K g io Wx (sRet f)) := by
  refine PS.of (ps_ret ha) fun D' σ H q => ?_
  obtain ⟨F, R, e, st, q⟩ := q
  refine ⟨F, R, e, st, AftS.run (k := fun w e' => match w with
  | .dat d => some (.rt d false e')
  | .bor _ => none) q fun w e' F' H' v x s r q => ?_⟩
  cases w with
  | dat d => exact q F' H' σ v Ext.rfl' s r
  | bor i => exact q.elim
/-- return of a new thing -/
def sRetN (f : Smx D) : SSem := fun e => run (f e) fun d e' => some (.rt d true e')
@[simp ↓] theorem sRetN_u (f : Smx D) (e : En) : sRetN f e = (run (f e) fun d e' => some (.rt d true e')) := rfl
theorem s_retN {h2 : Smx D} (ha : PE X a (tN X.K g io Wx h2)) : PS X (.Return (some a) pos) (tS X.K g io Wx (sRetN h2)) := by
  refine PS.of (ps_ret ha) fun D' σ H q => ?_
  obtain ⟨F, R, e, st, q⟩ := q
  exact ⟨F, R, e, st, AftS.run (k := fun d e' => some (.rt d true e')) q fun d e' F' H' v x s r q => q F' H' σ v Ext.rfl' s r⟩
/-- return of an own list: it is handed over -/
def sRetO (i : Nat) : SSem := fun e => match e[i]? with
  | some (.own d) => some (.rt d true (e.set i .un))
  | _ => none
@[simp ↓] theorem sRetO_u (i : Nat) (e : En) : sRetO i e = (match e[i]? with
  | some (.own d) => some (.rt d true (e.set i .un))
  | _ => none) := rfl
theorem s_retO {i : Nat} {x : Str} {p : Pos} (hN : X.N[i]? = some x) (hv : Vis X.env.scope x) (hd : (x == ("__debug__" : Str)) = false := by decide) (hcd : (x == ("__classdict__" : Str)) = false := by decide) : PS X (.Return (some (.Name x p)) pos) (tS X.K g io Wx (sRetO i)) := by
  refine PS.of (ps_ret (pe_var hN hv hd hcd)) fun D' σ H q => ?_
  obtain ⟨F, R, e, st, q⟩ := q
  unfold sRetO at q
  split at q
  · rename_i d e1
    obtain ⟨p, o, h1, h2, h3, h4, h5⟩ := st.slot i _ e1
    refine ⟨_, h1, q F H σ _ Ext.rfl' (st.forget i) ⟨p, o, rfl, h2, h3, fun j sj hj cj pj => ?_, h4, h5⟩⟩
    by_cases hji : i = j
    · subst hji
      have hl : i < e.length := by
        have := (List.getElem?_eq_some_iff.mp hj).1
        simpa using this
      rw [List.getElem?_set_self hl] at hj
      cases hj; cases cj
    · rw [List.getElem?_set_ne hji] at hj
      exact st.inj i j _ _ p hji e1 hj rfl cj h1 pj
  · exact q.elim
@[simp] def sRetZ : SSem := fun e => some (.rt .non false e)
theorem s_retZ : PS X (.Return none pos) (tS X.K g io Wx sRetZ) := by
  refine PS.of ps_retN fun D' σ H q => ?_
  obtain ⟨F, R, e, st, q⟩ := q
  exact q F H σ _ Ext.rfl' st .non
def sIf (c : Smx Bool) (s t : SSem) : SSem := fun e => run (c e) fun b e' => match b with
  | true => s e'
  | false => t e'
@[simp ↓] theorem sIf_u (c : Smx Bool) (s t : SSem) (e : En) : sIf c s t e = (run (c e) fun b e' => match b with
  | true => s e'
  | false => t e') := rfl
theorem s_if {c : Expr} {sc : Smx Bool} {l1 l2 : List Stmt} (hc : PT X c (tB X.K g io Wx sc)) (h1 : PSs X l1 (tS X.K g io Wx s)) (h2 : PSs X l2 (tS X.K g io Wx t)) : PS X (.If c l1 l2 pos) (tS X.K g io Wx (sIf sc s t)) := by
  refine PS.of (ps_if hc h1 h2) fun D' σ H q => ?_
  obtain ⟨F, R, e, st, q⟩ := q
  refine ⟨F, R, e, st, AftS.run (k := fun b e' => match b with
    | true => s e'
    | false => t e') q fun b e' F' H' v x s r q => ?_⟩
  have r : v = b := r
  subst r
  cases v with
  | true => rw [if_pos rfl]; exact ⟨F', R, e', s, q⟩
  | false => rw [if_neg Bool.false_ne_true]; exact ⟨F', R, e', s, q⟩

/-! ### targets -/
/-- a store of frozen data -/
abbrev Tgt := D → En → Option En
def PGd (X : Cx) (g : Gb) (io : Nat → Option Addr) (tg : Expr) (r : TG) (t : Tgt) : Prop := PG X tg r ∧ ∀ (F R : Hp) (σ : L2.St) (e e' : En) (H : Hp) (v : V) (d : D) (Q : L2.St → Hp → Prop), Stt X.K g.ρ io F R σ e H → Dt X.K g.ρ F v d → t d e = some e' →
  (∀ σ', Stt X.K g.ρ io F R σ' e' H → Q σ' H) → r v σ H Q
def gVar (i : Nat) : Tgt := fun d e => some (e.set i (.val d))
@[simp ↓] theorem gVar_u (i : Nat) (d : D) (e : En) : gVar i d e = (some (e.set i (.val d))) := rfl
theorem g_var {i : Nat} {x : Str} (hN : X.N.Nodup) (hi : X.N[i]? = some x) (hx : Loc X.env.scope x) (hf : X.fn x = true ∨ X.env.scope.names.lookup x = some .local := by first | exact .inl rfl | exact .inr rfl | assumption) : PGd X g io (.Name x pos) (gName i) (gVar i) :=
  ⟨pg_name hN hi hx hf, fun F R σ e e' H v d Q st dt ht q => by cases ht; exact q _ (st.setVal i dt)⟩
def PGsd (X : Cx) (g : Gb) (io : Nat → Option Addr) (ts : List Expr) (r : TGs) (t : List D → En → Option En) : Prop := PGs X ts r ∧ ∀ (F R : Hp) (σ : L2.St) (e e' : En) (H : Hp) (vs : List V) (ds : List D) (Q : L2.St → Hp → Prop), Stt X.K g.ρ io F R σ e H → Sqs X.K g.ρ F vs ds → t ds e = some e' →
  (∀ σ', Stt X.K g.ρ io F R σ' e' H → Q σ' H) → r vs σ H Q
def gsNil : List D → En → Option En := fun ds e => match ds with
  | [] => some e
  | _ => none
@[simp ↓] theorem gsNil_u (ds : List D) (e : En) : gsNil  ds e = (match ds with
  | [] => some e
  | _ => none) := rfl
def gsCons (t : Tgt) (u : List D → En → Option En) : List D → En → Option En := fun ds e => match ds with
  | d :: ds => (t d e).bind (u ds)
  | [] => none
@[simp ↓] theorem gsCons_u (t : Tgt) (u : List D → En → Option En) (ds : List D) (e : En) : gsCons t u ds e = (match ds with
  | d :: ds => (t d e).bind (u ds)
  | [] => none) := rfl
theorem gs_nil : PGsd X g io [] gNil gsNil := by
  refine ⟨pgs_nil, fun F R σ e e' H vs ds Q st sq ht q => ?_⟩
  cases ds with
  | nil =>
    cases ht
    have : vs = [] := List.eq_nil_of_length_eq_zero sq.1
    exact ⟨this, q σ st⟩
  | cons => cases ht
theorem gs_cons {ex : Expr} {es : List Expr} {r : TG} {rs : TGs} {t : Tgt} {u : List D → En → Option En} (h1 : PGd X g io ex r t) (h2 : PGsd X g io es rs u) (hs : (assignEach (ex :: es) X.env).map (·.2) = assign ex X.env :: (assignEach es X.env).map (·.2) := by rfl) :
    PGsd X g io (ex :: es) (gCons r rs) (gsCons t u) := by
  refine ⟨pgs_cons h1.1 h2.1 hs, fun F R σ e e' H vs ds Q st sq ht q => ?_⟩
  cases ds with
  | nil => cases ht
  | cons d ds =>
    obtain ⟨v, vs', rfl⟩ : ∃ v vs', vs = v :: vs' := by
      cases vs with
      | nil => have := sq.1; simp at this
      | cons v vs' => exact ⟨v, vs', rfl⟩
    have ht : (t d e).bind (u ds) = some e' := ht
    rw [Option.bind_eq_some_iff] at ht
    obtain ⟨e1, t1, t2⟩ := ht
    refine ⟨v, vs', rfl, h1.2 F R σ e e1 H v d _ st (sq.2 0 v d rfl rfl) t1 fun σ1 s1 => ?_⟩
    exact h2.2 F R σ1 e1 e' H vs' ds Q s1 ⟨by simpa using sq.1, fun i v d a b => sq.2 (i + 1) v d (by simpa using a) (by simpa using b)⟩ t2 q
def gTupD (n : Nat) (u : List D → En → Option En) : Tgt := fun d e => match d with
  | .tup ds => if ds.length = n then u ds e else none
  | _ => none
@[simp ↓] theorem gTupD_u (n : Nat) (u : List D → En → Option En) (d : D) (e : En) : gTupD n u d e = (match d with
  | .tup ds => if ds.length = n then u ds e else none
  | _ => none) := rfl
theorem g_tup {es : List Expr} {k n : Nat} {rs : TGs} {u : List D → En → Option En} (hc : X.calm = true) (h : PGsd X g io es rs u) (hn : (assignEach es X.env).length = n := by rfl) (hst : (assignEach es X.env).findIdx? (·.1) = none := by rfl) :
    PGd X g io (.Tuple es k pos) (gTup X.K n rs) (gTupD n u) := by
  refine ⟨pg_tup hc h.1 hn hst, fun F R σ e e' H v d Q st dt ht q => ?_⟩
  cases d with
  | tup ds =>
    have ht : (if ds.length = n then u ds e else none) = some e' := ht
    by_cases hl : ds.length = n
    · rw [if_pos hl] at ht
      cases dt with
      | tup hS hl2 hi => exact ⟨_, _, rfl, hS.ext st.ext, hl2.trans hl, h.2 F R σ e e' H _ ds Q st ⟨hl2, hi⟩ ht q⟩
    · rw [if_neg hl] at ht; cases ht
  | _ => cases ht
/-- target = e -/
def sAsg (f : Sem) (t : Tgt) : SSem := fun e => run (f e) fun w e' => match w with
  | .dat d => (match t d e' with
    | some e2 => some (.nx e2)
    | none => none)
  | .bor _ => none
@[simp ↓] theorem sAsg_u (f : Sem) (t : Tgt) (e : En) : sAsg f t e = (run (f e) fun w e' => match w with
  | .dat d => (match t d e' with
    | some e2 => some (.nx e2)
    | none => none)
  | .bor _ => none) := rfl
theorem asg_of {r : TG} {tg : Expr} {t : Tgt} (hg : PGd X g io tg r t) (D' : Ends) (σ : L2.St) (H : Hp) (q : tS X.K g io Wx (sAsg f t) D' σ H) : tAsg (tE X.K g io Wx f) r D' σ H := by
  obtain ⟨F, R, e, st, q⟩ := q
  refine ⟨F, R, e, st, AftS.run (k := fun w e' => match w with
  | .dat d => (match t d e' with
    | some e2 => some (.nx e2)
    | none => none)
  | .bor _ => none) q fun w e' F' H' v x s rr q => ?_⟩
  cases w with
  | dat d =>
    simp only at q
    cases e1 : t d e' with
    | none => rw [e1] at q; exact q.elim
    | some e2 =>
      rw [e1] at q
      exact hg.2 F' R σ e' e2 H' v d _ s rr e1 fun σ' s' => q F' H' σ' Ext.rfl' s'
  | bor i => exact q.elim
theorem s_set {i : Nat} {x : Str} {p : Pos} (hN : X.N.Nodup) (hi : X.N[i]? = some x) (hx : Loc X.env.scope x) (ha : PE X a (tE X.K g io Wx f)) (hs : swapsWith a (some (.Name x p)) pos.line X.env = pure false := by rfl) (hf : X.fn x = true ∨ X.env.scope.names.lookup x = some .local := by first | exact .inl rfl | exact .inr rfl | assumption) :
    PS X (.Assign [.Name x p] a pos) (tS X.K g io Wx (sAsg f (gVar i))) := PS.of (ps_set hN hi hx ha hs hf) fun D' σ H q => asg_of (g_var (pos := p) hN hi hx hf) D' σ H q
theorem s_asg {tg : Expr} {r : TG} {t : Tgt} (ha : PE X a (tE X.K g io Wx f)) (hg : PGd X g io tg r t) (hs : swapsWithSole [tg] a pos.line X.env = pure false := by rfl) (hw : swappedStores [tg] a X.env = pure none := by rfl)
    (h1 : (assignEach [tg] X.env).map (·.2) = [assign tg X.env] := by rfl) : PS X (.Assign [tg] a pos) (tS X.K g io Wx (sAsg f t)) := PS.of (ps_asg ha hg.1 hs hw h1) fun D' σ H q => asg_of hg D' σ H q
/-- x = a new list, owned -/
def sOwn (f : Smx D) (i : Nat) : SSem := fun e => run (f e) fun d e' => some (.nx (e'.set i (.own d)))
@[simp ↓] theorem sOwn_u (f : Smx D) (i : Nat) (e : En) : sOwn f i e = (run (f e) fun d e' => some (.nx (e'.set i (.own d)))) := rfl
theorem s_own {h2 : Smx D} {i : Nat} {x : Str} {p : Pos} (hN : X.N.Nodup) (hi : X.N[i]? = some x) (hx : Loc X.env.scope x) (ha : PE X a (tN X.K g io Wx h2)) (hs : swapsWith a (some (.Name x p)) pos.line X.env = pure false := by rfl) (hf : X.fn x = true ∨ X.env.scope.names.lookup x = some .local := by first | exact .inl rfl | exact .inr rfl | assumption) :
    PS X (.Assign [.Name x p] a pos) (tS X.K g io Wx (sOwn h2 i)) := by
  refine PS.of (ps_set hN hi hx ha hs hf) fun D' σ H q => ?_
  obtain ⟨F, R, e, st, q⟩ := q
  exact ⟨F, R, e, st, AftS.run (k := fun d e' => some (.nx (e'.set i (.own d)))) q fun d e' F' H' v x s r q => q F' H' _ Ext.rfl' (s.setOwn i r)⟩
/-- a, b = x, y: stored without a pair -/
def sPar (i j : Nat) (hs : Smx (List W)) : SSem := fun e => run (hs e) fun ws e' => match ws with
  | [.dat d, .dat d'] => some (.nx ((e'.set i (.val d)).set j (.val d')))
  | _ => none
@[simp ↓] theorem sPar_u (i j : Nat) (hs : Smx (List W)) (e : En) : sPar i j hs e = (run (hs e) fun ws e' => match ws with
  | [.dat d, .dat d'] => some (.nx ((e'.set i (.val d)).set j (.val d')))
  | _ => none) := rfl
theorem s_par {i j : Nat} {x y : Str} {hs : Smx (List W)} {px py pt : Pos} {kt k2 pt2} (hc : X.calm = true) (hN : X.N.Nodup) (hi : X.N[i]? = some x) (hj : X.N[j]? = some y) (hij : i ≠ j)
    (hx : X.env.scope.names.lookup x = some .local) (hy : X.env.scope.names.lookup y = some .local) (ha : PA X [a, b] (tA X.K g io Wx hs))
    (hw : swappedStores [.Tuple [.Name x px, .Name y py] kt pt] (.Tuple [a, b] k2 pt2) X.env = pure (some [x, y]))
    (hsw : swapsWithSole [.Tuple [.Name x px, .Name y py] kt pt] (.Tuple [a, b] k2 pt2) pos.line X.env = pure false := by rfl) :
    PS X (.Assign [.Tuple [.Name x px, .Name y py] kt pt] (.Tuple [a, b] k2 pt2) pos) (tS X.K g io Wx (sPar i j hs)) := by
  refine PS.of (ps_par hc hN hi hj hij hx hy ha hw hsw) fun D' σ H q => ?_
  obtain ⟨F, R, e, st, q⟩ := q
  refine ⟨F, R, e, st, AftS.run (k := fun ws e' => match ws with
  | [.dat d, .dat d'] => some (.nx ((e'.set i (.val d)).set j (.val d')))
  | _ => none) q fun ws e' F' H' vs x s r q => ?_⟩
  cases r with
  | nil => exact q.elim
  | bor h t => exact q.elim
  | dat h t =>
    cases t with
    | nil => exact q.elim
    | bor h2 t2 => exact q.elim
    | dat h2 t2 =>
      cases t2 with
      | nil => exact ⟨_, _, rfl, q F' H' _ Ext.rfl' ((s.setVal i h).setVal j h2)⟩
      | dat _ _ => exact q.elim
      | bor _ _ => exact q.elim
/-- an own thing is frozen where it stands (nothing is done) -/
def sFrz (i : Nat) (s : SSem) : SSem := fun e => match e[i]? with
  | some (.own d) => s (e.set i (.val d))
  | _ => none
@[simp ↓] theorem sFrz_u (i : Nat) (s : SSem) (e : En) : sFrz i s e = (match e[i]? with
  | some (.own d) => s (e.set i (.val d))
  | _ => none) := rfl
theorem Stt.frzSlot {K : PySem.W.Frag} {F R H : Hp} {σ : L2.St} {e : En} {i : Nat} {d : D} (st : Stt K g.ρ io F R σ e H) (q : e[i]? = some (.own d)) : ∃ F', Ext F F' ∧ Stt K g.ρ io F' R σ (e.set i (.val d)) H := by
  obtain ⟨p, o, h1, h2, h3, h4, h5⟩ := st.slot i _ q
  have hl : i < e.length := (List.getElem?_eq_some_iff.mp q).1
  have s0 := st.forget i
  obtain ⟨s1, x⟩ := s0.freeze h2 h3 (fun j sj hj cj pj => by
    by_cases hji : i = j
    · subst hji
      rw [List.getElem?_set_self hl] at hj
      cases hj; cases cj
    · rw [List.getElem?_set_ne hji] at hj
      exact st.inj i j _ _ p hji q hj rfl cj h1 pj) h4
  have dt : Dt K g.ρ (upd F p o) (.ref p) d := by
    cases h5 with
    | lst h5 => exact .lst upd_same h5.1 fun i v d a b => (h5.2 i v d a b).mono x
  have s2 := s1.setVal i dt
  refine ⟨_, x, ?_⟩
  have e1 : σ.set i (some (.ref p)) = σ := by
    apply List.ext_getElem?
    intro j
    rw [List.getElem?_set]
    by_cases hj : i = j
    · subst hj
      rw [if_pos rfl, if_pos (by rw [st.len]; exact hl), h1]
    · rw [if_neg hj]
  rw [e1, List.set_set] at s2
  exact s2
theorem ss_frz {l : List Stmt} {i : Nat} (h1 : PSs X l (tS X.K g io Wx s)) : PSs X l (tS X.K g io Wx (sFrz i s)) := by
  refine PSs.of h1 fun D' σ H q => ?_
  obtain ⟨F, R, e, st, q⟩ := q
  unfold sFrz at q
  split at q
  · rename_i d e1
    obtain ⟨F', x, st'⟩ := st.frzSlot e1
    exact ⟨F', R, _, st', AftS.weak x q⟩
  · exact q.elim
/-- x += e (ints) -/
def sAug (i : Nat) (o : D → D → Option D) (f : Sem) : SSem := fun e => match e[i]? with
  | some (.val a) => run (f e) fun w e' => (match rd e' w with
    | some b => (match o a b with
      | some d => some (.nx (e'.set i (.val d)))
      | none => none)
    | none => none)
  | _ => none
@[simp ↓] theorem sAug_u (i : Nat) (o : D → D → Option D) (f : Sem) (e : En) : sAug i o f e = (match e[i]? with
  | some (.val a) => run (f e) fun w e' => (match rd e' w with
    | some b => (match o a b with
      | some d => some (.nx (e'.set i (.val d)))
      | none => none)
    | none => none)
  | _ => none) := rfl
theorem s_augI {i : Nat} {x : Str} {p : Pos} (hN : X.N.Nodup) (hi : X.N[i]? = some x) (hx : Loc X.env.scope x) (ha : PE X a (tE X.K g io Wx f)) (hf : X.fn x = true ∨ X.env.scope.names.lookup x = some .local := by first | exact .inl rfl | exact .inr rfl | assumption) :
    PS X (.AugAssign (.Name x p) .Add a pos) (tS X.K g io Wx (sAug i (dI2 fun i j => .int (i + j)) f)) := by
  refine PS.of (ps_aug hN hi hx ha ip_add hf) fun D' σ H q => ?_
  obtain ⟨F, R, e, st, q⟩ := q
  unfold sAug at q
  split at q
  · rename_i d e1
    obtain ⟨v, h1, h2⟩ := st.slot i _ e1
    refine ⟨v, h1, F, R, e, st, AftS.run (k := fun w e' => match rd e' w with
    | some b => (match dI2 (fun i j => .int (i + j)) d b with
      | some d => some (.nx (e'.set i (.val d)))
      | none => none)
    | none => none) q fun w e' F' H' v' x s r q => ?_⟩
    cases e2 : rd e' w with
    | none => rw [e2] at q; exact q.elim
    | some b =>
      have dt := r.view s e2
      rw [e2] at q
      cases d with
      | int i' =>
        cases b with
        | int j' =>
          cases h2; cases dt
          exact ⟨i', j', rfl, rfl, q F' H' _ Ext.rfl' (s.setVal _ (.int _))⟩
        | _ => exact q.elim
      | _ => exact q.elim
  · exact q.elim
end
end Mz

namespace Mz
open PySem PySem.Spec PyProof.Rows L2 RZ

/-! ### what is walked -/
def ItOk (K : PySem.W.Frag) (ρ : Rho) (F R : Hp) (J : It) (items : List D) : Prop :=
  ∀ F2 H2, Ext F F2 → Ext F2 H2 → Ext R H2 →
    (∀ (i : Nat) (d : D), items[i]? = some d → J.go i H2 ∧ ∀ x H', J.yld i H2 x H' → (H' = H2 ∧ Dt K ρ F2 x d) ∨ ∃ T xs, x = .ref T ∧ H2 T = none ∧ H' = upd H2 T (.tup xs) ∧ Dt K ρ (upd F2 T (.tup xs)) x d) ∧ J.stop items.length H2
theorem ItOk.mono {K : PySem.W.Frag} {ρ : Rho} {F F' R : Hp} {J : It} {items : List D} (h : ItOk K ρ F R J items) (x : Ext F F') : ItOk K ρ F' R J items := fun F2 H2 x2 => h F2 H2 (x.trans x2)
def rIt (K : PySem.W.Frag) (ρ : Rho) : Rel (List D) It := fun F R _ _ _ J items => ItOk K ρ F R J items
abbrev tIt (K : PySem.W.Frag) (g : Gb) (io : Nat → Option Addr) (Wx : WX) (f : Smx (List D)) : TI := tG K g io (rIt K g.ρ) Wx f
def PId (X : Cx) (g : Gb) (io : Nat → Option Addr) (Wx : WX) (tg iter : Expr) (wi : TI) (f : Smx (List D)) : Prop := PI X tg iter wi ∧ ∀ σ H R, tIt X.K g io Wx f σ H R → wi σ H R
section
variable {K : PySem.W.Frag} {ρ : Rho} {F R : Hp}
theorem it_list {p : Addr} {vs : List V} {ds : List D} (h : F p = some (.lst vs)) (q : Sqs K ρ F vs ds) : ItOk K ρ F R (Itl K p) ds := fun F2 H2 x1 x2 _ => by
  have hl : SqL K H2 p vs := SqL.of (x2 _ _ (x1 _ _ h))
  refine ⟨fun i d e => ?_, vs, hl, by rw [q.1]; exact Nat.le_refl _⟩
  obtain ⟨v, e1, dv⟩ := q.get e
  exact ⟨⟨vs, v, hl, e1⟩, fun x H' ⟨e2, y⟩ => .inl ⟨e2, by
    have := y vs hl
    rw [e1] at this
    cases this
    exact dv.mono x1⟩⟩
theorem it_tup {p : Addr} {vs : List V} {ds : List D} (h : SqT K F p vs) (q : Sqs K ρ F vs ds) : ItOk K ρ F R (Itt K p) ds := fun F2 H2 x1 x2 _ => by
  have hl : SqT K H2 p vs := (h.ext x1).ext x2
  refine ⟨fun i d e => ?_, vs, hl, by rw [q.1]; exact Nat.le_refl _⟩
  obtain ⟨v, e1, dv⟩ := q.get e
  exact ⟨⟨vs, v, hl, e1⟩, fun x H' ⟨e2, y⟩ => .inl ⟨e2, by
    have := y vs hl
    rw [e1] at this
    cases this
    exact dv.mono x1⟩⟩
def rngD (lo : Int) (n : Nat) : List D := (List.range n).map fun i => .int (lo + (i : Nat))
theorem it_rng (lo : Int) (n : Nat) : ItOk K ρ F R (Itr lo n) (rngD lo n) := fun F2 H2 x1 x2 _ => by
  refine ⟨fun i d e => ?_, by show n ≤ (rngD lo n).length; simp [rngD]⟩
  unfold rngD at e
  rw [List.getElem?_map] at e
  have hi : i < n := by
    cases q : (List.range n)[i]? with
    | none => rw [q] at e; cases e
    | some j =>
      have := (List.getElem?_eq_some_iff.mp q).1
      simpa using this
  rw [List.getElem?_range hi] at e
  cases e
  exact ⟨hi, fun x H' ⟨e2, y⟩ => .inl ⟨e2, by rw [y]; exact .int _⟩⟩
def enumD (ds : List D) : List D := (List.range ds.length).filterMap fun i => (ds[i]?).map fun d => .tup [.int (i : Nat), d]
def enumFrom (n : Nat) : List D → List D
  | [] => []
  | d :: ds => .tup [.int (n : Nat), d] :: enumFrom (n + 1) ds
theorem enumFrom_get : ∀ (ds : List D) (n i : Nat), (enumFrom n ds)[i]? = (ds[i]?).map fun d => .tup [.int ((n + i : Nat) : Int), d]
  | [], n, i => by simp [enumFrom]
  | d :: ds, n, 0 => by simp [enumFrom]
  | d :: ds, n, i + 1 => by
    show (enumFrom (n + 1) ds)[i]? = _
    rw [enumFrom_get ds (n + 1) i]
    have e : n + 1 + i = n + (i + 1) := by omega
    rw [e]
    simp
theorem enumFrom_length : ∀ (ds : List D) (n : Nat), (enumFrom n ds).length = ds.length
  | [], _ => rfl
  | d :: ds, n => by show (enumFrom (n + 1) ds).length + 1 = _; rw [enumFrom_length ds]; rfl
theorem it_enum {p : Addr} {vs : List V} {ds : List D} (h : F p = some (.lst vs)) (q : Sqs K ρ F vs ds) : ItOk K ρ F R (Ite K p) (enumFrom 0 ds) := fun F2 H2 x1 x2 _ => by
  have hl : SqL K H2 p vs := SqL.of (x2 _ _ (x1 _ _ h))
  refine ⟨fun i d e => ?_, vs, hl, by rw [enumFrom_length, q.1]; exact Nat.le_refl _⟩
  rw [enumFrom_get, Option.map_eq_some_iff] at e
  obtain ⟨d0, e, rfl⟩ := e
  obtain ⟨v, e1, dv⟩ := q.get e
  refine ⟨⟨vs, v, hl, e1⟩, fun x H' ⟨T, x0, e2, hT, e3, y⟩ => .inr ⟨T, _, e2, hT, e3, ?_⟩⟩
  have := y vs hl
  rw [e1] at this
  cases this
  have nF : F2 T = none := by
    cases z : F2 T with
    | none => rfl
    | some o => rw [x2 _ _ z] at hT; cases hT
  subst e2
  refine .tup (SqT.of upd_same) rfl fun j v d a b => ?_
  match j with
  | 0 => simp at a b; subst a; subst b; exact .int _
  | 1 => simp at a b; subst a; subst b; exact (dv.mono x1).mono (Ext.upd nF)
  | j + 2 => simp at a
def zipD : List D → List D → List D
  | d :: ds, c :: cs => .tup [d, c] :: zipD ds cs
  | _, _ => []
theorem zipD_get : ∀ (ds cs : List D) (i : Nat) (d : D), (zipD ds cs)[i]? = some d → ∃ a b, ds[i]? = some a ∧ cs[i]? = some b ∧ d = .tup [a, b]
  | [], _, i, d, h => by simp [zipD] at h
  | _ :: _, [], i, d, h => by simp [zipD] at h
  | a :: ds, b :: cs, 0, d, h => by
    have h : some (D.tup [a, b]) = some d := h
    cases h
    exact ⟨a, b, rfl, rfl, rfl⟩
  | a :: ds, b :: cs, i + 1, d, h => by
    obtain ⟨a', b', h1, h2, h3⟩ := zipD_get ds cs i d h
    exact ⟨a', b', by simpa using h1, by simpa using h2, h3⟩
theorem zipD_length : ∀ (ds cs : List D), ds.length ≤ (zipD ds cs).length ∨ cs.length ≤ (zipD ds cs).length
  | [], _ => .inl (Nat.zero_le _)
  | _ :: _, [] => .inr (Nat.zero_le _)
  | a :: ds, b :: cs => by
    show ds.length + 1 ≤ (zipD ds cs).length + 1 ∨ cs.length + 1 ≤ (zipD ds cs).length + 1
    rcases zipD_length ds cs with h | h
    · exact .inl (by omega)
    · exact .inr (by omega)
theorem pair_dt {F2 : Hp} {T : Addr} {v v' : V} {d d' : D} (nF : F2 T = none) (h : Dt K ρ F2 v d) (h' : Dt K ρ F2 v' d') : Dt K ρ (upd F2 T (.tup [v, v'])) (.ref T) (.tup [d, d']) := by
  refine .tup (SqT.of upd_same) rfl fun j w c a b => ?_
  match j with
  | 0 => simp at a b; subst a; subst b; exact h.mono (Ext.upd nF)
  | 1 => simp at a b; subst a; subst b; exact h'.mono (Ext.upd nF)
  | j + 2 => simp at a
theorem none_of {F2 H2 : Hp} {T : Addr} (x2 : Ext F2 H2) (hT : H2 T = none) : F2 T = none := by
  cases z : F2 T with
  | none => rfl
  | some o => rw [x2 _ _ z] at hT; cases hT
theorem it_zip {p p' : Addr} {vs vs' : List V} {ds ds' : List D} (h : F p = some (.lst vs)) (q : Sqs K ρ F vs ds) (h' : F p' = some (.lst vs')) (q' : Sqs K ρ F vs' ds') : ItOk K ρ F R (Itz K p p') (zipD ds ds') := fun F2 H2 x1 x2 _ => by
  have hl : SqL K H2 p vs := SqL.of (x2 _ _ (x1 _ _ h))
  have hl' : SqL K H2 p' vs' := SqL.of (x2 _ _ (x1 _ _ h'))
  refine ⟨fun i d e => ?_, vs, vs', hl, hl', by rw [q.1, q'.1]; exact zipD_length ds ds'⟩
  obtain ⟨a, b, e1, e2, rfl⟩ := zipD_get _ _ _ _ e
  obtain ⟨v, f1, dv⟩ := q.get e1
  obtain ⟨v', f2, dv'⟩ := q'.get e2
  refine ⟨⟨vs, vs', v, v', hl, hl', f1, f2⟩, fun x H' ⟨T, x0, y0, e2, hT, e3, y, y'⟩ => .inr ⟨T, _, e2, hT, e3, ?_⟩⟩
  have t1 := y vs hl
  have t2 := y' vs' hl'
  rw [f1] at t1
  rw [f2] at t2
  cases t1; cases t2
  subst e2
  exact pair_dt (none_of x2 hT) (dv.mono x1) (dv'.mono x1)
theorem it_zipT {p p' : Addr} {vs vs' : List V} {ds ds' : List D} (h : SqT K F p vs) (q : Sqs K ρ F vs ds) (h' : SqT K F p' vs') (q' : Sqs K ρ F vs' ds') : ItOk K ρ F R (ItzT K p p') (zipD ds ds') := fun F2 H2 x1 x2 _ => by
  have hl : SqT K H2 p vs := (h.ext x1).ext x2
  have hl' : SqT K H2 p' vs' := (h'.ext x1).ext x2
  refine ⟨fun i d e => ?_, vs, vs', hl, hl', by rw [q.1, q'.1]; exact zipD_length ds ds'⟩
  obtain ⟨a, b, e1, e2, rfl⟩ := zipD_get _ _ _ _ e
  obtain ⟨v, f1, dv⟩ := q.get e1
  obtain ⟨v', f2, dv'⟩ := q'.get e2
  refine ⟨⟨vs, vs', v, v', hl, hl', f1, f2⟩, fun x H' ⟨T, x0, y0, e2, hT, e3, y, y'⟩ => .inr ⟨T, _, e2, hT, e3, ?_⟩⟩
  have t1 := y vs hl
  have t2 := y' vs' hl'
  rw [f1] at t1
  rw [f2] at t2
  cases t1; cases t2
  subst e2
  exact pair_dt (none_of x2 hT) (dv.mono x1) (dv'.mono x1)
end
section
variable {X : Cx} {g : Gb} {io : Nat → Option Addr} {Wx : WX} {pos : Pos} {a b tg : Expr} {f h : Sem} {hs : Smx (List W)}
/-- a list or a tuple, frozen -/
def iSeq (f : Sem) : Smx (List D) := fun e => bnd (f e) fun w e' => match w with
  | .dat (.lst ds) => some (.ok ds e')
  | .dat (.tup ds) => some (.ok ds e')
  | _ => none
@[simp ↓] theorem iSeq_u (f : Sem) (e : En) : iSeq f e = (bnd (f e) fun w e' => match w with
  | .dat (.lst ds) => some (.ok ds e')
  | .dat (.tup ds) => some (.ok ds e')
  | _ => none) := rfl
def wSeq (K : PySem.W.Frag) (te : TE) : TI := fun σ H R => iList K te σ H R ∨ iTup K te σ H R
theorem pi_seq {l : Expr} {tl : TE} (hl : PE X l tl) : PI X tg l (wSeq X.K tl) :=
  ⟨fun pins s σ H R I q => q.elim (fun q => (pi_list hl).run pins s σ H R I q) fun q => (pi_tup hl).run pins s σ H R I q⟩
theorem i_seq (ha : PE X a (tE X.K g io Wx f)) : PId X g io Wx tg a (wSeq X.K (tE X.K g io Wx f)) (iSeq f) := by
  refine ⟨pi_seq ha, fun σ H Rr q => ?_⟩
  obtain ⟨F, R, e, st, q⟩ := q
  unfold iSeq at q
  cases z : f e with
  | none => rw [z] at q; exact q.elim
  | some rr =>
    rw [z] at q
    cases rr with
    | ex c pl e' => exact .inl ⟨F, R, e, st, by rw [z]; exact q⟩
    | ok w e' =>
      cases w with
      | bor i => exact q.elim
      | dat d =>
        cases d with
        | lst ds =>
          refine .inl ⟨F, R, e, st, ?_⟩
          rw [z]
          intro F' H' v x s r
          cases (show Dt X.K g.ρ F' v (.lst ds) from r) with
          | lst h hl hi => exact ⟨_, rfl, ⟨_, SqL.of (s.ext _ _ h)⟩, (q.weak x).ok s (it_list h ⟨hl, hi⟩)⟩
        | tup ds =>
          refine .inr ⟨F, R, e, st, ?_⟩
          rw [z]
          intro F' H' v x s r
          cases (show Dt X.K g.ρ F' v (.tup ds) from r) with
          | tup h hl hi => exact ⟨_, rfl, ⟨_, h.ext s.ext⟩, (q.weak x).ok s (it_tup h ⟨hl, hi⟩)⟩
        | _ => exact q.elim
def iRange1 (hs : Smx (List W)) : Smx (List D) := fun e => bnd (hs e) fun ws e' => match rds e' ws with
  | some [.int n] => if n.natAbs < 2 ^ 62 then some (.ok (rngD 0 n.toNat) e') else none
  | _ => none
@[simp ↓] theorem iRange1_u (hs : Smx (List W)) (e : En) : iRange1 hs e = (bnd (hs e) fun ws e' => match rds e' ws with
  | some [.int n] => if n.natAbs < 2 ^ 62 then some (.ok (rngD 0 n.toNat) e') else none
  | _ => none) := rfl
theorem i_range1 {p : Pos} (hg : Gl X "range") (hm : X.mg "range" = none) (ha : PA X [a] (tA X.K g io Wx hs)) (hst : starEach [a] X.env = [(false, eval a X.env)] := by rfl) : PId X g io Wx tg (.Call (.Name "range" p) [a] [] pos) (iRng1 (tA X.K g io Wx hs)) (iRange1 hs) := by
  refine ⟨pi_range1 hg hm ha hst, fun σ H Rr q => ?_⟩
  obtain ⟨F, R, e, st, q⟩ := q
  refine ⟨F, R, e, st, Aft.bnd (k := fun ws e' => match rds e' ws with
  | some [.int n] => if n.natAbs < 2 ^ 62 then some (Rs.ok (rngD 0 n.toNat) e') else none
  | _ => none) q fun ws e' F' H' vs _ x s r q => ?_⟩
  split at q
  · rename_i n e1
    by_cases hz : n.natAbs < 2 ^ 62
    · rw [if_pos hz] at q
      obtain ⟨v, rfl, dt⟩ := sqs1 (Opds.view s r e1)
      cases dt
      exact ⟨n, rfl, by omega, by omega, q.ok s (it_rng 0 n.toNat)⟩
    · rw [if_neg hz] at q; exact q.elim
  · exact q.elim
def iRange2 (hs : Smx (List W)) : Smx (List D) := fun e => bnd (hs e) fun ws e' => match rds e' ws with
  | some [.int m, .int n] => if m.natAbs < 2 ^ 62 ∧ n.natAbs < 2 ^ 62 then some (.ok (rngD m (n - m).toNat) e') else none
  | _ => none
@[simp ↓] theorem iRange2_u (hs : Smx (List W)) (e : En) : iRange2 hs e = (bnd (hs e) fun ws e' => match rds e' ws with
  | some [.int m, .int n] => if m.natAbs < 2 ^ 62 ∧ n.natAbs < 2 ^ 62 then some (.ok (rngD m (n - m).toNat) e') else none
  | _ => none) := rfl
theorem i_range2 {p : Pos} (hg : Gl X "range") (hm : X.mg "range" = none) (ha : PA X [a, b] (tA X.K g io Wx hs)) (hst : starEach [a, b] X.env = [(false, eval a X.env), (false, eval b X.env)] := by rfl) (hs2 : starEach [b] X.env = [(false, eval b X.env)] := by rfl) :
    PId X g io Wx tg (.Call (.Name "range" p) [a, b] [] pos) (iRng2 (tA X.K g io Wx hs)) (iRange2 hs) := by
  refine ⟨pi_range2 hg hm ha hst hs2, fun σ H Rr q => ?_⟩
  obtain ⟨F, R, e, st, q⟩ := q
  refine ⟨F, R, e, st, Aft.bnd (k := fun ws e' => match rds e' ws with
  | some [.int m, .int n] => if m.natAbs < 2 ^ 62 ∧ n.natAbs < 2 ^ 62 then some (Rs.ok (rngD m (n - m).toNat) e') else none
  | _ => none) q fun ws e' F' H' vs _ x s r q => ?_⟩
  split at q
  · rename_i m n e1
    by_cases hz : m.natAbs < 2 ^ 62 ∧ n.natAbs < 2 ^ 62
    · rw [if_pos hz] at q
      obtain ⟨v, v', rfl, dt, dt'⟩ := sqs2 (Opds.view s r e1)
      cases dt; cases dt'
      exact ⟨m, n, rfl, ⟨by omega, by omega, by omega, by omega⟩, q.ok s (it_rng m (n - m).toNat)⟩
    · rw [if_neg hz] at q; exact q.elim
  · exact q.elim
def iEnm (hs : Smx (List W)) : Smx (List D) := fun e => bnd (hs e) fun ws e' => match ws with
  | [.dat (.lst ds)] => some (.ok (enumFrom 0 ds) e')
  | _ => none
@[simp ↓] theorem iEnm_u (hs : Smx (List W)) (e : En) : iEnm hs e = (bnd (hs e) fun ws e' => match ws with
  | [.dat (.lst ds)] => some (.ok (enumFrom 0 ds) e')
  | _ => none) := rfl
theorem opds1w {K : PySem.W.Frag} {F : Hp} {σ : L2.St} {vs : List V} {d : D} (h : Opds K g.ρ F σ vs [.dat d]) : ∃ v, vs = [v] ∧ Dt K g.ρ F v d := by
  cases h with
  | dat h t => cases t; exact ⟨_, rfl, h⟩
theorem opds2w {K : PySem.W.Frag} {F : Hp} {σ : L2.St} {vs : List V} {d d' : D} (h : Opds K g.ρ F σ vs [.dat d, .dat d']) : ∃ v v', vs = [v, v'] ∧ Dt K g.ρ F v d ∧ Dt K g.ρ F v' d' := by
  cases h with
  | dat h t => cases t with
    | dat h2 t => cases t; exact ⟨_, _, rfl, h, h2⟩
theorem i_enum {p tpos : Pos} {elts : List Expr} {kk : Nat} (hg : Gl X "enumerate") (hm : X.mg "enumerate" = none) (ha : PA X [a] (tA X.K g io Wx hs)) (hst : starEach [a] X.env = [(false, eval a X.env)] := by rfl) :
    PId X g io Wx (.Tuple elts kk tpos) (.Call (.Name "enumerate" p) [a] [] pos) (iEnum X.K (tA X.K g io Wx hs)) (iEnm hs) := by
  refine ⟨pi_enum hg hm ha hst, fun σ H Rr q => ?_⟩
  obtain ⟨F, R, e, st, q⟩ := q
  refine ⟨F, R, e, st, Aft.bnd (k := fun ws e' => match ws with
  | [.dat (.lst ds)] => some (.ok (enumFrom 0 ds) e')
  | _ => none) q fun ws e' F' H' vs _ x s r q => ?_⟩
  split at q
  · rename_i ds
    obtain ⟨v, rfl, dt⟩ := opds1w r
    cases dt with
    | lst h hl hi => exact ⟨_, _, rfl, SqL.of (s.ext _ _ h), q.ok s (it_enum h ⟨hl, hi⟩)⟩
  · exact q.elim
def iZp (hs : Smx (List W)) : Smx (List D) := fun e => bnd (hs e) fun ws e' => match ws with
  | [.dat (.lst ds), .dat (.lst cs)] => some (.ok (zipD ds cs) e')
  | [.dat (.tup ds), .dat (.tup cs)] => some (.ok (zipD ds cs) e')
  | _ => none
@[simp ↓] theorem iZp_u (hs : Smx (List W)) (e : En) : iZp hs e = (bnd (hs e) fun ws e' => match ws with
  | [.dat (.lst ds), .dat (.lst cs)] => some (.ok (zipD ds cs) e')
  | [.dat (.tup ds), .dat (.tup cs)] => some (.ok (zipD ds cs) e')
  | _ => none) := rfl
theorem i_zip {p tpos : Pos} {elts : List Expr} {kk : Nat} (hg : Gl X "zip") (hm : X.mg "zip" = none) (ha : PA X [a, b] (tA X.K g io Wx hs))
    (hst : starEach [a, b] X.env = (false, eval a X.env) :: starEach [b] X.env := by rfl) (hpl : (backTo pos (starEach [b] X.env)).any (·.1) = false := by rfl) :
    PId X g io Wx (.Tuple elts kk tpos) (.Call (.Name "zip" p) [a, b] [] pos) (iZipA X.K (tA X.K g io Wx hs)) (iZp hs) := by
  refine ⟨pi_zipA hg hm ha hst hpl, fun σ H Rr q => ?_⟩
  obtain ⟨F, R, e, st, q⟩ := q
  refine ⟨F, R, e, st, Aft.bnd (k := fun ws e' => match ws with
  | [.dat (.lst ds), .dat (.lst cs)] => some (.ok (zipD ds cs) e')
  | [.dat (.tup ds), .dat (.tup cs)] => some (.ok (zipD ds cs) e')
  | _ => none) q fun ws e' F' H' vs _ x s r q => ?_⟩
  split at q
  · rename_i ds cs
    obtain ⟨v, v', rfl, dt, dt'⟩ := opds2w r
    cases dt with
    | lst h hl hi => cases dt' with
      | lst h2 hl2 hi2 => exact ⟨_, _, _, _, rfl, .inl ⟨SqL.of (s.ext _ _ h), SqL.of (s.ext _ _ h2), q.ok s (it_zip h ⟨hl, hi⟩ h2 ⟨hl2, hi2⟩)⟩⟩
  · rename_i ds cs
    obtain ⟨v, v', rfl, dt, dt'⟩ := opds2w r
    cases dt with
    | tup h hl hi => cases dt' with
      | tup h2 hl2 hi2 => exact ⟨_, _, _, _, rfl, .inr ⟨h.ext s.ext, h2.ext s.ext, q.ok s (it_zipT h ⟨hl, hi⟩ h2 ⟨hl2, hi2⟩)⟩⟩
  · exact q.elim

/-! ### for -/
def forGo (t : Tgt) (body : SSem) : List D → SSem
  | [] => fun e => some (.nx e)
  | x :: xs => fun e => match t x e with
    | none => none
    | some e1 => match body e1 with
      | some (.nx e2) => forGo t body xs e2
      | some (.ct e2) => forGo t body xs e2
      | some (.bk e2) => some (.nx e2)
      | r => r
def sFor (it : Smx (List D)) (t : Tgt) (body : SSem) : SSem := fun e => run (it e) (forGo t body)
@[simp ↓] theorem sFor_u (it : Smx (List D)) (t : Tgt) (body : SSem) (e : En) : sFor it t body e = (run (it e) (forGo t body)) := rfl
theorem s_for {iter : Expr} {l : List Stmt} {wi : TI} {r : TG} {fi : Smx (List D)} {t : Tgt} {body : SSem} (hp : PassesOwn (model X.prog X.w) X.A X.env X.xe) (hc : X.calm = true) (hi : PId X g io Wx tg iter wi fi) (hg : PGd X g io tg r t) (hb : PSs X l (tS X.K g io Wx body))
    (hs : ∀ x, foldedSetIterable iter X.env x = pure x := by intro _; rfl) : PS X (.For tg iter l [] pos) (tS X.K g io Wx (sFor fi t body)) := by
  refine PS.of (ps_for hp hc hi.1 hg.1 hb hs) fun D' σ H q => ?_
  obtain ⟨F, R, e, st, q⟩ := q
  refine hi.2 σ H _ ⟨F, R, e, st, AftS.run (k := forGo t body) q fun items e1 F1 H1 J x1 s1 r1 q1 => ?_⟩
  have r1 : ItOk X.K g.ρ F1 R J items := r1
  refine ⟨fun i m σ H => m = items.length - i ∧ i ≤ items.length ∧ ∃ F2 e2, Ext F1 F2 ∧ Stt X.K g.ρ io F2 R σ e2 H ∧ AftS X.K g io Wx F2 R D' (forGo t body (items.drop i) e2),
    ⟨_, rfl, Nat.zero_le _, F1, e1, Ext.rfl', s1, q1⟩, ?_⟩
  rintro i m σ H ⟨rfl, hi', F2, e2, x2, s2, q2⟩
  obtain ⟨k1, k2⟩ := r1 F2 H x2 s2.ext s2.fr
  by_cases hlt : i < items.length
  · have e3 : items.drop i = items[i] :: items.drop (i + 1) := List.drop_eq_getElem_cons hlt
    rw [e3] at q2
    obtain ⟨go, yl⟩ := k1 i items[i] (List.getElem?_eq_getElem hlt)
    refine .inr ⟨go, fun σ' H' => ∃ F3 e3, Ext F1 F3 ∧ Stt X.K g.ρ io F3 R σ' e3 H' ∧ AftS X.K g io Wx F3 R D' (forGo t body (items.drop (i + 1)) e3), fun σ' H' n => ⟨items.length - (i + 1), by omega, rfl, hlt, n⟩, fun x H' y => ?_⟩
    have q2 : AftS X.K g io Wx F2 R D' (match t items[i] e2 with
      | none => none
      | some e1 => match body e1 with
        | some (.nx e2) => forGo t body (items.drop (i + 1)) e2
        | some (.ct e2) => forGo t body (items.drop (i + 1)) e2
        | some (.bk e2) => some (.nx e2)
        | r => r) := q2
    cases e4 : t items[i] e2 with
    | none => rw [e4] at q2; exact q2.elim
    | some e5 =>
      rw [e4] at q2
      simp only at q2
      -- the item
      have main : ∀ F3, Ext F2 F3 → Stt X.K g.ρ io F3 R σ e2 H' → Dt X.K g.ρ F3 x items[i] → r x σ H' fun σ2 H2 => tS X.K g io Wx body { D' with nx := fun σ' H' => ∃ F3 e3, Ext F1 F3 ∧ Stt X.K g.ρ io F3 R σ' e3 H' ∧ AftS X.K g io Wx F3 R D' (forGo t body (items.drop (i + 1)) e3), ct := fun σ' H' => ∃ F3 e3, Ext F1 F3 ∧ Stt X.K g.ρ io F3 R σ' e3 H' ∧ AftS X.K g io Wx F3 R D' (forGo t body (items.drop (i + 1)) e3), bk := D'.nx } σ2 H2 := fun F3 x3 s3 d3 => by
        refine hg.2 F3 R σ e2 e5 H' x _ _ s3 d3 e4 fun σ5 s5 => ⟨F3, R, e5, s5, ?_⟩
        have q3 := AftS.weak x3 q2
        cases e6 : body e5 with
        | none => rw [e6] at q3; exact q3.elim
        | some fl =>
          rw [e6] at q3
          cases fl with
          | nx e7 => exact fun F7 H7 σ7 x7 s7 => ⟨F7, e7, (x2.trans x3).trans x7, s7, AftS.weak x7 q3⟩
          | ct e7 => exact fun F7 H7 σ7 x7 s7 => ⟨F7, e7, (x2.trans x3).trans x7, s7, AftS.weak x7 q3⟩
          | bk e7 => exact q3
          | rt d fr e7 => exact q3
          | ex c pl e7 => exact q3
      rcases yl x H' y with ⟨e6, d6⟩ | ⟨T, xs, e6, hT, e7, d7⟩
      · subst e6
        exact main F2 Ext.rfl' s2 d6
      · subst e7
        obtain ⟨s6, x6⟩ := s2.alloc (o := .tup xs) hT
        exact main _ x6 s6 d7
  · have e3 : i = items.length := by omega
    subst e3
    rw [List.drop_length] at q2
    exact .inl ⟨k2, q2 F2 H σ Ext.rfl' s2⟩

/-! ### while, with fuel -/
def whileGo (c : Smx Bool) (body : SSem) : Nat → SSem
  | 0 => fun _ => none
  | n + 1 => fun e => run (c e) fun b e1 => match b with
    | false => some (.nx e1)
    | true => match body e1 with
      | some (.nx e2) => whileGo c body n e2
      | some (.ct e2) => whileGo c body n e2
      | some (.bk e2) => some (.nx e2)
      | r => r
def sWhile (fuel : En → Nat) (c : Smx Bool) (body : SSem) : SSem := fun e => whileGo c body (fuel e) e
theorem s_while {c : Expr} {l : List Stmt} {fuel : En → Nat} {sc : Smx Bool} {body : SSem} (hp : PassesOwn (model X.prog X.w) X.A X.env X.xe) (hc : PT X c (tB X.K g io Wx sc)) (hb : PSs X l (tS X.K g io Wx body)) : PS X (.While c l [] pos) (tS X.K g io Wx (sWhile fuel sc body)) := by
  refine PS.of (ps_while hp hc hb) fun D' σ H q => ?_
  obtain ⟨F, R, e, st, q⟩ := q
  refine ⟨fun m σ H => ∃ F2 e2, Stt X.K g.ρ io F2 R σ e2 H ∧ AftS X.K g io Wx F2 R D' (whileGo sc body m e2), ⟨fuel e, F, e, st, q⟩, ?_⟩
  rintro m σ H ⟨F2, e2, s2, q2⟩
  cases m with
  | zero => exact q2.elim
  | succ m =>
    refine ⟨F2, R, e2, s2, AftS.run (k := fun b e1 => match b with
    | false => some (.nx e1)
    | true => match body e1 with
      | some (.nx e2) => whileGo sc body m e2
      | some (.ct e2) => whileGo sc body m e2
      | some (.bk e2) => some (.nx e2)
      | r => r) q2 fun b e3 F3 H3 v x3 s3 r3 q3 => ?_⟩
    have r3 : v = b := r3
    subst r3
    cases v with
    | false => rw [if_neg Bool.false_ne_true]; exact q3 F3 H3 σ Ext.rfl' s3
    | true =>
      rw [if_pos rfl]
      refine ⟨fun σ' H' => ∃ F4 e4, Stt X.K g.ρ io F4 R σ' e4 H' ∧ AftS X.K g io Wx F4 R D' (whileGo sc body m e4), fun σ' H' n => ⟨m, Nat.lt_succ_self _, n⟩, F3, R, e3, s3, ?_⟩
      simp only at q3
      cases e6 : body e3 with
      | none => rw [e6] at q3; exact q3.elim
      | some fl =>
        rw [e6] at q3
        cases fl with
        | nx e7 => exact fun F7 H7 σ7 x7 s7 => ⟨F7, e7, s7, AftS.weak x7 q3⟩
        | ct e7 => exact fun F7 H7 σ7 x7 s7 => ⟨F7, e7, s7, AftS.weak x7 q3⟩
        | bk e7 => exact q3
        | rt d fr e7 => exact q3
        | ex c pl e7 => exact q3
end
end Mz

namespace Mz
open PySem PySem.Spec PyProof.Rows L2

/-! ### list comprehensions -/
def wipeE (e : En) : List Nat → En
  | [] => e
  | v :: vs => (wipeE e vs).set v .un
def lcGo (t : Tgt) (c : Smx Bool) (el : Sem) (vs : List Nat) : List D → En → Option (List D × En)
  | [], e => some ([], e)
  | x :: xs, e => match t x e with
    | none => none
    | some e1 => match c e1 with
      | some (.ok true e2) => (match el e2 with
        | some (.ok (.dat d) e3) => (match lcGo t c el vs xs (wipeE e3 vs) with
          | some (ds, e4) => some (d :: ds, e4)
          | none => none)
        | _ => none)
      | some (.ok false e2) => lcGo t c el vs xs (wipeE e2 vs)
      | _ => none
def kLc (t : Tgt) (c : Smx Bool) (el : Sem) (vs : List Nat) (items : List D) (e : En) : Option (Rs D) := match lcGo t c el vs items (wipeE e vs) with
  | some (ds, e2) => if ds.length ≤ sizeLine then some (.ok (.lst ds) e2) else none
  | none => none
def sLc (it : Smx (List D)) (t : Tgt) (c : Smx Bool) (el : Sem) (vs : List Nat) : Smx D := fun e => bnd (it e) (kLc t c el vs)
@[simp ↓] theorem sLc_u (it : Smx (List D)) (t : Tgt) (c : Smx Bool) (el : Sem) (vs : List Nat) (e : En) : sLc it t c el vs e = (bnd (it e) (kLc t c el vs)) := rfl
section
variable {K : PySem.W.Frag} {ρ : Rho} {io : Nat → Option Addr} {F R H : Hp} {σ : L2.St} {e : En}
/-- the slots at vs are empty -/
def Wiped (vs : List Nat) (e : En) : Prop := ∀ v ∈ vs, ∀ s, e[v]? = some s → s = .un
theorem wipeE_length (e : En) : ∀ vs : List Nat, (wipeE e vs).length = e.length
  | [] => rfl
  | v :: vs => by unfold wipeE; rw [List.length_set, wipeE_length e vs]
theorem wiped_wipeE (e : En) : ∀ vs : List Nat, Wiped vs (wipeE e vs)
  | [] => fun v h => by simp at h
  | w :: vs => fun v h s hs => by
    unfold wipeE at hs
    rw [List.getElem?_set] at hs
    by_cases hw : w = v
    · subst hw
      simp only [if_true] at hs
      split at hs
      · cases hs; rfl
      · cases hs
    · rw [if_neg hw] at hs
      rcases List.mem_cons.mp h with z | z
      · exact absurd z.symm hw
      · exact wiped_wipeE e vs v z s hs
theorem Stt.wipeEn (s : Stt K ρ io F R σ e H) : ∀ vs : List Nat, Stt K ρ io F R σ (wipeE e vs) H
  | [] => s
  | v :: vs => (Stt.wipeEn s vs).forget v
theorem SlOk.sig {σ' : L2.St} {i : Nat} {s : Sl} (h : SlOk K ρ io F R σ H i s) (hs : s ≠ .un → σ'[i]? = σ[i]?) : SlOk K ρ io F R σ' H i s := by
  cases s with
  | un => trivial
  | val d => obtain ⟨v, h1, h2⟩ := h; exact ⟨v, (hs (fun z => nomatch z)).trans h1, h2⟩
  | own d => obtain ⟨p, o, h1, h2⟩ := h; exact ⟨p, o, (hs (fun z => nomatch z)).trans h1, h2⟩
  | io d => obtain ⟨p, o, h1, h2⟩ := h; exact ⟨p, o, (hs (fun z => nomatch z)).trans h1, h2⟩
  | mk c fs => obtain ⟨p, C, ns, dx, vs, h1, h2⟩ := h; exact ⟨p, C, ns, dx, vs, (hs (fun z => nomatch z)).trans h1, h2⟩
theorem Stt.resig {σ' : L2.St} (s : Stt K ρ io F R σ e H) (hl : σ'.length = σ.length) (hs : ∀ (i : Nat) (sl : Sl), e[i]? = some sl → sl ≠ .un → σ'[i]? = σ[i]?) : Stt K ρ io F R σ' e H := by
  have cu : ∀ {s : Sl}, s.cell = true → s ≠ .un := fun h z => by rw [z] at h; cases h
  refine ⟨hl.trans s.len, s.ext, s.fr, s.dis, fun i sl q => (s.slot i sl q).sig (hs i sl q), fun i j si sj p nij hi hj ci cj pi pj => ?_⟩
  rw [hs i si hi (cu ci)] at pi
  rw [hs j sj hj (cu cj)] at pj
  exact s.inj i j si sj p nij hi hj ci cj pi pj
theorem wipe_get {σ : L2.St} {i : Nat} : ∀ {vs : List Nat}, i ∉ vs → (wipe σ vs)[i]? = σ[i]?
  | [], _ => rfl
  | v :: vs, h => by
    unfold wipe
    rw [List.getElem?_set_ne (fun z => h (by simp [z]))]
    exact wipe_get fun z => h (List.mem_cons_of_mem _ z)
theorem Stt.toWipe (s : Stt K ρ io F R σ e H) {vs : List Nat} (w : Wiped vs e) : Stt K ρ io F R (wipe σ vs) e H :=
  s.resig (wipe_length σ vs) fun i sl q hn => wipe_get fun z => hn (w i z sl q)
theorem Stt.unWipe {vs : List Nat} (s : Stt K ρ io F R (wipe σ vs) e H) (w : Wiped vs e) : Stt K ρ io F R σ e H :=
  s.resig (wipe_length σ vs).symm fun i sl q hn => (wipe_get fun z => hn (w i z sl q)).symm
/-- a held thing changes -/
theorem Stt.reframe {p : Addr} {o o' : HO} (s : Stt K ρ io F (upd R p o) σ e H) : Stt K ρ io F (upd R p o') σ e (upd H p o') := by
  have nF : F p = none := s.dis p o upd_same
  refine ⟨s.len, fun a u q => ?_, fun a u q => ?_, fun a u q => ?_, fun i sl q => (s.slot i sl q).keep Ext.rfl' fun hc p' hp => ?_, s.inj⟩
  · rw [upd_ne (fun z => by rw [z, nF] at q; cases q)]; exact s.ext _ _ q
  · by_cases ha : a = p
    · subst ha; rw [upd_same] at q ⊢; exact q
    · rw [upd_ne ha] at q ⊢; exact s.fr _ _ (by rw [upd_ne ha]; exact q)
  · by_cases ha : a = p
    · subst ha; exact nF
    · rw [upd_ne ha] at q; exact s.dis _ _ (show (upd R p o) a = some u by rw [upd_ne ha]; exact q)
  · obtain ⟨p2, o2, a1, a2, a3, a4⟩ := (s.slot i sl q).at_ hc
    rw [a1] at hp; cases hp
    have ne : p' ≠ p := fun z => by rw [z, upd_same] at a3; cases a3
    rw [upd_ne ne] at a3 ⊢
    rw [upd_ne ne]
    exact ⟨a2, a3, rfl⟩
/-- held, from now on -/
theorem Stt.hold (s : Stt K ρ io F R σ e H) {p : Addr} {o : HO} (nF : F p = none) (nR : R p = none) (nC : NoCell σ e p) (h : H p = some o) : Stt K ρ io F (upd R p o) σ e H := by
  refine ⟨s.len, s.ext, fun a u q => ?_, fun a u q => ?_, fun i sl q => (s.slot i sl q).keep Ext.rfl' fun hc p' hp => ?_, s.inj⟩
  · by_cases ha : a = p
    · subst ha; rw [upd_same] at q; cases q; exact h
    · rw [upd_ne ha] at q; exact s.fr _ _ q
  · by_cases ha : a = p
    · subst ha; exact nF
    · rw [upd_ne ha] at q; exact s.dis _ _ q
  · obtain ⟨p2, o2, a1, a2, a3, a4⟩ := (s.slot i sl q).at_ hc
    rw [a1] at hp; cases hp
    have ne : p' ≠ p := fun z => nC i sl q hc (by rw [← z]; exact a1)
    rw [upd_ne ne]
    exact ⟨a2, a3, rfl⟩
/-- let go: nobody's -/
theorem Stt.letgo {p : Addr} {o : HO} (s : Stt K ρ io F (upd R p o) σ e H) (nR : R p = none) : Stt K ρ io F R σ e H ∧ F p = none ∧ NoCell σ e p ∧ H p = some o := by
  have nF : F p = none := s.dis p o upd_same
  refine ⟨⟨s.len, s.ext, fun a u q => ?_, fun a u q => ?_, fun i sl q => (s.slot i sl q).keep Ext.rfl' fun hc p' hp => ?_, s.inj⟩, nF, fun i sl q hc hp => ?_, s.fr p o upd_same⟩
  · have ha : a ≠ p := fun z => by rw [z, nR] at q; cases q
    exact s.fr _ _ (by rw [upd_ne ha]; exact q)
  · have ha : a ≠ p := fun z => by rw [z, nR] at q; cases q
    exact s.dis a u (by rw [upd_ne ha]; exact q)
  · obtain ⟨p2, o2, a1, a2, a3, a4⟩ := (s.slot i sl q).at_ hc
    rw [a1] at hp; cases hp
    have ne : p' ≠ p := fun z => by rw [z, upd_same] at a3; cases a3
    rw [upd_ne ne] at a3
    exact ⟨a2, a3, rfl⟩
  · obtain ⟨p2, o2, a1, a2, a3, a4⟩ := (s.slot i sl q).at_ hc
    rw [a1] at hp; cases hp
    rw [upd_same] at a3; cases a3
end
abbrev W0 : WX := fun _ _ _ _ => False
section
variable {X : Cx} {g : Gb} {io : Nat → Option Addr} {Wx : WX} {pos : Pos} {tg : Expr}
theorem lc_rest {K : PySem.W.Frag} {r : TG} {t : Tgt} {c : Smx Bool} {el : Sem} {vs : List Nat}
    (hg : ∀ (F R : Hp) (σ : L2.St) (e e' : En) (H : Hp) (v : V) (d : D) (Q : L2.St → Hp → Prop), Stt K g.ρ io F R σ e H → Dt K g.ρ F v d → t d e = some e' → (∀ σ', wipe σ' vs = wipe σ vs → Stt K g.ρ io F R σ' e' H → Q σ' H) → r v σ H Q)
    {σ : L2.St} {Q : VK} {F1 R : Hp} {e1 : En} {H1 : Hp} {J : It} {items : List D} (s1 : Stt K g.ρ io F1 R σ e1 H1) (r1 : ItOk K g.ρ F1 R J items) (q1 : Aft K g io (rN K g.ρ) Wx F1 R σ Q (kLc t c el vs items e1)) :
    tLc (fun _ _ Z => Z J H1) r (tB K g io W0 c) (tE K g io W0 el) vs σ H1 Q := by
  have r1 : ItOk K g.ρ F1 R J items := r1
  intro L hL
  have nF := s1.none_F hL
  have nR := s1.none_R hL
  have nC := s1.noCell hL
  -- the start
  have s2 : Stt K g.ρ io F1 (upd R L (.lst [])) (wipe σ vs) (wipeE e1 vs) (upd H1 L (.lst [])) :=
    Stt.toWipe ((Stt.wipeEn ((s1.fresh (o := .lst []) hL).hold nF nR nC upd_same) vs)) (wiped_wipeE e1 vs)
  refine ⟨fun i m H => m = items.length - i ∧ i ≤ items.length ∧ ∃ F2 e2 acc ds, Ext F1 F2 ∧ Stt K g.ρ io F2 (upd R L (.lst acc)) (wipe σ vs) e2 H ∧ Wiped vs e2 ∧ Sqs K g.ρ F2 acc ds ∧
      (match lcGo t c el vs (items.drop i) e2 with
        | some (ds', e') => (ds ++ ds').length ≤ sizeLine ∧ Aft K g io (rN K g.ρ) Wx F2 R σ Q (some (.ok (.lst (ds ++ ds')) e'))
        | none => False), ⟨_, rfl, Nat.zero_le _, F1, _, [], [], Ext.rfl', s2, wiped_wipeE e1 vs, .nil, ?_⟩, ?_⟩
  · unfold kLc at q1
    rw [List.drop_zero]
    cases z : lcGo t c el vs items (wipeE e1 vs) with
    | none => rw [z] at q1; exact q1.elim
    | some p =>
      rw [z] at q1
      obtain ⟨ds', e'⟩ := p
      simp only at q1 ⊢
      by_cases hz : ds'.length ≤ sizeLine
      · rw [if_pos hz] at q1
        exact ⟨by simpa using hz, by simpa using q1⟩
      · rw [if_neg hz] at q1; exact q1.elim
  rintro i m H ⟨rfl, hi', F2, e2, acc, ds, x2, s2, w2, sq, q2⟩
  have ndis : ∀ {F : Hp}, Ext F2 F → (∀ a o, (upd R L (.lst acc)) a = some o → F a = none) → True := fun _ _ => trivial
  have extR : ∀ {H' : Hp}, Ext (upd R L (.lst acc)) H' → Ext R H' := fun x a o hq => by
    have ha : a ≠ L := fun z => by rw [z, nR] at hq; cases hq
    exact x a o (by rw [upd_ne ha]; exact hq)
  obtain ⟨k1, k2⟩ := r1 F2 H x2 s2.ext (extR s2.fr)
  by_cases hlt : i < items.length
  · have e3 : items.drop i = items[i] :: items.drop (i + 1) := List.drop_eq_getElem_cons hlt
    obtain ⟨go, yl⟩ := k1 i items[i] (List.getElem?_eq_getElem hlt)
    rw [e3] at q2
    refine .inr ⟨go, fun H' => ∃ F2 e2 acc ds, Ext F1 F2 ∧ Stt K g.ρ io F2 (upd R L (.lst acc)) (wipe σ vs) e2 H' ∧ Wiped vs e2 ∧ Sqs K g.ρ F2 acc ds ∧
      (match lcGo t c el vs (items.drop (i + 1)) e2 with
        | some (ds', e') => (ds ++ ds').length ≤ sizeLine ∧ Aft K g io (rN K g.ρ) Wx F2 R σ Q (some (.ok (.lst (ds ++ ds')) e'))
        | none => False), fun H' n => ⟨items.length - (i + 1), by omega, rfl, hlt, n⟩, fun x H' y => ?_⟩
    have q2 : (match (match t items[i] e2 with
      | none => none
      | some e1 => match c e1 with
        | some (.ok true e2) => (match el e2 with
          | some (.ok (.dat d) e3) => (match lcGo t c el vs (items.drop (i + 1)) (wipeE e3 vs) with
            | some (ds, e4) => some (d :: ds, e4)
            | none => none)
          | _ => none)
        | some (.ok false e2) => lcGo t c el vs (items.drop (i + 1)) (wipeE e2 vs)
        | _ => none) with
        | some (ds', e') => (ds ++ ds').length ≤ sizeLine ∧ Aft K g io (rN K g.ρ) Wx F2 R σ Q (some (.ok (.lst (ds ++ ds')) e'))
        | none => False) := q2
    cases e4 : t items[i] e2 with
    | none => rw [e4] at q2; exact q2.elim
    | some e5 =>
      rw [e4] at q2
      simp only at q2
      have main : ∀ F3, Ext F2 F3 → Stt K g.ρ io F3 (upd R L (.lst acc)) (wipe σ vs) e2 H' → Dt K g.ρ F3 x items[i] → r x (wipe σ vs) H' fun σ2 H2 => wipe σ2 vs = wipe σ vs ∧ tB K g io W0 c σ2 H2 fun b H3 =>
          if b = true then tE K g io W0 el σ2 H3 fun y H4 => ∃ acc, H4 L = some (.lst acc) ∧ acc.length < sizeLine ∧ ∃ F2 e2 acc' ds, Ext F1 F2 ∧ Stt K g.ρ io F2 (upd R L (.lst acc')) (wipe σ vs) e2 (upd H4 L (.lst (acc ++ [y]))) ∧ Wiped vs e2 ∧ Sqs K g.ρ F2 acc' ds ∧
            (match lcGo t c el vs (items.drop (i + 1)) e2 with
              | some (ds', e') => (ds ++ ds').length ≤ sizeLine ∧ Aft K g io (rN K g.ρ) Wx F2 R σ Q (some (.ok (.lst (ds ++ ds')) e'))
              | none => False)
          else ∃ F2 e2 acc ds, Ext F1 F2 ∧ Stt K g.ρ io F2 (upd R L (.lst acc)) (wipe σ vs) e2 H3 ∧ Wiped vs e2 ∧ Sqs K g.ρ F2 acc ds ∧
            (match lcGo t c el vs (items.drop (i + 1)) e2 with
              | some (ds', e') => (ds ++ ds').length ≤ sizeLine ∧ Aft K g io (rN K g.ρ) Wx F2 R σ Q (some (.ok (.lst (ds ++ ds')) e'))
              | none => False) := fun F3 x3 s3 d3 => by
        have ww : wipe (wipe σ vs) vs = wipe σ vs := by
          have : ∀ (τ : L2.St) (us : List Nat), (∀ v ∈ us, τ[v]? = none ∨ τ[v]? = some none) → wipe τ us = τ := by
            intro τ us
            induction us with
            | nil => intro _; rfl
            | cons v us ih =>
              intro hh
              unfold wipe
              rw [ih fun v hv => hh v (List.mem_cons_of_mem _ hv)]
              apply List.ext_getElem?
              intro j
              rw [List.getElem?_set]
              by_cases hj : v = j
              · subst hj
                rw [if_pos rfl]
                rcases hh v List.mem_cons_self with z | z
                · rw [z]; rw [List.getElem?_eq_none_iff] at z; rw [if_neg (by omega)]
                · rw [z]; have := (List.getElem?_eq_some_iff.mp z).1; rw [if_pos this]
              · rw [if_neg hj]
          have w0 : ∀ (us : List Nat) (v : Nat), v ∈ us → (wipe σ us)[v]? = none ∨ (wipe σ us)[v]? = some none := by
            intro us
            induction us with
            | nil => intro v h; simp at h
            | cons u us ih =>
              intro v h
              unfold wipe
              rw [List.getElem?_set]
              by_cases hj : u = v
              · subst hj
                rw [if_pos rfl]
                split
                · exact .inr rfl
                · exact .inl rfl
              · rw [if_neg hj]
                rcases List.mem_cons.mp h with z | z
                · exact absurd z.symm hj
                · exact ih v z
          exact this _ _ fun v hv => w0 vs v hv
        refine hg F3 _ (wipe σ vs) e2 e5 H' x _ _ s3 d3 e4 fun σ5 hw s5 => ⟨hw.trans ww, F3, _, e5, s5, ?_⟩
        have hw5 : wipe σ5 vs = wipe σ vs := hw.trans ww
        have back : ∀ {F : Hp} {o : List V} {e : En} {H : Hp}, Stt K g.ρ io F (upd R L (.lst o)) σ5 e H → Stt K g.ρ io F (upd R L (.lst o)) (wipe σ vs) (wipeE e vs) H := fun {F o e H} s => by
          have z := Stt.toWipe (Stt.wipeEn s vs) (wiped_wipeE e vs)
          rw [hw5] at z
          exact z
        cases e6 : c e5 with
        | none => rw [e6] at q2; exact q2.elim
        | some rc =>
          rw [e6] at q2
          cases rc with
          | ex cc pl e7 => exact q2.elim
          | ok b e7 =>
            intro F7 H7 v7 x7 s7 r7
            have r7 : v7 = b := r7
            subst r7
            cases v7 with
            | false =>
              rw [if_neg Bool.false_ne_true]
              refine ⟨F7, wipeE e7 vs, acc, ds, (x2.trans x3).trans x7, back s7, wiped_wipeE _ _, sq.mono (x3.trans x7), ?_⟩
              simp only at q2
              revert q2
              cases lcGo t c el vs (items.drop (i + 1)) (wipeE e7 vs) with
              | none => exact fun z => z
              | some p => exact fun ⟨a, b⟩ => ⟨a, b.weak (x3.trans x7)⟩
            | true =>
              rw [if_pos rfl]
              refine ⟨F7, _, e7, s7, ?_⟩
              simp only at q2
              cases e8 : el e7 with
              | none => rw [e8] at q2; exact q2.elim
              | some re =>
                rw [e8] at q2
                cases re with
                | ex cc pl e9 => exact q2.elim
                | ok w e9 =>
                  cases w with
                  | bor j => exact q2.elim
                  | dat d =>
                    intro F9 H9 v9 x9 s9 r9
                    have r9 : Dt K g.ρ F9 v9 d := r9
                    simp only at q2
                    have hL9 : H9 L = some (.lst acc) := s9.fr L _ upd_same
                    have k3 : (match lcGo t c el vs (items.drop (i + 1)) (wipeE e9 vs) with
                      | some (ds', e') => ((ds ++ [d]) ++ ds').length ≤ sizeLine ∧ Aft K g io (rN K g.ρ) Wx F2 R σ Q (some (.ok (.lst ((ds ++ [d]) ++ ds')) e'))
                      | none => False) := by
                      revert q2
                      cases lcGo t c el vs (items.drop (i + 1)) (wipeE e9 vs) with
                      | none => exact fun z => z
                      | some p =>
                        intro q
                        obtain ⟨a, b⟩ := q
                        refine ⟨?_, ?_⟩
                        · simpa using a
                        · simpa using b
                    have hz : acc.length < sizeLine := by
                      revert k3
                      cases lcGo t c el vs (items.drop (i + 1)) (wipeE e9 vs) with
                      | none => exact fun z => z.elim
                      | some p =>
                        intro q
                        obtain ⟨a, _⟩ := q
                        rw [sq.1]
                        simp only [List.length_append, List.length_cons, List.length_nil] at a
                        omega
                    refine ⟨acc, hL9, hz, F9, wipeE e9 vs, acc ++ [v9], ds ++ [d], ((x2.trans x3).trans x7).trans x9, back s9.reframe, wiped_wipeE _ _, (sq.mono ((x3.trans x7).trans x9)).append (.one r9), ?_⟩
                    revert k3
                    cases lcGo t c el vs (items.drop (i + 1)) (wipeE e9 vs) with
                    | none => exact fun z => z
                    | some p => exact fun ⟨a, b⟩ => ⟨a, b.weak ((x3.trans x7).trans x9)⟩
      rcases yl x H' y with ⟨e6, d6⟩ | ⟨T, xs, e6, hT, e7, d7⟩
      · subst e6
        exact main F2 Ext.rfl' s2 d6
      · subst e7
        obtain ⟨s6, x6⟩ := s2.alloc (o := .tup xs) hT
        exact main _ x6 s6 d7
  · have e3 : i = items.length := by omega
    subst e3
    rw [List.drop_length] at q2
    obtain ⟨hz, q2⟩ := q2
    rw [List.append_nil] at q2
    obtain ⟨s3, nF3, nC3, hL3⟩ := (Stt.unWipe s2 w2).letgo nR
    exact .inl ⟨k2, q2.ok s3 ⟨L, _, rfl, nF3, nR, nC3, hL3, .lst sq⟩⟩
/-- the target of a comprehension -/
def GcD (K : PySem.W.Frag) (g : Gb) (io : Nat → Option Addr) (vs : List Nat) (r : TG) (t : Tgt) : Prop := ∀ (F R : Hp) (σ : L2.St) (e e' : En) (H : Hp) (v : V) (d : D) (Q : L2.St → Hp → Prop), Stt K g.ρ io F R σ e H → Dt K g.ρ F v d → t d e = some e' →
  (∀ σ', wipe σ' vs = wipe σ vs → Stt K g.ρ io F R σ' e' H → Q σ' H) → r v σ H Q
theorem lc_of {K : PySem.W.Frag} {wi : TI} {r : TG} {fi : Smx (List D)} {t : Tgt} {c : Smx Bool} {el : Sem} {vs : List Nat}
    (hi : ∀ σ H R, tIt K g io Wx fi σ H R → wi σ H R)
    (hg : ∀ (F R : Hp) (σ : L2.St) (e e' : En) (H : Hp) (v : V) (d : D) (Q : L2.St → Hp → Prop), Stt K g.ρ io F R σ e H → Dt K g.ρ F v d → t d e = some e' → (∀ σ', wipe σ' vs = wipe σ vs → Stt K g.ρ io F R σ' e' H → Q σ' H) → r v σ H Q)
    (σ : L2.St) (H : Hp) (Q : VK) (q : tN K g io Wx (sLc fi t c el vs) σ H Q) : tLc wi r (tB K g io W0 c) (tE K g io W0 el) vs σ H Q := by
  obtain ⟨F, R, e, st, q⟩ := q
  exact hi σ H _ ⟨F, R, e, st, Aft.bnd (k := kLc t c el vs) q fun items e1 F1 H1 J _ x1 s1 r1 q1 => lc_rest hg s1 r1 q1⟩
theorem wipe_set {σ : L2.St} {i : Nat} {v : Option V} : ∀ {vs : List Nat}, i ∈ vs → wipe (σ.set i v) vs = wipe σ vs
  | [], h => by simp at h
  | w :: vs, h => by
    unfold wipe
    by_cases hi : i ∈ vs
    · rw [wipe_set hi]
    · have e : i = w := by
        rcases List.mem_cons.mp h with z | z
        · exact z
        · exact absurd z hi
      subst e
      have : ∀ (us : List Nat), i ∉ us → wipe (σ.set i v) us = (wipe σ us).set i v := by
        intro us
        induction us with
        | nil => intro _; rfl
        | cons u us ih =>
          intro h
          unfold wipe
          rw [ih fun z => h (List.mem_cons_of_mem _ z), List.set_comm _ _ (fun z => h (by simp [z]))]
      rw [this vs hi, List.set_set]
theorem gc_var {K : PySem.W.Frag} {vs : List Nat} {i : Nat} (hv : i ∈ vs) : GcD K g io vs (gName i) (gVar i) := fun F R σ e e' H v d Q st dt ht q => by cases ht; exact q _ (wipe_set hv) (st.setVal i dt)
def GcsD (K : PySem.W.Frag) (g : Gb) (io : Nat → Option Addr) (vs : List Nat) (r : TGs) (t : List D → En → Option En) : Prop := ∀ (F R : Hp) (σ : L2.St) (e e' : En) (H : Hp) (us : List V) (ds : List D) (Q : L2.St → Hp → Prop), Stt K g.ρ io F R σ e H → Sqs K g.ρ F us ds → t ds e = some e' →
  (∀ σ', wipe σ' vs = wipe σ vs → Stt K g.ρ io F R σ' e' H → Q σ' H) → r us σ H Q
theorem gcs_nil {K : PySem.W.Frag} {vs : List Nat} : GcsD K g io vs gNil gsNil := fun F R σ e e' H vs ds Q st sq ht q => by
  cases ds with
  | nil =>
    cases ht
    have : vs = [] := List.eq_nil_of_length_eq_zero sq.1
    exact ⟨this, q σ rfl st⟩
  | cons => cases ht
theorem gcs_cons {K : PySem.W.Frag} {vs : List Nat} {r : TG} {rs : TGs} {t : Tgt} {u : List D → En → Option En} (h1 : GcD K g io vs r t) (h2 : GcsD K g io vs rs u) : GcsD K g io vs (gCons r rs) (gsCons t u) := fun F R σ e e' H us ds Q st sq ht q => by
  cases ds with
  | nil => cases ht
  | cons d ds =>
    obtain ⟨v, vs', rfl⟩ : ∃ v vs', us = v :: vs' := by
      cases us with
      | nil => have := sq.1; simp at this
      | cons v vs' => exact ⟨v, vs', rfl⟩
    have ht : (t d e).bind (u ds) = some e' := ht
    rw [Option.bind_eq_some_iff] at ht
    obtain ⟨e1, t1, t2⟩ := ht
    refine ⟨v, vs', rfl, h1 F R σ e e1 H v d _ st (sq.2 0 v d rfl rfl) t1 fun σ1 w1 s1 => ?_⟩
    exact h2 F R σ1 e1 e' H vs' ds Q s1 ⟨by simpa using sq.1, fun i v d a b => sq.2 (i + 1) v d (by simpa using a) (by simpa using b)⟩ t2 fun σ2 w2 s2 => q σ2 (w2.trans w1) s2
theorem gc_tup {K : PySem.W.Frag} {vs : List Nat} {n : Nat} {rs : TGs} {u : List D → En → Option En} (h : GcsD K g io vs rs u) : GcD K g io vs (gTup K n rs) (gTupD n u) := fun F R σ e e' H v d Q st dt ht q => by
  cases d with
  | tup ds =>
    have ht : (if ds.length = n then u ds e else none) = some e' := ht
    by_cases hl : ds.length = n
    · rw [if_pos hl] at ht
      cases dt with
      | tup hS hl2 hi => exact ⟨_, _, rfl, hS.ext st.ext, hl2.trans hl, h F R σ e e' H _ ds Q st ⟨hl2, hi⟩ ht q⟩
    · rw [if_neg hl] at ht; cases ht
  | _ => cases ht
@[simp] def bYes : Smx Bool := fun e => some (.ok true e)
abbrev PTd (X : Cx) (g : Gb) (io : Nat → Option Addr) (ifs : List Expr) (c : Smx Bool) : Prop := PTs X ifs (tB X.K g io W0 c)
theorem c_nil : PTd X g io [] bYes := ⟨fun pins s σ H Q I h => pts_nil.run pins s σ H Q I (by obtain ⟨F, R, e, st, q⟩ := h; exact q.ok st rfl)⟩
theorem c_one {c : Expr} {s : Smx Bool} (h : PT X c (tB X.K g io W0 s)) : PTd X g io [c] s := pts_one h
variable {elt iter : Expr} {ifs : List Expr} {scope : Scope} {own : List (Str × Nat)} {wi : TI} {r : TG} {fi : Smx (List D)} {t : Tgt} {c : Smx Bool} {el : Sem}
theorem n_lc (hc : X.calm = true) (hN : X.N.Nodup) (hi : PId X g io Wx tg iter wi fi) (ok : BlkOk X.N X.env.scope scope own) (hgd : GcD X.K g io (own.map (·.2)) r t)
    (hg : ∀ (s : Shared) (H : Hp) (C : Addr) (cl : List (Str × Addr)) (fp : List Addr), PG (X.blk s H scope (compEnvC scope cl C X.env) fp) tg r) (ht : ∀ (s : Shared) (H : Hp) (C : Addr) (cl : List (Str × Addr)) (fp : List Addr), PTd (X.blk s H scope (compEnvC scope cl C X.env) fp) g io ifs c)
    (he : ∀ (s : Shared) (H : Hp) (C : Addr) (cl : List (Str × Addr)) (fp : List Addr), PE (X.blk s H scope (compEnvC scope cl C X.env) fp) elt (tE X.K g io W0 el)) (hs : ∀ x, foldedSetIterable iter X.env x = pure x := by intro _; rfl) :
    PE X (.ListComp elt [⟨tg, iter, ifs, 0⟩] scope pos) (tN X.K g io Wx (sLc fi t c el (own.map (·.2)))) :=
  PE.of (pe_lc hc hN hi.1 ok hg ht he hs) fun σ H Q q => lc_of hi.2 hgd σ H Q q
/-- y = [..] on one line: y's slot is stored within the comprehension's end -/
theorem s_setLc {i : Nat} {y : Str} {py spos : Pos} (hc : X.calm = true) (hN : X.N.Nodup) (hy : X.N[i]? = some y) (hyl : X.env.scope.names.lookup y = some .local)
    (hsw : swapsWith (.ListComp elt [⟨tg, iter, ifs, 0⟩] scope pos) (some (.Name y py)) spos.line X.env = pure true) (hi : PId X g io Wx tg iter wi fi) (ok : BlkOk X.N X.env.scope scope own) (hgd : GcD X.K g io (own.map (·.2)) r t)
    (hg : ∀ (s : Shared) (H : Hp) (C : Addr) (cl : List (Str × Addr)) (fp : List Addr), PG (X.blk s H scope (compEnvC scope cl C X.env) fp) tg r) (ht : ∀ (s : Shared) (H : Hp) (C : Addr) (cl : List (Str × Addr)) (fp : List Addr), PTd (X.blk s H scope (compEnvC scope cl C X.env) fp) g io ifs c)
    (he : ∀ (s : Shared) (H : Hp) (C : Addr) (cl : List (Str × Addr)) (fp : List Addr), PE (X.blk s H scope (compEnvC scope cl C X.env) fp) elt (tE X.K g io W0 el)) (hs : ∀ x, foldedSetIterable iter X.env x = pure x := by intro _; rfl) :
    PS X (.Assign [.Name y py] (.ListComp elt [⟨tg, iter, ifs, 0⟩] scope pos) spos) (tS X.K g io Wx (sAsg (sF (sLc fi t c el (own.map (·.2)))) (gVar i))) := by
  refine PS.of (ps_setLc (tt := tB X.K g io W0 c) (te := tE X.K g io W0 el) hc hN hy hyl hsw hi.1 ok hg ht he hs) fun D' σ H q => ?_
  obtain ⟨F, R, e, st, q⟩ := q
  refine lc_of (io := io) (g := g) (Wx := Wx) hi.2 hgd σ H _ ⟨F, R, e, st, ?_⟩
  unfold sAsg sF at q
  refine AftS.run (D' := D') (k := fun d e' => some (.nx (e'.set i (.val d)))) ?_ fun d e' F' H' v x s n q => ?_
  · revert q
    cases sLc fi t c el (own.map (·.2)) e with
    | none => exact fun z => z
    | some rr => cases rr with
      | ok a e => exact fun z => z
      | ex a b e => exact fun z => z
  · obtain ⟨F2, x2, s2, dt⟩ := New.freeze s n
    exact q F2 H' _ x2 (s2.setVal i dt)
theorem s_ownLc {i : Nat} {y : Str} {py spos : Pos} (hc : X.calm = true) (hN : X.N.Nodup) (hy : X.N[i]? = some y) (hyl : X.env.scope.names.lookup y = some .local)
    (hsw : swapsWith (.ListComp elt [⟨tg, iter, ifs, 0⟩] scope pos) (some (.Name y py)) spos.line X.env = pure true) (hi : PId X g io Wx tg iter wi fi) (ok : BlkOk X.N X.env.scope scope own) (hgd : GcD X.K g io (own.map (·.2)) r t)
    (hg : ∀ (s : Shared) (H : Hp) (C : Addr) (cl : List (Str × Addr)) (fp : List Addr), PG (X.blk s H scope (compEnvC scope cl C X.env) fp) tg r) (ht : ∀ (s : Shared) (H : Hp) (C : Addr) (cl : List (Str × Addr)) (fp : List Addr), PTd (X.blk s H scope (compEnvC scope cl C X.env) fp) g io ifs c)
    (he : ∀ (s : Shared) (H : Hp) (C : Addr) (cl : List (Str × Addr)) (fp : List Addr), PE (X.blk s H scope (compEnvC scope cl C X.env) fp) elt (tE X.K g io W0 el)) (hs : ∀ x, foldedSetIterable iter X.env x = pure x := by intro _; rfl) :
    PS X (.Assign [.Name y py] (.ListComp elt [⟨tg, iter, ifs, 0⟩] scope pos) spos) (tS X.K g io Wx (sOwn (sLc fi t c el (own.map (·.2))) i)) := by
  refine PS.of (ps_setLc (tt := tB X.K g io W0 c) (te := tE X.K g io W0 el) hc hN hy hyl hsw hi.1 ok hg ht he hs) fun D' σ H q => ?_
  obtain ⟨F, R, e, st, q⟩ := q
  refine lc_of (io := io) (g := g) (Wx := Wx) hi.2 hgd σ H _ ⟨F, R, e, st, ?_⟩
  exact AftS.run (k := fun d e' => some (.nx (e'.set i (.own d)))) q fun d e' F' H' v x s n q => q F' H' _ Ext.rfl' (s.setOwn i n)
end
end Mz

namespace Mz
open PySem PySem.Spec PyProof.Rows L2

/-! ### defs and calls -/
inductive Ot where
  | ok (d : D) (fr : Bool) | ex (c : Nat) (pl : List D)
/-- what a def hands back, seen from outside -/
def Ret (K : PySem.W.Frag) (ρ : Rho) (F R H : Hp) (v : V) (d : D) : Bool → Prop
  | false => Dt K ρ F v d
  | true => ∃ p o, v = .ref p ∧ F p = none ∧ R p = none ∧ H p = some o ∧ CellO K ρ F o d
structure Apart (F R H : Hp) : Prop where
  ext : Ext F H
  fr : Ext R H
  dis : ∀ a o, R a = some o → F a = none
def spD (K : PySem.W.Frag) (g : Gb) (n : Nat) (m : List D → Option Ot) : Sp := fun vs H Q E => ∃ F R ds, Apart F R H ∧ Sqs K g.ρ F vs ds ∧ ds.length = n ∧
  match m ds with
  | none => False
  | some (.ok d fr) => ∀ F' H' v, Ext F F' → Apart F' R H' → Ret K g.ρ F' R H' v d fr → Q v H'
  | some (.ex c pl) => ∀ F' H' cls dd, Ext F F' → Apart F' R H' → ExOk K g.ρ g.xa F' H' cls dd c pl → E cls dd H'
structure Df (P : Program) (w : World) (K : PySem.W.Frag) (mg : Str → Option Value) (base : Heap) (g : Gb) (x : Str) (k n : Nat) (m : List D → Option Ot) : Prop where
  ex : ∃ f fd ps, FnOk P w K mg base (L2.CX P w) k f fd ps (spD K g n m) ∧ mg x = some (.ref f) ∧ PySem.W.keepIn K (.ref f) = true ∧ Binds K fd ps []
structure WOk (X : Cx) (Wx : WX) : Prop where
  tk : Takes X Wx
  ind : ∀ c d σ σ' H, Wx c d σ H → Wx c d σ' H
section
variable {K : PySem.W.Frag} {g : Gb} {io : Nat → Option Addr} {F R H : Hp} {σ : L2.St} {e : En}
open Classical in
/-- the frame of a callee: mine, and my cells -/
noncomputable def cellsR (R H : Hp) (σ : L2.St) (e : En) : Hp := fun a => if (∃ (i : Nat) (s : Sl), e[i]? = some s ∧ s.cell = true ∧ σ[i]? = some (some (V.ref a))) then H a else R a
theorem cellsR_cell {i : Nat} {s : Sl} {p : Addr} (h1 : e[i]? = some s) (h2 : s.cell = true) (h3 : σ[i]? = some (some (V.ref p))) : cellsR R H σ e p = H p := by
  unfold cellsR
  rw [if_pos ⟨i, s, h1, h2, h3⟩]
theorem cellsR_none {p : Addr} (st : Stt K g.ρ io F R σ e H) (h : cellsR R H σ e p = none) : R p = none ∧ NoCell σ e p := by
  have nc : NoCell σ e p := fun i s h1 h2 h3 => by
    rw [cellsR_cell h1 h2 h3] at h
    obtain ⟨q, o, a, _, _, b⟩ := (st.slot i s h1).at_ h2
    rw [a] at h3; cases h3
    rw [h] at b; cases b
  refine ⟨?_, nc⟩
  unfold cellsR at h
  rw [if_neg (fun ⟨i, s, h1, h2, h3⟩ => nc i s h1 h2 h3)] at h
  exact h
theorem cellsR_sub {a : Addr} {o : HO} (st : Stt K g.ρ io F R σ e H) (h : R a = some o) : cellsR R H σ e a = some o := by
  unfold cellsR
  rw [if_neg]
  · exact h
  · rintro ⟨i, s, h1, h2, h3⟩
    obtain ⟨q, o2, a1, _, a3, _⟩ := (st.slot i s h1).at_ h2
    rw [a1] at h3; cases h3
    rw [h] at a3; cases a3
theorem cellsR_case {a : Addr} {o : HO} (h : cellsR R H σ e a = some o) : (∃ (i : Nat) (s : Sl), e[i]? = some s ∧ s.cell = true ∧ σ[i]? = some (some (V.ref a)) ∧ H a = some o) ∨ R a = some o := by
  unfold cellsR at h
  split at h
  · rename_i q
    obtain ⟨i, s, h1, h2, h3⟩ := q
    exact .inl ⟨i, s, h1, h2, h3, h⟩
  · exact .inr h
theorem Stt.apart (st : Stt K g.ρ io F R σ e H) : Apart F (cellsR R H σ e) H := by
  refine ⟨st.ext, fun a o h => ?_, fun a o h => ?_⟩
  · rcases cellsR_case h with ⟨i, s, h1, h2, h3, h4⟩ | h
    · exact h4
    · exact st.fr _ _ h
  · rcases cellsR_case h with ⟨i, s, h1, h2, h3, h4⟩ | h
    · obtain ⟨q, o2, a1, a2, a3, _⟩ := (st.slot i s h1).at_ h2
      rw [a1] at h3; cases h3
      exact a2
    · exact st.dis _ _ h
/-- behind a call -/
theorem Stt.back (st : Stt K g.ρ io F R σ e H) {F' H' : Hp} (x : Ext F F') (a : Apart F' (cellsR R H σ e) H') : Stt K g.ρ io F' R σ e H' := by
  refine ⟨st.len, a.ext, fun b o h => a.fr _ _ (cellsR_sub st h), fun b o h => a.dis _ _ (cellsR_sub st h), fun i sl q => (st.slot i sl q).keep x fun hc p hp => ?_, st.inj⟩
  obtain ⟨p2, o2, a1, a2, a3, a4⟩ := (st.slot i sl q).at_ hc
  rw [a1] at hp; cases hp
  have e1 : cellsR R H σ e p = some o2 := (cellsR_cell q hc a1).trans a4
  exact ⟨a.dis _ _ e1, a3, (a.fr _ _ e1).trans a4.symm⟩
theorem Ret.new {F' H' : Hp} {v : V} {d : D} (st : Stt K g.ρ io F R σ e H) (r : Ret K g.ρ F' (cellsR R H σ e) H' v d true) : New K g.ρ F' R σ H' e v d := by
  obtain ⟨p, o, rfl, h1, h2, h3, h4⟩ := r
  obtain ⟨h5, h6⟩ := cellsR_none st h2
  exact ⟨p, o, rfl, h1, h5, h6, h3, h4⟩
end
@[simp] def kCall (m : List D → Option Ot) (ws : List W) (e : En) : Option (Rs W) := match dats ws with
  | some ds => (match m ds with
    | some (.ok d _) => some (.ok (.dat d) e)
    | some (.ex c pl) => some (.ex c pl e)
    | none => none)
  | none => none
def sCall (m : List D → Option Ot) (hs : Smx (List W)) : Sem := fun e => bnd (hs e) (kCall m)
@[simp ↓] theorem sCall_u (m : List D → Option Ot) (hs : Smx (List W)) (e : En) : sCall m hs e = (bnd (hs e) (kCall m)) := rfl
@[simp] def kCallN (m : List D → Option Ot) (ws : List W) (e : En) : Option (Rs D) := match dats ws with
  | some ds => (match m ds with
    | some (.ok d true) => some (.ok d e)
    | some (.ex c pl) => some (.ex c pl e)
    | _ => none)
  | none => none
def sCallN (m : List D → Option Ot) (hs : Smx (List W)) : Smx D := fun e => bnd (hs e) (kCallN m)
@[simp ↓] theorem sCallN_u (m : List D → Option Ot) (hs : Smx (List W)) (e : En) : sCallN m hs e = (bnd (hs e) (kCallN m)) := rfl
section
variable {X : Cx} {g : Gb} {io : Nat → Option Addr} {Wx : WX} {pos p : Pos} {a : Expr} {es : List Expr} {hs : Smx (List W)} {x : Str} {k n : Nat} {m : List D → Option Ot}
/-- the promise of a callee, from what is wanted of it -/
theorem sp_call {K : PySem.W.Frag} {F R H : Hp} {σ : L2.St} {e : En} {vs : List V} {ds : List D} {Q : VK} {E : XK} (st : Stt K g.ρ io F R σ e H) (sq : Sqs K g.ρ F vs ds) (hn : ds.length = n)
    (h : match m ds with
      | none => False
      | some (.ok d fr) => ∀ F' H' v, Ext F F' → Stt K g.ρ io F' R σ e H' → (if fr = true then New K g.ρ F' R σ H' e v d else Dt K g.ρ F' v d) → Q v H'
      | some (.ex c pl) => ∀ F' H' cls dd, Ext F F' → Stt K g.ρ io F' R σ e H' → ExOk K g.ρ g.xa F' H' cls dd c pl → E cls dd H') : spD K g n m vs H Q E := by
  refine ⟨F, cellsR R H σ e, ds, st.apart, sq, hn, ?_⟩
  revert h
  cases m ds with
  | none => exact fun z => z
  | some o =>
    cases o with
    | ok d fr =>
      intro h F' H' v x ap r
      refine h F' H' v x (st.back x ap) ?_
      cases fr with
      | false => exact r
      | true => exact Ret.new st r
    | ex c pl => exact fun h F' H' cls dd x ap z => h F' H' cls dd x (st.back x ap) z
theorem pass_W (wo : WOk X Wx) : Passes (L2.CX X.prog X.w) X (fun cls d H => ∃ σ, Wx cls d σ H) := passes_call wo.tk fun cls d σ H ⟨σ', h⟩ => wo.ind _ _ _ _ _ h
theorem call_E (σ : L2.St) (H : Hp) (Q : VK) (q : tE X.K g io Wx (sCall m hs) σ H Q) (hn : ∀ (F : Hp) (σ : L2.St) vs ws ds, Opds X.K g.ρ F σ vs ws → dats ws = some ds → m ds ≠ none → ds.length = n) :
    tCall (spD X.K g n m) [] (fun cls d H => ∃ σ, Wx cls d σ H) (tA X.K g io Wx hs) σ H Q := by
  obtain ⟨F, R, e, st, q⟩ := q
  refine ⟨F, R, e, st, Aft.bnd (k := kCall m) q fun ws e1 F1 H1 vs _ x1 s1 r1 q1 => ?_⟩
  unfold kCall at q1
  cases e1' : dats ws with
  | none => rw [e1'] at q1; exact q1.elim
  | some ds =>
    rw [e1'] at q1
    simp only at q1
    rw [List.append_nil]
    refine sp_call s1 (Opds.frozen r1 e1') (hn _ _ _ _ _ r1 e1' fun z => by rw [z] at q1; exact q1) ?_
    revert q1
    cases m ds with
    | none => exact fun z => z
    | some o =>
      cases o with
      | ok d fr =>
        intro q1 F' H' v x s r
        cases fr with
        | false => exact q1 F' H' v x s r
        | true =>
          obtain ⟨F2, x2, s2, dt⟩ := New.freeze s r
          exact q1 F2 H' v (x.trans x2) s2 dt
      | ex c pl => exact fun q1 F' H' cls dd x s z => ⟨σ, q1 F' H' cls dd x s z⟩
theorem call_N (σ : L2.St) (H : Hp) (Q : VK) (q : tN X.K g io Wx (sCallN m hs) σ H Q) (hn : ∀ (F : Hp) (σ : L2.St) vs ws ds, Opds X.K g.ρ F σ vs ws → dats ws = some ds → m ds ≠ none → ds.length = n) :
    tCall (spD X.K g n m) [] (fun cls d H => ∃ σ, Wx cls d σ H) (tA X.K g io Wx hs) σ H Q := by
  obtain ⟨F, R, e, st, q⟩ := q
  refine ⟨F, R, e, st, Aft.bnd (k := kCallN m) q fun ws e1 F1 H1 vs _ x1 s1 r1 q1 => ?_⟩
  unfold kCallN at q1
  cases e1' : dats ws with
  | none => rw [e1'] at q1; exact q1.elim
  | some ds =>
    rw [e1'] at q1
    simp only at q1
    rw [List.append_nil]
    refine sp_call s1 (Opds.frozen r1 e1') (hn _ _ _ _ _ r1 e1' fun z => by rw [z] at q1; exact q1) ?_
    revert q1
    cases m ds with
    | none => exact fun z => z
    | some o =>
      cases o with
      | ok d fr =>
        cases fr with
        | false => exact fun z => z.elim
        | true => exact fun q1 F' H' v x s r => q1 F' H' v x s r
      | ex c pl => exact fun q1 F' H' cls dd x s z => ⟨σ, q1 F' H' cls dd x s z⟩
/-- a mirror is about so many arguments -/
def Ary (n : Nat) (m : List D → Option Ot) : Prop := ∀ ds, m ds ≠ none → ds.length = n
theorem d_call (G : Df X.prog X.w X.K X.mg X.base g x k n m) (hn : Ary n m) (hr : Room k X.A) (wo : WOk X Wx) (hg : Gl X x) (ha : PA X (a :: es) (tA X.K g io Wx hs)) (hdb : (x == ("__debug__" : Str)) = false := by decide)
    (he : starEach (a :: es) X.env = (false, eval a X.env) :: starEach es X.env := by rfl) (hpl : (backTo pos (starEach es X.env)).any (·.1) = false := by rfl) : PE X (.Call (.Name x p) (a :: es) [] pos) (tE X.K g io Wx (sCall m hs)) := by
  obtain ⟨f, fd, ps, F, h1, h2, h3⟩ := G.ex
  exact PE.of (pe_call F hr hg h1 h2 h3 .nil (pass_W wo) ha hdb he hpl) fun σ H Q q => call_E σ H Q q fun _ _ _ _ ds _ _ z => hn ds z
theorem n_call (G : Df X.prog X.w X.K X.mg X.base g x k n m) (hn : Ary n m) (hr : Room k X.A) (wo : WOk X Wx) (hg : Gl X x) (ha : PA X (a :: es) (tA X.K g io Wx hs)) (hdb : (x == ("__debug__" : Str)) = false := by decide)
    (he : starEach (a :: es) X.env = (false, eval a X.env) :: starEach es X.env := by rfl) (hpl : (backTo pos (starEach es X.env)).any (·.1) = false := by rfl) : PE X (.Call (.Name x p) (a :: es) [] pos) (tN X.K g io Wx (sCallN m hs)) := by
  obtain ⟨f, fd, ps, F, h1, h2, h3⟩ := G.ex
  exact PE.of (pe_call F hr hg h1 h2 h3 .nil (pass_W wo) ha hdb he hpl) fun σ H Q q => call_N σ H Q q fun _ _ _ _ ds _ _ z => hn ds z
/-- without arguments -/
theorem d_call0 (G : Df X.prog X.w X.K X.mg X.base g x k 0 m) (hr : Room k X.A) (wo : WOk X Wx) (hg : Gl X x) (hdb : (x == ("__debug__" : Str)) = false := by decide) : PE X (.Call (.Name x p) [] [] pos) (tE X.K g io Wx (sCall m sNil)) := by
  obtain ⟨f, fd, ps, F, h1, h2, h3⟩ := G.ex
  refine PE.of (pe_call0 F hr hg h1 h2 h3 .nil (pass_W wo) hdb) fun σ H Q q => ?_
  obtain ⟨F, R, e, st, q⟩ := q
  have q1 : Aft X.K g io (rE X.K g.ρ) Wx F R σ Q (kCall m [] e) := q
  unfold kCall at q1
  simp only [dats] at q1
  refine sp_call st Sqs.nil rfl ?_
  revert q1
  cases m [] with
  | none => exact fun z => z
  | some o =>
    cases o with
    | ok d fr =>
      intro q1 F' H' v x s r
      cases fr with
      | false => exact q1 F' H' v x s r
      | true =>
        obtain ⟨F2, x2, s2, dt⟩ := New.freeze s r
        exact q1 F2 H' v (x.trans x2) s2 dt
    | ex c pl => exact fun q1 F' H' cls dd x s z => ⟨σ, q1 F' H' cls dd x s z⟩
end

/-! ### a def by its body -/
@[simp] def en0 (n : Nat) (ds : List D) : En := ds.map .val ++ List.replicate (n - ds.length) .un
/-- n slots, k parameters -/
def dSem (n k : Nat) (body : SSem) : List D → Option Ot := fun ds => if ds.length = k then (match body (en0 n ds) with
  | some (.nx _) => some (.ok .non false)
  | some (.rt d fr _) => some (.ok d fr)
  | some (.ex c pl _) => some (.ex c pl)
  | _ => none) else none
@[simp ↓] theorem dSem_u (n k : Nat) (body : SSem) (ds : List D) : dSem n k body ds = (if ds.length = k then (match body (en0 n ds) with
  | some (.nx _) => some (.ok .non false)
  | some (.rt d fr _) => some (.ok d fr)
  | some (.ex c pl _) => some (.ex c pl)
  | _ => none) else none) := rfl
theorem ary_dSem (n k : Nat) (body : SSem) : Ary k (dSem n k body) := fun ds h => by
  unfold dSem at h
  by_cases z : ds.length = k
  · exact z
  · rw [if_neg z] at h; exact absurd rfl h
section
variable {K : PySem.W.Frag} {g : Gb} {F R H : Hp}
theorem stt_start {vs : List V} {ds : List D} {N : List Str} (ap : Apart F R H) (sq : Sqs K g.ρ F vs ds) : Stt K g.ρ (fun _ => none) F R (start N vs) (en0 N.length ds) H := by
  have nc : ∀ (i : Nat) (s : Sl), (en0 N.length ds)[i]? = some s → s.cell = false := fun i s h => by
    unfold en0 at h
    by_cases hi : i < (ds.map Sl.val).length
    · rw [List.getElem?_append_left hi, List.getElem?_map] at h
      cases e : ds[i]? with
      | none => rw [e] at h; cases h
      | some d => rw [e] at h; cases h; rfl
    · rw [List.getElem?_append_right (by omega), List.getElem?_replicate] at h
      split at h
      · cases h; rfl
      · cases h
  refine ⟨by simp [L2.start, en0, sq.1], ap.ext, ap.fr, ap.dis, fun i s h => ?_, fun i j si sj p _ hi _ ci _ _ _ => by rw [nc i si hi] at ci; cases ci⟩
  unfold en0 at h
  by_cases hi : i < (ds.map Sl.val).length
  · rw [List.getElem?_append_left hi, List.getElem?_map] at h
    cases e : ds[i]? with
    | none => rw [e] at h; cases h
    | some d =>
      rw [e] at h
      cases h
      obtain ⟨v, h1, h2⟩ := sq.get e
      refine ⟨v, ?_, h2⟩
      unfold L2.start
      have hv : i < (vs.map some).length := by rw [List.length_map, sq.1]; simpa using hi
      rw [List.getElem?_append_left hv, List.getElem?_map, h1] <;> rfl
  · rw [List.getElem?_append_right (by omega), List.getElem?_replicate] at h
    split at h
    · cases h; trivial
    · cases h
theorem def_end {vs : List V} {N : List Str} {k : Nat} {body : SSem} {Q : VK} {E : XK} (h : spD K g k (dSem N.length k body) vs H Q E) :
    vs.length = k ∧ tS K g (fun _ => none) (fun cls d _ H => E cls d H) body { nx := fun _ H' => Q .non H', rt := Q } (start N vs) H := by
  obtain ⟨F, R, ds, ap, sq, hl, h⟩ := h
  refine ⟨sq.1.trans hl, F, R, en0 N.length ds, stt_start ap sq, ?_⟩
  unfold dSem at h
  rw [if_pos hl] at h
  cases e : body (en0 N.length ds) with
  | none => rw [e] at h; exact h.elim
  | some fl =>
    rw [e] at h
    cases fl with
    | nx e' => exact fun F' H' σ' x s => h F' H' .non x ⟨s.ext, s.fr, s.dis⟩ .non
    | bk e' => exact h.elim
    | ct e' => exact h.elim
    | ex c pl e' => exact fun F' H' σ' cls d x s z => h F' H' cls d x ⟨s.ext, s.fr, s.dis⟩ z
    | rt d fr e' =>
      intro F' H' σ' v x s o
      refine h F' H' v x ⟨s.ext, s.fr, s.dis⟩ ?_
      cases fr with
      | false => exact o
      | true =>
        obtain ⟨p, o, rfl, h1, h2, _, h3, h4⟩ := o
        exact ⟨p, o, rfl, h1, h2, h3, h4⟩
end
section
variable {P : Program} {w : World} {K : PySem.W.Frag} {mg : Str → Option Value} {base : Heap} {g : Gb}
/-- THE RULE for a def: its body's mirror -/
theorem def_ok {x qual : Str} {st : Stmt} {f : Addr} {fd : FuncData} {N ps : List Str} {j : Nat} {body : SSem} (F : Fun K x qual st f fd) (S : FnScope N ps (defScope st))
    (hb : ∀ (cdv : Value) (A : Around) (outer : List Env) (s : Shared) (H : Hp) (E : XK), Room j (A.deeper (envOfC qual (defScope st) s.heap.objs.size f cdv)) →
      PSs (cxOf (L2.CX P w) P w K mg base N qual (defScope st) f cdv A outer s H E) (defBody st) (tS K g (fun _ => none) (fun cls d _ H => E cls d H) body)) :
    FnOk P w K mg base (L2.CX P w) (j + 1) f fd ps (spD K g ps.length (dSem N.length ps.length body)) :=
  F.okX S (fun vs H Q E h => (def_end (N := N) h).1) fun cdv A outer s H vs Q E hr h => ⟨_, hb cdv A outer s H E hr, (def_end (N := N) h).2⟩
theorem wok_def {N : List Str} {qual : Str} {sc : Scope} {f : Addr} {cdv : Value} {A : Around} {outer : List Env} {s : Shared} {H : Hp} {E : XK} : WOk (cxOf (L2.CX P w) P w K mg base N qual sc f cdv A outer s H E) (fun cls d _ H => E cls d H) :=
  ⟨takes_of rfl rfl rfl rfl, fun _ _ _ _ _ h => h⟩
theorem wok_0 {X : Cx} : WOk X W0 := ⟨takes0, fun _ _ _ _ _ h => h⟩
end
end Mz

namespace Mz
open PySem PySem.Spec PyProof.Rows L2

/-! ### own things change -/
/-- the content of a slot's cell -/
@[simp] def getC (e : En) (i : Nat) : Option D := rdS e i
@[simp] def putC (e : En) (i : Nat) (d : D) : En := match e[i]? with
  | some (.own _) => e.set i (.own d)
  | some (.io _) => e.set i (.io d)
  | _ => e
section
variable {K : PySem.W.Frag} {g : Gb} {io : Nat → Option Addr} {F R H : Hp} {σ : L2.St} {e : En}
theorem Stt.cellAt (st : Stt K g.ρ io F R σ e H) {i : Nat} {d : D} (h : getC e i = some d) : ∃ p o s, e[i]? = some s ∧ s.cell = true ∧ (s = .own d ∨ s = .io d) ∧ σ[i]? = some (some (.ref p)) ∧ F p = none ∧ R p = none ∧ H p = some o ∧ CellO K g.ρ F o d := by
  unfold getC rdS at h
  split at h
  · rename_i d' q
    cases h
    obtain ⟨p, o, h1, h2, h3, h4, h5⟩ := st.slot i _ q
    exact ⟨p, o, _, q, rfl, .inl rfl, h1, h2, h3, h4, h5⟩
  · rename_i d' q
    cases h
    obtain ⟨p, o, h1, h2, h3, h4, h5, _⟩ := st.slot i _ q
    exact ⟨p, o, _, q, rfl, .inr rfl, h1, h2, h3, h4, h5⟩
  · cases h
/-- the slot's cell holds something else now; the heap may have changed elsewhere -/
theorem Stt.putCell {F' H' : Hp} {i : Nat} {d d' : D} {p : Addr} {o' : HO} (st : Stt K g.ρ io F R σ e H) (h : getC e i = some d) (hp : σ[i]? = some (some (.ref p))) (s' : Stt K g.ρ io F' R σ (e.set i .un) H') (n1 : F' p = none) (n2 : R p = none) (n3 : H' p = some o')
    (co : CellO K g.ρ F' o' d') : Stt K g.ρ io F' R σ (putC e i d') H' := by
  obtain ⟨p2, o, s, h1, h2, h3, h4, h5, h6, h7, h8⟩ := st.cellAt h
  rw [h4] at hp; cases hp
  have hl : i < e.length := (List.getElem?_eq_some_iff.mp h1).1
  -- by the general store
  have sig : σ.set i (some (.ref p)) = σ := by
    apply List.ext_getElem?
    intro j
    rw [List.getElem?_set]
    by_cases hj : i = j
    · subst hj
      rw [if_pos rfl, if_pos (by rw [st.len]; exact hl), h4]
    · rw [if_neg hj]
  have other : ∀ q, (V.ref p : V) = .ref q → ∀ (j : Nat) (s : Sl), j ≠ i → (e.set i Sl.un)[j]? = some s → s.cell = true → σ[j]? = some (some (.ref q)) → False := fun q hq j sj nj hj cj pj => by
    cases hq
    rw [List.getElem?_set_ne (Ne.symm nj)] at hj
    exact st.inj i j _ _ p (Ne.symm nj) h1 hj h2 cj h4 pj
  have go : ∀ sl : Sl, SlOk K g.ρ io F' R σ H' i sl → sl.cell = true → Stt K g.ρ io F' R σ (e.set i sl) H' := fun sl ok cc => by
    have z := s'.setSlot (i := i) (v := .ref p) (sl := sl) (fun _ => by rw [sig]; exact ok) (fun _ q hq j sj nj hj cj pj => other q hq j sj nj hj cj pj)
    rw [sig, List.set_set] at z
    exact z
  rcases h3 with rfl | rfl
  · have e1 : putC e i d' = e.set i (.own d') := by unfold putC; rw [h1]
    rw [e1]
    exact go _ ⟨p, o', h4, n1, n2, n3, co⟩ rfl
  · have e1 : putC e i d' = e.set i (.io d') := by unfold putC; rw [h1]
    rw [e1]
    obtain ⟨p3, _, k1, _, _, _, _, k2⟩ := st.slot i _ h1
    rw [h4] at k1; cases k1
    exact go _ ⟨p, o', h4, n1, n2, n3, co, k2⟩ rfl
/-- .. changed in place -/
theorem Stt.mutate {i : Nat} {d d' : D} {p : Addr} {o' : HO} (st : Stt K g.ρ io F R σ e H) (h : getC e i = some d) (hp : σ[i]? = some (some (.ref p))) (co : CellO K g.ρ F o' d') : Stt K g.ρ io F R σ (putC e i d') (upd H p o') := by
  obtain ⟨p2, o, s, h1, h2, h3, h4, h5, h6, h7, h8⟩ := st.cellAt h
  rw [h4] at hp; cases hp
  have s0 := st.forget i
  have nc : NoCell σ (e.set i .un) p := fun j sj hj cj pj => by
    by_cases hji : i = j
    · subst hji
      have hl : i < e.length := (List.getElem?_eq_some_iff.mp h1).1
      rw [List.getElem?_set_self hl] at hj
      cases hj; cases cj
    · rw [List.getElem?_set_ne hji] at hj
      exact st.inj i j _ _ p hji h1 hj h2 cj h4 pj
  have s1 := (s0.hold h5 h6 nc h7).reframe (o' := o')
  obtain ⟨s2, _, _, h9⟩ := s1.letgo h6
  exact st.putCell h h4 s2 h5 h6 h9 co
end
section
variable {X : Cx} {g : Gb} {io : Nat → Option Addr} {Wx : WX} {pos p q apos : Pos} {a b : Expr} {f h : Sem} {x : Str} {i : Nat}
/-- x.append(e) -/
def sApp (i : Nat) (f : Sem) : SSem := fun e => match getC e i with
  | some (.lst _) => run (f e) fun w e' => (match w, getC e' i with
    | .dat d, some (.lst ds) => if ds.length < sizeLine then some (.nx (putC e' i (.lst (ds ++ [d])))) else none
    | _, _ => none)
  | _ => none
@[simp ↓] theorem sApp_u (i : Nat) (f : Sem) (e : En) : sApp i f e = (match getC e i with
  | some (.lst _) => run (f e) fun w e' => (match w, getC e' i with
    | .dat d, some (.lst ds) => if ds.length < sizeLine then some (.nx (putC e' i (.lst (ds ++ [d])))) else none
    | _, _ => none)
  | _ => none) := rfl
theorem s_app {es : List Expr} (hN : X.N[i]? = some x) (hv : Vis X.env.scope x) (ha : PE X a (tE X.K g io Wx f)) (hd : (x == ("__debug__" : Str)) = false := by decide) (hcd : (x == ("__classdict__" : Str)) = false := by decide)
    (hbase : attributeBase (.Name x p) "append" X.env (eval (.Name x p) X.env) = eval (.Name x p) X.env := by rfl)
    (hfew : ((backTo q (starEach [a] X.env)).all (fun x => !x.1) && (backToKw q (keywordEach [] X.env)).all (fun x => x.1.isSome)
      && decide ([a].length + ([] : List Keyword).length + (if ([] : List Keyword).isEmpty then 0 else 1) < 30)) = true := by rfl)
    (hline : (apos.endLine == q.line) = true := by rfl) (hs : starEach [a] X.env = (false, eval a X.env) :: starEach [] X.env := by rfl) (hplain : (backTo q (starEach [] X.env)).any (·.1) = false := by rfl)
    (hsw : swapsWith (.Call (.Attribute (.Name x p) "append" apos) [a] [] q) none pos.line X.env = pure false := by rfl) :
    PS X (.Expr (.Call (.Attribute (.Name x p) "append" apos) [a] [] q) pos) (tS X.K g io Wx (sApp i f)) := by
  refine PS.of (ps_expr (pe_bm PySem.F.plainAttrs_list PySem.F.slot_list_append PySem.F.type_list_append mt_append (pe_var hN hv hd hcd) (pa_cons ha pa_nil hs) hbase hfew hline hs hplain) hsw) fun D' σ H q => ?_
  obtain ⟨F, R, e, st, q⟩ := q
  unfold sApp at q
  split at q
  · rename_i ds0 e1
    obtain ⟨p, o, s, h1, h2, h3, h4, h5, h6, h7, h8⟩ := st.cellAt e1
    cases h8 with
    | lst sq0 =>
      refine ⟨_, h4, .inl ⟨rfl, _, SqL.of h7⟩, F, R, e, st, AftS.run (D' := D') (k := fun w e' => (match w, getC e' i with
        | .dat d, some (.lst ds) => if ds.length < sizeLine then some (.nx (putC e' i (.lst (ds ++ [d])))) else none
        | _, _ => none)) q fun w e' F' H' v x s' r q' => ?_⟩
      split at q'
      · rename_i _ d ds e2
        by_cases hz : ds.length < sizeLine
        · rw [if_pos hz] at q'
          obtain ⟨p', o', s2, k1, k2, k3, k4, k5, k6, k7, k8⟩ := s'.cellAt e2
          rw [h4] at k4
          cases k4
          cases k8 with
          | lst sq =>
            refine ⟨p, _, v, rfl, rfl, k7, by rw [sq.1]; exact hz, ?_⟩
            exact q' F' _ σ Ext.rfl' (s'.mutate e2 h4 (.lst (sq.append (.one r))))
        · rw [if_neg hz] at q'; exact q'.elim
      · exact q'.elim
  · exact q.elim
/-- x[k] = e -/
def sPutI (i : Nat) (f h : Sem) : SSem := fun e => run (f e) fun w e1 => (match w, getC e1 i with
  | .dat d, some (.lst _) => run (h e1) fun w2 e2 => (match rd e2 w2, getC e2 i with
    | some (.int k), some (.lst ds) => (match ixN ds.length k with
      | some j => some (.nx (putC e2 i (.lst (ds.set j d))))
      | none => none)
    | _, _ => none)
  | _, _ => none)
@[simp ↓] theorem sPutI_u (i : Nat) (f h : Sem) (e : En) : sPutI i f h e = (run (f e) fun w e1 => (match w, getC e1 i with
  | .dat d, some (.lst _) => run (h e1) fun w2 e2 => (match rd e2 w2, getC e2 i with
    | some (.int k), some (.lst ds) => (match ixN ds.length k with
      | some j => some (.nx (putC e2 i (.lst (ds.set j d))))
      | none => none)
    | _, _ => none)
  | _, _ => none)) := rfl
theorem s_putI {spos : Pos} (hN : X.N[i]? = some x) (hv : Vis X.env.scope x) (ha : PE X a (tE X.K g io Wx f)) (hb : PE X b (tE X.K g io Wx h)) (hd : (x == ("__debug__" : Str)) = false := by decide) (hcd : (x == ("__classdict__" : Str)) = false := by decide)
    (hsub : ∀ v, assign (.Subscript (.Name x p) b spos) X.env v = (do
      let ov ← holding [v] (eval (.Name x p) X.env)
      let iv ← holding [v, ov] (eval b X.env)
      standAt spos
      holding [v, ov, iv] (setItem ov iv v)
      release [v, ov, iv] []) := by intro _; rfl)
    (hs : swapsWithSole [.Subscript (.Name x p) b spos] a pos.line X.env = pure false := by rfl) (hw : swappedStores [.Subscript (.Name x p) b spos] a X.env = pure none := by rfl)
    (h1 : (assignEach [.Subscript (.Name x p) b spos] X.env).map (·.2) = [assign (.Subscript (.Name x p) b spos) X.env] := by rfl) :
    PS X (.Assign [.Subscript (.Name x p) b spos] a pos) (tS X.K g io Wx (sPutI i f h)) := by
  refine PS.of (ps_asg ha (pg_sub (pe_var hN hv hd hcd) hb set_list hsub) hs hw h1) fun D' σ H q => ?_
  obtain ⟨F, R, e, st, q⟩ := q
  refine ⟨F, R, e, st, AftS.run (D' := D') (k := fun w e1 => (match w, getC e1 i with
    | .dat d, some (.lst _) => run (h e1) fun w2 e2 => (match rd e2 w2, getC e2 i with
      | some (.int k), some (.lst ds) => (match ixN ds.length k with
        | some j => some (.nx (putC e2 i (.lst (ds.set j d))))
        | none => none)
      | _, _ => none)
    | _, _ => none)) q fun w e1 F1 H1 v x1 s1 r1 q1 => ?_⟩
  split at q1
  · rename_i _ d ds0 z1
    obtain ⟨p, o, s, k1, k2, k3, k4, k5, k6, k7, k8⟩ := s1.cellAt z1
    refine ⟨_, k4, F1, R, e1, s1, AftS.run (D' := D') (k := fun w2 e2 => (match rd e2 w2, getC e2 i with
      | some (.int k), some (.lst ds) => (match ixN ds.length k with
        | some j => some (.nx (putC e2 i (.lst (ds.set j d))))
        | none => none)
      | _, _ => none)) q1 fun w2 e2 F2 H2 v2 x2 s2 r2 q2 => ?_⟩
    split at q2
    · rename_i k ds z2 z3
      have dt := r2.view s2 z2
      cases dt
      obtain ⟨p', o', s', j1, j2, j3, j4, j5, j6, j7, j8⟩ := s2.cellAt z3
      rw [k4] at j4
      cases j4
      cases j8 with
      | lst sq =>
        cases z4 : ixN ds.length k with
        | none => rw [z4] at q2; exact q2.elim
        | some j =>
          rw [z4] at q2
          have r1' : Dt X.K g.ρ F2 v d := Dt.mono x2 r1
          exact ⟨p, _, k, j, rfl, rfl, j7, by rw [sq.1]; exact z4, q2 F2 _ σ Ext.rfl' (s2.mutate z3 k4 (.lst (sq.set j r1')))⟩
    · exact q2.elim
  · exact q1.elim

/-! ### a def that changes the list that is its first argument -/
inductive Oti where
  | ok (d : D) (fr : Bool) (c : D) | ex (n : Nat) (pl : List D) (c : D)
def spIO (K : PySem.W.Frag) (g : Gb) (n : Nat) (m : D → List D → Option Oti) : Sp := fun vs H Q E => ∃ F R p o c vs' ds, vs = .ref p :: vs' ∧ Apart F R H ∧ F p = none ∧ R p = none ∧ H p = some o ∧ CellO K g.ρ F o c ∧ Sqs K g.ρ F vs' ds ∧ ds.length + 1 = n ∧
  match m c ds with
  | none => False
  | some (.ok d fr c') => ∀ F' H' v o', Ext F F' → Apart F' R H' → F' p = none → H' p = some o' → CellO K g.ρ F' o' c' → Ret K g.ρ F' R H' v d fr → (fr = true → v ≠ .ref p) → Q v H'
  | some (.ex c2 pl c') => ∀ F' H' cls dd o', Ext F F' → Apart F' R H' → F' p = none → H' p = some o' → CellO K g.ρ F' o' c' → ExOk K g.ρ g.xa F' H' cls dd c2 pl → E cls dd H'
structure DfIO (P : Program) (w : World) (K : PySem.W.Frag) (mg : Str → Option Value) (base : Heap) (g : Gb) (x : Str) (k n : Nat) (m : D → List D → Option Oti) : Prop where
  ex : ∃ f fd ps, FnOk P w K mg base (L2.CX P w) k f fd ps (spIO K g n m) ∧ mg x = some (.ref f) ∧ PySem.W.keepIn K (.ref f) = true ∧ Binds K fd ps []
def AryIO (n : Nat) (m : D → List D → Option Oti) : Prop := ∀ c ds, m c ds ≠ none → ds.length + 1 = n
@[simp] def kCallIO (i : Nat) (m : D → List D → Option Oti) (ws : List W) (e : En) : Option (Rs W) := match dats ws, getC e i with
  | some ds, some c => (match m c ds with
    | some (.ok d _ c') => some (.ok (.dat d) (putC e i c'))
    | some (.ex n pl c') => some (.ex n pl (putC e i c'))
    | none => none)
  | _, _ => none
def sCallIO (i : Nat) (m : D → List D → Option Oti) (hs : Smx (List W)) : Sem := fun e => match getC e i with
  | some _ => bnd (hs e) (kCallIO i m)
  | none => none
@[simp ↓] theorem sCallIO_u (i : Nat) (m : D → List D → Option Oti) (hs : Smx (List W)) (e : En) : sCallIO i m hs e = (match getC e i with
  | some _ => bnd (hs e) (kCallIO i m)
  | none => none) := rfl
@[simp] def kCallION (i : Nat) (m : D → List D → Option Oti) (ws : List W) (e : En) : Option (Rs D) := match dats ws, getC e i with
  | some ds, some c => (match m c ds with
    | some (.ok d true c') => some (.ok d (putC e i c'))
    | some (.ex n pl c') => some (.ex n pl (putC e i c'))
    | _ => none)
  | _, _ => none
def sCallION (i : Nat) (m : D → List D → Option Oti) (hs : Smx (List W)) : Smx D := fun e => match getC e i with
  | some _ => bnd (hs e) (kCallION i m)
  | none => none
@[simp ↓] theorem sCallION_u (i : Nat) (m : D → List D → Option Oti) (hs : Smx (List W)) (e : En) : sCallION i m hs e = (match getC e i with
  | some _ => bnd (hs e) (kCallION i m)
  | none => none) := rfl
variable {es : List Expr} {hs : Smx (List W)} {y : Str} {k n : Nat} {m : D → List D → Option Oti}
theorem sp_callIO {K : PySem.W.Frag} {F R H : Hp} {σ : L2.St} {e : En} {vs : List V} {ds : List D} {c : D} {ad : Addr} {Q : VK} {E : XK} (st : Stt K g.ρ io F R σ e H) (hc : getC e i = some c) (had : σ[i]? = some (some (.ref ad))) (sq : Sqs K g.ρ F vs ds) (hn : ds.length + 1 = n)
    (h : match m c ds with
      | none => False
      | some (.ok d fr c') => ∀ F' H' v, Ext F F' → Stt K g.ρ io F' R σ (putC e i c') H' → (if fr = true then New K g.ρ F' R σ H' (putC e i c') v d else Dt K g.ρ F' v d) → Q v H'
      | some (.ex c2 pl c') => ∀ F' H' cls dd, Ext F F' → Stt K g.ρ io F' R σ (putC e i c') H' → ExOk K g.ρ g.xa F' H' cls dd c2 pl → E cls dd H') : spIO K g n m (.ref ad :: vs) H Q E := by
  obtain ⟨p, o, s, h1, h2, h3, h4, h5, h6, h7, h8⟩ := st.cellAt hc
  rw [had] at h4; cases h4
  have s0 := st.forget i
  have hl : i < e.length := (List.getElem?_eq_some_iff.mp h1).1
  have nc : NoCell σ (e.set i .un) ad := fun j sj hj cj pj => by
    by_cases hji : i = j
    · subst hji
      rw [List.getElem?_set_self hl] at hj
      cases hj; cases cj
    · rw [List.getElem?_set_ne hji] at hj
      exact st.inj i j _ _ ad hji h1 hj h2 cj had pj
  have nR : cellsR R H σ (e.set i .un) ad = none := by
    cases z : cellsR R H σ (e.set i .un) ad with
    | none => rfl
    | some o =>
      rcases cellsR_case z with ⟨j, sj, a1, a2, a3, _⟩ | a
      · exact (nc j sj a1 a2 a3).elim
      · rw [h6] at a; cases a
  refine ⟨F, cellsR R H σ (e.set i .un), ad, o, c, vs, ds, rfl, s0.apart, h5, nR, h7, h8, sq, hn, ?_⟩
  revert h
  cases m c ds with
  | none => exact fun z => z
  | some r =>
    cases r with
    | ok d fr c' =>
      intro h F' H' v o' x ap n1 n2 co r hv
      have s2 := st.putCell hc had (s0.back x ap) n1 h6 n2 co
      refine h F' H' v x s2 ?_
      cases fr with
      | false => exact r
      | true =>
        obtain ⟨q, o2, e2, q1, q2, q3, q4, q5⟩ := Ret.new s0 r
        refine ⟨q, o2, e2, q1, q2, fun j sj hj cj pj => ?_, q4, q5⟩
        by_cases hji : i = j
        · subst hji
          rw [had] at pj
          cases pj
          exact hv rfl e2
        · have e3 : (putC e i c')[j]? = e[j]? := by
            unfold putC
            split
            · exact List.getElem?_set_ne hji
            · exact List.getElem?_set_ne hji
            · rfl
          rw [e3] at hj
          exact q3 j sj (by rw [List.getElem?_set_ne hji]; exact hj) cj pj
    | ex c2 pl c' =>
      intro h F' H' cls dd o' x ap n1 n2 co z
      exact h F' H' cls dd x (st.putCell hc had (s0.back x ap) n1 h6 n2 co) z
theorem d_callIO (G : DfIO X.prog X.w X.K X.mg X.base g y k n m) (hn : AryIO n m) (hr : Room k X.A) (wo : WOk X Wx) (hg : Gl X y) (hN : X.N[i]? = some x) (hv : Vis X.env.scope x) (ha : PA X es (tA X.K g io Wx hs)) (hdb : (y == ("__debug__" : Str)) = false := by decide)
    (hd : (x == ("__debug__" : Str)) = false := by decide) (hcd : (x == ("__classdict__" : Str)) = false := by decide)
    (he : starEach (.Name x q :: es) X.env = (false, eval (.Name x q) X.env) :: starEach es X.env := by rfl) (hpl : (backTo pos (starEach es X.env)).any (·.1) = false := by rfl) : PE X (.Call (.Name y p) (.Name x q :: es) [] pos) (tE X.K g io Wx (sCallIO i m hs)) := by
  obtain ⟨f, fd, ps, FF, h1, h2, h3⟩ := G.ex
  refine PE.of (pe_call FF hr hg h1 h2 h3 .nil (pass_W wo) (pa_cons (pe_var hN hv hd hcd) ha he) hdb he hpl) fun σ H Q q => ?_
  obtain ⟨F, R, e, st, q⟩ := q
  unfold sCallIO at q
  cases z0 : getC e i with
  | none => rw [z0] at q; exact q.elim
  | some c0 =>
    rw [z0] at q
    obtain ⟨p, o, s, k1, k2, k3, k4, k5, k6, k7, k8⟩ := st.cellAt z0
    refine ⟨_, k4, F, R, e, st, Aft.bnd (k := kCallIO i m) q fun ws e1 F1 H1 vs _ x1 s1 r1 q1 => ?_⟩
    unfold kCallIO at q1
    split at q1
    · rename_i ds c z1 z2
      rw [List.append_nil]
      refine sp_callIO s1 z2 k4 (Opds.frozen r1 z1) (hn c ds fun z => by rw [z] at q1; exact q1) ?_
      revert q1
      cases m c ds with
      | none => exact fun z => z
      | some r =>
        cases r with
        | ok d fr c' =>
          intro q1 F' H' v x s r
          cases fr with
          | false => exact q1 F' H' v x s r
          | true =>
            obtain ⟨F2, x2, s2, dt⟩ := New.freeze s r
            exact q1 F2 H' v (x.trans x2) s2 dt
        | ex c2 pl c' => exact fun q1 F' H' cls dd x s z => ⟨σ, q1 F' H' cls dd x s z⟩
    · exact q1.elim
theorem n_callIO (G : DfIO X.prog X.w X.K X.mg X.base g y k n m) (hn : AryIO n m) (hr : Room k X.A) (wo : WOk X Wx) (hg : Gl X y) (hN : X.N[i]? = some x) (hv : Vis X.env.scope x) (ha : PA X es (tA X.K g io Wx hs)) (hdb : (y == ("__debug__" : Str)) = false := by decide)
    (hd : (x == ("__debug__" : Str)) = false := by decide) (hcd : (x == ("__classdict__" : Str)) = false := by decide)
    (he : starEach (.Name x q :: es) X.env = (false, eval (.Name x q) X.env) :: starEach es X.env := by rfl) (hpl : (backTo pos (starEach es X.env)).any (·.1) = false := by rfl) : PE X (.Call (.Name y p) (.Name x q :: es) [] pos) (tN X.K g io Wx (sCallION i m hs)) := by
  obtain ⟨f, fd, ps, FF, h1, h2, h3⟩ := G.ex
  refine PE.of (pe_call FF hr hg h1 h2 h3 .nil (pass_W wo) (pa_cons (pe_var hN hv hd hcd) ha he) hdb he hpl) fun σ H Q q => ?_
  obtain ⟨F, R, e, st, q⟩ := q
  unfold sCallION at q
  cases z0 : getC e i with
  | none => rw [z0] at q; exact q.elim
  | some c0 =>
    rw [z0] at q
    obtain ⟨p, o, s, k1, k2, k3, k4, k5, k6, k7, k8⟩ := st.cellAt z0
    refine ⟨_, k4, F, R, e, st, Aft.bnd (k := kCallION i m) q fun ws e1 F1 H1 vs _ x1 s1 r1 q1 => ?_⟩
    unfold kCallION at q1
    split at q1
    · rename_i ds c z1 z2
      rw [List.append_nil]
      refine sp_callIO s1 z2 k4 (Opds.frozen r1 z1) (hn c ds fun z => by rw [z] at q1; exact q1) ?_
      revert q1
      cases m c ds with
      | none => exact fun z => z
      | some r =>
        cases r with
        | ok d fr c' =>
          cases fr with
          | false => exact fun z => z.elim
          | true => exact fun q1 F' H' v x s r => q1 F' H' v x s r
        | ex c2 pl c' => exact fun q1 F' H' cls dd x s z => ⟨σ, q1 F' H' cls dd x s z⟩
    · exact q1.elim
end
@[simp] def enIO (n : Nat) (c : D) (ds : List D) : En := .io c :: (ds.map .val ++ List.replicate (n - 1 - ds.length) .un)
def dSemIO (n k : Nat) (body : SSem) : D → List D → Option Oti := fun c ds => if ds.length + 1 = k then (match body (enIO n c ds) with
  | some (.nx e) => (match e[0]? with
    | some (Sl.io c') => some (.ok .non false c')
    | _ => none)
  | some (.rt d fr e) => (match e[0]? with
    | some (Sl.io c') => some (.ok d fr c')
    | _ => none)
  | some (.ex c2 pl e) => (match e[0]? with
    | some (Sl.io c') => some (.ex c2 pl c')
    | _ => none)
  | _ => none) else none
@[simp ↓] theorem dSemIO_u (n k : Nat) (body : SSem) (c : D) (ds : List D) : dSemIO n k body c ds = (if ds.length + 1 = k then (match body (enIO n c ds) with
  | some (.nx e) => (match e[0]? with
    | some (Sl.io c') => some (.ok .non false c')
    | _ => none)
  | some (.rt d fr e) => (match e[0]? with
    | some (Sl.io c') => some (.ok d fr c')
    | _ => none)
  | some (.ex c2 pl e) => (match e[0]? with
    | some (Sl.io c') => some (.ex c2 pl c')
    | _ => none)
  | _ => none) else none) := rfl
theorem ary_dSemIO (n k : Nat) (body : SSem) : AryIO k (dSemIO n k body) := fun c ds h => by
  unfold dSemIO at h
  by_cases z : ds.length + 1 = k
  · exact z
  · rw [if_neg z] at h; exact absurd rfl h
section
variable {K : PySem.W.Frag} {g : Gb} {F R H : Hp}
theorem stt_startIO {p : Addr} {o : HO} {c : D} {vs : List V} {ds : List D} {n : Nat} (ap : Apart F R H) (nF : F p = none) (nR : R p = none) (hp : H p = some o) (co : CellO K g.ρ F o c) (sq : Sqs K g.ρ F vs ds) :
    Stt K g.ρ (fun i => if i = 0 then some p else none) F R (some (.ref p) :: (vs.map some ++ List.replicate (n - 1 - vs.length) none)) (enIO n c ds) H := by
  have nc : ∀ (i : Nat) (s : Sl), (ds.map Sl.val ++ List.replicate (n - 1 - ds.length) Sl.un)[i]? = some s → s.cell = false ∧ SlOk K g.ρ (fun _ => none) F R (vs.map some ++ List.replicate (n - 1 - vs.length) none) H i s := fun i s h => by
    by_cases hi : i < (ds.map Sl.val).length
    · rw [List.getElem?_append_left hi, List.getElem?_map] at h
      cases e : ds[i]? with
      | none => rw [e] at h; cases h
      | some d =>
        rw [e] at h
        cases h
        obtain ⟨v, h1, h2⟩ := sq.get e
        refine ⟨rfl, v, ?_, h2⟩
        have hv : i < (vs.map some).length := by rw [List.length_map, sq.1]; simpa using hi
        rw [List.getElem?_append_left hv, List.getElem?_map, h1] <;> rfl
    · rw [List.getElem?_append_right (by omega), List.getElem?_replicate] at h
      split at h
      · cases h; exact ⟨rfl, trivial⟩
      · cases h
  refine ⟨by simp [enIO, sq.1], ap.ext, ap.fr, ap.dis, fun i s h => ?_, fun i j si sj q nij hi hj ci cj _ _ => ?_⟩
  · cases i with
    | zero =>
      have h : some (Sl.io c) = some s := h
      cases h
      exact ⟨p, o, rfl, nF, nR, hp, co, rfl⟩
    | succ i =>
      obtain ⟨c1, c2⟩ := nc i s h
      cases s with
      | un => trivial
      | val d => exact c2
      | _ => cases c1
  · cases i with
    | zero =>
      cases j with
      | zero => exact nij rfl
      | succ j => rw [(nc j sj hj).1] at cj; cases cj
    | succ i => rw [(nc i si hi).1] at ci; cases ci
theorem def_endIO {vs : List V} {N : List Str} {k : Nat} {body : SSem} {Q : VK} {E : XK} (h : spIO K g k (dSemIO N.length k body) vs H Q E) (hk : k ≤ N.length) :
    vs.length = k ∧ ∃ io, tS K g io (fun cls d _ H => E cls d H) body { nx := fun _ H' => Q .non H', rt := Q } (L2.start N vs) H := by
  obtain ⟨F, R, p, o, c, vs', ds, rfl, ap, nF, nR, hp, co, sq, hl, h⟩ := h
  have hvl : vs'.length + 1 = k := by rw [sq.1]; exact hl
  have es : L2.start N (.ref p :: vs') = some (.ref p) :: (vs'.map some ++ List.replicate (N.length - 1 - vs'.length) none) := by
    unfold L2.start
    rw [List.map_cons, List.length_cons]
    have : N.length - (vs'.length + 1) = N.length - 1 - vs'.length := by omega
    rw [this] <;> rfl
  refine ⟨hvl, fun i => if i = 0 then some p else none, F, R, enIO N.length c ds, by rw [es]; exact stt_startIO ap nF nR hp co sq, ?_⟩
  have fin : ∀ {F' H' : Hp} {σ' : L2.St} {e' : En} {c' : D}, e'[0]? = some (.io c') → Stt K g.ρ (fun i => if i = 0 then some p else none) F' R σ' e' H' → ∃ o', F' p = none ∧ H' p = some o' ∧ CellO K g.ρ F' o' c' ∧ σ'[0]? = some (some (.ref p)) := fun {F' H' σ' e' c'} q s => by
    obtain ⟨p', o', h1, h2, h3, h4, h5, h6⟩ := s.slot 0 _ q
    have h6 : some p = some p' := h6
    cases h6
    exact ⟨o', h2, h4, h5, h1⟩
  unfold dSemIO at h
  rw [if_pos hl] at h
  cases e : body (enIO N.length c ds) with
  | none => rw [e] at h; exact h.elim
  | some fl =>
    rw [e] at h
    cases fl with
    | nx e' =>
      simp only at h
      split at h
      · exact h.elim
      · rename_i d fr c' q
        split at q
        · rename_i c2 q2
          cases q
          intro F' H' σ' x s
          obtain ⟨o', h1, h2, h3, _⟩ := fin q2 s
          exact h F' H' .non o' x ⟨s.ext, s.fr, s.dis⟩ h1 h2 h3 .non (fun z => nomatch z)
        · cases q
      · rename_i q
        split at q <;> cases q
    | bk e' => exact h.elim
    | ct e' => exact h.elim
    | ex c2 pl e' =>
      simp only at h
      split at h
      · exact h.elim
      · rename_i q
        split at q <;> cases q
      · rename_i c3 pl3 c' q
        split at q
        · rename_i c4 q2
          cases q
          intro F' H' σ' cls d x s z
          obtain ⟨o', h1, h2, h3, _⟩ := fin q2 s
          exact h F' H' cls d o' x ⟨s.ext, s.fr, s.dis⟩ h1 h2 h3 z
        · cases q
    | rt d fr e' =>
      simp only at h
      split at h
      · exact h.elim
      · rename_i d2 fr2 c' q
        split at q
        · rename_i c4 q2
          cases q
          intro F' H' σ' v x s oo
          obtain ⟨o', h1, h2, h3, h4⟩ := fin q2 s
          refine h F' H' v o' x ⟨s.ext, s.fr, s.dis⟩ h1 h2 h3 ?_ ?_
          · cases fr with
            | false => exact oo
            | true =>
              obtain ⟨p', o2, rfl, k1, k2, _, k3, k4⟩ := oo
              exact ⟨p', o2, rfl, k1, k2, k3, k4⟩
          · intro hf hv
            subst hf
            obtain ⟨p', o2, e2, k1, k2, k5, k3, k4⟩ := oo
            rw [hv] at e2
            cases e2
            exact k5 0 _ q2 rfl h4
        · cases q
      · rename_i q
        split at q <;> cases q
end
section
variable {P : Program} {w : World} {K : PySem.W.Frag} {mg : Str → Option Value} {base : Heap} {g : Gb}
theorem defIO_ok {x qual : Str} {st : Stmt} {f : Addr} {fd : FuncData} {N ps : List Str} {j : Nat} {body : SSem} (F : Fun K x qual st f fd) (S : FnScope N ps (defScope st)) (hk : ps.length ≤ N.length)
    (hb : ∀ (io : Nat → Option Addr) (cdv : Value) (A : Around) (outer : List Env) (s : Shared) (H : Hp) (E : XK), Room j (A.deeper (envOfC qual (defScope st) s.heap.objs.size f cdv)) →
      PSs (cxOf (L2.CX P w) P w K mg base N qual (defScope st) f cdv A outer s H E) (defBody st) (tS K g io (fun cls d _ H => E cls d H) body)) :
    FnOk P w K mg base (L2.CX P w) (j + 1) f fd ps (spIO K g ps.length (dSemIO N.length ps.length body)) :=
  F.okX S (fun vs H Q E h => (def_endIO (N := N) h hk).1) fun cdv A outer s H vs Q E hr h =>
    let ⟨io, q⟩ := (def_endIO (N := N) h hk).2
    ⟨_, hb io cdv A outer s H E hr, q⟩
end
end Mz

namespace Mz
open PySem PySem.Spec PyProof.Rows L2

/-! ### no road -/
@[simp] def sNo {α : Type} : Smx α := fun _ => none
@[simp] def sNoS : SSem := fun _ => none
section
variable {X : Cx} {g : Gb} {io : Nat → Option Addr} {Wx : WX} {pos : Pos}
theorem d_no {ex : Expr} : PE X ex (tE X.K g io Wx sNo) := ⟨fun pins s σ H Q I h => by
  obtain ⟨F, R, e, st, h⟩ := h
  exact h.elim⟩
theorem n_no {ex : Expr} : PE X ex (tN X.K g io Wx sNo) := ⟨fun pins s σ H Q I h => by
  obtain ⟨F, R, e, st, h⟩ := h
  exact h.elim⟩
theorem s_no {st : Stmt} : PS X st (tS X.K g io Wx sNoS) := ⟨fun pins s σ H D I h => by
  obtain ⟨F, R, e, st, h⟩ := h
  exact h.elim⟩
end

/-! ### own classes -/
/-- the c-th class and its field x, the j-th -/
structure FldF (K : PySem.W.Frag) (ρ : Rho) (c : Nat) (x : Str) (j : Nat) : Prop where
  ex : ∃ C ns, ρ c = some (C, ns) ∧ Cls K C ∧ NoAttr K C x ∧ ns[j]? = some x ∧ ∀ i, i < j → ns[i]? ≠ some x
@[simp] def oFld (c j : Nat) : D → Option D
  | .ins c' ds => if c' = c then ds[j]? else none
  | _ => none
/-- one operand, frozen data out -/
def sUn (op : D → Option D) (f : Sem) : Sem := fun e => bnd (f e) fun w e' => match rd e' w with
  | some a => (match op a with
    | some d => some (.ok (.dat d) e')
    | none => none)
  | none => none
@[simp ↓] theorem sUn_u (op : D → Option D) (f : Sem) (e : En) : sUn op f e = (bnd (f e) fun w e' => match rd e' w with
  | some a => (match op a with
    | some d => some (.ok (.dat d) e')
    | none => none)
  | none => none) := rfl
theorem lookup_at {x : Str} {v : V} : ∀ {fs : List (Str × V)} {j : Nat}, (fs.map (·.1))[j]? = some x → (fs.map (·.2))[j]? = some v → (∀ i, i < j → (fs.map (·.1))[i]? ≠ some x) → fs.lookup x = some v
  | [], j, h, _, _ => by simp at h
  | (y, u) :: fs, 0, h, h2, _ => by
    simp at h h2
    subst h; subst h2
    simp [List.lookup]
  | (y, u) :: fs, j + 1, h, h2, h3 => by
    have ne : y ≠ x := fun z => h3 0 (Nat.succ_pos _) (by simp [z])
    have e : (x == y) = false := by simpa using (Ne.symm ne)
    have z := lookup_at (x := x) (v := v) (fs := fs) (j := j) (by simpa using h) (by simpa using h2) (fun i hi q => h3 (i + 1) (Nat.succ_lt_succ hi) (by simpa using q))
    simp [List.lookup, e, z]
section
variable {X : Cx} {g : Gb} {io : Nat → Option Addr} {Wx : WX} {pos p : Pos} {a : Expr} {f : Sem}
theorem un_E {op : D → Option D} {r : V → Hp → VK → Prop} (ho : ∀ (F R : Hp) (σ : L2.St) (e : En) (H : Hp) (x : V) (w : W) (a d : D) (Q : VK), Stt X.K g.ρ io F R σ e H → rE X.K g.ρ F R σ H e x w → rd e w = some a → op a = some d →
    (∀ F' H' v, Ext F F' → Stt X.K g.ρ io F' R σ e H' → Dt X.K g.ρ F' v d → Q v H') → r x H Q) (σ : L2.St) (H : Hp) (Q : VK) (q : tE X.K g io Wx (sUn op f) σ H Q) : tE X.K g io Wx f σ H (fun x H1 => r x H1 Q) := by
  refine un_of (k := fun w e' => match rd e' w with
    | some a => (match op a with
      | some d => some (Rs.ok (W.dat d) e')
      | none => none)
    | none => none) (fun F R σ e H x w Q st r h => ?_) σ H Q q
  cases e1 : rd e w with
  | none => rw [e1] at h; exact h.elim
  | some a =>
    rw [e1] at h
    cases e2 : op a with
    | none => simp only [e2] at h; exact h.elim
    | some d =>
      simp only [e2] at h
      exact ho F R σ e H x w a d Q st r e1 e2 fun F' H' v x s z => h F' H' v x s z
theorem d_fld {c j : Nat} {x : Str} (G : FldF X.K g.ρ c x j) (ha : PE X a (tE X.K g io Wx f)) (hb : attributeBase a x X.env (eval a X.env) = eval a X.env := by rfl) : PE X (.Attribute a x pos) (tE X.K g io Wx (sUn (oFld c j) f)) := by
  refine PE.of (pe_fld ha hb) fun σ H Q q0 => un_E (r := fun y H1 Q => ∃ a C dx fs v, y = .ref a ∧ H1 a = some (.ins C dx fs) ∧ Cls X.K C ∧ NoAttr X.K C x ∧ fs.lookup x = some v ∧ Q v H1) (fun F R σ e H v w a d Q st r e1 e2 q => ?_) σ H Q q0
  obtain ⟨C, ns, h1, h2, h3, h4, h5⟩ := G.ex
  cases a with
  | ins c' ds =>
    replace e2 : (if c' = c then ds[j]? else none) = some d := e2
    by_cases hc : c' = c
    · rw [if_pos hc] at e2
      subst hc
      have dt := r.dat st e1 rfl
      cases dt with
      | ins hc h hn hl hi =>
        rw [h1] at hc
        cases hc
        have hj : j < _ := (List.getElem?_eq_some_iff.mp e2).1
        rename_i p dx fs
        have hv : j < (fs.map (·.2)).length := by rw [List.length_map, hl]; exact hj
        refine ⟨p, C, dx, fs, (fs.map (·.2))[j], rfl, st.ext _ _ h, h2, h3, lookup_at (by rw [hn]; exact h4) (List.getElem?_eq_getElem hv) (fun i hi => by rw [hn]; exact h5 i hi), ?_⟩
        exact q F H _ Ext.rfl' st (hi j _ _ (List.getElem?_eq_getElem hv) e2)
    · rw [if_neg hc] at e2; cases e2
  | _ => cases e2
/-! ### properties -/
structure DfP (P : Program) (w : World) (K : PySem.W.Frag) (mg : Str → Option Value) (base : Heap) (g : Gb) (c : Nat) (x : Str) (k : Nat) (m : List D → Option Ot) : Prop where
  ex : ∃ C ns pr gt fd ps, g.ρ c = some (C, ns) ∧ Cls K C ∧ PropOf K C x pr gt ∧ FnOk P w K mg base (L2.CX P w) k gt fd ps (spD K g 1 m) ∧ Binds K fd ps []
@[simp] def kProp (c : Nat) (m : List D → Option Ot) : W → En → Option (Rs W)
  | .dat (.ins c' ds), e => if c' = c then (match m [.ins c' ds] with
    | some (.ok d _) => some (.ok (.dat d) e)
    | _ => none) else none
  | _, _ => none
def sProp (c : Nat) (m : List D → Option Ot) (f : Sem) : Sem := fun e => bnd (f e) (kProp c m)
@[simp ↓] theorem sProp_u (c : Nat) (m : List D → Option Ot) (f : Sem) (e : En) : sProp c m f e = (bnd (f e) (kProp c m)) := rfl
theorem d_prop {c k : Nat} {x : Str} {m : List D → Option Ot} (G : DfP X.prog X.w X.K X.mg X.base g c x k m) (hr : Room (k + 1) X.A) (ha : PE X a (tE X.K g io Wx f)) (hb : attributeBase a x X.env (eval a X.env) = eval a X.env := by rfl) : PE X (.Attribute a x pos) (tE X.K g io Wx (sProp c m f)) := by
  obtain ⟨C, ns, pr, gt, fd, ps, h1, h2, h3, F, h5⟩ := G.ex
  refine PE.of (pe_prop ha h2 h3 F hr h5 .nil passL hb) fun σ H Q q => un_of (k := kProp c m) (r := fun y H1 Q => ∃ a dx fs, y = .ref a ∧ H1 a = some (.ins C dx fs) ∧ spD X.K g 1 m (.ref a :: []) H1 Q E0) (fun Fr R σ e H v w Q st r h => ?_) σ H Q q
  cases w with
  | bor i => exact h.elim
  | dat d =>
    cases d with
    | ins c' ds =>
      replace h : Aft X.K g io (rE X.K g.ρ) Wx Fr R σ Q (if c' = c then (match m [.ins c' ds] with
        | some (.ok d _) => some (.ok (.dat d) e)
        | _ => none) else none) := h
      by_cases hc : c' = c
      · rw [if_pos hc] at h
        subst hc
        have dt : Dt X.K g.ρ Fr v (.ins c' ds) := r
        have dt0 := dt
        cases dt with
        | ins hc hp hn hl hi =>
          rw [h1] at hc
          cases hc
          rename_i pa dx fs
          refine ⟨pa, dx, fs, rfl, st.ext _ _ hp, ?_⟩
          refine sp_call (n := 1) st (Sqs.one dt0) rfl ?_
          revert h
          cases m [.ins c' ds] with
          | none => exact fun z => z
          | some o =>
            cases o with
            | ok d fr =>
              intro q1 F' H' v x s r
              cases fr with
              | false => exact q1 F' H' v x s r
              | true =>
                obtain ⟨F2, x2, s2, dt⟩ := New.freeze s r
                exact q1 F2 H' v (x.trans x2) s2 dt
            | ex c pl => exact fun z => z.elim
      · rw [if_neg hc] at h; exact h.elim
    | _ => exact h.elim
end

/-! ### making -/
inductive Oi where
  | ok (fs : List D) | ex (c : Nat) (pl : List D)
def spMk (K : PySem.W.Frag) (g : Gb) (c n : Nat) (m : List D → Option Oi) : Sp := fun vs H Q E => ∃ F R p C ns dx vs' ds, vs = .ref p :: vs' ∧ Apart F R H ∧ F p = none ∧ R p = none ∧ g.ρ c = some (C, ns) ∧ H p = some (.ins C dx []) ∧ Sqs K g.ρ F vs' ds ∧ ds.length + 1 = n ∧
  match m ds with
  | none => False
  | some (.ok fs) => ∀ F' H' dx' vs2, Ext F F' → Apart F' R H' → F' p = none → H' p = some (.ins C dx' vs2) → vs2.map (·.1) = ns → Sqs K g.ρ F' (vs2.map (·.2)) fs → Q .non H'
  | some (.ex c pl) => ∀ F' H' cls dd, Ext F F' → Apart F' R H' → ExOk K g.ρ g.xa F' H' cls dd c pl → E cls dd H'
structure DfM (P : Program) (w : World) (K : PySem.W.Frag) (mg : Str → Option Value) (base : Heap) (g : Gb) (c : Nat) (x : Str) (k n : Nat) (m : List D → Option Oi) : Prop where
  ex : ∃ C ns f fd ps, g.ρ c = some (C, ns) ∧ mg x = some (.ref C) ∧ Mk K C f ∧ FnOk P w K mg base (L2.CX P w) k f fd ps (spMk K g c n m) ∧ Binds K fd ps []
@[simp] def kMake (c : Nat) (m : List D → Option Oi) (ws : List W) (e : En) : Option (Rs W) := match dats ws with
  | some ds => (match m ds with
    | some (.ok fs) => some (.ok (.dat (.ins c fs)) e)
    | some (.ex c pl) => some (.ex c pl e)
    | none => none)
  | none => none
def sMake (c : Nat) (m : List D → Option Oi) (hs : Smx (List W)) : Sem := fun e => bnd (hs e) (kMake c m)
@[simp ↓] theorem sMake_u (c : Nat) (m : List D → Option Oi) (hs : Smx (List W)) (e : En) : sMake c m hs e = (bnd (hs e) (kMake c m)) := rfl
def AryM (n : Nat) (m : List D → Option Oi) : Prop := ∀ ds, m ds ≠ none → ds.length + 1 = n
section
variable {X : Cx} {g : Gb} {io : Nat → Option Addr} {Wx : WX} {pos p : Pos} {a : Expr} {es : List Expr} {hs : Smx (List W)} {x : Str} {c k n : Nat} {m : List D → Option Oi}
theorem d_make (G : DfM X.prog X.w X.K X.mg X.base g c x k n m) (hn : AryM n m) (hr : Room (k + 1) X.A) (wo : WOk X Wx) (hg : Gl X x) (ha : PA X (a :: es) (tA X.K g io Wx hs)) (hdb : (x == ("__debug__" : Str)) = false := by decide)
    (he : starEach (a :: es) X.env = (false, eval a X.env) :: starEach es X.env := by rfl) (hpl : (backTo pos (starEach es X.env)).any (·.1) = false := by rfl) : PE X (.Call (.Name x p) (a :: es) [] pos) (tE X.K g io Wx (sMake c m hs)) := by
  obtain ⟨C, ns, f, fd, ps, h1, h2, h3, FF, h5⟩ := G.ex
  refine PE.of (pe_make h3 FF hr hg h2 h5 .nil (pass_W wo) ha hdb he hpl) fun σ H Q q => ?_
  obtain ⟨F, R, e, st, q⟩ := q
  refine ⟨F, R, e, st, Aft.bnd (k := kMake c m) q fun ws e1 F1 H1 vs _ x1 s1 r1 q1 => ?_⟩
  unfold kMake at q1
  cases e1' : dats ws with
  | none => rw [e1'] at q1; exact q1.elim
  | some ds =>
    rw [e1'] at q1
    simp only at q1
    have sq := Opds.frozen r1 e1'
    intro pa dx hp hd ne
    rw [List.append_nil]
    have sd := s1.fresh (o := .own pa) hd
    have hp1 : upd H1 dx (.own pa) pa = none := by rw [upd_ne (Ne.symm ne)]; exact hp
    have s2 := sd.fresh (o := .ins C dx []) hp1
    have nF := s1.none_F hp
    have nR := s1.none_R hp
    have nC := s1.noCell hp
    have nR2 : cellsR R (upd (upd H1 dx (.own pa)) pa (.ins C dx [])) σ e1 pa = none := by
      cases z : cellsR R (upd (upd H1 dx (.own pa)) pa (.ins C dx [])) σ e1 pa with
      | none => rfl
      | some o =>
        rcases cellsR_case z with ⟨j, sj, a1, a2, a3, _⟩ | a
        · exact (nC j sj a1 a2 a3).elim
        · rw [nR] at a; cases a
    refine ⟨F1, cellsR R (upd (upd H1 dx (.own pa)) pa (.ins C dx [])) σ e1, pa, C, ns, dx, vs, ds, rfl, s2.apart, nF, nR2, h1, upd_same, sq, hn ds (fun z => by rw [z] at q1; exact q1), ?_⟩
    revert q1
    cases m ds with
    | none => exact fun z => z
    | some o =>
      cases o with
      | ok fs =>
        intro q1 F' H' dx' vs2 x2 ap n1 n2 n3 sq2
        have s3 := s2.back x2 ap
        obtain ⟨s4, x4⟩ := s3.freeze n1 nR nC n2
        refine ⟨rfl, q1 _ H' (.ref pa) (x2.trans x4) s4 (.ins h1 upd_same n3 ?_ fun i v d a b => (sq2.2 i v d a b).mono x4)⟩
        have z := sq2.1
        rw [List.length_map] at z
        exact z
      | ex c pl => exact fun q1 F' H' cls dd x2 ap z => ⟨σ, q1 F' H' cls dd x2 (s2.back x2 ap) z⟩
/-! ### self.x = e in __init__ -/
def sSelf (i : Nat) (x : Str) (f : Sem) : SSem := fun e => run (f e) fun w e' => (match w, e'[i]? with
  | .dat d, some (.mk c fs) => if fs.all (fun q => !(q.1 == x)) && decide (fs.length < 1000) then some (.nx (e'.set i (.mk c (fs ++ [(x, d)])))) else none
  | _, _ => none)
@[simp ↓] theorem sSelf_u (i : Nat) (x : Str) (f : Sem) (e : En) : sSelf i x f e = (run (f e) fun w e' => (match w, e'[i]? with
  | .dat d, some (.mk c fs) => if fs.all (fun q => !(q.1 == x)) && decide (fs.length < 1000) then some (.nx (e'.set i (.mk c (fs ++ [(x, d)])))) else none
  | _, _ => none)) := rfl
structure SetF (K : PySem.W.Frag) (ρ : Rho) (x : Str) : Prop where
  all : ∀ c C ns, ρ c = some (C, ns) → Cls K C ∧ NoAttr K C x
theorem putF_new {x : Str} {v : V} : ∀ {fs : List (Str × V)}, (∀ q ∈ fs, q.1 ≠ x) → putF x v fs = fs ++ [(x, v)]
  | [], _ => rfl
  | (y, u) :: fs, h => by
    show (if y = x then (y, v) :: fs else (y, u) :: putF x v fs) = _
    rw [if_neg (h (y, u) (List.mem_cons_self ..)), putF_new (fun q hq => h q (List.mem_cons_of_mem _ hq))] <;> rfl
variable {f : Sem} {spos : Pos} {y : Str} {i : Nat} {q : Pos}
theorem s_self (S : SetF X.K g.ρ y) (hN : X.N[i]? = some x) (hv : Vis X.env.scope x) (ha : PE X a (tE X.K g io Wx f)) (hd : (x == ("__debug__" : Str)) = false := by decide) (hcd : (x == ("__classdict__" : Str)) = false := by decide)
    (hs : swapsWith a (some (.Attribute (.Name x q) y p)) pos.line X.env = pure false := by rfl) : PS X (.Assign [.Attribute (.Name x q) y p] a pos) (tS X.K g io Wx (sSelf i y f)) := by
  refine PS.of (ps_fld (pe_var hN hv hd hcd) ha hs) fun D' σ H q => ?_
  obtain ⟨F, R, e, st, q⟩ := q
  refine ⟨F, R, e, st, AftS.run (D' := D') (k := fun w e' => (match w, e'[i]? with
    | .dat d, some (.mk c fs) => if fs.all (fun q => !(q.1 == y)) && decide (fs.length < 1000) then some (.nx (e'.set i (.mk c (fs ++ [(y, d)])))) else none
    | _, _ => none)) q fun w e' F' H' v x' s' r q' => ?_⟩
  split at q'
  · rename_i _ _ d c fs hi
    by_cases hz : (fs.all (fun q => !(q.1 == y)) && decide (fs.length < 1000)) = true
    · rw [if_pos hz] at q'
      obtain ⟨z1, z2⟩ := Bool.and_eq_true_iff.mp hz
      have z2 : fs.length < 1000 := of_decide_eq_true z2
      obtain ⟨p, C, ns, dx, vs, k1, k2, k3, k4, k5, k6, k7, k8⟩ := s'.slot i _ hi
      obtain ⟨c1, c2⟩ := S.all c C ns k4
      have hl : i < e'.length := (List.getElem?_eq_some_iff.mp hi).1
      have lv : vs.length = fs.length := by
        have := congrArg List.length k6
        simpa using this
      have nn : ∀ q ∈ vs, q.1 ≠ y := fun q hq e => by
        have m1 : y ∈ vs.map (·.1) := List.mem_map.mpr ⟨q, hq, e⟩
        rw [k6] at m1
        obtain ⟨q2, hq2, e2⟩ := List.mem_map.mp m1
        have := List.all_eq_true.mp z1 q2 hq2
        simp [e2] at this
      refine ⟨_, k1, p, C, dx, vs, rfl, k5, c1, c2, by rw [lv]; exact z2, ?_⟩
      rw [putF_new nn]
      -- the slot holds more
      have nc : NoCell σ (e'.set i .un) p := fun j sj hj cj pj => by
        by_cases hji : i = j
        · subst hji
          rw [List.getElem?_set_self hl] at hj
          cases hj; cases cj
        · rw [List.getElem?_set_ne hji] at hj
          exact s'.inj i j _ _ p hji hi hj rfl cj k1 pj
      have s0 := s'.forget i
      have s1 := (s0.hold k2 k3 nc k5).reframe (o' := HO.ins C dx (vs ++ [(y, v)]))
      obtain ⟨s2, _, _, h9⟩ := s1.letgo k3
      have sig : σ.set i (some (.ref p)) = σ := by
        apply List.ext_getElem?
        intro j
        rw [List.getElem?_set]
        by_cases hj : i = j
        · subst hj
          rw [if_pos rfl, if_pos (by rw [s'.len]; exact hl), k1]
        · rw [if_neg hj]
      have z := s2.setSlot (i := i) (v := .ref p) (sl := .mk c (fs ++ [(y, d)])) (fun _ => by
        rw [sig]
        refine ⟨p, C, ns, dx, _, k1, k2, k3, k4, h9, by rw [List.map_append, List.map_append, k6] <;> rfl, ?_⟩
        rw [List.map_append, List.map_append]
        exact ⟨k7.append (.one r), k8⟩) (fun _ q' hq j sj nj hj cj pj => by
        cases hq
        exact nc j sj hj cj pj)
      rw [sig, List.set_set] at z
      exact q' F' _ σ Ext.rfl' z
    · rw [if_neg hz] at q'; exact q'.elim
  · exact q'.elim
end
/-- self, the parameters, the other slots -/
@[simp] def enM (n c : Nat) (ds : List D) : En := .mk c [] :: (ds.map .val ++ List.replicate (n - 1 - ds.length) .un)
def mSem (n k c : Nat) (ns : List Str) (body : SSem) : List D → Option Oi := fun ds => if ds.length + 1 = k then (match body (enM n c ds) with
  | some (.nx e) => (match e[0]? with
    | some (Sl.mk c' fs) => if c' = c ∧ fs.map (·.1) = ns then some (.ok (fs.map (·.2))) else none
    | _ => none)
  | some (.ex c2 pl _) => some (.ex c2 pl)
  | _ => none) else none
@[simp ↓] theorem mSem_u (n k c : Nat) (ns : List Str) (body : SSem) (ds : List D) : mSem n k c ns body ds = (if ds.length + 1 = k then (match body (enM n c ds) with
  | some (.nx e) => (match e[0]? with
    | some (Sl.mk c' fs) => if c' = c ∧ fs.map (·.1) = ns then some (.ok (fs.map (·.2))) else none
    | _ => none)
  | some (.ex c2 pl _) => some (.ex c2 pl)
  | _ => none) else none) := rfl
theorem ary_mSem (n k c : Nat) (ns : List Str) (body : SSem) : AryM k (mSem n k c ns body) := fun ds h => by
  unfold mSem at h
  by_cases z : ds.length + 1 = k
  · exact z
  · rw [if_neg z] at h; exact absurd rfl h
section
variable {K : PySem.W.Frag} {g : Gb} {F R H : Hp}
theorem stt_startM {p C dx : Addr} {ns : List Str} {c : Nat} {vs : List V} {ds : List D} {n : Nat} (ap : Apart F R H) (nF : F p = none) (nR : R p = none) (hc : g.ρ c = some (C, ns)) (hp : H p = some (.ins C dx [])) (sq : Sqs K g.ρ F vs ds) :
    Stt K g.ρ (fun i => if i = 0 then some p else none) F R (some (.ref p) :: (vs.map some ++ List.replicate (n - 1 - vs.length) none)) (enM n c ds) H := by
  have nc : ∀ (i : Nat) (s : Sl), (ds.map Sl.val ++ List.replicate (n - 1 - ds.length) Sl.un)[i]? = some s → s.cell = false ∧ SlOk K g.ρ (fun _ => none) F R (vs.map some ++ List.replicate (n - 1 - vs.length) none) H i s := fun i s h => by
    by_cases hi : i < (ds.map Sl.val).length
    · rw [List.getElem?_append_left hi, List.getElem?_map] at h
      cases e : ds[i]? with
      | none => rw [e] at h; cases h
      | some d =>
        rw [e] at h
        cases h
        obtain ⟨v, h1, h2⟩ := sq.get e
        refine ⟨rfl, v, ?_, h2⟩
        have hv : i < (vs.map some).length := by rw [List.length_map, sq.1]; simpa using hi
        rw [List.getElem?_append_left hv, List.getElem?_map, h1] <;> rfl
    · rw [List.getElem?_append_right (by omega), List.getElem?_replicate] at h
      split at h
      · cases h; exact ⟨rfl, trivial⟩
      · cases h
  refine ⟨by simp [enM, sq.1], ap.ext, ap.fr, ap.dis, fun i s h => ?_, fun i j si sj q nij hi hj ci cj _ _ => ?_⟩
  · cases i with
    | zero =>
      have h : some (Sl.mk c []) = some s := h
      cases h
      exact ⟨p, C, ns, dx, [], rfl, nF, nR, hc, hp, rfl, .nil, rfl⟩
    | succ i =>
      obtain ⟨c1, c2⟩ := nc i s h
      cases s with
      | un => trivial
      | val d => exact c2
      | _ => cases c1
  · cases i with
    | zero =>
      cases j with
      | zero => exact nij rfl
      | succ j => rw [(nc j sj hj).1] at cj; cases cj
    | succ i => rw [(nc i si hi).1] at ci; cases ci
theorem def_endM {vs : List V} {N : List Str} {k c : Nat} {ns0 : List Str} {body : SSem} {Q : VK} {E : XK} (h : spMk K g c k (mSem N.length k c ns0 body) vs H Q E) (hns : ∀ C ns, g.ρ c = some (C, ns) → ns = ns0) :
    vs.length = k ∧ ∃ io, tS K g io (fun cls d _ H => E cls d H) body { nx := fun _ H' => Q .non H', rt := Q } (L2.start N vs) H := by
  obtain ⟨F, R, p, C, ns, dx, vs', ds, rfl, ap, nF, nR, hc, hp, sq, hl, h⟩ := h
  have en := hns C ns hc
  have hvl : vs'.length + 1 = k := by rw [sq.1]; exact hl
  have es : L2.start N (.ref p :: vs') = some (.ref p) :: (vs'.map some ++ List.replicate (N.length - 1 - vs'.length) none) := by
    unfold L2.start
    rw [List.map_cons, List.length_cons]
    have : N.length - (vs'.length + 1) = N.length - 1 - vs'.length := by omega
    rw [this] <;> rfl
  refine ⟨hvl, fun i => if i = 0 then some p else none, F, R, enM N.length c ds, by rw [es]; exact stt_startM ap nF nR hc hp sq, ?_⟩
  unfold mSem at h
  rw [if_pos hl] at h
  cases e : body (enM N.length c ds) with
  | none => rw [e] at h; exact h.elim
  | some fl =>
    rw [e] at h
    cases fl with
    | nx e' =>
      simp only at h
      cases e2 : e'[0]? with
      | none => rw [e2] at h; exact h.elim
      | some sl =>
        rw [e2] at h
        cases sl with
        | mk c' fs =>
          simp only at h
          by_cases hz : c' = c ∧ fs.map (·.1) = ns0
          · rw [if_pos hz] at h
            obtain ⟨rfl, hz⟩ := hz
            intro F' H' σ' x s
            obtain ⟨p', C', ns', dx', vs2, k1, k2, k3, k4, k5, k6, k7, k8⟩ := s.slot 0 _ e2
            have k8 : some p = some p' := k8
            cases k8
            rw [hc] at k4
            cases k4
            exact h F' H' dx' vs2 x ⟨s.ext, s.fr, s.dis⟩ k2 k5 (k6.trans (hz.trans en.symm)) k7
          · rw [if_neg hz] at h; exact h.elim
        | _ => exact h.elim
    | bk e' => exact h.elim
    | ct e' => exact h.elim
    | rt d fr e' => exact h.elim
    | ex c2 pl e' => exact fun F' H' σ' cls d x s z => h F' H' cls d x ⟨s.ext, s.fr, s.dis⟩ z
end
end Mz

namespace Mz
open PySem PySem.Spec PyProof.Rows L2

/-! ### several targets, the last value a new list -/
def rAO (K : PySem.W.Frag) (ρ : Rho) : Rel (List W × D) (List V) := fun F R σ H e vs wd => ∃ us v, vs = us ++ [v] ∧ Opds K ρ F σ us wd.1 ∧ New K ρ F R σ H e v wd.2
abbrev tAO (K : PySem.W.Frag) (g : Gb) (io : Nat → Option Addr) (Wx : WX) (f : Smx (List W × D)) : TA := tG K g io (rAO K g.ρ) Wx f
def sLastN (f : Smx D) : Smx (List W × D) := fun e => bnd (f e) fun d e' => some (.ok ([], d) e')
@[simp ↓] theorem sLastN_u (f : Smx D) (e : En) : sLastN f e = (bnd (f e) fun d e' => some (.ok ([], d) e')) := rfl
def sConsN (f : Sem) (h : Smx (List W × D)) : Smx (List W × D) := fun e => bnd (f e) fun w e1 => bnd (h e1) fun wd e2 => some (.ok (w :: wd.1, wd.2) e2)
@[simp ↓] theorem sConsN_u (f : Sem) (h : Smx (List W × D)) (e : En) : sConsN f h e = (bnd (f e) fun w e1 => bnd (h e1) fun wd e2 => some (.ok (w :: wd.1, wd.2) e2)) := rfl
section
variable {X : Cx} {g : Gb} {io : Nat → Option Addr} {Wx : WX} {pos : Pos} {a b c : Expr} {f : Sem}
theorem a_lastN {f : Smx D} (ha : PE X a (tN X.K g io Wx f)) (hs : starEach [a] X.env = (false, eval a X.env) :: starEach [] X.env := by rfl) : PA X [a] (tAO X.K g io Wx (sLastN f)) := by
  refine PA.of (pa_cons ha pa_nil hs) fun σ H Q q => ?_
  obtain ⟨F, R, e, st, q⟩ := q
  refine ⟨F, R, e, st, Aft.bnd (k := fun d e' => some (.ok ([], d) e')) q fun d e' F' H' v _ x s n q => ?_⟩
  exact Aft.ok (v := [v]) q s ⟨[], v, rfl, .nil, n⟩
theorem a_consN {es : List Expr} {h : Smx (List W × D)} (ha : PE X a (tE X.K g io Wx f)) (hr : PA X es (tAO X.K g io Wx h)) (hs : starEach (a :: es) X.env = (false, eval a X.env) :: starEach es X.env := by rfl) :
    PA X (a :: es) (tAO X.K g io Wx (sConsN f h)) := by
  refine PA.of (pa_cons ha hr hs) fun σ H Q q => ?_
  obtain ⟨F, R, e, st, q⟩ := q
  refine ⟨F, R, e, st, Aft.bnd (k := fun w e1 => bnd (h e1) fun wd e2 => some (.ok (w :: wd.1, wd.2) e2)) q fun w e1 F1 H1 v1 _ x1 s1 r1 q1 => ?_⟩
  refine ⟨F1, R, e1, s1, Aft.bnd (k := fun wd e2 => some (.ok (w :: wd.1, wd.2) e2)) q1 fun wd e2 F2 H2 v2 _ x2 s2 r2 q2 => ?_⟩
  obtain ⟨us, v, rfl, o, n⟩ := r2
  exact Aft.ok (v := v1 :: (us ++ [v])) q2 s2 ⟨v1 :: us, v, rfl, Opds.cons (H' := H2) (e' := e2) (r1.mono (R := R) (H := H2) (e := e2) x2) o, n⟩
/-- several stores, the last takes the new list -/
abbrev TgtO := List D → D → En → Option En
def PGso (X : Cx) (g : Gb) (io : Nat → Option Addr) (ts : List Expr) (r : TGs) (t : TgtO) : Prop := PGs X ts r ∧ ∀ (F R : Hp) (σ : L2.St) (e e' : En) (H : Hp) (us : List V) (v : V) (ds : List D) (d : D) (Q : L2.St → Hp → Prop), Stt X.K g.ρ io F R σ e H → Sqs X.K g.ρ F us ds →
  New X.K g.ρ F R σ H e v d → t ds d e = some e' → (∀ σ', Stt X.K g.ρ io F R σ' e' H → Q σ' H) → r (us ++ [v]) σ H Q
def goOne (i : Nat) : TgtO := fun ds d e => match ds with
  | [] => some (e.set i (.own d))
  | _ => none
@[simp ↓] theorem goOne_u (i : Nat) (ds : List D) (d : D) (e : En) : goOne i ds d e = (match ds with
  | [] => some (e.set i (.own d))
  | _ => none) := rfl
def goCons (t : Tgt) (u : TgtO) : TgtO := fun ds d e => match ds with
  | d1 :: ds => (match t d1 e with
    | some e1 => u ds d e1
    | none => none)
  | [] => none
@[simp ↓] theorem goCons_u (t : Tgt) (u : TgtO) (ds : List D) (d : D) (e : En) : goCons t u ds d e = (match ds with
  | d1 :: ds => (match t d1 e with
    | some e1 => u ds d e1
    | none => none)
  | [] => none) := rfl
theorem go_one {i : Nat} {x : Str} (hN : X.N.Nodup) (hi : X.N[i]? = some x) (hx : Loc X.env.scope x) (hf : X.fn x = true ∨ X.env.scope.names.lookup x = some .local := by first | exact .inl rfl | exact .inr rfl | assumption) (hs : (assignEach [Expr.Name x pos] X.env).map (·.2) = assign (.Name x pos) X.env :: (assignEach [] X.env).map (·.2) := by rfl) :
    PGso X g io [.Name x pos] (gCons (gName i) gNil) (goOne i) := by
  refine ⟨pgs_cons (pg_name hN hi hx hf) pgs_nil hs, fun F R σ e e' H us v ds d Q st sq n ht q => ?_⟩
  cases ds with
  | nil =>
    cases ht
    have : us = [] := List.eq_nil_of_length_eq_zero sq.1
    subst this
    exact ⟨v, [], rfl, rfl, q _ (st.setOwn i n)⟩
  | cons => cases ht
theorem go_cons {ex : Expr} {es : List Expr} {r : TG} {rs : TGs} {t : Tgt} {u : TgtO} (h1 : PGd X g io ex r t) (h2 : PGso X g io es rs u) (hs : (assignEach (ex :: es) X.env).map (·.2) = assign ex X.env :: (assignEach es X.env).map (·.2) := by rfl) :
    PGso X g io (ex :: es) (gCons r rs) (goCons t u) := by
  refine ⟨pgs_cons h1.1 h2.1 hs, fun F R σ e e' H us v ds d Q st sq n ht q => ?_⟩
  cases ds with
  | nil => cases ht
  | cons d1 ds =>
    obtain ⟨v1, us', rfl⟩ : ∃ v us', us = v :: us' := by
      cases us with
      | nil => have := sq.1; simp at this
      | cons v us' => exact ⟨v, us', rfl⟩
    unfold goCons at ht
    simp only at ht
    cases t1 : t d1 e with
    | none => rw [t1] at ht; cases ht
    | some e1 =>
      rw [t1] at ht
      obtain ⟨p, o, rfl, nF, nR, nC, hp, co⟩ := n
      have sh := st.hold nF nR nC hp
      refine ⟨v1, us' ++ [.ref p], rfl, h1.2 F (upd R p o) σ e e1 H v1 d1 _ sh (sq.2 0 v1 d1 rfl rfl) t1 fun σ1 s1 => ?_⟩
      obtain ⟨s2, k1, k2, k3⟩ := s1.letgo nR
      exact h2.2 F R σ1 e1 e' H us' (.ref p) ds d Q s2 ⟨by simpa using sq.1, fun i v d a b => sq.2 (i + 1) v d (by simpa using a) (by simpa using b)⟩ ⟨p, o, rfl, k1, nR, k2, k3, co⟩ ht q
/-- t1, .. = e1, .., [..] -/
def sTupO (n : Nat) (hs : Smx (List W × D)) (u : TgtO) : SSem := fun e => run (hs e) fun wd e' => (match dats wd.1 with
  | some ds => if ds.length + 1 = n ∧ n ≤ sizeLine then (match u ds wd.2 e' with
    | some e2 => some (.nx e2)
    | none => none) else none
  | none => none)
@[simp ↓] theorem sTupO_u (n : Nat) (hs : Smx (List W × D)) (u : TgtO) (e : En) : sTupO n hs u e = (run (hs e) fun wd e' => (match dats wd.1 with
  | some ds => if ds.length + 1 = n ∧ n ≤ sizeLine then (match u ds wd.2 e' with
    | some e2 => some (.nx e2)
    | none => none) else none
  | none => none)) := rfl
theorem s_tupO {es ts : List Expr} {n : Nat} {rs : TGs} {u : TgtO} {hs : Smx (List W × D)} {kt pt p2 x1} (hc : X.calm = true) (ha : PA X es (tAO X.K g io Wx hs)) (hg : PGso X g io ts rs u) (hn : (assignEach ts X.env).length = n := by rfl) (hst : (assignEach ts X.env).findIdx? (·.1) = none := by rfl)
    (hsw : swapsWithSole [.Tuple ts kt pt] (.Tuple es x1 p2) pos.line X.env = pure false := by rfl) (hw : swappedStores [.Tuple ts kt pt] (.Tuple es x1 p2) X.env = pure none := by rfl)
    (h1 : (assignEach [.Tuple ts kt pt] X.env).map (·.2) = [assign (.Tuple ts kt pt) X.env] := by rfl) : PS X (.Assign [.Tuple ts kt pt] (.Tuple es x1 p2) pos) (tS X.K g io Wx (sTupO n hs u)) := by
  refine PS.of (ps_asg (pe_tup ha) (pg_tup hc hg.1 hn hst) hsw hw h1) fun D' σ H q => ?_
  obtain ⟨F, R, e, st, q⟩ := q
  refine ⟨F, R, e, st, AftS.run (D' := D') (k := fun wd e' => (match dats wd.1 with
    | some ds => if ds.length + 1 = n ∧ n ≤ sizeLine then (match u ds wd.2 e' with
      | some e2 => some (.nx e2)
      | none => none) else none
    | none => none)) q fun wd e' F' H' vs x s r q => ?_⟩
  obtain ⟨us, v, rfl, o, nw⟩ := r
  cases e1 : dats wd.1 with
  | none => simp only [e1] at q; exact q.elim
  | some ds =>
    simp only [e1] at q
    by_cases hz : ds.length + 1 = n ∧ n ≤ sizeLine
    · rw [if_pos hz] at q
      have sq := Opds.frozen o e1
      have hl : (us ++ [v]).length = n := by rw [List.length_append, sq.1]; exact hz.1
      cases e2 : u ds wd.2 e' with
      | none => rw [e2] at q; exact q.elim
      | some e2' =>
        rw [e2] at q
        refine ⟨by rw [hl]; exact hz.2, fun p hp => ?_⟩
        have s2 := s.fresh (o := .tup (us ++ [v])) hp
        obtain ⟨pl, ol, rfl, nF, nR, nC, hpl, co⟩ := nw
        have ne : pl ≠ p := fun z => by rw [z, hp] at hpl; cases hpl
        refine ⟨p, us ++ [.ref pl], rfl, SqT.of upd_same, hl, hg.2 F' R σ e' e2' _ us (.ref pl) ds wd.2 _ s2 sq ⟨pl, ol, rfl, nF, nR, nC, by rw [upd_ne ne]; exact hpl, co⟩ e2 fun σ' s' => q F' _ σ' Ext.rfl' s'⟩
    · rw [if_neg hz] at q; exact q.elim
/-- x, y = e, [..], without a pair -/
def sParO (i j : Nat) (hs : Smx (List W × D)) : SSem := fun e => run (hs e) fun wd e' => (match wd.1 with
  | [.dat d] => some (.nx ((e'.set i (.val d)).set j (.own wd.2)))
  | _ => none)
@[simp ↓] theorem sParO_u (i j : Nat) (hs : Smx (List W × D)) (e : En) : sParO i j hs e = (run (hs e) fun wd e' => (match wd.1 with
  | [.dat d] => some (.nx ((e'.set i (.val d)).set j (.own wd.2)))
  | _ => none)) := rfl
theorem New.setV {K : PySem.W.Frag} {F R : Hp} {σ : L2.St} {H : Hp} {e : En} {v v1 : V} {d d1 : D} {i : Nat} (st : Stt K g.ρ io F R σ e H) (n : New K g.ρ F R σ H e v d) (h : Dt K g.ρ F v1 d1) : New K g.ρ F R (σ.set i (some v1)) H (e.set i (.val d1)) v d := by
  obtain ⟨p, o, rfl, nF, nR, nC, hp, co⟩ := n
  obtain ⟨s2, k1, k2, k3⟩ := ((st.hold nF nR nC hp).setVal i h).letgo nR
  exact ⟨p, o, rfl, nF, nR, k2, hp, co⟩
theorem s_parO {i j : Nat} {x y : Str} {hs : Smx (List W × D)} {px py pt : Pos} {kt k2 pt2} (hc : X.calm = true) (hN : X.N.Nodup) (hi : X.N[i]? = some x) (hj : X.N[j]? = some y) (hij : i ≠ j)
    (hx : X.env.scope.names.lookup x = some .local) (hy : X.env.scope.names.lookup y = some .local) (ha : PA X [a, b] (tAO X.K g io Wx hs))
    (hw : swappedStores [.Tuple [.Name x px, .Name y py] kt pt] (.Tuple [a, b] k2 pt2) X.env = pure (some [x, y]))
    (hsw : swapsWithSole [.Tuple [.Name x px, .Name y py] kt pt] (.Tuple [a, b] k2 pt2) pos.line X.env = pure false := by rfl) :
    PS X (.Assign [.Tuple [.Name x px, .Name y py] kt pt] (.Tuple [a, b] k2 pt2) pos) (tS X.K g io Wx (sParO i j hs)) := by
  refine PS.of (ps_par hc hN hi hj hij hx hy ha hw hsw) fun D' σ H q => ?_
  obtain ⟨F, R, e, st, q⟩ := q
  refine ⟨F, R, e, st, AftS.run (D' := D') (k := fun wd e' => (match wd.1 with
    | [.dat d] => some (.nx ((e'.set i (.val d)).set j (.own wd.2)))
    | _ => none)) q fun wd e' F' H' vs x s r q => ?_⟩
  obtain ⟨us, v, rfl, o, n⟩ := r
  obtain ⟨ws, dl⟩ := wd
  cases o with
  | nil => exact q.elim
  | bor h t => exact q.elim
  | dat h t =>
    cases t with
    | nil => exact ⟨_, _, rfl, q F' H' _ Ext.rfl' ((s.setVal i h).setOwn j (n.setV s h))⟩
    | dat _ _ => exact q.elim
    | bor _ _ => exact q.elim
/-- three -/
def sPar3 (i j l : Nat) (hs : Smx (List W)) : SSem := fun e => run (hs e) fun ws e' => match ws with
  | [.dat d, .dat d', .dat d2] => some (.nx (((e'.set i (.val d)).set j (.val d')).set l (.val d2)))
  | _ => none
@[simp ↓] theorem sPar3_u (i j l : Nat) (hs : Smx (List W)) (e : En) : sPar3 i j l hs e = (run (hs e) fun ws e' => match ws with
  | [.dat d, .dat d', .dat d2] => some (.nx (((e'.set i (.val d)).set j (.val d')).set l (.val d2)))
  | _ => none) := rfl
theorem s_par3 {i j l : Nat} {x y z : Str} {hs : Smx (List W)} {px py pz pt : Pos} {kt k2 pt2} (hc : X.calm = true) (hN : X.N.Nodup) (hi : X.N[i]? = some x) (hj : X.N[j]? = some y) (hl : X.N[l]? = some z) (hij : i ≠ j) (hil : i ≠ l) (hjl : j ≠ l)
    (hx : X.env.scope.names.lookup x = some .local) (hy : X.env.scope.names.lookup y = some .local) (hz : X.env.scope.names.lookup z = some .local) (ha : PA X [a, b, c] (tA X.K g io Wx hs))
    (hw : swappedStores [.Tuple [.Name x px, .Name y py, .Name z pz] kt pt] (.Tuple [a, b, c] k2 pt2) X.env = pure (some [x, y, z]))
    (hsw : swapsWithSole [.Tuple [.Name x px, .Name y py, .Name z pz] kt pt] (.Tuple [a, b, c] k2 pt2) pos.line X.env = pure false := by rfl) :
    PS X (.Assign [.Tuple [.Name x px, .Name y py, .Name z pz] kt pt] (.Tuple [a, b, c] k2 pt2) pos) (tS X.K g io Wx (sPar3 i j l hs)) := by
  refine PS.of (ps_par3 hc hN hi hj hl hij hil hjl hx hy hz ha hw hsw) fun D' σ H q => ?_
  obtain ⟨F, R, e, st, q⟩ := q
  refine ⟨F, R, e, st, AftS.run (D' := D') (k := fun ws e' => match ws with
  | [.dat d, .dat d', .dat d2] => some (.nx (((e'.set i (.val d)).set j (.val d')).set l (.val d2)))
  | _ => none) q fun ws e' F' H' vs x s r q => ?_⟩
  cases r with
  | nil => exact q.elim
  | bor h t => exact q.elim
  | dat h t =>
    cases t with
    | nil => exact q.elim
    | bor h2 t2 => exact q.elim
    | dat h2 t2 =>
      cases t2 with
      | nil => exact q.elim
      | bor _ _ => exact q.elim
      | dat h3 t3 =>
        cases t3 with
        | nil => exact ⟨_, _, _, rfl, q F' H' _ Ext.rfl' (((s.setVal i h).setVal j h2).setVal l h3)⟩
        | dat _ _ => exact q.elim
        | bor _ _ => exact q.elim
def sPar3O (i j l : Nat) (hs : Smx (List W × D)) : SSem := fun e => run (hs e) fun wd e' => (match wd.1 with
  | [.dat d, .dat d'] => some (.nx (((e'.set i (.val d)).set j (.val d')).set l (.own wd.2)))
  | _ => none)
@[simp ↓] theorem sPar3O_u (i j l : Nat) (hs : Smx (List W × D)) (e : En) : sPar3O i j l hs e = (run (hs e) fun wd e' => (match wd.1 with
  | [.dat d, .dat d'] => some (.nx (((e'.set i (.val d)).set j (.val d')).set l (.own wd.2)))
  | _ => none)) := rfl
theorem s_par3O {i j l : Nat} {x y z : Str} {hs : Smx (List W × D)} {px py pz pt : Pos} {kt k2 pt2} (hc : X.calm = true) (hN : X.N.Nodup) (hi : X.N[i]? = some x) (hj : X.N[j]? = some y) (hl : X.N[l]? = some z) (hij : i ≠ j) (hil : i ≠ l) (hjl : j ≠ l)
    (hx : X.env.scope.names.lookup x = some .local) (hy : X.env.scope.names.lookup y = some .local) (hz : X.env.scope.names.lookup z = some .local) (ha : PA X [a, b, c] (tAO X.K g io Wx hs))
    (hw : swappedStores [.Tuple [.Name x px, .Name y py, .Name z pz] kt pt] (.Tuple [a, b, c] k2 pt2) X.env = pure (some [x, y, z]))
    (hsw : swapsWithSole [.Tuple [.Name x px, .Name y py, .Name z pz] kt pt] (.Tuple [a, b, c] k2 pt2) pos.line X.env = pure false := by rfl) :
    PS X (.Assign [.Tuple [.Name x px, .Name y py, .Name z pz] kt pt] (.Tuple [a, b, c] k2 pt2) pos) (tS X.K g io Wx (sPar3O i j l hs)) := by
  refine PS.of (ps_par3 hc hN hi hj hl hij hil hjl hx hy hz ha hw hsw) fun D' σ H q => ?_
  obtain ⟨F, R, e, st, q⟩ := q
  refine ⟨F, R, e, st, AftS.run (D' := D') (k := fun wd e' => (match wd.1 with
    | [.dat d, .dat d'] => some (.nx (((e'.set i (.val d)).set j (.val d')).set l (.own wd.2)))
    | _ => none)) q fun wd e' F' H' vs x s r q => ?_⟩
  obtain ⟨us, v, rfl, o, n⟩ := r
  obtain ⟨ws, dl⟩ := wd
  cases o with
  | nil => exact q.elim
  | bor h t => exact q.elim
  | dat h t =>
    cases t with
    | nil => exact q.elim
    | bor _ _ => exact q.elim
    | dat h2 t2 =>
      cases t2 with
      | nil => exact ⟨_, _, _, rfl, q F' H' _ Ext.rfl' (((s.setVal i h).setVal j h2).setOwn l ((n.setV s h).setV (s.setVal i h) h2))⟩
      | dat _ _ => exact q.elim
      | bor _ _ => exact q.elim
end

/-! ### isinstance -/
inductive Tn where
  | ty (n : String) | own (c : Nat)
/-- the types that are met -/
@[simp] def tyN : D → String
  | .non => "NoneType"
  | .bl _ => "bool"
  | .int _ => "int"
  | .str _ => "str"
  | .lst _ => "list"
  | .tup _ => "tuple"
  | .ro _ => "list"
  | .dct _ _ => "dict"
  | .ins _ _ => ""
@[simp] def isTy (T : String) (d : D) : Bool := match d with
  | .ins _ _ => false
  | d => (L2.kitB (tyN d) T).getD false
@[simp] def isT : Tn → D → Bool
  | .ty T, d => isTy T d
  | .own c, .ins c' _ => c' == c
  | .own _, _ => false
def tyNs : List String := ["NoneType", "bool", "int", "str", "list", "tuple", "dict"]
def oneT (T : Tn) (t : String) : Bool := match T with
  | .ty n => (L2.kitB t n).getD false
  | .own _ => false
def insT (T : Tn) (c : Nat) : Bool := match T with
  | .ty _ => false
  | .own c' => c == c'
/-- what isinstance needs of the classes -/
structure IsF (K : PySem.W.Frag) (ρ : Rho) (T : Tn) (u : Value) : Prop where
  val : match T with
    | .ty n => u = .type n
    | .own c => ∃ C ns, ρ c = some (C, ns) ∧ u = .ref C
  one : ∀ t ∈ tyNs, PySem.W.kitOne K (.type t) u = some (oneT T t)
  ins : ∀ c C ns, ρ c = some (C, ns) → Cls K C ∧ PySem.W.findIn K (.ref C) "__class__" = some (some (.builtin "object.__class__")) ∧ PySem.W.specialIn K (.builtin "object.__class__") "__get__" = some (some (.builtin "getset_descriptor.__get__")) ∧
    PySem.W.takesIn K (.builtin "object.__class__") = some true ∧ PySem.W.mroIn K C (.type "object") = some true ∧ PySem.W.kitOne K (.ref C) u = some (insT T c)
def clsV : Tn → Rho → V
  | .ty n, _ => .ty n
  | .own c, ρ => match ρ c with
    | some (C, _) => .ref C
    | none => .non
theorem rd_list {H : Hp} {a : Addr} {xs : List V} {K : PySem.W.Frag} (h : SqL K H a xs) : TyX K H (.ref a) (.type "list") := by
  rcases h with (h | ⟨o, h⟩) | ⟨o, its, n, h1, h2, _⟩
  · exact .base (.lst h)
  · exact .base (.frz h)
  · exact .kList h1 h2
theorem rd_tup {H : Hp} {a : Addr} {xs : List V} {K : PySem.W.Frag} (h : SqT K H a xs) : TyX K H (.ref a) (.type "tuple") := by
  rcases h with (h | ⟨o, h⟩) | ⟨o, its, n, h1, h2, _⟩
  · exact .base (.tup h)
  · exact .fTuple h
  · exact .kTuple h1 h2
theorem isi_ok {K : PySem.W.Frag} {ρ : Rho} {H : Hp} {v : V} {d : D} {T : Tn} {u : Value} (f : IsF K ρ T u) (h : Dt K ρ H v d) : ∃ t, TyX K H v t ∧ PySem.W.kitOne K t u = some (isT T d) := by
  have one : ∀ t ∈ tyNs, (∀ c ds, d ≠ .ins c ds) → tyN d = t → PySem.W.kitOne K (.type t) u = some (isT T d) := fun t ht hd e => by
    rw [f.one t ht]
    cases T with
    | ty n =>
      cases d with
      | ins c ds => exact absurd rfl (hd c ds)
      | _ => subst e; rfl
    | own c =>
      cases d with
      | ins c ds => exact absurd rfl (hd c ds)
      | _ => rfl
  cases h with
  | non => exact ⟨_, .base .non, one _ (by decide) (fun _ _ z => nomatch z) rfl⟩
  | bl b => exact ⟨_, .base (.bl b), one _ (by decide) (fun _ _ z => nomatch z) rfl⟩
  | int i => exact ⟨_, .base (.int i), one _ (by decide) (fun _ _ z => nomatch z) rfl⟩
  | str s => exact ⟨_, .base (.str s), one _ (by decide) (fun _ _ z => nomatch z) rfl⟩
  | lst h => exact ⟨_, .base (.lst h), one _ (by decide) (fun _ _ z => nomatch z) rfl⟩
  | dct h => exact ⟨_, .base (.dK h), one _ (by decide) (fun _ _ z => nomatch z) rfl⟩
  | ro h => exact ⟨_, rd_list h, one _ (by decide) (fun _ _ z => nomatch z) rfl⟩
  | tup h => exact ⟨_, rd_tup h, one _ (by decide) (fun _ _ z => nomatch z) rfl⟩
  | ins hc h =>
    obtain ⟨c1, c2, c3, c4, c5, c6⟩ := f.ins _ _ _ hc
    refine ⟨_, .base (.ins h c1 c2 c3 c4 c5), c6.trans ?_⟩
    cases T <;> rfl
@[simp] def sIsi (T : Tn) (f : Sem) : Sem := sUn (fun d => some (.bl (isT T d))) f
section
variable {X : Cx} {g : Gb} {io : Nat → Option Addr} {Wx : WX} {pos p q : Pos} {a : Expr} {f : Sem} {x : Str} {T : Tn} {u : Value}
/-- the class as written -/
structure ClsN (X : Cx) (ρ : Rho) (T : Tn) (x : Str) : Prop where
  pe : ∀ q, PE X (.Name x q) (tC (clsV T ρ))
theorem clsN_ty {n : String} {ρ : Rho} (hg : Gl X x) (hm : X.mg x = none) (hv : bootBuiltins x = some (.type n)) (hn : x ≠ "__name__" := by decide) (hd : (x == ("__debug__" : Str)) = false := by decide) : ClsN X ρ (.ty n) x := ⟨fun q => pe_bltn hg hm hv rfl hn hd⟩
theorem clsN_own {c : Nat} {C : Addr} {ns : List Str} {ρ : Rho} (hg : Gl X x) (hc : ρ c = some (C, ns)) (hm : X.mg x = some (.ref C)) (hd : (x == ("__debug__" : Str)) = false := by decide) : ClsN X ρ (.own c) x := ⟨fun q => by
  have e : clsV (.own c) ρ = .ref C := by simp only [clsV, hc]
  rw [e]
  exact pe_glob hg hm rfl hd⟩
theorem d_isi (N : ClsN X g.ρ T x) (fs : IsF X.K g.ρ T u) (hgi : Gl X "isinstance") (hmi : X.mg "isinstance" = none) (ha : PE X a (tE X.K g io Wx f)) 
    (he : starEach (a :: [.Name x q]) X.env = (false, eval a X.env) :: starEach [.Name x q] X.env := by rfl) (hpl : (backTo pos (starEach [.Name x q] X.env)).any (·.1) = false := by rfl) (he2 : starEach [.Name x q] X.env = (false, eval (.Name x q) X.env) :: starEach [] X.env := by rfl) :
    PE X (.Call (.Name "isinstance" p) [a, .Name x q] [] pos) (tE X.K g io Wx (sIsi T f)) := by
  have boot : bootBuiltins "isinstance" = some (.builtin "isinstance") := by first | rfl | decide +kernel
  refine PE.of (pe_callB call_isi hgi hmi boot (pa_cons ha (pa_cons (N.pe q) pa_nil he2) he) (by decide) (by decide) he hpl) fun σ H Q q0 => ?_
  refine un_E (op := fun d => some (.bl (isT T d))) (r := fun v H1 Q => rIsi X.K [v, clsV T g.ρ] H1 Q) (fun F R σ e H v w a d Q st r e1 e2 q => ?_) σ H Q q0
  cases e2
  obtain ⟨t, k1, k2⟩ := isi_ok fs (r.view st e1)
  refine ⟨v, clsV T g.ρ, t, u, _, rfl, ?_, k1, k2, q F H _ Ext.rfl' st (.bl _)⟩
  cases T with
  | ty n => rw [show u = .type n from fs.val]; exact .ty n
  | own c =>
    obtain ⟨C, ns, hc, rfl⟩ := fs.val
    have e : clsV (.own c) g.ρ = .ref C := by simp only [clsV, hc]
    rw [e]
    exact .own C
end
end Mz

namespace Mz
open PySem PySem.Spec PyProof.Rows L2

/-! ### over tuples -/
def oTupI (k : List Int → Option D) : List D → Option D
  | [.tup ds] => (toInts ds).bind k
  | _ => none
section
variable {X : Cx} {g : Gb}
theorem tupI {io : Nat → Option Addr} {K : PySem.W.Frag} {F R H : Hp} {σ : L2.St} {e : En} {vs : List V} {ws : List W} {ds : List D} {d : D} {k : List Int → Option D} (st : Stt K g.ρ io F R σ e H) (ho : Opds K g.ρ F σ vs ws) (hr : rds e ws = some ds) (hop : oTupI k ds = some d) :
    ∃ p ns, vs = [V.ref p] ∧ SqT K H p (ns.map V.int) ∧ k ns = some d := by
  match ds, hop with
  | [.tup ds], hop =>
    have hop : (toInts ds).bind k = some d := hop
    rw [Option.bind_eq_some_iff] at hop
    obtain ⟨ns, h1, h2⟩ := hop
    obtain ⟨v, w, rfl, r, er⟩ := opds1 (R := R) (H := H) ho hr
    obtain ⟨p, vs, rfl, h3, h4⟩ := r.seqT st er
    rw [toInts_eq _ _ h1] at h4
    rw [h4.ints] at h3
    exact ⟨p, ns, rfl, h3.ext st.ext, h2⟩
def oMaxT : List D → Option D := oTupI fun ns => (maxI ns).map .int
def oMinT : List D → Option D := oTupI fun ns => (minI ns).map .int
def oSumT : List D → Option D := oTupI fun ns => some (.int ns.sum)
end

/-! ### the head -/
/-- one def: how its function is found, its text -/
structure Dm where
  at_ : PySem.W.Frag → Addr
  name : Str
  qual : Str
  st : Stmt
def Dm.obs (K : PySem.W.Frag) (d : Dm) : He.FnV := match K.lookup (d.at_ K) with
  | some ⟨_, _, .func fd, _⟩ => some (fd.name, fd.qualname, fd.params, fd.body, fd.scope, fd.globals, fd.closure, fd.defaults, fd.builtins)
  | _ => none
def Dm.val (d : Dm) : He.FnV := some (d.name, d.qual, defArgs d.st, .stmts (defBody d.st), defScope d.st, mainGlobals, [], .none, builtinsNs)
def Dm.ok (K : PySem.W.Frag) (d : Dm) : Bool := PySem.W.keepIn K (.ref (d.at_ K)) && match K.lookup (d.at_ K) with
  | some ⟨_, _, .func fd, _⟩ => PySem.W.codeIn K fd.code d.qual
  | _ => false
theorem Dm.fun_ {K : PySem.W.Frag} {d : Dm} (e : d.obs K = d.val) (c : d.ok K = true) : ∃ fd, Fun K d.name d.qual d.st (d.at_ K) fd := by
  obtain ⟨kp, c2⟩ := He.ba c
  unfold Dm.obs at e
  cases q : K.lookup (d.at_ K) with
  | none =>
    rw [q] at c2
    cases c2
  | some o =>
    obtain ⟨oc, od, dt, osl⟩ := o
    rw [q] at c2 e
    cases dt with
    | func fd =>
      obtain ⟨n1, n2, n3, n4, n5, n6, n7, n8, n9, n10, n11, n12, n13, n14, n15⟩ := fd
      have e2 : (some (n1, n2, n3, n4, n5, n6, n7, n8, n15) : He.FnV) = some (d.name, d.qual, defArgs d.st, .stmts (defBody d.st), defScope d.st, mainGlobals, [], .none, builtinsNs) := e
      simp only [Option.some.injEq, Prod.mk.injEq] at e2
      obtain ⟨h1, h2, h3, h4, h5, h6, h7, h8, h9⟩ := e2
      subst h1 h2 h3 h4 h5 h6 h7 h8 h9
      exact ⟨_, fun_mk q c2 kp⟩
    | _ => cases c2
abbrev Fb := PySem.W.Frag → Bool
def obsM (bs : List Fb) (ds : List Dm) (K : PySem.W.Frag) : He.Al := ((bs.all fun f => f K) && ds.all fun d => d.ok K, ds.map fun d => d.obs K)
def valM (ds : List Dm) : He.Al := (true, ds.map Dm.val)
def SaysM (bs : List Fb) (ds : List Dm) (K : PySem.W.Frag) : Prop := obsM bs ds K = valM ds
def obsMG (n : Nat) (bs : List Fb) (ds : List Dm) (g : Addr → Option Obj) : He.Al := obsM bs ds (He.frG g (He.asG g n))
def hookM (n : Nat) (bs : List Fb) (ds : List Dm) : PySem.W.Hook where
  α := He.Al
  obs := fun s => obsMG n bs ds s.heap.get?
  val := fun _ => valM ds
  says := fun _ h => ∃ K : PySem.W.Frag, K.In h ∧ SaysM bs ds K
  of := fun _ _ e => ⟨_, He.frG_in, e⟩
  keeps := fun _ _ _ ⟨K, hK, c⟩ k => ⟨K, PySem.W.Frag.In.keeps hK k, c⟩
theorem obsMG_eq {n : Nat} {bs : List Fb} {ds : List Dm} {g : Addr → Option Obj} {s : Shared} (h : ∀ a, g a = s.heap.get? a) : obsMG n bs ds g = (hookM n bs ds).obs s := by
  have e : g = s.heap.get? := funext h
  rw [e] <;> rfl
section
variable {bs : List Fb} {ds : List Dm} {K : PySem.W.Frag}
theorem SaysM.fact (c : SaysM bs ds K) (i : Nat) {f : Fb} (h : bs[i]? = some f := by rfl) : f K = true := by
  have c1 := (He.ba (show ((bs.all fun f => f K) && ds.all fun d => d.ok K) = true from congrArg (fun z : He.Al => z.1) c)).1
  exact List.all_eq_true.mp c1 f (List.mem_of_getElem? h)
theorem SaysM.def_ (c : SaysM bs ds K) (i : Nat) {d : Dm} (h : ds[i]? = some d := by rfl) : ∃ fd, Fun K d.name d.qual d.st (d.at_ K) fd := by
  have c2 := (He.ba (show ((bs.all fun f => f K) && ds.all fun d => d.ok K) = true from congrArg (fun z : He.Al => z.1) c)).2
  have e : ds.map (fun d => d.obs K) = ds.map Dm.val := congrArg (fun z : He.Al => z.2) c
  have e2 : (ds.map fun d => d.obs K)[i]? = (ds.map Dm.val)[i]? := by rw [e]
  rw [List.getElem?_map, List.getElem?_map, h] at e2
  exact Dm.fun_ (Option.some.inj e2) (List.all_eq_true.mp c2 d (List.mem_of_getElem? h))
end
/-! ### facts of classes -/
abbrev Cls_ := List (Str × List Str)
def rhoK (cs : Cls_) (K : PySem.W.Frag) : Rho := fun c => (cs[c]?).map fun q => (He.ga K q.1, q.2)
theorem rho_at {cs : Cls_} {K : PySem.W.Frag} {c : Nat} {C : Addr} {ns : List Str} (h : rhoK cs K c = some (C, ns)) : ∃ x, cs[c]? = some (x, ns) ∧ C = He.ga K x := by
  unfold rhoK at h
  rw [Option.map_eq_some_iff] at h
  obtain ⟨⟨x, ns'⟩, h1, h2⟩ := h
  cases h2
  exact ⟨x, h1, rfl⟩
/-- every class has it -/
def allC (cs : Cls_) (f : Nat → Str × List Str → Bool) : Bool := (List.range cs.length).all fun c => match cs[c]? with
  | some q => f c q
  | none => true
theorem allC_ok {cs : Cls_} {f : Nat → Str × List Str → Bool} (h : allC cs f = true) {c : Nat} {q : Str × List Str} (e : cs[c]? = some q) : f c q = true := by
  have hl : c < cs.length := (List.getElem?_eq_some_iff.mp e).1
  have z := List.all_eq_true.mp h c (List.mem_range.mpr hl)
  simp only [e] at z
  exact z
def tnU (cs : Cls_) (K : PySem.W.Frag) : Tn → Value
  | .ty n => .type n
  | .own c => match cs[c]? with
    | some q => .ref (He.ga K q.1)
    | none => .none
def tnHas (cs : Cls_) : Tn → Bool
  | .ty _ => true
  | .own c => decide (c < cs.length)
def isB (cs : Cls_) (T : Tn) : Fb := fun K => tnHas cs T && ((tyNs.all fun t => decide (PySem.W.kitOne K (.type t) (tnU cs K T) = some (match T with
    | .ty n => (L2.kitB t n).getD false
    | .own _ => false))) && allC cs fun c q => (He.Fa.cls q.1).ok K && (He.eqO (PySem.W.findIn K (.ref (He.ga K q.1)) "__class__") (some (some (.builtin "object.__class__"))) && (He.eqO (PySem.W.specialIn K (.builtin "object.__class__") "__get__") (some (some (.builtin "getset_descriptor.__get__"))) &&
    (decide (PySem.W.takesIn K (.builtin "object.__class__") = some true) && (decide (PySem.W.mroIn K (He.ga K q.1) (.type "object") = some true) && decide (PySem.W.kitOne K (.ref (He.ga K q.1)) (tnU cs K T) = some (insT T c)))))))
theorem isB_ok {cs : Cls_} {T : Tn} {K : PySem.W.Frag} (h : isB cs T K = true) : IsF K (rhoK cs K) T (tnU cs K T) := by
  obtain ⟨h0, h⟩ := He.ba h
  obtain ⟨h1, h2⟩ := He.ba h
  refine ⟨?_, fun t ht => of_decide_eq_true (List.all_eq_true.mp h1 t ht), fun c C ns hc => ?_⟩
  · cases T with
    | ty n => rfl
    | own c =>
      have hl : c < cs.length := of_decide_eq_true h0
      have e := List.getElem?_eq_getElem hl
      refine ⟨He.ga K (cs[c]).1, (cs[c]).2, ?_, ?_⟩
      · unfold rhoK; rw [e] <;> rfl
      · unfold tnU; simp only [e]
  · obtain ⟨x, hx, rfl⟩ := rho_at hc
    have z := allC_ok h2 hx
    obtain ⟨z1, z⟩ := He.ba z
    obtain ⟨z2, z⟩ := He.ba z
    obtain ⟨z3, z⟩ := He.ba z
    obtain ⟨z4, z⟩ := He.ba z
    obtain ⟨z5, z6⟩ := He.ba z
    exact ⟨He.cls_ok z1, He.eqO_ok z2, He.eqO_ok z3, of_decide_eq_true z4, of_decide_eq_true z5, of_decide_eq_true z6⟩
/-- the field x of the c-th class -/
def fldB (cs : Cls_) (c : Nat) (x : Str) (j : Nat) : Fb := fun K => match cs[c]? with
  | some q => (He.Fa.cls q.1).ok K && ((He.Fa.noat q.1 x).ok K && (decide (q.2[j]? = some x) && (List.range j).all fun i => decide (q.2[i]? ≠ some x)))
  | none => false
theorem fldB_ok {cs : Cls_} {c j : Nat} {x : Str} {K : PySem.W.Frag} (h : fldB cs c x j K = true) : FldF K (rhoK cs K) c x j := by
  unfold fldB at h
  cases e : cs[c]? with
  | none => rw [e] at h; cases h
  | some q =>
    rw [e] at h
    obtain ⟨h1, h⟩ := He.ba h
    obtain ⟨h2, h⟩ := He.ba h
    obtain ⟨h3, h4⟩ := He.ba h
    exact ⟨He.ga K q.1, q.2, by unfold rhoK; rw [e] <;> rfl, He.cls_ok h1, He.noat_ok h2, of_decide_eq_true h3, fun i hi => of_decide_eq_true (List.all_eq_true.mp h4 i (List.mem_range.mpr hi))⟩
def setB (cs : Cls_) (x : Str) : Fb := fun K => allC cs fun _ q => (He.Fa.cls q.1).ok K && (He.Fa.noat q.1 x).ok K
theorem setB_ok {cs : Cls_} {x : Str} {K : PySem.W.Frag} (h : setB cs x K = true) : SetF K (rhoK cs K) x := ⟨fun c C ns hc => by
  obtain ⟨y, hy, rfl⟩ := rho_at hc
  obtain ⟨z1, z2⟩ := He.ba (allC_ok h hy)
  exact ⟨He.cls_ok z1, He.noat_ok z2⟩⟩
/-- a property's getter -/
def prG (K : PySem.W.Frag) (C : Addr) (x : Str) : Addr := match PySem.W.recIn K (He.ma K C x) "property" with
  | some (.ref g :: _) => g
  | _ => 0
def prB (c x : Str) : Fb := fun K => (He.Fa.cls c).ok K && (He.eqO (PySem.W.findIn K (.ref (He.ga K c)) x) (some (some (.ref (He.ma K (He.ga K c) x)))) && (He.eqO (PySem.W.specialIn K (.ref (He.ma K (He.ga K c) x)) "__get__") (some (some (.builtin "property.__get__"))) &&
  (decide (PySem.W.takesIn K (.ref (He.ma K (He.ga K c) x)) = some true) && match PySem.W.recIn K (He.ma K (He.ga K c) x) "property" with
    | some (.ref _ :: _) => true
    | _ => false)))
theorem prB_ok {c x : Str} {K : PySem.W.Frag} (h : prB c x K = true) : Cls K (He.ga K c) ∧ PropOf K (He.ga K c) x (He.ma K (He.ga K c) x) (prG K (He.ga K c) x) := by
  obtain ⟨h0, h⟩ := He.ba h
  obtain ⟨h1, h⟩ := He.ba h
  obtain ⟨h2, h⟩ := He.ba h
  obtain ⟨h3, h4⟩ := He.ba h
  refine ⟨He.cls_ok h0, He.eqO_ok h1, He.eqO_ok h2, of_decide_eq_true h3, ?_⟩
  unfold prG
  split at h4
  · rename_i q; exact ⟨_, q⟩
  · cases h4
/-! ### what a law's walk knows -/
structure Kn (bs : List Fb) (ds : List Dm) (K : PySem.W.Frag) (mg : Str → Option Value) : Prop where
  hp : ∃ h : Heap, K.In h ∧ h.Ns mainGlobals mg
  says : SaysM bs ds K
section
variable {bs : List Fb} {ds : List Dm} {K : PySem.W.Frag} {mg : Str → Option Value}
theorem Kn.glo (k : Kn bs ds K mg) (i : Nat) {x : Str} (h : bs[i]? = some (fun K => (He.Fa.glo x).ok K) := by rfl) : mg x = some (.ref (He.ga K x)) := by
  obtain ⟨hp, X, G⟩ := k.hp
  exact He.glo_ok X G (k.says.fact i h)
theorem Kn.free (k : Kn bs ds K mg) (i : Nat) {x : Str} (h : bs[i]? = some (fun K => (He.Fa.free x).ok K) := by rfl) : mg x = none := by
  obtain ⟨hp, X, G⟩ := k.hp
  exact He.free_ok X G (k.says.fact i h)
theorem Kn.int (k : Kn bs ds K mg) (i : Nat) {x : Str} {n : Int} (h : bs[i]? = some (fun K => (He.Fa.int x n).ok K) := by rfl) : ∃ t, mg x = some (.int n t) := by
  obtain ⟨hp, X, G⟩ := k.hp
  exact He.int_ok X G (k.says.fact i h)
theorem Kn.is_ (k : Kn bs ds K mg) (i : Nat) {cs : Cls_} {T : Tn} (h : bs[i]? = some (isB cs T) := by rfl) : IsF K (rhoK cs K) T (tnU cs K T) := isB_ok (k.says.fact i h)
theorem Kn.fld (k : Kn bs ds K mg) (i : Nat) {cs : Cls_} {c j : Nat} {x : Str} (h : bs[i]? = some (fldB cs c x j) := by rfl) : FldF K (rhoK cs K) c x j := fldB_ok (k.says.fact i h)
theorem Kn.set (k : Kn bs ds K mg) (i : Nat) {cs : Cls_} {x : Str} (h : bs[i]? = some (setB cs x) := by rfl) : SetF K (rhoK cs K) x := setB_ok (k.says.fact i h)
theorem Kn.pr (k : Kn bs ds K mg) (i : Nat) {c x : Str} (h : bs[i]? = some (prB c x) := by rfl) : Cls K (He.ga K c) ∧ PropOf K (He.ga K c) x (He.ma K (He.ga K c) x) (prG K (He.ga K c) x) := prB_ok (k.says.fact i h)
theorem Kn.mkr (k : Kn bs ds K mg) (i : Nat) {c : Str} (h : bs[i]? = some (fun K => (He.Fa.mkr c).ok K) := by rfl) : Mk K (He.ga K c) (He.ma K (He.ga K c) "__init__") := He.mkr_ok (k.says.fact i h)
theorem Kn.fn (k : Kn bs ds K mg) (i : Nat) {d : Dm} (h : ds[i]? = some d := by rfl) : ∃ fd, Fun K d.name d.qual d.st (d.at_ K) fd := k.says.def_ i h
end
section
variable {P : Program} {w : World} {K : PySem.W.Frag} {mg : Str → Option Value} {base : Heap} {g : Gb} {x qual : Str} {st : Stmt} {fd : FuncData} {N ps : List Str} {j : Nat} {body : SSem}
abbrev BindsF (x qual : Str) (st : Stmt) (ps : List Str) : Prop := ∀ (kV doc pm : Value) (an : Option Addr) (cdv ct : Value) (us : List Value), us.length = ps.length → bindArgs (PySem.W.fnOf x qual (defArgs st) (defBody st) (defScope st) .none kV doc pm an cdv ct) ⟨us, []⟩ = pure (ps.zip us)
/-- a def of the module -/
theorem df_mk {n : Nat} (hm : mg x = some (.ref (He.ga K x))) (F : Fun K x qual st (He.ga K x) fd) (S : FnScope N ps (defScope st)) (hn : ps.length = n) (bd : BindsF x qual st ps)
    (hb : ∀ (cdv : Value) (A : Around) (outer : List Env) (s : Shared) (H : Hp) (E : XK), Room j (A.deeper (envOfC qual (defScope st) s.heap.objs.size (He.ga K x) cdv)) →
      PSs (cxOf (L2.CX P w) P w K mg base N qual (defScope st) (He.ga K x) cdv A outer s H E) (defBody st) (tS K g (fun _ => none) (fun cls d _ H => E cls d H) body)) :
    Df P w K mg base g x (j + 1) n (dSem N.length n body) := by
  subst hn
  exact ⟨_, _, _, def_ok F S hb, hm, F.kp, F.binds bd⟩
theorem dfIO_mk {n : Nat} (hm : mg x = some (.ref (He.ga K x))) (F : Fun K x qual st (He.ga K x) fd) (S : FnScope N ps (defScope st)) (hn : ps.length = n) (bd : BindsF x qual st ps) (hl : ps.length ≤ N.length)
    (hb : ∀ (io : Nat → Option Addr) (cdv : Value) (A : Around) (outer : List Env) (s : Shared) (H : Hp) (E : XK), Room j (A.deeper (envOfC qual (defScope st) s.heap.objs.size (He.ga K x) cdv)) →
      PSs (cxOf (L2.CX P w) P w K mg base N qual (defScope st) (He.ga K x) cdv A outer s H E) (defBody st) (tS K g io (fun cls d _ H => E cls d H) body)) :
    DfIO P w K mg base g x (j + 1) n (dSemIO N.length n body) := by
  subst hn
  exact ⟨_, _, _, defIO_ok F S hl hb, hm, F.kp, F.binds bd⟩
/-- a property of the c-th class -/
theorem dfP_mk {c : Nat} {cn y : Str} {ns : List Str} {gt : Addr} (hc : g.ρ c = some (He.ga K cn, ns)) (hp : Cls K (He.ga K cn) ∧ PropOf K (He.ga K cn) y (He.ma K (He.ga K cn) y) gt) (F : Fun K x qual st gt fd) (S : FnScope N ["self"] (defScope st)) (bd : BindsF x qual st ["self"])
    (hb : ∀ (cdv : Value) (A : Around) (outer : List Env) (s : Shared) (H : Hp) (E : XK), Room j (A.deeper (envOfC qual (defScope st) s.heap.objs.size gt cdv)) →
      PSs (cxOf (L2.CX P w) P w K mg base N qual (defScope st) gt cdv A outer s H E) (defBody st) (tS K g (fun _ => none) (fun cls d _ H => E cls d H) body)) :
    DfP P w K mg base g c y (j + 1) (dSem N.length 1 body) := ⟨_, _, _, _, _, _, hc, hp.1, hp.2, def_ok (ps := ["self"]) F S hb, F.binds bd⟩
/-- an __init__ -/
theorem dfM_mk {c n : Nat} {cn : Str} {ns : List Str} {f : Addr} (hm : mg cn = some (.ref (He.ga K cn))) (hc : g.ρ c = some (He.ga K cn, ns)) (M : Mk K (He.ga K cn) f) (F : Fun K x qual st f fd) (S : FnScope N ps (defScope st)) (hn : ps.length = n) (bd : BindsF x qual st ps)
    (hb : ∀ (io : Nat → Option Addr) (cdv : Value) (A : Around) (outer : List Env) (s : Shared) (H : Hp) (E : XK), Room j (A.deeper (envOfC qual (defScope st) s.heap.objs.size f cdv)) →
      PSs (cxOf (L2.CX P w) P w K mg base N qual (defScope st) f cdv A outer s H E) (defBody st) (tS K g io (fun cls d _ H => E cls d H) body)) :
    DfM P w K mg base g c cn (j + 1) n (mSem N.length n c ns body) := by
  subst hn
  have hns : ∀ C ns', g.ρ c = some (C, ns') → ns' = ns := fun C ns' h => by rw [hc] at h; cases h; rfl
  exact ⟨_, _, _, _, _, hc, hm, M, F.okX S (fun vs H Q E h => (def_endM (N := N) h hns).1) (fun cdv A outer s H vs Q E hr h =>
    let ⟨io, q⟩ := (def_endM (N := N) h hns).2
    ⟨_, hb io cdv A outer s H E hr, q⟩), F.binds bd⟩
end
/-! ### the end -/
/-- the law holds where its mirror says True -/
def spLaw (K : PySem.W.Frag) (n : Nat) : Sp := fun vs H Q _ => ∃ (a : Addr) (ns : List Int), vs = [.ref a] ∧ SqL K H a (ns.map V.int) ∧ ns.length ≤ n ∧ ∀ H', Q (.bl true) H'
theorem law_of {P : Program} {w : World} {K : PySem.W.Frag} {mg : Str → Option Value} {base : Heap} {g : Gb} {k n : Nat} {f : Addr} {fd : FuncData} {ps : List Str} {m : List D → Option Ot} (F : FnOk P w K mg base (L2.CX P w) k f fd ps (spD K g 1 m))
    (hm : ∀ ns : List Int, ns.length ≤ n → m [.ro ns] = some (.ok (.bl true) false)) : FnOk P w K mg base (L2.CX P w) k f fd ps (spLaw K n) := F.imp fun vs H Q E h => by
  obtain ⟨a, ns, rfl, hS, hl, hQ⟩ := h
  refine ⟨H, fun _ => none, [.ro ns], ⟨Ext.rfl', fun a o z => (by cases z), fun a o z => (by cases z)⟩, .one (.ro hS), rfl, ?_⟩
  rw [hm ns hl]
  intro F' H' v x ap r
  have r : Dt K g.ρ F' v (.bl true) := r
  cases r
  exact hQ H'
end Mz

namespace Mz
open PySem PySem.Spec PyProof.Rows L2

/-! ### sum, max, min of a list or a tuple of ints -/
section
variable {prog : Program} {w : World} {A : Around} {E : Value → Shared → Prop} {s : Shared} {l : Addr} {its : List Value} {ns : List Int} {Q : Value → Shared → Prop}
theorem sumT_raw (hh : A.handled = none) (hl : s.heap.IsTuple l its.toArray) (hi : IntsAre its ns)
    (h : ∀ h' tk t', (∀ b o, s.heap.get? b = some o → h'.get? b = some o) → Q (.int ns.sum t') { s with heap := h', toks := tk }) : wpAny (model prog w) A (call (.builtin "sum") [.ref l]) Q E s := by
  obtain ⟨xs, e⟩ := hi.allInts.items
  have hn : numsOf (intItems xs).toList = ns := by rw [← e]; exact hi.numsOf
  rw [nums_intItems] at hn
  rw [e] at hl
  refine PySem.W.ktm_sumG hh hl fun h' tk t' hk => ?_
  have := h h' tk t' hk
  rw [preSum_eq, List.take_of_length_le (by simp), hn]
  exact this
theorem iter_tupI {xs : Array (Int × Tok)} {Q : Value → Shared → Prop} (hl : s.heap.IsTuple l (intItems xs))
    (h : ∀ s₂ : Shared, s₂ = { s with heap := s.heap.push { cls := .type "tuple_iterator", data := .fields #[.ref l, .int 0 0] } } →
      (s₂.heap.IsTupleIter s.heap.objs.size l 0 ∧ s₂.heap.IsTuple l (intItems xs)) → (∀ b ∈ [s.heap.objs.size, l], b < s₂.heap.objs.size) → l ≠ s.heap.objs.size → Q (.ref s.heap.objs.size) s₂) :
    wpAny (model prog w) A (pyIter (.ref l)) Q E s := by
  have hlt : l < s.heap.objs.size := by obtain ⟨_, e, _⟩ := hl; exact Heap.lt_size e
  refine wpAny_pyIter_tuple hl (h _ rfl ⟨⟨_, Heap.get?_push_size _ rfl, rfl, rfl⟩, hl.push _⟩ (fun b hb => ?_) (Nat.ne_of_lt hlt))
  show b < (s.heap.push _).objs.size
  rw [Heap.size_push]
  rcases List.mem_cons.mp hb with rfl | hb
  · exact Nat.lt_succ_self _
  · rcases List.mem_cons.mp hb with rfl | hb
    · exact Nat.lt_succ_of_lt hlt
    · cases hb
theorem pushed_old {o : Obj} {h' : Heap} (hk : ∀ b u, b ∉ [s.heap.objs.size] → (s.heap.push o).get? b = some u → h'.get? b = some u) (b : Addr) (u : Obj) (e : s.heap.get? b = some u) : h'.get? b = some u :=
  hk b u (fun z => by
    have z := List.mem_singleton.mp z
    rw [z] at e
    exact absurd (Heap.lt_size e) (Nat.lt_irrefl _)) (Heap.get?_push_of_some _ e)
theorem maxT_raw (hh : A.handled = none) (hl : s.heap.IsTuple l its.toArray) (hi : IntsAre its ns) (hne : 0 < ns.length)
    (h : ∀ h' tk M t', (∀ b o, s.heap.get? b = some o → h'.get? b = some o) → M ∈ ns → (∀ a, a ∈ ns → a ≤ M) → Q (.int M t') { s with heap := h', toks := tk }) : wpAny (model prog w) A (call (.builtin "max") [.ref l]) Q E s := by
  obtain ⟨xs, e⟩ := hi.allInts.items
  have hn : numsOf (intItems xs).toList = ns := by rw [← e]; exact hi.numsOf
  rw [nums_intItems] at hn
  subst hn
  rw [e] at hl
  have hsz : 0 < xs.size := by simpa using hne
  refine call_max_walk (iter_tupI hl fun s₂ e st hfp hlI => ?_)
  subst e
  refine ⟨_, _, _, _, _, _, _, rfl, Walks.tuple (A := A.in1) hh _ l hlI (intItems xs), st, hfp, by simpa [intItems] using hsz, CmpOf.ints_gt (numAt xs) (fun _ _ => intItems_at), fun v h' tk hP hk => ?_⟩
  have hv : (intItems xs)[argBest (fun i j => decide (numAt xs i > numAt xs j)) (xs.size - 1)]? = some v := by simpa [intItems] using hP
  obtain ⟨t, rfl⟩ := intItems_at hv
  obtain ⟨h1, h2⟩ := argBest_gt (numAt xs) (xs.size - 1)
  refine h h' tk _ t (pushed_old hk) ?_ fun a ha => ?_
  · rw [numAt_eq]; exact PySem.getD_mem (by rw [List.length_map, Array.length_toList]; omega)
  · obtain ⟨j, hj, rfl⟩ := mem_getD ha
    rw [List.length_map, Array.length_toList] at hj
    rw [← numAt_eq]; exact h2 j (by omega)
theorem minT_raw (hh : A.handled = none) (hl : s.heap.IsTuple l its.toArray) (hi : IntsAre its ns) (hne : 0 < ns.length)
    (h : ∀ h' tk M t', (∀ b o, s.heap.get? b = some o → h'.get? b = some o) → M ∈ ns → (∀ a, a ∈ ns → M ≤ a) → Q (.int M t') { s with heap := h', toks := tk }) : wpAny (model prog w) A (call (.builtin "min") [.ref l]) Q E s := by
  obtain ⟨xs, e⟩ := hi.allInts.items
  have hn : numsOf (intItems xs).toList = ns := by rw [← e]; exact hi.numsOf
  rw [nums_intItems] at hn
  subst hn
  rw [e] at hl
  have hsz : 0 < xs.size := by simpa using hne
  refine call_min_walk (iter_tupI hl fun s₂ e st hfp hlI => ?_)
  subst e
  refine ⟨_, _, _, _, _, _, _, rfl, Walks.tuple (A := A.in1) hh _ l hlI (intItems xs), st, hfp, by simpa [intItems] using hsz, CmpOf.ints_lt (numAt xs) (fun _ _ => intItems_at), fun v h' tk hP hk => ?_⟩
  have hv : (intItems xs)[argBest (fun i j => decide (numAt xs i < numAt xs j)) (xs.size - 1)]? = some v := by simpa [intItems] using hP
  obtain ⟨t, rfl⟩ := intItems_at hv
  obtain ⟨h1, h2⟩ := argBest_lt (numAt xs) (xs.size - 1)
  refine h h' tk _ t (pushed_old hk) ?_ fun a ha => ?_
  · rw [numAt_eq]; exact PySem.getD_mem (by rw [List.length_map, Array.length_toList]; omega)
  · obtain ⟨j, hj, rfl⟩ := mem_getD ha
    rw [List.length_map, Array.length_toList] at hj
    rw [← numAt_eq]; exact h2 j (by omega)
end
section
variable {X : Cx} {g : Gb}
def rSumT (K : PySem.W.Frag) : List V → Hp → VK → Prop := fun vs H Q => ∃ (a : Addr) (ns : List Int), vs = [V.ref a] ∧ SqT K H a (ns.map V.int) ∧ Q (.int ns.sum) H
def rMaxT (K : PySem.W.Frag) : List V → Hp → VK → Prop := fun vs H Q => ∃ (a : Addr) (ns : List Int), vs = [V.ref a] ∧ SqT K H a (ns.map V.int) ∧ 0 < ns.length ∧ ∀ m, m ∈ ns → (∀ y, y ∈ ns → y ≤ m) → Q (.int m) H
def rMinT (K : PySem.W.Frag) : List V → Hp → VK → Prop := fun vs H Q => ∃ (a : Addr) (ns : List Int), vs = [V.ref a] ∧ SqT K H a (ns.map V.int) ∧ 0 < ns.length ∧ ∀ m, m ∈ ns → (∀ y, y ∈ ns → m ≤ y) → Q (.int m) H
theorem isTup_of {h : Heap} {a : Addr} {xs : Array Value} (t : IsTup h a xs) : h.IsTuple a xs := t
theorem cr_sumT (hc : X.calm = true) : CallR X (.builtin "sum") (rSumT X.K) := by
  intro pins s σ H vs us Q I r h
  obtain ⟨a, ns, rfl, hs, q⟩ := h
  obtain ⟨its, rv, hl, _⟩ := I.tuple hs
  rw [Vals.ref1 r]
  exact sumT_raw (I.ok.hd hc) hl rv.ints fun h' tk t' hk => ⟨.int _, H, I.kept hk, ⟨_, rfl⟩, q⟩
theorem cr_maxT (hc : X.calm = true) : CallR X (.builtin "max") (rMaxT X.K) := by
  intro pins s σ H vs us Q I r h
  obtain ⟨a, ns, rfl, hs, hne, q⟩ := h
  obtain ⟨its, rv, hl, _⟩ := I.tuple hs
  rw [Vals.ref1 r]
  exact maxT_raw (I.ok.hd hc) hl rv.ints hne fun h' tk m t' hk h1 h2 => ⟨.int _, H, I.kept hk, ⟨_, rfl⟩, q m h1 h2⟩
theorem cr_minT (hc : X.calm = true) : CallR X (.builtin "min") (rMinT X.K) := by
  intro pins s σ H vs us Q I r h
  obtain ⟨a, ns, rfl, hs, hne, q⟩ := h
  obtain ⟨its, rv, hl, _⟩ := I.tuple hs
  rw [Vals.ref1 r]
  exact minT_raw (I.ok.hd hc) hl rv.ints hne fun h' tk m t' hk h1 h2 => ⟨.int _, H, I.kept hk, ⟨_, rfl⟩, q m h1 h2⟩
theorem cr_or {f : Value} {r r' : List V → Hp → VK → Prop} (h : CallR X f r) (h' : CallR X f r') : CallR X f (fun vs H Q => r vs H Q ∨ r' vs H Q) := by
  intro pins s σ H vs us Q I rv z
  rcases z with z | z
  · exact h pins s σ H vs us Q I rv z
  · exact h' pins s σ H vs us Q I rv z
theorem blt_or {f : Value} {o o' : List D → Option D} (h : BltOk X g f o) (h' : BltOk X g f o') : BltOk X g f (fun ds => (o ds).or (o' ds)) := by
  obtain ⟨r, c, hr⟩ := h
  obtain ⟨r', c', hr'⟩ := h'
  refine ⟨_, cr_or c c', fun io F R σ e H vs ws ds d Q st ho hrd hop q => ?_⟩
  replace hop : (o ds).or (o' ds) = some d := hop
  cases e1 : o ds with
  | some d1 =>
    rw [e1] at hop
    cases hop
    exact .inl (hr io F R σ e H vs ws ds _ Q st ho hrd e1 q)
  | none =>
    rw [e1] at hop
    exact .inr (hr' io F R σ e H vs ws ds _ Q st ho hrd hop q)
theorem b_sumT (hc : X.calm = true) : BltOk X g (.builtin "sum") oSumT := by
  refine ⟨_, cr_sumT hc, fun io F R σ e H vs ws ds d Q st ho hr hop q => ?_⟩
  obtain ⟨p, ns, rfl, h1, h2⟩ := tupI st ho hr hop
  cases h2
  exact ⟨p, ns, rfl, h1, q F H _ Ext.rfl' st (.int _)⟩
theorem b_maxT (hc : X.calm = true) : BltOk X g (.builtin "max") oMaxT := by
  refine ⟨_, cr_maxT hc, fun io F R σ e H vs ws ds d Q st ho hr hop q => ?_⟩
  obtain ⟨p, ns, rfl, h1, h2⟩ := tupI st ho hr hop
  rw [Option.map_eq_some_iff] at h2
  obtain ⟨m, h2, rfl⟩ := h2
  obtain ⟨s1, s2⟩ := maxI_spec h2
  refine ⟨p, ns, rfl, h1, List.length_pos_of_mem s1, fun m' a b => ?_⟩
  have : m' = m := Int.le_antisymm (s2 m' a) (b m s1)
  rw [this]
  exact q F H _ Ext.rfl' st (.int _)
theorem b_minT (hc : X.calm = true) : BltOk X g (.builtin "min") oMinT := by
  refine ⟨_, cr_minT hc, fun io F R σ e H vs ws ds d Q st ho hr hop q => ?_⟩
  obtain ⟨p, ns, rfl, h1, h2⟩ := tupI st ho hr hop
  rw [Option.map_eq_some_iff] at h2
  obtain ⟨m, h2, rfl⟩ := h2
  obtain ⟨s1, s2⟩ := minI_spec h2
  refine ⟨p, ns, rfl, h1, List.length_pos_of_mem s1, fun m' a b => ?_⟩
  have : m' = m := Int.le_antisymm (b m s1) (s2 m' a)
  rw [this]
  exact q F H _ Ext.rfl' st (.int _)
/-- over a list or a tuple -/
def oSumQ : List D → Option D := fun ds => (oSum ds).or (oSumT ds)
def oMaxQ : List D → Option D := fun ds => (oMaxL ds).or (oMaxT ds)
def oMinQ : List D → Option D := fun ds => (oMinL ds).or (oMinT ds)
theorem b_sumQ (hc : X.calm = true) : BltOk X g (.builtin "sum") oSumQ := blt_or (b_sum hc) (b_sumT hc)
theorem b_maxQ (hc : X.calm = true) : BltOk X g (.builtin "max") oMaxQ := blt_or (b_maxL hc) (b_maxT hc)
theorem b_minQ (hc : X.calm = true) : BltOk X g (.builtin "min") oMinQ := blt_or (b_minL hc) (b_minT hc)
end
end Mz

namespace Mz
open PySem PySem.Spec PyProof.Rows L2 RZ

/-! ### the rules in short -/
/-- a comprehension's block, checked -/
def blkB (N : List Str) (sc scope : Scope) (own : List (Str × Nat)) : Bool := decide (scope.kind = .function) && (scope.names.all (fun y => decide (scope.names.lookup y.1 = some y.2)) && (own.all (fun p => decide (N[p.2]? = some p.1)) &&
  (scope.names.all (fun y => !decide (y.2 = .free) || (decide (sc.names.lookup y.1 = some .cell) || decide (sc.names.lookup y.1 = some .free))) && scope.names.all (fun y => !(decide (y.2 = .local) || decide (y.2 = .cell)) || (decide (y.1 ∈ own.map (·.1)) || decide (y.1 ∉ N))))))
theorem blkB_ok {N : List Str} {sc scope : Scope} {own : List (Str × Nat)} (h : blkB N sc scope own = true) : BlkOk N sc scope own := by
  unfold blkB at h
  simp only [Bool.and_eq_true, List.all_eq_true, Bool.or_eq_true, Bool.not_eq_true', decide_eq_true_eq, decide_eq_false_iff_not] at h
  obtain ⟨h1, h2, h3, h4, h5⟩ := h
  refine ⟨h1, h2, h3, fun y hy e => ?_, fun y hy e => ?_⟩
  · rcases h4 y hy with z | z
    · exact absurd e z
    · exact z
  · rcases h5 y hy with z | z
    · rw [Bool.or_eq_false_iff, decide_eq_false_iff_not, decide_eq_false_iff_not] at z
      rcases e with e | e
      · exact absurd e z.1
      · exact absurd e z.2
    · exact z
section
variable {X : Cx} {g : Gb} {io : Nat → Option Addr} {Wx : WX} {pos p q : Pos} {a b c : Expr} {f h : Sem} {x y z : Str}
theorem pv (i : Nat) (hN : X.N[i]? = some x := by rfl) (hv : Vis X.env.scope x := by first | exact .inl rfl | exact .inr (.inl rfl) | exact .inr (.inr rfl)) (hd : (x == ("__debug__" : Str)) = false := by decide) (hcd : (x == ("__classdict__" : Str)) = false := by decide) : PE X (.Name x pos) (tE X.K g io Wx (sVar i)) := d_var hN hv hd hcd
theorem pgi {i : Int} (hm : ∃ t, X.mg x = some (.int i t)) (hg : Gl X x := by rfl) (hd : (x == ("__debug__" : Str)) = false := by decide) : PE X (.Name x pos) (tE X.K g io Wx (sC (.int i))) := by
  obtain ⟨t, hm⟩ := hm
  exact d_gint hg hm hd
theorem gv {i : Nat} (hN : X.N.Nodup) (hi : X.N[i]? = some x := by rfl) (hx : Loc X.env.scope x := by first | exact .inl rfl | exact .inr rfl) (hf : X.fn x = true ∨ X.env.scope.names.lookup x = some .local := by first | exact .inl rfl | exact .inr rfl) : PGd X g io (.Name x pos) (gName i) (gVar i) := g_var hN hi hx hf
theorem st_set {i : Nat} (hN : X.N.Nodup) (ha : PE X a (tE X.K g io Wx f)) (hi : X.N[i]? = some x := by rfl) (hx : Loc X.env.scope x := by first | exact .inl rfl | exact .inr rfl) (hs : swapsWith a (some (.Name x p)) pos.line X.env = pure false := by rfl) (hf : X.fn x = true ∨ X.env.scope.names.lookup x = some .local := by first | exact .inl rfl | exact .inr rfl) :
    PS X (.Assign [.Name x p] a pos) (tS X.K g io Wx (sAsg f (gVar i))) := s_set hN hi hx ha hs hf
theorem st_own {i : Nat} {h2 : Smx D} (hN : X.N.Nodup) (ha : PE X a (tN X.K g io Wx h2)) (hi : X.N[i]? = some x := by rfl) (hx : Loc X.env.scope x := by first | exact .inl rfl | exact .inr rfl) (hs : swapsWith a (some (.Name x p)) pos.line X.env = pure false := by rfl) (hf : X.fn x = true ∨ X.env.scope.names.lookup x = some .local := by first | exact .inl rfl | exact .inr rfl) :
    PS X (.Assign [.Name x p] a pos) (tS X.K g io Wx (sOwn h2 i)) := s_own hN hi hx ha hs hf
theorem st_aug {i : Nat} (hN : X.N.Nodup) (ha : PE X a (tE X.K g io Wx f)) (hi : X.N[i]? = some x := by rfl) (hx : Loc X.env.scope x := by first | exact .inl rfl | exact .inr rfl) (hf : X.fn x = true ∨ X.env.scope.names.lookup x = some .local := by first | exact .inl rfl | exact .inr rfl) :
    PS X (.AugAssign (.Name x p) .Add a pos) (tS X.K g io Wx (sAug i (dI2 fun i j => .int (i + j)) f)) := s_augI hN hi hx ha hf
theorem st_retO {i : Nat} (hN : X.N[i]? = some x := by rfl) (hv : Vis X.env.scope x := by first | exact .inl rfl | exact .inr (.inl rfl) | exact .inr (.inr rfl)) (hd : (x == ("__debug__" : Str)) = false := by decide) (hcd : (x == ("__classdict__" : Str)) = false := by decide) : PS X (.Return (some (.Name x p)) pos) (tS X.K g io Wx (sRetO i)) := s_retO hN hv hd hcd
theorem st_par {i j : Nat} {hs : Smx (List W)} {px py pt : Pos} {kt k2 pt2} (hN : X.N.Nodup) (ha : PA X [a, b] (tA X.K g io Wx hs)) (hc : X.calm = true := by rfl) (hi : X.N[i]? = some x := by rfl) (hj : X.N[j]? = some y := by rfl) (hij : i ≠ j := by decide)
    (hx : X.env.scope.names.lookup x = some .local := by rfl) (hy : X.env.scope.names.lookup y = some .local := by rfl)
    (hw : swappedStores [.Tuple [.Name x px, .Name y py] kt pt] (.Tuple [a, b] k2 pt2) X.env = pure (some [x, y]) := by rfl)
    (hsw : swapsWithSole [.Tuple [.Name x px, .Name y py] kt pt] (.Tuple [a, b] k2 pt2) pos.line X.env = pure false := by rfl) :
    PS X (.Assign [.Tuple [.Name x px, .Name y py] kt pt] (.Tuple [a, b] k2 pt2) pos) (tS X.K g io Wx (sPar i j hs)) := s_par hc hN hi hj hij hx hy ha hw hsw
theorem st_parO {i j : Nat} {hs : Smx (List W × D)} {px py pt : Pos} {kt k2 pt2} (hN : X.N.Nodup) (ha : PA X [a, b] (tAO X.K g io Wx hs)) (hc : X.calm = true := by rfl) (hi : X.N[i]? = some x := by rfl) (hj : X.N[j]? = some y := by rfl) (hij : i ≠ j := by decide)
    (hx : X.env.scope.names.lookup x = some .local := by rfl) (hy : X.env.scope.names.lookup y = some .local := by rfl)
    (hw : swappedStores [.Tuple [.Name x px, .Name y py] kt pt] (.Tuple [a, b] k2 pt2) X.env = pure (some [x, y]) := by rfl)
    (hsw : swapsWithSole [.Tuple [.Name x px, .Name y py] kt pt] (.Tuple [a, b] k2 pt2) pos.line X.env = pure false := by rfl) :
    PS X (.Assign [.Tuple [.Name x px, .Name y py] kt pt] (.Tuple [a, b] k2 pt2) pos) (tS X.K g io Wx (sParO i j hs)) := s_parO hc hN hi hj hij hx hy ha hw hsw
theorem st_par3 {i j l : Nat} {hs : Smx (List W)} {px py pz pt : Pos} {kt k2 pt2} (hN : X.N.Nodup) (ha : PA X [a, b, c] (tA X.K g io Wx hs)) (hc : X.calm = true := by rfl) (hi : X.N[i]? = some x := by rfl) (hj : X.N[j]? = some y := by rfl) (hl : X.N[l]? = some z := by rfl) (hij : i ≠ j := by decide) (hil : i ≠ l := by decide) (hjl : j ≠ l := by decide)
    (hx : X.env.scope.names.lookup x = some .local := by rfl) (hy : X.env.scope.names.lookup y = some .local := by rfl) (hz : X.env.scope.names.lookup z = some .local := by rfl)
    (hw : swappedStores [.Tuple [.Name x px, .Name y py, .Name z pz] kt pt] (.Tuple [a, b, c] k2 pt2) X.env = pure (some [x, y, z]) := by rfl)
    (hsw : swapsWithSole [.Tuple [.Name x px, .Name y py, .Name z pz] kt pt] (.Tuple [a, b, c] k2 pt2) pos.line X.env = pure false := by rfl) :
    PS X (.Assign [.Tuple [.Name x px, .Name y py, .Name z pz] kt pt] (.Tuple [a, b, c] k2 pt2) pos) (tS X.K g io Wx (sPar3 i j l hs)) := s_par3 hc hN hi hj hl hij hil hjl hx hy hz ha hw hsw
theorem st_par3O {i j l : Nat} {hs : Smx (List W × D)} {px py pz pt : Pos} {kt k2 pt2} (hN : X.N.Nodup) (ha : PA X [a, b, c] (tAO X.K g io Wx hs)) (hc : X.calm = true := by rfl) (hi : X.N[i]? = some x := by rfl) (hj : X.N[j]? = some y := by rfl) (hl : X.N[l]? = some z := by rfl) (hij : i ≠ j := by decide) (hil : i ≠ l := by decide) (hjl : j ≠ l := by decide)
    (hx : X.env.scope.names.lookup x = some .local := by rfl) (hy : X.env.scope.names.lookup y = some .local := by rfl) (hz : X.env.scope.names.lookup z = some .local := by rfl)
    (hw : swappedStores [.Tuple [.Name x px, .Name y py, .Name z pz] kt pt] (.Tuple [a, b, c] k2 pt2) X.env = pure (some [x, y, z]) := by rfl)
    (hsw : swapsWithSole [.Tuple [.Name x px, .Name y py, .Name z pz] kt pt] (.Tuple [a, b, c] k2 pt2) pos.line X.env = pure false := by rfl) :
    PS X (.Assign [.Tuple [.Name x px, .Name y py, .Name z pz] kt pt] (.Tuple [a, b, c] k2 pt2) pos) (tS X.K g io Wx (sPar3O i j l hs)) := s_par3O hc hN hi hj hl hij hil hjl hx hy hz ha hw hsw
theorem go1 {i : Nat} (hN : X.N.Nodup) (hi : X.N[i]? = some x := by rfl) (hx : Loc X.env.scope x := by first | exact .inl rfl | exact .inr rfl) (hf : X.fn x = true ∨ X.env.scope.names.lookup x = some .local := by first | exact .inl rfl | exact .inr rfl) (hs : (assignEach [Expr.Name x pos] X.env).map (·.2) = assign (.Name x pos) X.env :: (assignEach [] X.env).map (·.2) := by rfl) :
    PGso X g io [.Name x pos] (gCons (gName i) gNil) (goOne i) := go_one hN hi hx hf hs
theorem gt {es : List Expr} {k n : Nat} {rs : TGs} {u : List D → En → Option En} (h : PGsd X g io es rs u) (hc : X.calm = true := by rfl) (hn : (assignEach es X.env).length = n := by rfl) (hst : (assignEach es X.env).findIdx? (·.1) = none := by rfl) :
    PGd X g io (.Tuple es k pos) (gTup X.K n rs) (gTupD n u) := g_tup hc h hn hst
theorem st_app {i : Nat} {apos q : Pos} (ha : PE X a (tE X.K g io Wx f)) (hN : X.N[i]? = some x := by rfl) (hv : Vis X.env.scope x := by first | exact .inl rfl | exact .inr (.inl rfl) | exact .inr (.inr rfl)) (hd : (x == ("__debug__" : Str)) = false := by decide) (hcd : (x == ("__classdict__" : Str)) = false := by decide)
    (hbase : attributeBase (.Name x p) "append" X.env (eval (.Name x p) X.env) = eval (.Name x p) X.env := by rfl)
    (hfew : ((backTo q (starEach [a] X.env)).all (fun x => !x.1) && (backToKw q (keywordEach [] X.env)).all (fun x => x.1.isSome)
      && decide ([a].length + ([] : List Keyword).length + (if ([] : List Keyword).isEmpty then 0 else 1) < 30)) = true := by rfl)
    (hline : (apos.endLine == q.line) = true := by rfl) (hs : starEach [a] X.env = (false, eval a X.env) :: starEach [] X.env := by rfl) (hplain : (backTo q (starEach [] X.env)).any (·.1) = false := by rfl)
    (hsw : swapsWith (.Call (.Attribute (.Name x p) "append" apos) [a] [] q) none pos.line X.env = pure false := by rfl) :
    PS X (.Expr (.Call (.Attribute (.Name x p) "append" apos) [a] [] q) pos) (tS X.K g io Wx (sApp i f)) := s_app (es := []) hN hv ha hd hcd hbase hfew hline hs hplain hsw
theorem st_putI {i : Nat} {spos : Pos} (ha : PE X a (tE X.K g io Wx f)) (hb : PE X b (tE X.K g io Wx h)) (hN : X.N[i]? = some x := by rfl) (hv : Vis X.env.scope x := by first | exact .inl rfl | exact .inr (.inl rfl) | exact .inr (.inr rfl)) (hd : (x == ("__debug__" : Str)) = false := by decide) (hcd : (x == ("__classdict__" : Str)) = false := by decide)
    (hsub : ∀ v, assign (.Subscript (.Name x p) b spos) X.env v = (do
      let ov ← holding [v] (eval (.Name x p) X.env)
      let iv ← holding [v, ov] (eval b X.env)
      standAt spos
      holding [v, ov, iv] (setItem ov iv v)
      release [v, ov, iv] []) := by intro _; rfl)
    (hs : swapsWithSole [.Subscript (.Name x p) b spos] a pos.line X.env = pure false := by rfl) (hw : swappedStores [.Subscript (.Name x p) b spos] a X.env = pure none := by rfl)
    (h1 : (assignEach [.Subscript (.Name x p) b spos] X.env).map (·.2) = [assign (.Subscript (.Name x p) b spos) X.env] := by rfl) :
    PS X (.Assign [.Subscript (.Name x p) b spos] a pos) (tS X.K g io Wx (sPutI i f h)) := s_putI hN hv ha hb hd hcd hsub hs hw h1
theorem st_self {i : Nat} (S : SetF X.K g.ρ y) (ha : PE X a (tE X.K g io Wx f)) (hN : X.N[i]? = some x := by rfl) (hv : Vis X.env.scope x := by first | exact .inl rfl | exact .inr (.inl rfl) | exact .inr (.inr rfl)) (hd : (x == ("__debug__" : Str)) = false := by decide) (hcd : (x == ("__classdict__" : Str)) = false := by decide)
    (hs : swapsWith a (some (.Attribute (.Name x q) y p)) pos.line X.env = pure false := by rfl) : PS X (.Assign [.Attribute (.Name x q) y p] a pos) (tS X.K g io Wx (sSelf i y f)) := s_self S hN hv ha hd hcd hs
variable {es : List Expr} {hs : Smx (List W)} {k n : Nat}
theorem ca {m : List D → Option Ot} (G : Df X.prog X.w X.K X.mg X.base g x k n m) (hn : Ary n m) (hr : Room k X.A) (wo : WOk X Wx) (ha : PA X (a :: es) (tA X.K g io Wx hs)) (hg : Gl X x := by rfl) (hdb : (x == ("__debug__" : Str)) = false := by decide)
    (he : starEach (a :: es) X.env = (false, eval a X.env) :: starEach es X.env := by rfl) (hpl : (backTo pos (starEach es X.env)).any (·.1) = false := by rfl) : PE X (.Call (.Name x p) (a :: es) [] pos) (tE X.K g io Wx (sCall m hs)) := d_call G hn hr wo hg ha hdb he hpl
theorem caN {m : List D → Option Ot} (G : Df X.prog X.w X.K X.mg X.base g x k n m) (hn : Ary n m) (hr : Room k X.A) (wo : WOk X Wx) (ha : PA X (a :: es) (tA X.K g io Wx hs)) (hg : Gl X x := by rfl) (hdb : (x == ("__debug__" : Str)) = false := by decide)
    (he : starEach (a :: es) X.env = (false, eval a X.env) :: starEach es X.env := by rfl) (hpl : (backTo pos (starEach es X.env)).any (·.1) = false := by rfl) : PE X (.Call (.Name x p) (a :: es) [] pos) (tN X.K g io Wx (sCallN m hs)) := n_call G hn hr wo hg ha hdb he hpl
theorem ca0 {m : List D → Option Ot} (G : Df X.prog X.w X.K X.mg X.base g x k 0 m) (hr : Room k X.A) (wo : WOk X Wx) (hg : Gl X x := by rfl) (hdb : (x == ("__debug__" : Str)) = false := by decide) : PE X (.Call (.Name x p) [] [] pos) (tE X.K g io Wx (sCall m sNil)) := d_call0 G hr wo hg hdb
theorem caI {i : Nat} {m : D → List D → Option Oti} (G : DfIO X.prog X.w X.K X.mg X.base g y k n m) (hn : AryIO n m) (hr : Room k X.A) (wo : WOk X Wx) (ha : PA X es (tA X.K g io Wx hs)) (hg : Gl X y := by rfl) (hN : X.N[i]? = some x := by rfl) (hv : Vis X.env.scope x := by first | exact .inl rfl | exact .inr (.inl rfl) | exact .inr (.inr rfl)) (hdb : (y == ("__debug__" : Str)) = false := by decide)
    (hd : (x == ("__debug__" : Str)) = false := by decide) (hcd : (x == ("__classdict__" : Str)) = false := by decide)
    (he : starEach (.Name x q :: es) X.env = (false, eval (.Name x q) X.env) :: starEach es X.env := by rfl) (hpl : (backTo pos (starEach es X.env)).any (·.1) = false := by rfl) : PE X (.Call (.Name y p) (.Name x q :: es) [] pos) (tE X.K g io Wx (sCallIO i m hs)) := d_callIO G hn hr wo hg hN hv ha hdb hd hcd he hpl
theorem caIN {i : Nat} {m : D → List D → Option Oti} (G : DfIO X.prog X.w X.K X.mg X.base g y k n m) (hn : AryIO n m) (hr : Room k X.A) (wo : WOk X Wx) (ha : PA X es (tA X.K g io Wx hs)) (hg : Gl X y := by rfl) (hN : X.N[i]? = some x := by rfl) (hv : Vis X.env.scope x := by first | exact .inl rfl | exact .inr (.inl rfl) | exact .inr (.inr rfl)) (hdb : (y == ("__debug__" : Str)) = false := by decide)
    (hd : (x == ("__debug__" : Str)) = false := by decide) (hcd : (x == ("__classdict__" : Str)) = false := by decide)
    (he : starEach (.Name x q :: es) X.env = (false, eval (.Name x q) X.env) :: starEach es X.env := by rfl) (hpl : (backTo pos (starEach es X.env)).any (·.1) = false := by rfl) : PE X (.Call (.Name y p) (.Name x q :: es) [] pos) (tN X.K g io Wx (sCallION i m hs)) := n_callIO G hn hr wo hg hN hv ha hdb hd hcd he hpl
theorem mk_ {c : Nat} {m : List D → Option Oi} (G : DfM X.prog X.w X.K X.mg X.base g c x k n m) (hn : AryM n m) (hr : Room (k + 1) X.A) (wo : WOk X Wx) (ha : PA X (a :: es) (tA X.K g io Wx hs)) (hg : Gl X x := by rfl) (hdb : (x == ("__debug__" : Str)) = false := by decide)
    (he : starEach (a :: es) X.env = (false, eval a X.env) :: starEach es X.env := by rfl) (hpl : (backTo pos (starEach es X.env)).any (·.1) = false := by rfl) : PE X (.Call (.Name x p) (a :: es) [] pos) (tE X.K g io Wx (sMake c m hs)) := d_make G hn hr wo hg ha hdb he hpl
theorem isi {T : Tn} {u : Value} (N : ClsN X g.ρ T x) (fs : IsF X.K g.ρ T u) (hmi : X.mg "isinstance" = none) (ha : PE X a (tE X.K g io Wx f)) (hgi : Gl X "isinstance" := by rfl)
    (he : starEach (a :: [.Name x q]) X.env = (false, eval a X.env) :: starEach [.Name x q] X.env := by rfl) (hpl : (backTo pos (starEach [.Name x q] X.env)).any (·.1) = false := by rfl) (he2 : starEach [.Name x q] X.env = (false, eval (.Name x q) X.env) :: starEach [] X.env := by rfl) :
    PE X (.Call (.Name "isinstance" p) [a, .Name x q] [] pos) (tE X.K g io Wx (sIsi T f)) := d_isi N fs hgi hmi ha he hpl he2
theorem cT {n : String} (hm : X.mg x = none) (hg : Gl X x := by rfl) (hv : bootBuiltins x = some (.type n) := by decide +kernel) (hn : x ≠ "__name__" := by decide) (hd : (x == ("__debug__" : Str)) = false := by decide) : ClsN X g.ρ (.ty n) x := clsN_ty hg hm hv hn hd
theorem cO {c : Nat} {C : Addr} {ns : List Str} (hc : g.ρ c = some (C, ns)) (hm : X.mg x = some (.ref C)) (hg : Gl X x := by rfl) (hd : (x == ("__debug__" : Str)) = false := by decide) : ClsN X g.ρ (.own c) x := clsN_own hg hc hm hd
theorem bB {id : String} {o : List D → Option D} (c : BltOk X g (.builtin id) o) (hm : X.mg x = none) (ha : PA X (a :: es) (tA X.K g io Wx hs)) (hg : Gl X x := by rfl) (hv : bootBuiltins x = some (.builtin id) := by decide +kernel) (hn : x ≠ "__name__" := by decide) (hdb : (x == ("__debug__" : Str)) = false := by decide)
    (he : starEach (a :: es) X.env = (false, eval a X.env) :: starEach es X.env := by rfl) (hpl : (backTo pos (starEach es X.env)).any (·.1) = false := by rfl) : PE X (.Call (.Name x p) (a :: es) [] pos) (tE X.K g io Wx (sBlt o hs)) := d_bltB c hg hm hv ha hn hdb he hpl
theorem bT {T : String} {o : List D → Option D} (c : BltOk X g (.type T) o) (hm : X.mg x = none) (ha : PA X (a :: es) (tA X.K g io Wx hs)) (hg : Gl X x := by rfl) (hv : bootBuiltins x = some (.type T) := by decide +kernel) (hn : x ≠ "__name__" := by decide) (hdb : (x == ("__debug__" : Str)) = false := by decide)
    (he : starEach (a :: es) X.env = (false, eval a X.env) :: starEach es X.env := by rfl) (hpl : (backTo pos (starEach es X.env)).any (·.1) = false := by rfl) : PE X (.Call (.Name x p) (a :: es) [] pos) (tE X.K g io Wx (sBlt o hs)) := d_bltT c hg hm hv ha hn hdb he hpl
theorem bnT {T : String} {o : List D → Option D} (c : BltNew X g (.type T) o) (hm : X.mg x = none) (ha : PA X (a :: es) (tA X.K g io Wx hs)) (hg : Gl X x := by rfl) (hv : bootBuiltins x = some (.type T) := by decide +kernel) (hn : x ≠ "__name__" := by decide) (hdb : (x == ("__debug__" : Str)) = false := by decide)
    (he : starEach (a :: es) X.env = (false, eval a X.env) :: starEach es X.env := by rfl) (hpl : (backTo pos (starEach es X.env)).any (·.1) = false := by rfl) : PE X (.Call (.Name x p) (a :: es) [] pos) (tN X.K g io Wx (sBltN o hs)) := n_bltT c hg hm hv ha hn hdb he hpl
theorem bnB {id : String} {o : List D → Option D} (c : BltNew X g (.builtin id) o) (hm : X.mg x = none) (ha : PA X (a :: es) (tA X.K g io Wx hs)) (hg : Gl X x := by rfl) (hv : bootBuiltins x = some (.builtin id) := by decide +kernel) (hn : x ≠ "__name__" := by decide) (hdb : (x == ("__debug__" : Str)) = false := by decide)
    (he : starEach (a :: es) X.env = (false, eval a X.env) :: starEach es X.env := by rfl) (hpl : (backTo pos (starEach es X.env)).any (·.1) = false := by rfl) : PE X (.Call (.Name x p) (a :: es) [] pos) (tN X.K g io Wx (sBltN o hs)) := n_bltB c hg hm hv ha hn hdb he hpl
variable {tg iter elt : Expr} {ifs : List Expr} {wi : TI} {r : TG} {fi : Smx (List D)} {t : Tgt} {body : SSem}
theorem st_for {l : List Stmt} (hi : PId X g io Wx tg iter wi fi) (hg : PGd X g io tg r t) (hb : PSs X l (tS X.K g io Wx body)) (hp : PassesOwn (model X.prog X.w) X.A X.env X.xe := by exact passes_of rfl) (hc : X.calm = true := by rfl)
    (hs : ∀ x, foldedSetIterable iter X.env x = pure x := by intro _; rfl) : PS X (.For tg iter l [] pos) (tS X.K g io Wx (sFor fi t body)) := s_for hp hc hi hg hb hs
theorem st_while {c : Expr} {l : List Stmt} (fuel : En → Nat) {sc : Smx Bool} (hc : PT X c (tB X.K g io Wx sc)) (hb : PSs X l (tS X.K g io Wx body)) (hp : PassesOwn (model X.prog X.w) X.A X.env X.xe := by exact passes_of rfl) : PS X (.While c l [] pos) (tS X.K g io Wx (sWhile fuel sc body)) := s_while hp hc hb
theorem ir1 (ha : PA X [a] (tA X.K g io Wx hs)) (hm : X.mg "range" = none) (hg : Gl X "range" := by rfl) (hst : starEach [a] X.env = [(false, eval a X.env)] := by rfl) : PId X g io Wx tg (.Call (.Name "range" p) [a] [] pos) (iRng1 (tA X.K g io Wx hs)) (iRange1 hs) := i_range1 hg hm ha hst
theorem ir2 (ha : PA X [a, b] (tA X.K g io Wx hs)) (hm : X.mg "range" = none) (hg : Gl X "range" := by rfl) (hst : starEach [a, b] X.env = [(false, eval a X.env), (false, eval b X.env)] := by rfl) (hs2 : starEach [b] X.env = [(false, eval b X.env)] := by rfl) :
    PId X g io Wx tg (.Call (.Name "range" p) [a, b] [] pos) (iRng2 (tA X.K g io Wx hs)) (iRange2 hs) := i_range2 hg hm ha hst hs2
theorem ien {tpos : Pos} {elts : List Expr} {kk : Nat} (ha : PA X [a] (tA X.K g io Wx hs)) (hm : X.mg "enumerate" = none) (hg : Gl X "enumerate" := by rfl) (hst : starEach [a] X.env = [(false, eval a X.env)] := by rfl) :
    PId X g io Wx (.Tuple elts kk tpos) (.Call (.Name "enumerate" p) [a] [] pos) (iEnum X.K (tA X.K g io Wx hs)) (iEnm hs) := i_enum hg hm ha hst
theorem izp {tpos : Pos} {elts : List Expr} {kk : Nat} (ha : PA X [a, b] (tA X.K g io Wx hs)) (hm : X.mg "zip" = none) (hg : Gl X "zip" := by rfl)
    (hst : starEach [a, b] X.env = (false, eval a X.env) :: starEach [b] X.env := by rfl) (hpl : (backTo pos (starEach [b] X.env)).any (·.1) = false := by rfl) :
    PId X g io Wx (.Tuple elts kk tpos) (.Call (.Name "zip" p) [a, b] [] pos) (iZipA X.K (tA X.K g io Wx hs)) (iZp hs) := i_zip hg hm ha hst hpl
theorem lc {scope : Scope} (own : List (Str × Nat)) {c : Smx Bool} {el : Sem} (hN : X.N.Nodup) (hi : PId X g io Wx tg iter wi fi) (hgd : GcD X.K g io (own.map (·.2)) r t)
    (hg : ∀ (s : Shared) (H : Hp) (C : Addr) (cl : List (Str × Addr)) (fp : List Addr), PG (X.blk s H scope (compEnvC scope cl C X.env) fp) tg r) (ht : ∀ (s : Shared) (H : Hp) (C : Addr) (cl : List (Str × Addr)) (fp : List Addr), PTd (X.blk s H scope (compEnvC scope cl C X.env) fp) g io ifs c)
    (he : ∀ (s : Shared) (H : Hp) (C : Addr) (cl : List (Str × Addr)) (fp : List Addr), PE (X.blk s H scope (compEnvC scope cl C X.env) fp) elt (tE X.K g io W0 el)) (ok : blkB X.N X.env.scope scope own = true := by first | kernel_rfl | rfl) (hc : X.calm = true := by rfl) (hs : ∀ x, foldedSetIterable iter X.env x = pure x := by intro _; rfl) :
    PE X (.ListComp elt [⟨tg, iter, ifs, 0⟩] scope pos) (tN X.K g io Wx (sLc fi t c el (own.map (·.2)))) := n_lc hc hN hi (blkB_ok ok) hgd hg ht he hs
theorem st_lc {i : Nat} {py spos : Pos} {scope : Scope} (own : List (Str × Nat)) {c : Smx Bool} {el : Sem} (hN : X.N.Nodup) (hi : PId X g io Wx tg iter wi fi) (hgd : GcD X.K g io (own.map (·.2)) r t)
    (hg : ∀ (s : Shared) (H : Hp) (C : Addr) (cl : List (Str × Addr)) (fp : List Addr), PG (X.blk s H scope (compEnvC scope cl C X.env) fp) tg r) (ht : ∀ (s : Shared) (H : Hp) (C : Addr) (cl : List (Str × Addr)) (fp : List Addr), PTd (X.blk s H scope (compEnvC scope cl C X.env) fp) g io ifs c)
    (he : ∀ (s : Shared) (H : Hp) (C : Addr) (cl : List (Str × Addr)) (fp : List Addr), PE (X.blk s H scope (compEnvC scope cl C X.env) fp) elt (tE X.K g io W0 el)) (ok : blkB X.N X.env.scope scope own = true := by first | kernel_rfl | rfl) (hc : X.calm = true := by rfl) (hy : X.N[i]? = some y := by rfl) (hyl : X.env.scope.names.lookup y = some .local := by rfl)
    (hsw : swapsWith (.ListComp elt [⟨tg, iter, ifs, 0⟩] scope pos) (some (.Name y py)) spos.line X.env = pure true := by rfl) (hs : ∀ x, foldedSetIterable iter X.env x = pure x := by intro _; rfl) :
    PS X (.Assign [.Name y py] (.ListComp elt [⟨tg, iter, ifs, 0⟩] scope pos) spos) (tS X.K g io Wx (sAsg (sF (sLc fi t c el (own.map (·.2)))) (gVar i))) := s_setLc hc hN hy hyl hsw hi (blkB_ok ok) hgd hg ht he hs
theorem st_lcO {i : Nat} {py spos : Pos} {scope : Scope} (own : List (Str × Nat)) {c : Smx Bool} {el : Sem} (hN : X.N.Nodup) (hi : PId X g io Wx tg iter wi fi) (hgd : GcD X.K g io (own.map (·.2)) r t)
    (hg : ∀ (s : Shared) (H : Hp) (C : Addr) (cl : List (Str × Addr)) (fp : List Addr), PG (X.blk s H scope (compEnvC scope cl C X.env) fp) tg r) (ht : ∀ (s : Shared) (H : Hp) (C : Addr) (cl : List (Str × Addr)) (fp : List Addr), PTd (X.blk s H scope (compEnvC scope cl C X.env) fp) g io ifs c)
    (he : ∀ (s : Shared) (H : Hp) (C : Addr) (cl : List (Str × Addr)) (fp : List Addr), PE (X.blk s H scope (compEnvC scope cl C X.env) fp) elt (tE X.K g io W0 el)) (ok : blkB X.N X.env.scope scope own = true := by first | kernel_rfl | rfl) (hc : X.calm = true := by rfl) (hy : X.N[i]? = some y := by rfl) (hyl : X.env.scope.names.lookup y = some .local := by rfl)
    (hsw : swapsWith (.ListComp elt [⟨tg, iter, ifs, 0⟩] scope pos) (some (.Name y py)) spos.line X.env = pure true := by rfl) (hs : ∀ x, foldedSetIterable iter X.env x = pure x := by intro _; rfl) :
    PS X (.Assign [.Name y py] (.ListComp elt [⟨tg, iter, ifs, 0⟩] scope pos) spos) (tS X.K g io Wx (sOwn (sLc fi t c el (own.map (·.2))) i)) := s_ownLc hc hN hy hyl hsw hi (blkB_ok ok) hgd hg ht he hs
theorem pgn {i : Nat} (hN : X.N.Nodup) (hi : X.N[i]? = some x := by rfl) (hx : Loc X.env.scope x := by first | exact .inl rfl | exact .inr rfl) (hf : X.fn x = true ∨ X.env.scope.names.lookup x = some .local := by first | exact .inl rfl | exact .inr rfl) : PG X (.Name x pos) (gName i) := pg_name hN hi hx hf
theorem pgt {es : List Expr} {k n : Nat} {rs : TGs} (h : PGs X es rs) (hc : X.calm = true := by rfl) (hn : (assignEach es X.env).length = n := by rfl) (hst : (assignEach es X.env).findIdx? (·.1) = none := by rfl) : PG X (.Tuple es k pos) (gTup X.K n rs) := pg_tup hc h hn hst
end
/-- the fuel of a loop: an int's size -/
def fuelI (i : Nat) : En → Nat := fun e => match e[i]? with
  | some (.val (.int n)) => n.natAbs + 1
  | _ => 0
end Mz

namespace Mz
open PySem PySem.Spec PyProof.Rows L2

/-! ### a law's end -/
theorem walk_M {l : PySem.W.OpenLaw} {n k : Nat} {q : Program} {loose : List Str} {XP : (Str → Option Value) → Heap → Prop} {YP : World → Heap → Prop} {d : DefRec} {x : Str} (hn : l.most = some n) (hn2 : n ≤ sizeLine) (hdf : d.params.defaults = []) (hr : Room k callerA)
    (F : ∀ (w : World) (mg : Str → Option Value) (fa : Addr) (h : Heap), YP w h → h.Ns mainGlobals mg → mg d.name = some (.ref fa) → ∃ (K : PySem.W.Frag) (fd : FuncData), K.In h ∧ (∀ (s : Shared) (u : Value), BindsTo s fd ⟨[u], []⟩ [(x, u)]) ∧
      ∀ base : Heap, K.In base → base.Ns mainGlobals mg → FnOk l.prog w K mg base (L2.CX l.prog w) k fa fd [x] (spLaw K n)) : PySem.W.WalkO q loose XP YP l.row.toRowW d [] (fun f vs => PySem.call f vs) := by
  refine Att.attach_call hn hdf fun w s₀ s₁ mg mb fa o pm cd doc a vs ns G Y ho hd hcd hmg hobj hints hlen hg => ?_
  obtain ⟨K, fd, KX, hb, hF⟩ := F w mg fa _ Y G.T.g hmg
  refine law_call KX G.T.g G.T.b G.T.builtins G.T.nolimit hg hobj hints (Nat.le_trans hlen hn2) hr hF hb (fun H hO hS => ⟨a, ns, rfl, hS, hlen, fun _ => rfl⟩) fun H e s' c => ?_
  obtain ⟨_, _, _, _, _, _, _, _, _, _, _, _, z⟩ := c
  exact z
theorem df_law {P : Program} {w : World} {K : PySem.W.Frag} {mg : Str → Option Value} {base : Heap} {g : Gb} {k n : Nat} {x : Str} {fa : Addr} {m : List D → Option Ot} (G : Df P w K mg base g x k 1 m) (hm : mg x = some (.ref fa)) (law : ∀ ns : List Int, ns.length ≤ n → m [.ro ns] = some (.ok (.bl true) false)) :
    ∃ fd ps, FnOk P w K mg base (L2.CX P w) k fa fd ps (spLaw K n) := by
  obtain ⟨f, fd, ps, F, h1, _, _⟩ := G.ex
  rw [hm] at h1
  cases h1
  exact ⟨fd, ps, law_of F law⟩
theorem bindsA {K : PySem.W.Frag} {x qual : Str} {st : Stmt} {f : Addr} {fd : FuncData} {ps : List Str} (F : Fun K x qual st f fd) (h : BindsF x qual st ps) (s : Shared) (us : List Value) (hl : us.length = ps.length) : BindsTo s fd ⟨us, []⟩ (ps.zip us) := by
  obtain ⟨oc, od, kV, doc, pm, an, cdv, ct, osl, rfl, lk, hcd⟩ := F.ex
  exact .of_eq (h kV doc pm an cdv ct us hl)
end Mz

namespace Mz
open PySem PySem.Spec PyProof.Rows L2

/-! ### plain laws: data that compare as they stand -/
@[simp] theorem kb_i_i : kitB "int" "int" = some true := by decide +kernel
@[simp] theorem kb_i_b : kitB "int" "bool" = some false := by decide +kernel
@[simp] theorem kb_t_t : kitB "tuple" "tuple" = some true := by decide +kernel
@[simp] theorem kb_b_i : kitB "bool" "int" = some true := by decide +kernel
@[simp] theorem kb_b_b : kitB "bool" "bool" = some true := by decide +kernel
def nice : Nat → D → Prop
  | _, .int _ => True
  | _, .non => True
  | _, .str x => PyData.strOk x = true
  | k + 1, .tup xs => ∀ x ∈ xs, nice k x
  | k + 1, .lst xs => ∀ x ∈ xs, nice k x
  | _, _ => False
theorem toPys_of {xs : List D} {P : PyData → Prop} (h : ∀ x ∈ xs, ∃ p, toPy x = some p ∧ P p) : ∃ ps, toPys xs = some ps ∧ ∀ p ∈ ps, P p := by
  induction xs with
  | nil => exact ⟨[], rfl, fun p hp => by cases hp⟩
  | cons x xs ih =>
    obtain ⟨p, e1, p1⟩ := h x (List.mem_cons_self ..)
    obtain ⟨ps, e2, p2⟩ := ih fun y hy => h y (List.mem_cons_of_mem _ hy)
    refine ⟨p :: ps, by simp only [toPys, e1, e2], fun q hq => ?_⟩
    rcases List.mem_cons.mp hq with rfl | hq
    · exact p1
    · exact p2 q hq
theorem canAll {ps : List PyData} (h : ∀ p ∈ ps, p.canLay0 = true) : PyData.canLayAll0 ps = true := by
  induction ps with
  | nil => rfl
  | cons p ps ih =>
    unfold PyData.canLayAll0
    rw [h p (List.mem_cons_self ..), ih fun q hq => h q (List.mem_cons_of_mem _ hq)] <;> rfl
theorem depAll {ps : List PyData} {k : Nat} (h : ∀ p ∈ ps, p.depth ≤ k) : PyData.depthAll ps ≤ k := by
  induction ps with
  | nil => simp [PyData.depthAll]
  | cons p ps ih =>
    have h1 := h p (List.mem_cons_self ..)
    have h2 := ih fun q hq => h q (List.mem_cons_of_mem _ hq)
    simp only [PyData.depthAll]
    omega
theorem nice_py : ∀ {k : Nat} {d : D}, nice k d → ∃ p, toPy d = some p ∧ p.canLay0 = true ∧ p.depth ≤ k + 1 := by
  intro k
  induction k with
  | zero =>
    intro d h
    cases d with
    | int i => exact ⟨_, rfl, by simp [PyData.canLay0], by simp [PyData.depth]⟩
    | non => exact ⟨_, rfl, by simp [PyData.canLay0], by simp [PyData.depth]⟩
    | str x => exact ⟨_, rfl, by simpa [PyData.canLay0, nice] using h, by simp [PyData.depth]⟩
    | _ => exact absurd h (by simp [nice])
  | succ k ih =>
    intro d h
    cases d with
    | int i => exact ⟨_, rfl, by simp [PyData.canLay0], by simp [PyData.depth]⟩
    | non => exact ⟨_, rfl, by simp [PyData.canLay0], by simp [PyData.depth]⟩
    | str x => exact ⟨_, rfl, by simpa [PyData.canLay0, nice] using h, by simp [PyData.depth]⟩
    | tup xs =>
      obtain ⟨ps, e, q⟩ := toPys_of (P := fun p => p.canLay0 = true ∧ p.depth ≤ k + 1) fun x hx => ih (h x hx)
      refine ⟨.tuple ps, by simp [toPy, e], by simpa [PyData.canLay0] using canAll fun p hp => (q p hp).1, ?_⟩
      have := depAll fun p hp => (q p hp).2
      simp only [PyData.depth]; omega
    | lst xs =>
      obtain ⟨ps, e, q⟩ := toPys_of (P := fun p => p.canLay0 = true ∧ p.depth ≤ k + 1) fun x hx => ih (h x hx)
      refine ⟨.list ps, by simp [toPy, e], by simpa [PyData.canLay0] using canAll fun p hp => (q p hp).1, ?_⟩
      have := depAll fun p hp => (q p hp).2
      simp only [PyData.depth]; omega
    | _ => exact absurd h (by simp [nice])
theorem eqvs {xs ys : List D} {k : Nat} (ih : ∀ {a b : D} {p q : PyData}, nice k a → nice k b → toPy a = some p → toPy b = some q → (PyData.eqv p q = true ↔ a = b)) (hx : ∀ x ∈ xs, nice k x) (hy : ∀ x ∈ ys, nice k x) :
    ∀ {ps qs : List PyData}, toPys xs = some ps → toPys ys = some qs → (PyData.eqvAll ps qs = true ↔ xs = ys) := by
  induction xs generalizing ys with
  | nil =>
    intro ps qs e1 e2
    cases e1
    cases ys with
    | nil => cases e2; simp [PyData.eqvAll]
    | cons y ys =>
      obtain ⟨q, e3, _⟩ := nice_py (hy y (List.mem_cons_self ..))
      simp only [toPys, e3] at e2
      split at e2
      · rename_i z1 z2; cases e2; simp [PyData.eqvAll]
      · cases e2
  | cons x xs ihx =>
    intro ps qs e1 e2
    obtain ⟨p, e3, _⟩ := nice_py (hx x (List.mem_cons_self ..))
    simp only [toPys, e3] at e1
    cases e4 : toPys xs with
    | none => rw [e4] at e1; cases e1
    | some ps' =>
      rw [e4] at e1
      cases e1
      cases ys with
      | nil => cases e2; simp [PyData.eqvAll]
      | cons y ys =>
        obtain ⟨q, e5, _⟩ := nice_py (hy y (List.mem_cons_self ..))
        simp only [toPys, e5] at e2
        cases e6 : toPys ys with
        | none => rw [e6] at e2; cases e2
        | some qs' =>
          rw [e6] at e2
          cases e2
          have i1 := ih (hx x (List.mem_cons_self ..)) (hy y (List.mem_cons_self ..)) e3 e5
          have i2 := ihx (ys := ys) (fun z hz => hx z (List.mem_cons_of_mem _ hz)) (fun z hz => hy z (List.mem_cons_of_mem _ hz)) e4 e6
          simp only [PyData.eqvAll, Bool.and_eq_true, i1, i2, List.cons.injEq]
theorem eqv_nice : ∀ {k : Nat} {a b : D} {p q : PyData}, nice k a → nice k b → toPy a = some p → toPy b = some q → (PyData.eqv p q = true ↔ a = b) := by
  intro k
  induction k with
  | zero =>
    intro a b p q ha hb e1 e2
    cases a <;> cases b <;> (try (exfalso; simp [nice] at ha; done)) <;> (try (exfalso; simp [nice] at hb; done)) <;> simp only [toPy, Option.some.injEq] at e1 e2 <;> subst e1 <;> subst e2 <;> simp [PyData.eqv]
  | succ k ih =>
    intro a b p q ha hb e1 e2
    cases a with
    | tup xs =>
      simp only [toPy, Option.map_eq_some_iff] at e1
      obtain ⟨ps, e1, rfl⟩ := e1
      cases b with
      | tup ys =>
        simp only [toPy, Option.map_eq_some_iff] at e2
        obtain ⟨qs, e2, rfl⟩ := e2
        have := eqvs (fun h1 h2 h3 h4 => ih h1 h2 h3 h4) (by simpa [nice] using ha) (by simpa [nice] using hb) e1 e2
        simp only [PyData.eqv, this, D.tup.injEq]
      | lst ys =>
        simp only [toPy, Option.map_eq_some_iff] at e2
        obtain ⟨qs, e2, rfl⟩ := e2
        simp [PyData.eqv]
      | _ => simp_all [nice, toPy] <;> (try subst e2) <;> simp [PyData.eqv]
    | lst xs =>
      simp only [toPy, Option.map_eq_some_iff] at e1
      obtain ⟨ps, e1, rfl⟩ := e1
      cases b with
      | lst ys =>
        simp only [toPy, Option.map_eq_some_iff] at e2
        obtain ⟨qs, e2, rfl⟩ := e2
        have := eqvs (fun h1 h2 h3 h4 => ih h1 h2 h3 h4) (by simpa [nice] using ha) (by simpa [nice] using hb) e1 e2
        simp only [PyData.eqv, this, D.lst.injEq]
      | tup ys =>
        simp only [toPy, Option.map_eq_some_iff] at e2
        obtain ⟨qs, e2, rfl⟩ := e2
        simp [PyData.eqv]
      | _ => simp_all [nice, toPy] <;> (try subst e2) <;> simp [PyData.eqv]
    | _ =>
      cases b with
      | tup ys =>
        simp only [toPy, Option.map_eq_some_iff] at e2
        obtain ⟨qs, e2, rfl⟩ := e2
        simp_all [nice, toPy] <;> (try subst e1) <;> simp [PyData.eqv]
      | lst ys =>
        simp only [toPy, Option.map_eq_some_iff] at e2
        obtain ⟨qs, e2, rfl⟩ := e2
        simp_all [nice, toPy] <;> (try subst e1) <;> simp [PyData.eqv]
      | _ => (try (exfalso; simp [nice] at ha; done)) <;> (try (exfalso; simp [nice] at hb; done)) <;> simp only [toPy, Option.some.injEq] at e1 e2 <;> subst e1 <;> subst e2 <;> simp [PyData.eqv]
theorem shaped_nice {k : Nat} {d : D} (h : nice k d) (hk : k < 64) : ∃ p, toPy d = some p ∧ SeqAt.shaped p = true := by
  obtain ⟨p, e, c, dp⟩ := nice_py h
  refine ⟨p, e, ?_⟩
  unfold SeqAt.shaped
  rw [c, Bool.true_and, decide_eq_true_eq]
  omega
open Classical in
theorem eqD_nice {k : Nat} {a b : D} (ha : nice k a) (hb : nice k b) (hk : k < 64) : eqD a b = some (decide (a = b)) := by
  obtain ⟨p, e1, s1⟩ := shaped_nice ha hk
  obtain ⟨q, e2, s2⟩ := shaped_nice hb hk
  have z := eqv_nice ha hb e1 e2
  simp only [eqD, e1, e2, s1, s2, Bool.and_self, if_true, Option.some.injEq]
  by_cases h : a = b
  · rw [decide_eq_true h]; exact z.mpr h
  · rw [decide_eq_false h]
    cases h2 : PyData.eqv p q with
    | false => rfl
    | true => exact absurd (z.mp h2) h
@[simp] theorem eqD_int (i j : Int) : eqD (.int i) (.int j) = some (decide (i = j)) := by
  have h : SeqAt.shaped (.int i) = true := by simp [SeqAt.shaped, PyData.canLay0, PyData.depth]
  have h2 : SeqAt.shaped (.int j) = true := by simp [SeqAt.shaped, PyData.canLay0, PyData.depth]
  simp [eqD, toPy, h, h2, PyData.eqv]
  rfl
theorem any_eqv {k : Nat} {a : D} {p : PyData} (ha : nice k a) (e1 : toPy a = some p) : ∀ {ys : List D} {qs : List PyData}, (∀ y ∈ ys, nice k y) → toPys ys = some qs → (qs.any (fun z => PyData.eqv z p) = true ↔ a ∈ ys)
  | [], qs, _, e => by cases e; simp
  | y :: ys, qs, h, e => by
    obtain ⟨q, e5, _⟩ := nice_py (h y (List.mem_cons_self ..))
    simp only [toPys, e5] at e
    cases e6 : toPys ys with
    | none => rw [e6] at e; cases e
    | some qs' =>
      rw [e6] at e
      cases e
      have i1 := eqv_nice (h y (List.mem_cons_self ..)) ha e5 e1
      have i2 := any_eqv ha e1 (fun z hz => h z (List.mem_cons_of_mem _ hz)) e6
      rw [List.any_cons, Bool.or_eq_true, i1, i2, List.mem_cons]
      exact ⟨fun z => z.elim (fun z => .inl z.symm) .inr, fun z => z.elim (fun z => .inl z.symm) .inr⟩
open Classical in
theorem inD_nice {k : Nat} {a : D} {ys : List D} (ha : nice (k + 1) a) (hb : nice (k + 1) (.lst ys)) (hm : ∀ y ∈ ys, nice (k + 1) y) (hk : k < 63) : inD a (.lst ys) = some (decide (a ∈ ys)) := by
  obtain ⟨p, e1, s1⟩ := shaped_nice ha (by omega)
  obtain ⟨q, e2, s2⟩ := shaped_nice hb (by omega)
  simp only [toPy, Option.map_eq_some_iff] at e2
  obtain ⟨qs, e2, rfl⟩ := e2
  have z := any_eqv ha e1 hm e2
  simp only [inD, e1, toPy, e2, Option.map_some, s1, s2, Bool.and_self, if_true, Option.some.injEq]
  by_cases h : a ∈ ys
  · rw [decide_eq_true h]; exact z.mpr h
  · rw [decide_eq_false h]
    cases h2 : qs.any (fun z => PyData.eqv z p) with
    | false => rfl
    | true => exact absurd (z.mp h2) h

/-! ### loops -/
theorem forGo_st {S : Type} {t : Tgt} {body : SSem} {inv : S → En → Prop} {step : S → D → S} : ∀ {items : List D} {s : S} {e : En}, (∀ s x e, x ∈ items → inv s e → ∃ e1 e2, t x e = some e1 ∧ body e1 = some (.nx e2) ∧ inv (step s x) e2) → inv s e →
    ∃ e', forGo t body items e = some (.nx e') ∧ inv (items.foldl step s) e'
  | [], s, e, _, h => ⟨e, rfl, h⟩
  | x :: xs, s, e, hs, h => by
    obtain ⟨e1, e2, h1, h2, h3⟩ := hs s x e (List.mem_cons_self ..) h
    obtain ⟨e', h4, h5⟩ := forGo_st (items := xs) (fun s y e hy => hs s y e (List.mem_cons_of_mem _ hy)) h3
    refine ⟨e', ?_, h5⟩
    simp only [forGo, h1, h2]
    exact h4
/-- only a state that need not be told -/
theorem forGo_inv {t : Tgt} {body : SSem} {inv : En → Prop} : ∀ {items : List D} {e : En}, (∀ x e, x ∈ items → inv e → ∃ e1 e2, t x e = some e1 ∧ body e1 = some (.nx e2) ∧ inv e2) → inv e → ∃ e', forGo t body items e = some (.nx e') ∧ inv e'
  | [], e, _, h => ⟨e, rfl, h⟩
  | x :: xs, e, hs, h => by
    obtain ⟨e1, e2, h1, h2, h3⟩ := hs x e (List.mem_cons_self ..) h
    obtain ⟨e', h4, h5⟩ := forGo_inv (items := xs) (fun y e hy => hs y e (List.mem_cons_of_mem _ hy)) h3
    refine ⟨e', ?_, h5⟩
    simp only [forGo, h1, h2]
    exact h4
/-- each turn adds to a state, which turn is not asked -/
theorem forGo_ix {t : Tgt} {body : SSem} {inv : Nat → En → Prop} : ∀ {items : List D} {n : Nat} {e : En}, (∀ i x e, items[i]? = some x → inv (n + i) e → ∃ e1 e2, t x e = some e1 ∧ body e1 = some (.nx e2) ∧ inv (n + i + 1) e2) → inv n e → ∃ e', forGo t body items e = some (.nx e') ∧ inv (n + items.length) e'
  | [], n, e, _, h => ⟨e, rfl, h⟩
  | x :: xs, n, e, hs, h => by
    obtain ⟨e1, e2, h1, h2, h3⟩ := hs 0 x e rfl h
    obtain ⟨e', h4, h5⟩ := forGo_ix (items := xs) (n := n + 1) (fun i y e hy hi => by
      have := hs (i + 1) y e (by simpa using hy) (by rw [show n + (i + 1) = n + 1 + i by omega]; exact hi)
      rw [show n + (i + 1) + 1 = n + 1 + i + 1 by omega] at this
      exact this) h3
    refine ⟨e', ?_, by rw [List.length_cons, show n + (xs.length + 1) = n + 1 + xs.length by omega]; exact h5⟩
    simp only [forGo, h1, h2]
    exact h4
theorem lcGo_map {t : Tgt} {c : Smx Bool} {el : Sem} {vs : List Nat} {e0 : En} {f : D → D} {p : D → Bool} : ∀ {items : List D}, (∀ x ∈ items, ∃ e1 e2, t x e0 = some e1 ∧ c e1 = some (.ok (p x) e2) ∧ wipeE e2 vs = e0 ∧ (p x = true → ∃ e3, el e2 = some (.ok (.dat (f x)) e3) ∧ wipeE e3 vs = e0)) →
    lcGo t c el vs items e0 = some ((items.filter p).map f, e0)
  | [], _ => rfl
  | x :: xs, h => by
    obtain ⟨e1, e2, h1, h2, h3, h4⟩ := h x (List.mem_cons_self ..)
    have ih := lcGo_map (items := xs) fun y hy => h y (List.mem_cons_of_mem _ hy)
    cases hp : p x with
    | true =>
      obtain ⟨e3, h5, h6⟩ := h4 hp
      rw [hp] at h2
      simp only [lcGo, h1, h2, h5, h6, ih, List.filter_cons, hp, if_true, List.map_cons]
    | false =>
      rw [hp] at h2
      simp only [lcGo, h1, h2, h3, ih, List.filter_cons, hp, Bool.false_eq_true, if_false]
theorem filter_all {α : Type} (l : List α) : l.filter (fun _ => true) = l := by induction l <;> simp_all
theorem kLc_map {t : Tgt} {el : Sem} {vs : List Nat} {e e0 : En} {f : D → D} {items : List D} (he : wipeE e vs = e0) (hz : items.length ≤ sizeLine) (h : ∀ x ∈ items, ∃ e1 e3, t x e0 = some e1 ∧ el e1 = some (.ok (.dat (f x)) e3) ∧ wipeE e1 vs = e0 ∧ wipeE e3 vs = e0) :
    kLc t bYes el vs items e = some (.ok (.lst (items.map f)) e0) := by
  have z := lcGo_map (t := t) (c := bYes) (el := el) (vs := vs) (e0 := e0) (f := f) (p := fun _ => true) (items := items) fun x hx => by
    obtain ⟨e1, e3, h1, h2, h3, h4⟩ := h x hx
    exact ⟨e1, e1, h1, rfl, h3, fun _ => ⟨e3, h2, h4⟩⟩
  rw [filter_all] at z
  simp only [kLc, he, z]
  rw [if_pos (by rw [List.length_map]; exact hz)]
theorem kLc_if {t : Tgt} {c : Smx Bool} {el : Sem} {vs : List Nat} {e e0 : En} {f : D → D} {p : D → Bool} {items : List D} (he : wipeE e vs = e0) (hz : items.length ≤ sizeLine) (h : ∀ x ∈ items, ∃ e1 e2, t x e0 = some e1 ∧ c e1 = some (.ok (p x) e2) ∧ wipeE e2 vs = e0 ∧ (p x = true → ∃ e3, el e2 = some (.ok (.dat (f x)) e3) ∧ wipeE e3 vs = e0)) :
    kLc t c el vs items e = some (.ok (.lst ((items.filter p).map f)) e0) := by
  have z := lcGo_map h
  simp only [kLc, he, z]
  rw [if_pos]
  rw [List.length_map]
  exact Nat.le_trans (List.length_filter_le _ _) hz
theorem flat_le {α β : Type} {g : α → List β} {k : Nat} : ∀ {l : List α}, (∀ a ∈ l, (g a).length ≤ k) → (l.flatMap g).length ≤ l.length * k
  | [], _ => by simp
  | a :: l, h => by
    have h1 := h a (List.mem_cons_self ..)
    have h2 := flat_le (l := l) fun b hb => h b (List.mem_cons_of_mem _ hb)
    simp only [List.flatMap_cons, List.length_append, List.length_cons, Nat.succ_mul]
    omega
/-- each turn appends -/
theorem forGo_cat {α β : Type} {t : Tgt} {body : SSem} {f : α → D} {g : α → List β} {N : Nat} {inv : List β → En → Prop} : ∀ {l : List α} {s : List β} {e : En}, (s ++ l.flatMap g).length ≤ N →
    (∀ s a e, a ∈ l → (s ++ g a).length ≤ N → inv s e → ∃ e1 e2, t (f a) e = some e1 ∧ body e1 = some (.nx e2) ∧ inv (s ++ g a) e2) → inv s e → ∃ e', forGo t body (l.map f) e = some (.nx e') ∧ inv (s ++ l.flatMap g) e'
  | [], s, e, _, _, h => ⟨e, rfl, by simpa using h⟩
  | a :: l, s, e, hN, hs, h => by
    have hN2 : ((s ++ g a) ++ l.flatMap g).length ≤ N := by simpa [List.append_assoc] using hN
    have hN1 : (s ++ g a).length ≤ N := by rw [List.length_append] at hN2; omega
    obtain ⟨e1, e2, h1, h2, h3⟩ := hs s a e (List.mem_cons_self ..) hN1 h
    obtain ⟨e', h4, h5⟩ := forGo_cat (l := l) hN2 (fun s b e hb => hs s b e (List.mem_cons_of_mem _ hb)) h3
    refine ⟨e', ?_, by simpa [List.append_assoc] using h5⟩
    simp only [List.map_cons, forGo, h1, h2]
    exact h4
theorem flat_if {α β : Type} {f : α → β} {p : α → Bool} : ∀ {l : List α}, (l.flatMap fun a => if p a = true then [f a] else []) = (l.filter p).map f
  | [] => rfl
  | a :: l => by
    cases h : p a <;> simp [h, flat_if (l := l)]
@[simp] theorem toBls_map' {α : Type} (l : List α) (g : α → Bool) : toBls (l.map fun a => .bl (g a)) = some (l.map g) := by
  have := toBls_map (l.map g)
  rw [List.map_map] at this
  exact this
@[simp] theorem toInts_map' {α : Type} (l : List α) (g : α → Int) : toInts (l.map fun a => .int (g a)) = some (l.map g) := by
  have := toInts_map (l.map g)
  rw [List.map_map] at this
  exact this
@[simp] theorem oEq_int (i j : Int) : oEq (.int i) (.int j) = some (.bl (decide (i = j))) := by simp [oEq]
@[simp] theorem oNe_int (i j : Int) : oNe (.int i) (.int j) = some (.bl (!decide (i = j))) := by simp [oNe]
open Classical in
theorem oEq_nice {k : Nat} {a b : D} (ha : nice k a) (hb : nice k b) (hk : k < 64) : oEq a b = some (.bl (decide (a = b))) := by simp [oEq, eqD_nice ha hb hk]
open Classical in
theorem oNe_nice {k : Nat} {a b : D} (ha : nice k a) (hb : nice k b) (hk : k < 64) : oNe a b = some (.bl (!decide (a = b))) := by simp [oNe, eqD_nice ha hb hk]
theorem oEq_self {k : Nat} {a : D} (ha : nice k a) (hk : k < 64) : oEq a a = some (.bl true) := by simp [oEq_nice ha ha hk]
theorem oNe_self {k : Nat} {a : D} (ha : nice k a) (hk : k < 64) : oNe a a = some (.bl false) := by simp [oNe_nice ha ha hk]
theorem kLc_on {α : Type} {t : Tgt} {el : Sem} {vs : List Nat} {e e0 : En} {l : List α} {ι φ : α → D} (he : wipeE e vs = e0) (hz : l.length ≤ sizeLine) (h : ∀ a ∈ l, match t (ι a) e0 with
      | some e1 => el e1 = some (.ok (.dat (φ a)) e1) ∧ wipeE e1 vs = e0
      | none => False) : kLc t bYes el vs (l.map ι) e = some (.ok (.lst (l.map φ)) e0) := by
  have z : ∀ l' : List α, (∀ a ∈ l', a ∈ l) → lcGo t bYes el vs (l'.map ι) e0 = some (l'.map φ, e0) := fun l' => by
    induction l' with
    | nil => exact fun _ => rfl
    | cons a l' ih =>
      intro hs
      have h1 := h a (hs a (List.mem_cons_self ..))
      have h2 := ih fun b hb => hs b (List.mem_cons_of_mem _ hb)
      cases e1 : t (ι a) e0 with
      | none => rw [e1] at h1; exact h1.elim
      | some e1' =>
        rw [e1] at h1
        simp only [List.map_cons, lcGo, e1, bYes, h1.1, h1.2, h2]
  simp only [kLc, he, z l fun a h => h]
  rw [if_pos (by rw [List.length_map]; exact hz)]
theorem kLc_onIf {α : Type} {t : Tgt} {c : Smx Bool} {el : Sem} {vs : List Nat} {e e0 : En} {l : List α} {ι φ : α → D} {p : α → Bool} (he : wipeE e vs = e0) (hz : l.length ≤ sizeLine) (h : ∀ a ∈ l, match t (ι a) e0 with
      | some e1 => c e1 = some (.ok (p a) e1) ∧ (p a = true → el e1 = some (.ok (.dat (φ a)) e1)) ∧ wipeE e1 vs = e0
      | none => False) : kLc t c el vs (l.map ι) e = some (.ok (.lst ((l.filter p).map φ)) e0) := by
  have z : ∀ l' : List α, (∀ a ∈ l', a ∈ l) → lcGo t c el vs (l'.map ι) e0 = some ((l'.filter p).map φ, e0) := fun l' => by
    induction l' with
    | nil => exact fun _ => rfl
    | cons a l' ih =>
      intro hs
      have h1 := h a (hs a (List.mem_cons_self ..))
      have h2 := ih fun b hb => hs b (List.mem_cons_of_mem _ hb)
      cases e1 : t (ι a) e0 with
      | none => rw [e1] at h1; exact h1.elim
      | some e1' =>
        rw [e1] at h1
        cases hp : p a with
        | true => simp only [List.map_cons, lcGo, e1, h1.1, hp, h1.2.1 hp, h1.2.2, h2, List.filter_cons, if_true]
        | false => simp only [List.map_cons, lcGo, e1, h1.1, hp, h1.2.2, h2, List.filter_cons, Bool.false_eq_true, if_false]
  simp only [kLc, he, z l fun a h => h]
  rw [if_pos]
  rw [List.length_map]
  exact Nat.le_trans (List.length_filter_le _ _) hz
/-- each turn appends -/
theorem go_cat {α β : Type} {t : Tgt} {body : SSem} {f : α → D} {g : α → List β} {N : Nat} {inv : List β → En → Prop} {l : List α} {s : List β} {e : En} (hN : (s ++ l.flatMap g).length ≤ N)
    (h : ∀ s a e, a ∈ l → (s ++ g a).length ≤ N → inv s e → ∃ e2, (t (f a) e).bind body = some (.nx e2) ∧ inv (s ++ g a) e2) (h0 : inv s e) : ∃ e', forGo t body (l.map f) e = some (.nx e') ∧ inv (s ++ l.flatMap g) e' :=
  forGo_cat hN (fun s a e ha hn hi => by
    obtain ⟨e2, h1, h2⟩ := h s a e ha hn hi
    rw [Option.bind_eq_some_iff] at h1
    obtain ⟨e1, h3, h4⟩ := h1
    exact ⟨e1, e2, h3, h4, h2⟩) h0
/-- each turn keeps -/
theorem go_inv {α : Type} {t : Tgt} {body : SSem} {f : α → D} {inv : En → Prop} {l : List α} {e : En} (h : ∀ a e, a ∈ l → inv e → ∃ e2, (t (f a) e).bind body = some (.nx e2) ∧ inv e2) (h0 : inv e) : ∃ e', forGo t body (l.map f) e = some (.nx e') ∧ inv e' :=
  forGo_inv (fun x e hx hi => by
    obtain ⟨a, ha, rfl⟩ := List.mem_map.mp hx
    obtain ⟨e2, h1, h2⟩ := h a e ha hi
    rw [Option.bind_eq_some_iff] at h1
    obtain ⟨e1, h3, h4⟩ := h1
    exact ⟨e1, e2, h3, h4, h2⟩) h0
/-- each turn steps -/
theorem go_st {α S : Type} {t : Tgt} {body : SSem} {f : α → D} {step : S → α → S} {inv : S → En → Prop} : ∀ {l : List α} {s : S} {e : En}, (∀ s a e, a ∈ l → inv s e → ∃ e2, (t (f a) e).bind body = some (.nx e2) ∧ inv (step s a) e2) → inv s e → ∃ e', forGo t body (l.map f) e = some (.nx e') ∧ inv (l.foldl step s) e'
  | [], s, e, _, h => ⟨e, rfl, h⟩
  | a :: l, s, e, h, h0 => by
    obtain ⟨e2, h1, h2⟩ := h s a e (List.mem_cons_self ..) h0
    rw [Option.bind_eq_some_iff] at h1
    obtain ⟨e1, h3, h4⟩ := h1
    obtain ⟨e', h5, h6⟩ := go_st (l := l) (fun s b e hb => h s b e (List.mem_cons_of_mem _ hb)) h2
    refine ⟨e', ?_, h6⟩
    simp only [List.map_cons, forGo, h3, h4]
    exact h5
open Classical in
theorem oEq_if {k : Nat} {a b : D} {p : Bool} (ha : nice k a) (hb : nice k b) (hk : k < 64) (h : a = b ↔ p = true) : oEq a b = some (.bl p) := by
  rw [oEq_nice ha hb hk]
  cases p with
  | true => rw [decide_eq_true (h.mpr rfl)]
  | false => rw [decide_eq_false fun z => Bool.false_ne_true (h.mp z)]
open Classical in
theorem oNe_if {k : Nat} {a b : D} {p : Bool} (ha : nice k a) (hb : nice k b) (hk : k < 64) (h : a = b ↔ p = true) : oNe a b = some (.bl (!p)) := by
  rw [oNe_nice ha hb hk]
  cases p with
  | true => rw [decide_eq_true (h.mpr rfl)]
  | false => rw [decide_eq_false fun z => Bool.false_ne_true (h.mp z)]
open Classical in
theorem oInL_if {k : Nat} {a : D} {ys : List D} {p : Bool} (ha : nice (k + 1) a) (hb : nice (k + 1) (.lst ys)) (hm : ∀ y ∈ ys, nice (k + 1) y) (hk : k < 63) (h : a ∈ ys ↔ p = true) : oInL a (.lst ys) = some (.bl p) := by
  simp only [oInL, inD_nice ha hb hm hk, Option.map_some]
  cases p with
  | true => rw [decide_eq_true (h.mpr rfl)]
  | false => rw [decide_eq_false fun z => Bool.false_ne_true (h.mp z)]
open Classical in
theorem oNotInL_if {k : Nat} {a : D} {ys : List D} {p : Bool} (ha : nice (k + 1) a) (hb : nice (k + 1) (.lst ys)) (hm : ∀ y ∈ ys, nice (k + 1) y) (hk : k < 63) (h : a ∈ ys ↔ p = true) : oNotInL a (.lst ys) = some (.bl (!p)) := by
  simp only [oNotInL, inD_nice ha hb hm hk, Option.map_some]
  cases p with
  | true => rw [decide_eq_true (h.mpr rfl)]
  | false => rw [decide_eq_false fun z => Bool.false_ne_true (h.mp z)]
theorem nice_up : ∀ {k : Nat} {d : D}, nice k d → nice (k + 1) d
  | 0, d, h => by cases d <;> simp_all [nice]
  | k + 1, d, h => by
    cases d with
    | tup xs => exact fun x hx => nice_up (h x hx)
    | lst xs => exact fun x hx => nice_up (h x hx)
    | _ => simp_all [nice]
/-- each turn is counted -/
theorem go_ix {α : Type} {t : Tgt} {body : SSem} {f : α → D} {inv : Nat → En → Prop} {l : List α} {e : En} (h : ∀ i a e, l[i]? = some a → inv i e → ∃ e2, (t (f a) e).bind body = some (.nx e2) ∧ inv (i + 1) e2) (h0 : inv 0 e) : ∃ e', forGo t body (l.map f) e = some (.nx e') ∧ inv l.length e' := by
  have z := forGo_ix (t := t) (body := body) (inv := inv) (items := l.map f) (n := 0) (e := e) (fun i x e hx hi => by
    rw [List.getElem?_map, Option.map_eq_some_iff] at hx
    obtain ⟨a, ha, rfl⟩ := hx
    rw [Nat.zero_add] at hi ⊢
    obtain ⟨e2, h1, h2⟩ := h i a e ha hi
    rw [Option.bind_eq_some_iff] at h1
    obtain ⟨e1, h3, h4⟩ := h1
    exact ⟨e1, e2, h3, h4, h2⟩) h0
  rw [Nat.zero_add, List.length_map] at z
  exact z
theorem while_step {c : Smx Bool} {body : SSem} {n : Nat} {e e1 e2 : En} (hc : c e = some (.ok true e1)) (hb : body e1 = some (.nx e2)) : whileGo c body (n + 1) e = whileGo c body n e2 := by simp only [whileGo, hc, run, hb]
theorem while_stop {c : Smx Bool} {body : SSem} {n : Nat} {e e1 : En} (hc : c e = some (.ok false e1)) : whileGo c body (n + 1) e = some (.nx e1) := by simp only [whileGo, hc, run]
end Mz

namespace Mz
open PySem PySem.Spec PyProof.Rows L2

/-! ### own methods behind operators, instances called -/
structure DfO (P : Program) (w : World) (K : PySem.W.Frag) (mg : Str → Option Value) (base : Heap) (g : Gb) (c : Nat) (x : Str) (k n : Nat) (m : List D → Option Ot) : Prop where
  ex : ∃ C ns f fd ps, g.ρ c = some (C, ns) ∧ PySem.W.findIn K (.ref C) x = some (some (.ref f)) ∧ PySem.W.isFn K (.ref f) = true ∧ PySem.W.fnIn K f = true ∧ PySem.W.selfFirst K C = true ∧ FnOk P w K mg base (L2.CX P w) k f fd ps (spD K g n m) ∧ Binds K fd ps []
/-- operands: an instance of the class, and what q says -/
@[simp] def kOpM (c : Nat) (q : D → Bool) (m : List D → Option Ot) (w1 w2 : W) (e : En) : Option (Rs W) := match rd e w1, rd e w2 with
  | some (.ins c' ds), some d2 => if c' = c ∧ q d2 = true then (match m [.ins c' ds, d2] with
    | some (.ok d _) => some (.ok (.dat d) e)
    | some (.ex n pl) => some (.ex n pl e)
    | none => none) else none
  | _, _ => none
def sOpM (c : Nat) (q : D → Bool) (m : List D → Option Ot) (f h : Sem) : Sem := fun e => bnd (f e) fun w1 e1 => bnd (h e1) (kOpM c q m w1)
@[simp ↓] theorem sOpM_u (c : Nat) (q : D → Bool) (m : List D → Option Ot) (f h : Sem) (e : En) : sOpM c q m f h e = (bnd (f e) fun w1 e1 => bnd (h e1) (kOpM c q m w1)) := rfl
@[simp] def isIns (c : Nat) : D → Bool
  | .ins c' _ => c' == c
  | _ => false
@[simp] def isInt : D → Bool
  | .int _ => true
  | _ => false
section
variable {X : Cx} {g : Gb} {io : Nat → Option Addr} {Wx : WX} {pos p : Pos} {a b : Expr} {f h : Sem} {c k : Nat} {m : List D → Option Ot}
/-- what the callee hands back is nothing that says «not implemented» -/
theorem back_of {pins : List (Addr × Obj)} {σ : L2.St} {Q : VK} {u : Value} {s' : Shared} (h : EP X pins σ Q u s') : PySem.W.CmpBack (EP X pins σ Q) u s' := by
  obtain ⟨v, H', I, r, q⟩ := id h
  cases u with
  | notImplemented => cases v <;> first | (cases (show _ = _ from r)) | (obtain ⟨_, z⟩ := (show ∃ _, _ = _ from r); cases z) | exact absurd r (fun z => nomatch z)
  | _ => exact h
/-- an own method behind an operator, both of the class -/
def rOwn (K : PySem.W.Frag) (g : Gb) (C : Addr) (m : List D → Option Ot) (E : XK) : R2 := fun x y H Q => ∃ a dx fs b dy gs, x = .ref a ∧ H a = some (.ins C dx fs) ∧ y = .ref b ∧ H b = some (.ins C dy gs) ∧ spD K g 2 m [x, y] H Q E
/-- .. an int behind it -/
def rOwnI (K : PySem.W.Frag) (g : Gb) (C : Addr) (m : List D → Option Ot) (E : XK) : R2 := fun x y H Q => ∃ a dx fs i, x = .ref a ∧ H a = some (.ins C dx fs) ∧ y = .int i ∧ spD K g 2 m [x, y] H Q E
variable {C f0 : Addr} {fd : FuncData} {ps : List Str} {E : XK} {op : Operator}
theorem op_own (hs : PySem.W.findIn X.K (.ref C) (PySem.dunder op.info.2) = some (some (.ref f0))) (hf : PySem.W.isFn X.K (.ref f0) = true) (hc : PySem.W.selfFirst X.K C = true) (F : FnOk X.prog X.w X.K X.mg X.base (L2.CX X.prog X.w) k f0 fd ps (spD X.K g 2 m)) (hb : Binds X.K fd ps []) (hr : Room k X.A) (hx : Passes (L2.CX X.prog X.w) X E) :
    OpR X (binaryOp op) (rOwn X.K g C m E) := by
  intro pins s σ H x y u v Q I rx ry h
  obtain ⟨a, dx, fs, b, dy, gs, rfl, h1, rfl, h2, h3⟩ := h
  cases rx
  cases ry
  obtain ⟨mA, J, _⟩ := ins_get I.hok h1
  obtain ⟨mB, J', _⟩ := ins_get I.hok h2
  obtain ⟨od, J, _⟩ := J.look
  obtain ⟨od', J', _⟩ := J'.look
  obtain ⟨m0, hF⟩ := I.fr
  exact PySem.W.binop_K hF I.ok.mod.kin J J'.type hc hs hf (wpAny_mono (run_fn (us := [.ref a, .ref b]) (vs := [.ref a, .ref b]) F hr hb .nil hx I (.cons rfl (.cons rfl .nil)) h3) (fun _ _ z => back_of z) fun _ _ z => z)
theorem op_ownI {fo ro rc : Option Value} (hs : PySem.W.findIn X.K (.ref C) (PySem.dunder op.info.2) = some (some (.ref f0))) (hf : PySem.W.isFn X.K (.ref f0) = true) (hc : PySem.W.selfFirst X.K C = true) (hr' : PySem.W.findIn X.K (.ref C) (dunderR op.info.2) = some none)
    (h1 : PySem.W.findIn X.K (.type "int") (PySem.dunder op.info.2) = some fo) (h2 : PySem.W.findIn X.K (.type "int") (dunderR op.info.2) = some ro) (hsub : PySem.W.subIn X.K (.type "int") (.ref C) = some false)
    (F : FnOk X.prog X.w X.K X.mg X.base (L2.CX X.prog X.w) k f0 fd ps (spD X.K g 2 m)) (hb : Binds X.K fd ps []) (hr : Room k X.A) (hx : Passes (L2.CX X.prog X.w) X E) : OpR X (binaryOp op) (rOwnI X.K g C m E) := by
  intro pins s σ H x y u v Q I rx ry h
  obtain ⟨a, dx, fs, i, rfl, h4, rfl, h3⟩ := h
  cases rx
  obtain ⟨t, rfl⟩ := (show ∃ t, v = Value.int i t from ry)
  obtain ⟨mA, J, _⟩ := ins_get I.hok h4
  obtain ⟨od, J, _⟩ := J.look
  obtain ⟨m0, hF⟩ := I.fr
  exact PySem.W.ksp_binT (T := "int") hF I.ok.mod.kin J rfl hc hs hf hr' (.inl rfl) h1 h2 hsub (wpAny_mono (run_fn (us := [.ref a, .int i t]) (vs := [.ref a, .int i]) F hr hb .nil hx I (.cons rfl (.cons ⟨t, rfl⟩ .nil)) h3) (fun _ _ z => back_of z) fun _ _ z => z)
theorem op_ownE (hs : PySem.W.findIn X.K (.ref C) "__eq__" = some (some (.ref f0))) (hf : PySem.W.isFn X.K (.ref f0) = true) (F : FnOk X.prog X.w X.K X.mg X.base (L2.CX X.prog X.w) k f0 fd ps (spD X.K g 2 m)) (hb : Binds X.K fd ps []) (hr : Room k X.A) (hx : Passes (L2.CX X.prog X.w) X E) :
    OpR X (compareOp .Eq) (rOwn X.K g C m E) := by
  intro pins s σ H x y u v Q I rx ry h
  obtain ⟨a, dx, fs, b, dy, gs, rfl, h1, rfl, h2, h3⟩ := h
  cases rx
  cases ry
  obtain ⟨mA, J, _⟩ := ins_get I.hok h1
  obtain ⟨mB, J', _⟩ := ins_get I.hok h2
  obtain ⟨od, J, _⟩ := J.look
  obtain ⟨od', J', _⟩ := J'.look
  obtain ⟨m0, hF⟩ := I.fr
  show wpAny (model X.prog X.w) X.A (richCompare .Eq (.ref a) (.ref b)) (EP X pins σ Q) X.xe s
  exact PySem.W.cmp_K (op := .Eq) (tb := .ref C) hr.units0 hF I.ok.mod.kin J J'.type (by simp [PySem.W.notFirst]) hs hf (wpAny_mono (run_fn (us := [.ref a, .ref b]) (vs := [.ref a, .ref b]) F hr hb .nil hx I (.cons rfl (.cons rfl .nil)) h3) (fun _ _ z => back_of z) fun _ _ z => z)
/-- what is wanted, by the mirror -/
theorem sp_own {K : PySem.W.Frag} {F R H : Hp} {σ : L2.St} {e : En} {x y : V} {w1 w2 : W} {Q : VK} {q : D → Bool} (st : Stt K g.ρ io F R σ e H) (r1 : rE K g.ρ F R σ H e x w1) (r2 : rE K g.ρ F R σ H e y w2) (hq : ∀ d, q d = true → d.isL = false)
    (h : Aft K g io (rE K g.ρ) Wx F R σ Q (kOpM c q m w1 w2 e)) : ∃ d2 C ns a dx fs, q d2 = true ∧ Dt K g.ρ F y d2 ∧ g.ρ c = some (C, ns) ∧ x = .ref a ∧ H a = some (.ins C dx fs) ∧ spD K g 2 m [x, y] H Q (fun cls d H => ∃ σ, Wx cls d σ H) := by
  unfold kOpM at h
  cases e1 : rd e w1 with
  | none => rw [e1] at h; exact h.elim
  | some d1 =>
    cases e2 : rd e w2 with
    | none => rw [e1, e2] at h; cases d1 <;> exact h.elim
    | some d2 =>
      rw [e1, e2] at h
      cases d1 with
      | ins c' ds =>
        simp only at h
        by_cases hc : c' = c ∧ q d2 = true
        · rw [if_pos hc] at h
          obtain ⟨rfl, hq2⟩ := hc
          have dt1 := r1.dat st e1 rfl
          have dt2 := r2.dat st e2 (hq d2 hq2)
          have dt0 := dt1
          cases dt1 with
          | ins hc hp hn hl hi =>
            refine ⟨d2, _, _, _, _, _, hq2, dt2, hc, rfl, st.ext _ _ hp, ?_⟩
            refine sp_call (n := 2) st (.cons dt0 (.one dt2)) rfl ?_
            revert h
            cases m [.ins c' ds, d2] with
            | none => exact fun z => z
            | some o =>
              cases o with
              | ok d fr =>
                intro q1 F' H' v x s r
                cases fr with
                | false => exact q1 F' H' v x s r
                | true =>
                  obtain ⟨F2, x2, s2, dt⟩ := New.freeze s r
                  exact q1 F2 H' v (x.trans x2) s2 dt
              | ex c pl => exact fun q1 F' H' cls dd x s z => ⟨σ, q1 F' H' cls dd x s z⟩
        · rw [if_neg hc] at h; exact h.elim
      | _ => exact h.elim
theorem ins_of {K : PySem.W.Frag} {F R H : Hp} {σ : L2.St} {e : En} {y : V} {d : D} {C : Addr} {ns : List Str} (st : Stt K g.ρ io F R σ e H) (h : Dt K g.ρ F y d) (q : isIns c d = true) (hc : g.ρ c = some (C, ns)) : ∃ b dy gs, y = .ref b ∧ H b = some (.ins C dy gs) := by
  cases h with
  | ins hc' hp hn hl hi =>
    have e := beq_iff_eq.mp (show (_ == c) = true from q)
    subst e
    rw [hc] at hc'
    cases hc'
    exact ⟨_, _, _, rfl, st.ext _ _ hp⟩
  | _ => cases q
theorem isIns_L {d : D} (h : isIns c d = true) : d.isL = false := by cases d <;> first | rfl | cases h
theorem isInt_L {d : D} (h : isInt d = true) : d.isL = false := by cases d <;> first | rfl | cases h
theorem d_opO {x : Str} (G : DfO X.prog X.w X.K X.mg X.base g c x k 2 m) (hr : Room k X.A) (wo : WOk X Wx) (ha : PE X a (tE X.K g io Wx f)) (hb : PE X b (tE X.K g io Wx h)) (hop : x = PySem.dunder op.info.2 := by rfl) : PE X (.BinOp a op b pos) (tE X.K g io Wx (sOpM c (isIns c) m f h)) := by
  obtain ⟨C, ns, f0, fd, ps, h1, h2, h3, h4, h5, F, h7⟩ := G.ex
  subst hop
  refine PE.of (pe_op (op_own h2 h3 h5 F h7 hr (pass_W wo)) ha hb) fun σ H Q q => bin_of (k := kOpM c (isIns c) m) (fun F R σ e H x y w1 w2 Q st r1 r2 h => ?_) σ H Q q
  obtain ⟨d2, C', ns', a, dx, fs, k1, k2, k3, k4, k5, k6⟩ := sp_own st r1 r2 (fun d => isIns_L) h
  rw [h1] at k3; cases k3
  obtain ⟨b, dy, gs, k7, k8⟩ := ins_of st k2 k1 h1
  exact ⟨a, dx, fs, b, dy, gs, k4, k5, k7, k8, k6⟩
structure IntO (K : PySem.W.Frag) (ρ : Rho) (c : Nat) (x rx : Str) : Prop where
  ex : ∃ C ns fo ro, ρ c = some (C, ns) ∧ PySem.W.findIn K (.ref C) rx = some none ∧ PySem.W.findIn K (.type "int") x = some fo ∧ PySem.W.findIn K (.type "int") rx = some ro ∧ PySem.W.subIn K (.type "int") (.ref C) = some false
theorem d_opOI {x rx : Str} (G : DfO X.prog X.w X.K X.mg X.base g c x k 2 m) (N : IntO X.K g.ρ c x rx) (hr : Room k X.A) (wo : WOk X Wx) (ha : PE X a (tE X.K g io Wx f)) (hb : PE X b (tE X.K g io Wx h)) (hop : x = PySem.dunder op.info.2 := by rfl) (hopr : rx = dunderR op.info.2 := by rfl) :
    PE X (.BinOp a op b pos) (tE X.K g io Wx (sOpM c isInt m f h)) := by
  obtain ⟨C, ns, f0, fd, ps, h1, h2, h3, h4, h5, F, h7⟩ := G.ex
  obtain ⟨C', ns', fo, ro, n1, n2, n3, n4, n5⟩ := N.ex
  rw [h1] at n1; cases n1
  subst hop hopr
  refine PE.of (pe_op (op_ownI (rc := none) h2 h3 h5 n2 n3 n4 n5 F h7 hr (pass_W wo)) ha hb) fun σ H Q q => bin_of (k := kOpM c isInt m) (fun F R σ e H x y w1 w2 Q st r1 r2 h => ?_) σ H Q q
  obtain ⟨d2, C', ns', a, dx, fs, k1, k2, k3, k4, k5, k6⟩ := sp_own st r1 r2 (fun d => isInt_L) h
  rw [h1] at k3; cases k3
  cases k2 with
  | int i => exact ⟨a, dx, fs, i, k4, k5, rfl, k6⟩
  | _ => cases k1
theorem d_eqO (G : DfO X.prog X.w X.K X.mg X.base g c "__eq__" k 2 m) (hr : Room k X.A) (wo : WOk X Wx) (ha : PE X a (tE X.K g io Wx f)) (hb : PE X b (tE X.K g io Wx h)) : PE X (.Compare a [.Eq] [b] pos) (tE X.K g io Wx (sOpM c (isIns c) m f h)) := by
  obtain ⟨C, ns, f0, fd, ps, h1, h2, h3, h4, h5, F, h7⟩ := G.ex
  refine PE.of (pe_cmpR (op_ownE h2 h3 F h7 hr (pass_W wo)) ha hb (nomark _)) fun σ H Q q => bin_of (k := kOpM c (isIns c) m) (fun F R σ e H x y w1 w2 Q st r1 r2 h => ?_) σ H Q q
  obtain ⟨d2, C', ns', a, dx, fs, k1, k2, k3, k4, k5, k6⟩ := sp_own st r1 r2 (fun d => isIns_L) h
  rw [h1] at k3; cases k3
  obtain ⟨b, dy, gs, k7, k8⟩ := ins_of st k2 k1 h1
  exact ⟨a, dx, fs, b, dy, gs, k4, k5, k7, k8, k6⟩
theorem t_eqO (G : DfO X.prog X.w X.K X.mg X.base g c "__eq__" k 2 m) (hr : Room k X.A) (wo : WOk X Wx) (ha : PE X a (tE X.K g io Wx f)) (hb : PE X b (tE X.K g io Wx h)) : PT X (.Compare a [.Eq] [b] pos) (tB X.K g io Wx (sT (sOpM c (isIns c) m f h))) := by
  obtain ⟨C, ns, f0, fd, ps, h1, h2, h3, h4, h5, F, h7⟩ := G.ex
  refine PT.of (pt_cmpR (op_ownE h2 h3 F h7 hr (pass_W wo)) ha hb (nomark _)) fun σ H Q q => test_of (fun σ H Q q => bin_of (k := kOpM c (isIns c) m) (fun F R σ e H x y w1 w2 Q st r1 r2 h => ?_) σ H Q q) σ H Q q
  obtain ⟨d2, C', ns', a, dx, fs, k1, k2, k3, k4, k5, k6⟩ := sp_own st r1 r2 (fun d => isIns_L) h
  rw [h1] at k3; cases k3
  obtain ⟨b, dy, gs, k7, k8⟩ := ins_of st k2 k1 h1
  exact ⟨a, dx, fs, b, dy, gs, k4, k5, k7, k8, k6⟩
/-! ### f(e, ..), f an instance -/
@[simp] def kCallO (m : List D → Option Ot) (d0 : D) (ws : List W) (e : En) : Option (Rs W) := match dats ws with
  | some ds => (match m (d0 :: ds) with
    | some (.ok d _) => some (.ok (.dat d) e)
    | some (.ex n pl) => some (.ex n pl e)
    | none => none)
  | none => none
def sCallO (c : Nat) (m : List D → Option Ot) (f : Sem) (hs : Smx (List W)) : Sem := fun e => bnd (f e) fun w e1 => match w with
  | .dat (.ins c' fs) => if c' = c then bnd (hs e1) (kCallO m (.ins c' fs)) else none
  | _ => none
@[simp ↓] theorem sCallO_u (c : Nat) (m : List D → Option Ot) (f : Sem) (hs : Smx (List W)) (e : En) : sCallO c m f hs e = (bnd (f e) fun w e1 => match w with
  | .dat (.ins c' fs) => if c' = c then bnd (hs e1) (kCallO m (.ins c' fs)) else none
  | _ => none) := rfl
theorem d_callO {es : List Expr} {hs : Smx (List W)} {fe a : Expr} {n : Nat} (G : DfO X.prog X.w X.K X.mg X.base g c "__call__" k n m) (hn : Ary n m) (hr : Room k X.A) (wo : WOk X Wx) (hf : PE X fe (tE X.K g io Wx f)) (ha : PA X (a :: es) (tA X.K g io Wx hs))
    (ht : eval (.Call fe (a :: es) [] pos) X.env = (do callWith pos (← eval fe X.env) [] (backTo pos (starEach (a :: es) X.env)) (backToKw pos (keywordEach [] X.env))) := by rfl)
    (he : starEach (a :: es) X.env = (false, eval a X.env) :: starEach es X.env := by rfl) (hpl : (backTo pos (starEach es X.env)).any (·.1) = false := by rfl) : PE X (.Call fe (a :: es) [] pos) (tE X.K g io Wx (sCallO c m f hs)) := by
  obtain ⟨C, ns, f0, fd, ps, h1, h2, h3, h4, h5, F, h7⟩ := G.ex
  refine PE.of (StX.pe_callO (E := fun cls d H => ∃ σ, Wx cls d σ H) hf ⟨h2, h3, h4⟩ (F.raw h7 .nil) hr (pass_W wo) ha ht he hpl) fun σ H Q q => ?_
  obtain ⟨F, R, e, st, q⟩ := q
  refine ⟨F, R, e, st, Aft.bnd (k := fun w e1 => match w with
    | .dat (.ins c' fs) => if c' = c then bnd (hs e1) (kCallO m (.ins c' fs)) else none
    | _ => none) q fun w e1 F1 H1 v _ x1 s1 r1 q1 => ?_⟩
  cases w with
  | bor i => exact q1.elim
  | dat d =>
    cases d with
    | ins c' ds0 =>
      replace q1 : Aft X.K g io (rE X.K g.ρ) Wx F1 R σ Q (if c' = c then bnd (hs e1) (kCallO m (.ins c' ds0)) else none) := q1
      by_cases hc : c' = c
      · rw [if_pos hc] at q1
        subst hc
        have dt : Dt X.K g.ρ F1 v (.ins c' ds0) := r1
        have dt0 := dt
        cases dt with
        | ins hc hp hnm hl hi =>
          rw [h1] at hc
          cases hc
          rename_i pa dx fs
          refine ⟨pa, rfl, F1, R, e1, s1, Aft.bnd (k := kCallO m (.ins c' ds0)) q1 fun ws e2 F2 H2 vs _ x2 s2 r2 q2 => ?_⟩
          unfold kCallO at q2
          cases e1' : dats ws with
          | none => rw [e1'] at q2; exact q2.elim
          | some ds =>
            rw [e1'] at q2
            simp only at q2
            refine ⟨.inr ⟨dx, fs, s2.ext _ _ (x2 _ _ hp)⟩, ?_⟩
            show spD X.K g n m ((V.ref pa :: vs) ++ []) H2 Q _
            rw [List.append_nil]
            refine sp_call (n := n) s2 (.cons (dt0.mono x2) (Opds.frozen r2 e1')) (hn _ fun z => by rw [z] at q2; exact q2) ?_
            revert q2
            cases m (.ins c' ds0 :: ds) with
            | none => exact fun z => z
            | some o =>
              cases o with
              | ok d fr =>
                intro q1 F' H' v x s r
                cases fr with
                | false => exact q1 F' H' v x s r
                | true =>
                  obtain ⟨F2, x2, s2, dt⟩ := New.freeze s r
                  exact q1 F2 H' v (x.trans x2) s2 dt
              | ex c pl => exact fun q1 F' H' cls dd x s z => ⟨σ, q1 F' H' cls dd x s z⟩
      · rw [if_neg hc] at q1; exact q1.elim
    | _ => exact q1.elim
end
/-! ### facts -/
def mtB (c x : Str) : Fb := fun K => He.eqO (PySem.W.findIn K (.ref (He.ga K c)) x) (some (some (.ref (He.ma K (He.ga K c) x)))) && (PySem.W.isFn K (.ref (He.ma K (He.ga K c) x)) && (PySem.W.fnIn K (He.ma K (He.ga K c) x) && PySem.W.selfFirst K (He.ga K c)))
def someB (o : Option (Option Value)) : Bool := o.isSome
def inoB (cs : Cls_) (c : Nat) (x rx : Str) : Fb := fun K => match cs[c]? with
  | some q => He.eqO (PySem.W.findIn K (.ref (He.ga K q.1)) rx) (some none) && ((PySem.W.findIn K (.type "int") x).isSome && ((PySem.W.findIn K (.type "int") rx).isSome && decide (PySem.W.subIn K (.type "int") (.ref (He.ga K q.1)) = some false)))
  | none => false
theorem inoB_ok {cs : Cls_} {c : Nat} {x rx : Str} {K : PySem.W.Frag} (h : inoB cs c x rx K = true) : IntO K (rhoK cs K) c x rx := by
  unfold inoB at h
  cases e : cs[c]? with
  | none => rw [e] at h; cases h
  | some q =>
    rw [e] at h
    obtain ⟨h1, h⟩ := He.ba h
    obtain ⟨h2, h⟩ := He.ba h
    obtain ⟨h3, h4⟩ := He.ba h
    obtain ⟨fo, e1⟩ := Option.isSome_iff_exists.mp h2
    obtain ⟨ro, e2⟩ := Option.isSome_iff_exists.mp h3
    exact ⟨He.ga K q.1, q.2, fo, ro, by unfold rhoK; rw [e] <;> rfl, He.eqO_ok h1, e1, e2, of_decide_eq_true h4⟩
section
variable {bs : List Fb} {ds : List Dm} {K : PySem.W.Frag} {mg : Str → Option Value}
theorem Kn.mt (k : Kn bs ds K mg) (i : Nat) {c x : Str} (h : bs[i]? = some (mtB c x) := by rfl) : PySem.W.findIn K (.ref (He.ga K c)) x = some (some (.ref (He.ma K (He.ga K c) x))) ∧ PySem.W.isFn K (.ref (He.ma K (He.ga K c) x)) = true ∧ PySem.W.fnIn K (He.ma K (He.ga K c) x) = true ∧ PySem.W.selfFirst K (He.ga K c) = true := by
  obtain ⟨h1, h⟩ := He.ba (show (He.eqO _ _ && (_ && (_ && _))) = true from k.says.fact i h)
  obtain ⟨h2, h⟩ := He.ba h
  obtain ⟨h3, h4⟩ := He.ba h
  exact ⟨He.eqO_ok h1, h2, h3, h4⟩
theorem Kn.ino (k : Kn bs ds K mg) (i : Nat) {cs : Cls_} {c : Nat} {x rx : Str} (h : bs[i]? = some (inoB cs c x rx) := by rfl) : IntO K (rhoK cs K) c x rx := inoB_ok (k.says.fact i h)
end
section
variable {P : Program} {w : World} {K : PySem.W.Frag} {mg : Str → Option Value} {base : Heap} {g : Gb} {x qual : Str} {st : Stmt} {fd : FuncData} {N ps : List Str} {j : Nat} {body : SSem}
/-- a method of the c-th class -/
theorem dfO_mk {c n : Nat} {cn y : Str} {ns : List Str} {f : Addr} (hc : g.ρ c = some (He.ga K cn, ns)) (hp : PySem.W.findIn K (.ref (He.ga K cn)) y = some (some (.ref f)) ∧ PySem.W.isFn K (.ref f) = true ∧ PySem.W.fnIn K f = true ∧ PySem.W.selfFirst K (He.ga K cn) = true)
    (F : Fun K x qual st f fd) (S : FnScope N ps (defScope st)) (hn : ps.length = n) (bd : BindsF x qual st ps)
    (hb : ∀ (cdv : Value) (A : Around) (outer : List Env) (s : Shared) (H : Hp) (E : XK), Room j (A.deeper (envOfC qual (defScope st) s.heap.objs.size f cdv)) →
      PSs (cxOf (L2.CX P w) P w K mg base N qual (defScope st) f cdv A outer s H E) (defBody st) (tS K g (fun _ => none) (fun cls d _ H => E cls d H) body)) :
    DfO P w K mg base g c y (j + 1) n (dSem N.length n body) := by
  subst hn
  exact ⟨_, _, _, _, _, hc, hp.1, hp.2.1, hp.2.2.1, hp.2.2.2, def_ok F S hb, F.binds bd⟩
end
end Mz

namespace Mz
open PySem PySem.Spec PyProof.Rows L2

/-! ### sorted, of tuples of ints -/
def lexLe : List Int → List Int → Bool
  | a :: r, b :: q => decide (a < b) || (decide (a = b) && lexLe r q)
  | [], _ => true
  | _ :: _, [] => false
theorem lex_code {B : Int} : ∀ {r q : List Int}, r.length = q.length → TS.Bd B r → TS.Bd B q → (lexLe r q = true ↔ TS.code B r ≤ TS.code B q)
  | [], [], _, _, _ => by simp [lexLe]
  | [], _ :: _, h, _, _ => by simp at h
  | _ :: _, [], h, _, _ => by simp at h
  | a :: r, b :: q, h, hr, hq => by
    have h' : r.length = q.length := by simpa using h
    have hr' : TS.Bd B r := fun m hm => hr m (List.mem_cons_of_mem _ hm)
    have hq' : TS.Bd B q := fun m hm => hq m (List.mem_cons_of_mem _ hm)
    have ih := lex_code h' hr' hq'
    rcases Int.lt_trichotomy a b with z | z | z
    · have := TS.code_lt (B := B) h' hr' hq' z
      simp only [lexLe, decide_eq_true z, Bool.true_or, true_iff]
      omega
    · subst z
      have s1 := TS.code_same (B := B) (d := a) h'
      have s2 := TS.code_same (B := B) (d := a) h'.symm
      simp only [lexLe, Int.lt_irrefl, decide_false, Bool.false_or, decide_true, Bool.true_and, ih]
      omega
    · have := TS.code_lt (B := B) h'.symm hq' hr' z
      have n1 : ¬ a < b := by omega
      have n2 : ¬ a = b := by omega
      simp only [lexLe, decide_eq_false n1, decide_eq_false n2, Bool.false_and, Bool.or_false, Bool.false_eq_true, false_iff]
      omega
theorem lex_total : ∀ (r q : List Int), lexLe r q = true ∨ lexLe q r = true
  | [], _ => .inl (by simp [lexLe])
  | _ :: _, [] => .inr (by simp [lexLe])
  | a :: r, b :: q => by
    rcases Int.lt_trichotomy a b with z | z | z
    · exact .inl (by simp [lexLe, z])
    · subst z
      rcases lex_total r q with h | h
      · exact .inl (by simp [lexLe, h])
      · exact .inr (by simp [lexLe, h])
    · exact .inr (by simp [lexLe, z])
theorem lex_trans : ∀ {r q s : List Int}, lexLe r q = true → lexLe q s = true → lexLe r s = true
  | [], _, _, _, _ => by simp [lexLe]
  | _ :: _, [], _, h, _ => by simp [lexLe] at h
  | _ :: _, _ :: _, [], _, h => by simp [lexLe] at h
  | a :: r, b :: q, c :: s, h1, h2 => by
    simp only [lexLe, Bool.or_eq_true, decide_eq_true_eq, Bool.and_eq_true] at h1 h2 ⊢
    rcases h1 with h1 | ⟨rfl, h1⟩
    · rcases h2 with h2 | ⟨rfl, _⟩
      · exact .inl (by omega)
      · exact .inl h1
    · rcases h2 with h2 | ⟨rfl, h2⟩
      · exact .inl h2
      · exact .inr ⟨rfl, lex_trans h1 h2⟩
theorem lex_anti : ∀ {r q : List Int}, lexLe r q = true → lexLe q r = true → r = q
  | [], [], _, _ => rfl
  | [], _ :: _, _, h => by simp [lexLe] at h
  | _ :: _, [], h, _ => by simp [lexLe] at h
  | a :: r, b :: q, h1, h2 => by
    simp only [lexLe, Bool.or_eq_true, decide_eq_true_eq, Bool.and_eq_true] at h1 h2
    have e : a = b := by
      rcases h1 with h1 | ⟨h1, _⟩
      · rcases h2 with h2 | ⟨h2, _⟩ <;> omega
      · exact h1
    subst e
    have k1 : lexLe r q = true := h1.elim (fun z => absurd z (Int.lt_irrefl _)) (·.2)
    have k2 : lexLe q r = true := h2.elim (fun z => absurd z (Int.lt_irrefl _)) (·.2)
    rw [lex_anti k1 k2]
def insL (n : List Int) : List (List Int) → List (List Int)
  | [] => [n]
  | m :: r => if lexLe n m = true then n :: m :: r else m :: insL n r
def sortL : List (List Int) → List (List Int)
  | [] => []
  | n :: r => insL n (sortL r)
abbrev Asc (l : List (List Int)) : Prop := l.Pairwise fun a b => lexLe a b = true
theorem insL_perm (n : List Int) : ∀ l : List (List Int), (insL n l).Perm (n :: l)
  | [] => List.Perm.refl _
  | m :: r => by
    unfold insL
    split
    · exact List.Perm.refl _
    · exact ((insL_perm n r).cons m).trans (List.Perm.swap n m r)
theorem sortL_perm : ∀ l : List (List Int), (sortL l).Perm l
  | [] => List.Perm.refl _
  | n :: r => (insL_perm n (sortL r)).trans ((sortL_perm r).cons n)
theorem insL_asc (n : List Int) : ∀ {l : List (List Int)}, Asc l → Asc (insL n l)
  | [], _ => by simp [insL]
  | m :: r, h => by
    unfold insL
    obtain ⟨h1, h2⟩ := List.pairwise_cons.mp h
    by_cases hn : lexLe n m = true
    · rw [if_pos hn]
      refine List.pairwise_cons.mpr ⟨fun b hb => ?_, h⟩
      rcases List.mem_cons.mp hb with rfl | hb
      · exact hn
      · exact lex_trans hn (h1 b hb)
    · rw [if_neg hn]
      refine List.pairwise_cons.mpr ⟨fun b hb => ?_, insL_asc n h2⟩
      rcases List.mem_cons.mp ((insL_perm n r).mem_iff.mp hb) with rfl | hb
      · exact (lex_total b m).resolve_left hn
      · exact h1 b hb
theorem sortL_asc : ∀ l : List (List Int), Asc (sortL l)
  | [] => List.Pairwise.nil
  | n :: r => insL_asc n (sortL_asc r)
theorem asc_uniq : ∀ {l m : List (List Int)}, Asc l → Asc m → l.Perm m → l = m
  | [], m, _, _, h => (List.Perm.eq_nil h.symm).symm
  | x :: l, [], _, _, h => absurd h.length_eq (by simp)
  | x :: l, y :: m, hl, hm, h => by
    obtain ⟨l1, l2⟩ := List.pairwise_cons.mp hl
    obtain ⟨m1, m2⟩ := List.pairwise_cons.mp hm
    have e : x = y := by
      rcases List.mem_cons.mp (h.mem_iff.mp (List.mem_cons_self (a := x) (l := l))) with e | hx
      · exact e
      · rcases List.mem_cons.mp (h.mem_iff.mpr (List.mem_cons_self (a := y) (l := m))) with e | hy
        · exact e.symm
        · exact lex_anti (l1 y hy) (m1 x hx)
    subst e
    rw [asc_uniq l2 m2 h.cons_inv]
/-- lists of tuples of ints -/
def toTs : List D → Option (List (List Int))
  | [] => some []
  | .tup ds :: r => match toInts ds, toTs r with
    | some ns, some nss => some (ns :: nss)
    | _, _ => none
  | _ => none
def tsD (nss : List (List Int)) : List D := nss.map fun ns => .tup (ns.map .int)
theorem toTs_eq : ∀ (ds : List D) (nss : List (List Int)), toTs ds = some nss → ds = tsD nss
  | [], nss, h => by cases h; rfl
  | .tup ds :: r, nss, h => by
    simp only [toTs] at h
    cases e1 : toInts ds with
    | none => rw [e1] at h; cases h
    | some ns =>
      cases e2 : toTs r with
      | none => rw [e1, e2] at h; cases h
      | some ms =>
        rw [e1, e2] at h
        cases h
        rw [toInts_eq _ _ e1, toTs_eq r ms e2] <;> rfl
  | .non :: _, _, h => by cases h
  | .bl _ :: _, _, h => by cases h
  | .int _ :: _, _, h => by cases h
  | .str _ :: _, _, h => by cases h
  | .lst _ :: _, _, h => by cases h
  | .ins _ _ :: _, _, h => by cases h
  | .ro _ :: _, _, h => by cases h
  | .dct _ _ :: _, _, h => by cases h
def bdB (d : Nat) (B : Int) (ns : List Int) : Bool := decide (ns.length = d) && ns.all fun m => decide (0 ≤ m) && decide (m < B)
def oSortU (d : Nat) (B : Int) : List D → Option D
  | [.lst ds] => (match toTs ds with
    | some nss => if decide (nss.length < 64) && nss.all (bdB d B) then some (.lst (tsD (sortL nss))) else none
    | none => none)
  | _ => none
theorem bdB_ok {d : Nat} {B : Int} {ns : List Int} (h : bdB d B ns = true) : ns.length = d ∧ TS.Bd B ns := by
  obtain ⟨h1, h2⟩ := Bool.and_eq_true_iff.mp h
  refine ⟨of_decide_eq_true h1, fun m hm => ?_⟩
  obtain ⟨a, b⟩ := Bool.and_eq_true_iff.mp (List.all_eq_true.mp h2 m hm)
  exact ⟨of_decide_eq_true a, of_decide_eq_true b⟩
/-- sorted, told by the data -/
def rSortM (K : PySem.W.Frag) (d : Nat) (B : Int) : List V → Hp → VK → Prop := fun vs H Q => ∃ (a : Addr) (xs : List V) (nss : List (List Int)), vs = [V.ref a] ∧ SqL K H a xs ∧ nss.length < 64 ∧ xs.length = nss.length ∧
  (∀ (i : Nat) x ns, xs[i]? = some x → nss[i]? = some ns → TupI K H x ns) ∧ (∀ ns ∈ nss, ns.length = d ∧ TS.Bd B ns) ∧
  ∀ (ys : List V) (p : Addr), (∀ y ∈ ys, y ∈ xs) → ys.length = nss.length → (∀ (i : Nat) y ns, ys[i]? = some y → (sortL nss)[i]? = some ns → TupI K H y ns ∧ ∃ j : Nat, xs[j]? = some y ∧ nss[j]? = some ns) → H p = none → Q (.ref p) (upd H p (.lst ys))
theorem map_int_inj : ∀ {n m : List Int}, n.map V.int = m.map V.int → n = m
  | [], [], _ => rfl
  | [], _ :: _, h => by simp at h
  | _ :: _, [], h => by simp at h
  | a :: n, b :: m, h => by
    simp only [List.map_cons, List.cons.injEq, V.int.injEq] at h
    rw [h.1, map_int_inj h.2]
section
variable {X : Cx} {g : Gb}
open Classical in
theorem cr_sortM {d : Nat} {B : Int} (hd : 1 ≤ d) : CallR X (.builtin "sorted") (rSortM X.K d B) := by
  intro pins s σ H vs us Q I r h
  obtain ⟨a, xs, nss, rfl, hs, h64, hl, ht, hb, q⟩ := h
  have uniq : ∀ x n m, TupI X.K H x n → TupI X.K H x m → n = m := fun x n m h1 h2 => by
    obtain ⟨t, rfl, h1⟩ := h1
    obtain ⟨t', e, h2⟩ := h2
    cases e
    exact map_int_inj (I.tuple_inj h1 h2)
  have at_ : ∀ x ∈ xs, ∃ (i : Nat) (ns : List Int), xs[i]? = some x ∧ nss[i]? = some ns ∧ TupI X.K H x ns ∧ ns ∈ nss := fun x hx => by
    obtain ⟨i, hi, rfl⟩ := List.mem_iff_getElem.mp hx
    have hi' : i < nss.length := by rw [← hl]; exact hi
    exact ⟨i, nss[i], List.getElem?_eq_getElem hi, List.getElem?_eq_getElem hi', ht i _ _ (List.getElem?_eq_getElem hi) (List.getElem?_eq_getElem hi'), List.getElem_mem hi'⟩
  refine cr_sortT (d := d) (B := B) hd pins s σ H _ us Q I r ⟨a, xs, rfl, hs, by rw [hl]; exact h64, fun x hx => ?_, fun ys p hp hpw hn => ?_⟩
  · obtain ⟨i, ns, _, _, h3, h4⟩ := at_ x hx
    exact ⟨ns, h3, hb ns h4⟩
  · obtain ⟨φ, hφ⟩ : ∃ φ : V → List Int, φ = fun y => if h : ∃ ns, TupI X.K H y ns then Classical.choose h else [] := ⟨_, rfl⟩
    have pφ : ∀ y ns, TupI X.K H y ns → φ y = ns := fun y ns h => by
      have ex : ∃ ns, TupI X.K H y ns := ⟨ns, h⟩
      rw [hφ]
      simp only [dif_pos ex]
      exact uniq y _ _ (Classical.choose_spec ex) h
    have e1 : xs.map φ = nss := by
      apply List.ext_getElem?
      intro i
      rw [List.getElem?_map]
      by_cases hi : i < xs.length
      · have hi' : i < nss.length := by rw [← hl]; exact hi
        rw [List.getElem?_eq_getElem hi, List.getElem?_eq_getElem hi', Option.map_some, pφ _ _ (ht i _ _ (List.getElem?_eq_getElem hi) (List.getElem?_eq_getElem hi'))]
      · rw [List.getElem?_eq_none (by omega), List.getElem?_eq_none (by omega)]
        rfl
    have mx : ∀ y ∈ ys, y ∈ xs := fun y hy => hp.mem_iff.mp hy
    have e2 : (ys.map φ).Perm nss := by rw [← e1]; exact hp.map φ
    have e3 : Asc (ys.map φ) := by
      refine List.pairwise_map.mpr (List.Pairwise.imp_of_mem (fun {u v} hu hv hc => ?_) hpw)
      obtain ⟨_, n, _, _, h3, h4⟩ := at_ u (mx u hu)
      obtain ⟨_, m, _, _, h5, h6⟩ := at_ v (mx v hv)
      rw [pφ u n h3, pφ v m h5]
      exact (lex_code ((hb n h4).1.trans (hb m h6).1.symm) (hb n h4).2 (hb m h6).2).mpr (hc n m h3 h5)
    have e4 : ys.map φ = sortL nss := asc_uniq e3 (sortL_asc nss) (e2.trans (sortL_perm nss).symm)
    refine q ys p mx (by rw [hp.length_eq, hl]) (fun i y ns hy hns => ?_) hn
    have hm : y ∈ ys := List.mem_of_getElem? hy
    obtain ⟨j, m, h1, h2, h3, _⟩ := at_ y (mx y hm)
    have e5 : (ys.map φ)[i]? = some (φ y) := by rw [List.getElem?_map, hy] <;> rfl
    rw [e4, hns] at e5
    have e6 : ns = m := by rw [Option.some.inj e5, pφ y m h3]
    rw [e6]
    exact ⟨h3, j, h1, h2⟩
theorem bn_sort (d : Nat) (B : Int) (hd : 1 ≤ d := by decide) : BltNew X g (.builtin "sorted") (oSortU d B) := by
  refine ⟨_, cr_sortM (d := d) (B := B) hd, fun io F R σ e H vs ws ds dd Q st ho hr hop q => ?_⟩
  match ds, hop with
  | [.lst ds], hop =>
    obtain ⟨v, w, rfl, r, er⟩ := opds1 (R := R) (H := H) ho hr
    obtain ⟨p, vs, rfl, h3, h4⟩ := r.seqL st er
    simp only [oSortU] at hop
    cases e1 : toTs ds with
    | none => rw [e1] at hop; cases hop
    | some nss =>
      rw [e1] at hop
      simp only at hop
      by_cases hz : (decide (nss.length < 64) && nss.all (bdB d B)) = true
      · rw [if_pos hz] at hop
        cases hop
        obtain ⟨z1, z2⟩ := Bool.and_eq_true_iff.mp hz
        have z1 : nss.length < 64 := of_decide_eq_true z1
        have eds := toTs_eq ds nss e1
        have hlen : vs.length = nss.length := by rw [h4.1, eds]; simp [tsD]
        have dt : ∀ (i : Nat) x ns, vs[i]? = some x → nss[i]? = some ns → Dt X.K g.ρ F x (.tup (ns.map .int)) := fun i x ns hx hn => by
          refine h4.2 i x _ hx ?_
          rw [eds]
          simp [tsD, hn]
        refine ⟨p, vs, nss, rfl, SqL.of h3, z1, hlen, fun i x ns hx hn => ?_, fun ns hn => bdB_ok (List.all_eq_true.mp z2 ns hn), fun ys p' hmem hl hall hp => ?_⟩
        · have := dt i x ns hx hn
          cases this with
          | tup hS hl2 hi =>
            rename_i t ws2
            have sq : Sqs X.K g.ρ F ws2 (ns.map .int) := ⟨hl2, hi⟩
            rw [sq.ints] at hS
            exact ⟨t, rfl, hS.ext st.ext⟩
        · refine q F _ (.ref p') Ext.rfl' (st.fresh hp) (new_list st hp ⟨?_, fun i y d2 hy hd2 => ?_⟩)
          · rw [hl]
            simp [tsD, (sortL_perm nss).length_eq]
          · unfold tsD at hd2
            rw [List.getElem?_map, Option.map_eq_some_iff] at hd2
            obtain ⟨ns, hns, rfl⟩ := hd2
            obtain ⟨_, j, h5, h6⟩ := hall i y ns hy hns
            exact dt j y ns h5 h6
      · rw [if_neg hz] at hop; cases hop
end
end Mz

namespace Mz
open PySem PySem.Spec PyProof.Rows L2

/-! ### in a tuple, deep -/
def rInDT (K : PySem.W.Frag) : R2 := fun x y H Q => ∃ d ds, Dp K H x d ∧ Dp K H y (.tuple ds) ∧ SeqAt.shaped d = true ∧ SeqAt.shaped (.tuple ds) = true ∧ Q (.bl (ds.any fun z => PyData.eqv z d)) H
def rNotInDT (K : PySem.W.Frag) : R2 := fun x y H Q => ∃ d ds, Dp K H x d ∧ Dp K H y (.tuple ds) ∧ SeqAt.shaped d = true ∧ SeqAt.shaped (.tuple ds) = true ∧ Q (.bl (!ds.any fun z => PyData.eqv z d)) H
theorem room_inT {A : Around} {d : PyData} {xs : List PyData} (h : SeqAt.shaped d = true) (hu : A.units + 65 < cLine) : A.units + 1 + min (PyData.depthAll xs) d.depth < cLine := by
  have h1 := SeqAt.depth_of_shaped h
  have h2 : min (PyData.depthAll xs) d.depth ≤ d.depth := Nat.min_le_right _ _
  omega
section
variable {X : Cx} {g : Gb}
theorem op_inDT (hu : X.A.units + 65 < cLine) : OpR X (compareOp .In) (rInDT X.K) := by
  rintro pins s σ H x y v u Q I rx ry ⟨d, ds, hd, he, sd, se, q⟩
  obtain ⟨as, r1⟩ := Dp.reads I d x v hd rx
  obtain ⟨bs, r2⟩ := Dp.reads I (.tuple ds) y u he ry
  refine SeqAt.in_tuple_reads r2 r1 ?_ (SeqAt.canLay_of_shaped sd) (room_inT sd hu) ⟨.bl _, H, I, rfl, q⟩
  have z := SeqAt.canLay_of_shaped se
  simpa [PyData.canLay0] using z
theorem op_notInDT (hu : X.A.units + 65 < cLine) : OpR X (compareOp .NotIn) (rNotInDT X.K) := by
  rintro pins s σ H x y v u Q I rx ry ⟨d, ds, hd, he, sd, se, q⟩
  obtain ⟨as, r1⟩ := Dp.reads I d x v hd rx
  obtain ⟨bs, r2⟩ := Dp.reads I (.tuple ds) y u he ry
  refine SeqAt.notIn_tuple_reads r2 r1 ?_ (SeqAt.canLay_of_shaped sd) (room_inT sd hu) ⟨.bl _, H, I, rfl, q⟩
  have z := SeqAt.canLay_of_shaped se
  simpa [PyData.canLay0] using z
def inDT (a b : D) : Option Bool :=
  match toPy a, toPy b with
  | some x, some (.tuple ys) => if (SeqAt.shaped x && SeqAt.shaped (.tuple ys)) = true then some (ys.any fun z => PyData.eqv z x) else none
  | _, _ => none
def oInT : D → D → Option D := fun a b => (inDT a b).map .bl
def oNotInT : D → D → Option D := fun a b => (inDT a b).map fun r => .bl (!r)
theorem inDT_some {a b : D} {r : Bool} (h : inDT a b = some r) : ∃ x ys, toPy a = some x ∧ toPy b = some (.tuple ys) ∧ SeqAt.shaped x = true ∧ SeqAt.shaped (.tuple ys) = true ∧ r = ys.any fun z => PyData.eqv z x := by
  unfold inDT at h
  cases e1 : toPy a with
  | none => rw [e1] at h; cases h
  | some x =>
    cases e2 : toPy b with
    | none => rw [e1, e2] at h; cases h
    | some y =>
      rw [e1, e2] at h
      cases y with
      | tuple ys =>
        simp only at h
        by_cases z : (SeqAt.shaped x && SeqAt.shaped (.tuple ys)) = true
        · rw [if_pos z] at h
          cases h
          rw [Bool.and_eq_true] at z
          exact ⟨x, ys, rfl, rfl, z.1, z.2, rfl⟩
        · rw [if_neg z] at h; cases h
      | _ => cases h
theorem opd_inT : OpD X.K g (rInDT X.K) oInT := by
  intro io F R σ e H x y a b d Q st ha hb ho q
  unfold oInT at ho
  rw [Option.map_eq_some_iff] at ho
  obtain ⟨r, ho, rfl⟩ := ho
  obtain ⟨p, p', e1, e2, s1, s2, rfl⟩ := inDT_some ho
  exact ⟨p, p', ha.dp e1, hb.dp e2, s1, s2, q F H _ Ext.rfl' st (.bl _)⟩
theorem opd_notInT : OpD X.K g (rNotInDT X.K) oNotInT := by
  intro io F R σ e H x y a b d Q st ha hb ho q
  unfold oNotInT at ho
  rw [Option.map_eq_some_iff] at ho
  obtain ⟨r, ho, rfl⟩ := ho
  obtain ⟨p, p', e1, e2, s1, s2, rfl⟩ := inDT_some ho
  exact ⟨p, p', ha.dp e1, hb.dp e2, s1, s2, q F H _ Ext.rfl' st (.bl _)⟩
theorem c_inT {k : Nat} (hr : Room k X.A) : CmpOk X g .In oInT := ⟨_, op_inDT (units65 hr), opd_inT⟩
theorem c_notInT {k : Nat} (hr : Room k X.A) : CmpOk X g .NotIn oNotInT := ⟨_, op_notInDT (units65 hr), opd_notInT⟩
end
theorem inDT_nice {k : Nat} {a : D} {ys : List D} {p : Bool} (ha : nice (k + 1) a) (hb : nice (k + 1) (.tup ys)) (hm : ∀ y ∈ ys, nice (k + 1) y) (hk : k < 63) (h : a ∈ ys ↔ p = true) : inDT a (.tup ys) = some p := by
  obtain ⟨x, e1, s1⟩ := shaped_nice ha (by omega)
  obtain ⟨q, e2, s2⟩ := shaped_nice hb (by omega)
  simp only [toPy, Option.map_eq_some_iff] at e2
  obtain ⟨qs, e2, rfl⟩ := e2
  have z := any_eqv ha e1 hm e2
  simp only [inDT, e1, toPy, e2, Option.map_some, s1, s2, Bool.and_self, if_true, Option.some.injEq]
  cases p with
  | true => exact z.mpr (h.mpr rfl)
  | false =>
    cases h2 : qs.any (fun z => PyData.eqv z x) with
    | false => rfl
    | true => exact absurd (h.mp (z.mp h2)) Bool.false_ne_true
theorem oInT_if {k : Nat} {a : D} {ys : List D} {p : Bool} (ha : nice (k + 1) a) (hb : nice (k + 1) (.tup ys)) (hm : ∀ y ∈ ys, nice (k + 1) y) (hk : k < 63) (h : a ∈ ys ↔ p = true) : oInT a (.tup ys) = some (.bl p) := by simp [oInT, inDT_nice ha hb hm hk h]
theorem oNotInT_if {k : Nat} {a : D} {ys : List D} {p : Bool} (ha : nice (k + 1) a) (hb : nice (k + 1) (.tup ys)) (hm : ∀ y ∈ ys, nice (k + 1) y) (hk : k < 63) (h : a ∈ ys ↔ p = true) : oNotInT a (.tup ys) = some (.bl (!p)) := by simp [oNotInT, inDT_nice ha hb hm hk h]
end Mz

namespace Mz
open PySem PySem.Spec PyProof.Rows L2

/-! ### + of ints, lists, tuples (frozen), of lists (new) -/
@[simp] def oAdd : D → D → Option D
  | .int i, .int j => some (.int (i + j))
  | .lst xs, .lst ys => if xs.length + ys.length ≤ sizeLine then some (.lst (xs ++ ys)) else none
  | .tup xs, .tup ys => if xs.length + ys.length ≤ sizeLine then some (.tup (xs ++ ys)) else none
  | _, _ => none
@[simp] def oCat : D → D → Option D
  | .lst xs, .lst ys => if xs.length + ys.length ≤ sizeLine then some (.lst (xs ++ ys)) else none
  | _, _ => none
abbrev rAdd3 (K : PySem.W.Frag) : R2 := fun x y H Q => (rI0 fun i j => .int (i + j)) x y H Q ∨ (rCat x y H Q ∨ rCatA K x y H Q)
section
variable {X : Cx} {g : Gb} {io : Nat → Option Addr} {Wx : WX} {pos p2 : Pos} {a b : Expr} {f h : Sem}
theorem op_add3 : OpR X (binaryOp .Add) (rAdd3 X.K) := op_add.or (op_cat.or op_catA)
theorem ope_add3 : OpE X.K g (rAdd3 X.K) oAdd := by
  intro io F R σ e H x y a b d wx wy Q st rx ry ea eb ho q
  cases a with
  | int i =>
    cases b with
    | int j =>
      have hx := rx.view st ea
      have hy := ry.view st eb
      cases hx; cases hy; cases ho
      exact .inl ⟨i, j, rfl, rfl, q F H _ Ext.rfl' st (.int _)⟩
    | _ => cases ho
  | lst xs =>
    cases b with
    | lst ys =>
      have ho : (if xs.length + ys.length ≤ sizeLine then some (D.lst (xs ++ ys)) else none) = some d := ho
      by_cases hz : xs.length + ys.length ≤ sizeLine
      · rw [if_pos hz] at ho
        cases ho
        obtain ⟨p, vs, rfl, h1, h2⟩ := rx.seqL st ea
        obtain ⟨p', vs', rfl, h1', h2'⟩ := ry.seqL st eb
        refine .inr (.inl ⟨p, p', vs, vs', rfl, rfl, h1, h1', by rw [h2.1, h2'.1]; exact hz, fun t ht => ?_⟩)
        obtain ⟨s2, x2⟩ := st.alloc (o := .lst (vs ++ vs')) ht
        have sq := (h2.append h2').mono x2
        exact q _ _ _ x2 s2 (.lst upd_same sq.1 sq.2)
      · rw [if_neg hz] at ho; cases ho
    | _ => cases ho
  | tup xs =>
    cases b with
    | tup ys =>
      have ho : (if xs.length + ys.length ≤ sizeLine then some (D.tup (xs ++ ys)) else none) = some d := ho
      by_cases hz : xs.length + ys.length ≤ sizeLine
      · rw [if_pos hz] at ho
        cases ho
        obtain ⟨p, vs, rfl, h1, h2⟩ := rx.seqT st ea
        obtain ⟨p', vs', rfl, h1', h2'⟩ := ry.seqT st eb
        refine .inr (.inr ⟨p, p', vs, vs', rfl, rfl, h1.ext st.ext, h1'.ext st.ext, by rw [h2.1, h2'.1]; exact hz, fun z => ?_, fun z z2 => ?_, fun _ _ t ht => ?_⟩)
        · subst z
          have : xs = [] := List.eq_nil_of_length_eq_zero h2.1.symm
          subst this
          exact q F H _ Ext.rfl' st (.tup h1' h2'.1 h2'.2)
        · subst z2
          have : ys = [] := List.eq_nil_of_length_eq_zero h2'.1.symm
          subst this
          rw [List.append_nil] at q
          exact q F H _ Ext.rfl' st (.tup h1 h2.1 h2.2)
        · obtain ⟨s2, x2⟩ := st.alloc (o := .tup (vs ++ vs')) ht
          have sq := (h2.append h2').mono x2
          exact q _ _ _ x2 s2 (.tup (SqT.of upd_same) sq.1 sq.2)
      · rw [if_neg hz] at ho; cases ho
    | _ => cases ho
  | _ => cases ho
theorem d_add (ha : PE X a (tE X.K g io Wx f)) (hb : PE X b (tE X.K g io Wx h)) : PE X (.BinOp a .Add b pos) (tE X.K g io Wx (sBin oAdd f h)) := PE.of (pe_op op_add3 ha hb) fun σ H Q q => bin_E ope_add3 σ H Q q
theorem opn_cat : OpN X.K g rCat oCat := by
  intro io F R σ e H x y a b d wx wy Q st rx ry ea eb ho q
  cases a with
  | lst xs =>
    cases b with
    | lst ys =>
      have ho : (if xs.length + ys.length ≤ sizeLine then some (D.lst (xs ++ ys)) else none) = some d := ho
      by_cases hz : xs.length + ys.length ≤ sizeLine
      · rw [if_pos hz] at ho
        cases ho
        obtain ⟨p, vs, rfl, h1, h2⟩ := rx.seqL st ea
        obtain ⟨p', vs', rfl, h1', h2'⟩ := ry.seqL st eb
        refine ⟨p, p', vs, vs', rfl, rfl, h1, h1', by rw [h2.1, h2'.1]; exact hz, fun t ht => ?_⟩
        exact q F _ _ Ext.rfl' (st.fresh ht) (new_list st ht (h2.append h2'))
      · rw [if_neg hz] at ho; cases ho
    | _ => cases ho
  | _ => cases ho
theorem n_cat (ha : PE X a (tE X.K g io Wx f)) (hb : PE X b (tE X.K g io Wx h)) : PE X (.BinOp a .Add b pos) (tN X.K g io Wx (sBinN oCat f h)) := n_bin op_cat opn_cat ha hb

/-! ### slices -/
/-- a part of a slice: nothing, or an int -/
@[simp] def sOm : Smx (Option Int) := fun e => some (.ok none e)
def sPart (f : Sem) : Smx (Option Int) := fun e => bnd (f e) fun w e' => match rd e' w with
  | some (.int i) => some (.ok (some i) e')
  | _ => none
@[simp ↓] theorem sPart_u (f : Sem) (e : En) : sPart f e = (bnd (f e) fun w e' => match rd e' w with
  | some (.int i) => some (.ok (some i) e')
  | _ => none) := rfl
def rO : Rel (Option Int) (Option Int) := fun _ _ _ _ _ v a => v = a
abbrev tOm (K : PySem.W.Frag) (g : Gb) (io : Nat → Option Addr) (Wx : WX) (f : Smx (Option Int)) : TO := tG K g io rO Wx f
theorem o_none : PO X none (tOm X.K g io Wx sOm) := ⟨fun pins s σ H Q I h => po_none.run pins s σ H Q I (by obtain ⟨F, R, e, st, q⟩ := h; exact q.ok st rfl)⟩
theorem o_some (ha : PE X a (tE X.K g io Wx f)) : PO X (some a) (tOm X.K g io Wx (sPart f)) := ⟨fun pins s σ H Q I h => (po_some ha).run pins s σ H Q I (by
  obtain ⟨F, R, e, st, q⟩ := h
  refine ⟨F, R, e, st, Aft.bnd (k := fun w e' => match rd e' w with
    | some (.int i) => some (.ok (some i) e')
    | _ => none) q fun w e' F' H' v _ x s r q => ?_⟩
  cases e1 : rd e' w with
  | none => rw [e1] at q; exact q.elim
  | some d =>
    have dt := r.view s e1
    rw [e1] at q
    cases d with
    | int i =>
      cases dt
      exact ⟨i, rfl, q.ok s rfl⟩
    | _ => exact q.elim)⟩
def cutD (xs : List D) (lo hi : Option Int) : List D := (xs.drop (HT.sIx xs.length 0 lo)).take (HT.sIx xs.length xs.length hi - HT.sIx xs.length 0 lo)
theorem Sqs.cut {K : PySem.W.Frag} {ρ : Rho} {F : Hp} {vs : List V} {ds : List D} (q : Sqs K ρ F vs ds) (lo hi : Option Int) : Sqs K ρ F (cutV vs lo hi) (cutD ds lo hi) := by
  unfold cutV cutD
  rw [q.1]
  exact (q.drop _).take _
/-- x[lo:hi], frozen: of a list or a tuple -/
def kSl (w : W) (lo hi : Option Int) (e : En) : Option (Rs W) := match rd e w with
  | some (.lst ds) => some (.ok (.dat (.lst (cutD ds lo hi))) e)
  | some (.tup ds) => some (.ok (.dat (.tup (cutD ds lo hi))) e)
  | _ => none
def sSl (f : Sem) (l h : Smx (Option Int)) : Sem := fun e => bnd (f e) fun w e1 => bnd (l e1) fun lo e2 => bnd (h e2) fun hi e3 => kSl w lo hi e3
@[simp ↓] theorem sSl_u (f : Sem) (l h : Smx (Option Int)) (e : En) : sSl f l h e = (bnd (f e) fun w e1 => bnd (l e1) fun lo e2 => bnd (h e2) fun hi e3 => kSl w lo hi e3) := rfl
variable {lo hi : Option Expr} {l h2 : Smx (Option Int)}
theorem d_sl (ha : PE X a (tE X.K g io Wx f)) (hl : PO X lo (tOm X.K g io Wx l)) (hh : PO X hi (tOm X.K g io Wx h2)) : PE X (.Subscript a (.Slice lo hi none p2) pos) (tE X.K g io Wx (sSl f l h2)) := by
  refine PE.of (pe_slice (sl_list.or sl_tupA) ha hl hh) fun σ H Q q => ?_
  obtain ⟨F, R, e, st, q⟩ := q
  refine ⟨F, R, e, st, Aft.bnd (k := fun w e1 => bnd (l e1) fun lo e2 => bnd (h2 e2) fun hi e3 => kSl w lo hi e3) q fun w e1 F1 H1 v _ x1 s1 r1 q1 => ?_⟩
  refine ⟨F1, R, e1, s1, Aft.bnd (k := fun lo e2 => bnd (h2 e2) fun hi e3 => kSl w lo hi e3) q1 fun lo' e2 F2 H2 v2 _ x2 s2 r2 q2 => ?_⟩
  refine ⟨F2, R, e2, s2, Aft.bnd (k := fun hi e3 => kSl w lo' hi e3) q2 fun hi' e3 F3 H3 v3 _ x3 s3 r3 q3 => ?_⟩
  cases r2
  cases r3
  have r1' : rE X.K g.ρ F3 R σ H3 e3 v w := (r1.mono (R := R) (H := H1) (e := e1) (H' := H2) (e' := e2) x2).mono (R := R) x3
  unfold kSl at q3
  cases e4 : rd e3 w with
  | none => rw [e4] at q3; exact q3.elim
  | some d =>
    rw [e4] at q3
    cases d with
    | lst ds =>
      obtain ⟨p, vs, rfl, h3, h4⟩ := r1'.seqL s3 e4
      refine .inl ⟨p, vs, rfl, SqL.of h3, fun t ht => ?_⟩
      obtain ⟨s4, x4⟩ := s3.alloc (o := .lst (cutV vs lo' hi')) ht
      have sq := (h4.cut lo' hi').mono x4
      exact q3 _ _ (V.ref t) x4 s4 (.lst upd_same sq.1 sq.2)
    | tup ds =>
      obtain ⟨p, vs, rfl, h3, h4⟩ := r1'.seqT s3 e4
      refine .inr ⟨p, vs, rfl, h3.ext s3.ext, fun hw => ?_, fun hw t ht => ?_⟩
      · have e5 : cutD ds lo' hi' = ds := by
          unfold cutD
          rw [← h4.1, hw.1, hw.2, List.drop_zero, Nat.sub_zero, h4.1, List.take_length]
        replace q3 : Aft X.K g io (rE X.K g.ρ) Wx F3 R σ Q (some (.ok (.dat (.tup (cutD ds lo' hi'))) e3)) := q3
        rw [e5] at q3
        exact q3 F3 H3 (V.ref p) Ext.rfl' s3 (.tup h3 h4.1 h4.2)
      · obtain ⟨s4, x4⟩ := s3.alloc (o := .tup (cutV vs lo' hi')) ht
        have sq := (h4.cut lo' hi').mono x4
        exact q3 _ _ (V.ref t) x4 s4 (.tup (SqT.of upd_same) sq.1 sq.2)
    | _ => exact q3.elim
end
end Mz


namespace Mz
open PySem PySem.Spec PyProof.Rows L2 RZ
open Sem (wp)
/-! ### enumerate over a tuple -/
theorem meets_enumerate_newB1 {v : Value} {o : Obj} {H : Heap → Prop} (B : Begins v o H) :
    Meets (Builtin.«enumerate.__new__» ⟨[.type "enumerate", v], []⟩) (fun _ R s => H s.heap ∧
      R (.ok (.ret (.ref (s.heap.push o).objs.size))) { s with heap := (s.heap.push o).push { cls := .type "enumerate", data := .fields #[.none, .bool false, .ref s.heap.objs.size, rawInt 0, .none, .none] } }) :=
  .of_wp fun prog w A R s h => by
    obtain ⟨hp, g, d, tk, os⟩ := s; obtain ⟨h1, h⟩ := h
    have hsub := sub_enumerate
    have q1 : ∀ {A' : Around} {E : Value → Shared → Prop} {Q : Value → Shared → Prop}, Q (.ref hp.objs.size) ⟨hp.push o, g, d, tk, os⟩ → wpAny (model prog w) A' (pyIter v) Q E ⟨hp, g, d, tk, os⟩ :=
      fun q => B.iter prog w _ _ ⟨hp, g, d, tk, os⟩ _ h1 q
    wp_walk using q1
    refine wpAny_stack_any fun st => wpAny_pure ?_
    split
    · rename_i c _ _ _ _ _
      cases (c == Value.type "enumerate")
      · wp_walk using q1
        exact ⟨_, rfl, h⟩
      · wp_walk using q1
        exact ⟨_, rfl, h⟩
    · wp_walk using q1
      exact ⟨_, rfl, h⟩
theorem call_enumerate_tup {prog : Program} {w : World} {A : Around} {E : Value → Shared → Prop} {s : Shared} {l : Addr} {items : Array Value} {Q : Value → Shared → Prop} (hL : s.heap.IsTuple l items)
    (h : ∀ h', IsEnum h' (s.heap.objs.size + 1) s.heap.objs.size 0 .none → h'.IsTupleIter s.heap.objs.size l 0 → h'.objs.size = s.heap.objs.size + 2 →
      (∀ b o, s.heap.get? b = some o → h'.get? b = some o) → Q (.ref (s.heap.objs.size + 1)) { s with heap := h' }) :
    wpAny (model prog w) A (call (.type "enumerate") [.ref l]) Q E s := by
  refine callType_new F.called_enumerate (by decide) (F.typeCall_enumerate_1 _) (F.newCall_enumerate_1 _) (fun obj => F.args_object_init_2 obj _) F.entry_enumerate_new
    (meets_enumerate_newB1 (begins_tuple l items)) ⟨hL, ?_⟩
  have hz : (s.heap.push { cls := .type "tuple_iterator", data := .fields #[.ref l, .int 0 0] }).objs.size = s.heap.objs.size + 1 := Heap.size_push ..
  show _ ∧ _
  rw [hz]
  have he : IsEnum ((s.heap.push { cls := .type "tuple_iterator", data := .fields #[.ref l, .int 0 0] }).push
      { cls := .type "enumerate", data := .fields #[.none, .bool false, .ref s.heap.objs.size, rawInt 0, .none, .none] }) (s.heap.objs.size + 1) s.heap.objs.size 0 .none := by
    have := Heap.get?_push_size (s.heap.push { cls := .type "tuple_iterator", data := .fields #[.ref l, .int 0 0] })
      (o := { cls := .type "enumerate", data := .fields #[.none, .bool false, .ref s.heap.objs.size, rawInt 0, .none, .none] }) rfl
    rw [hz] at this; exact this
  refine ⟨⟨_, he, rfl⟩, h _ he ⟨_, Heap.get?_push_of_some _ (Heap.get?_push_size _ rfl), rfl, rfl⟩ (by rw [Heap.size_push, hz]) fun b o x => Heap.get?_push_of_some _ (Heap.get?_push_of_some _ x)⟩
theorem wpAny_pyNext_enum_endT {prog : Program} {w : World} {A : Around} {E : Value → Shared → Prop} {s : Shared} {e it l : Addr} {i : Nat} {items : Array Value} {old : Value} {Q : Option Value → Shared → Prop} (hh : A.handled = none)
    (he : IsEnum s.heap e it i old) (hit : s.heap.IsTupleIter it l i) (hl : s.heap.IsTuple l items) (hx : items[i]? = none)
    (hQ : ∀ h', Heap.ExtBut it s.heap h' → Q none { s with heap := h' }) : wpAny (model prog w) A (pyNext (.ref e)) Q E s := by
  have hT : s.TypeIs (.ref e) "enumerate" := ⟨_, he, rfl⟩
  unfold pyNext
  refine wpAny_bind (wpAny_attempt (wpAny_callSpecial?_slot (name := Str.ofString "__next__") hT F.slot_enumerate_next
    (wpAny_call_entry F.slot_enumerate_next hT F.entry_enumerate_next ?_ (F.args_enumerate_next_1 _))))
  show wpAny _ _ (field (.ref e) 2 >>= _) _ _ _
  refine wpAny_bind (wpAny_field he rfl (x := .ref it) rfl ?_)
  refine wpAny_bind (wpAny_nextOf_tuple_end hh hit hl hx fun h' x he' hx' => ?_)
  obtain ⟨o, ho, hc⟩ := hx'
  refine wpAny_bind (wpAny_isInstance (T := "StopIteration") (b := true) ⟨o, ho, hc⟩ isSubtype_stop ?_)
  exact wpAny_pure (hQ _ he')
def IteT (K : PySem.W.Frag) (a : Addr) : It :=
  ⟨fun i H => ∃ (xs : List V) (x : V), SqT K H a xs ∧ xs[i]? = some x, fun i H v H' => ∃ T x, v = .ref T ∧ H T = none ∧ H' = upd H T (.tup [.int (i : Nat), x]) ∧ ∀ xs, SqT K H a xs → xs[i]? = some x, fun i H => ∃ xs : List V, SqT K H a xs ∧ xs.length ≤ i⟩
theorem turn_enumT {P : Program} {w : World} {K : PySem.W.Frag} {elts : List Expr} {kk : Nat} {tpos : Pos} (a e it : Addr) (hae : a ≠ it) :
    Turn P w K (.Tuple elts kk tpos) (IteT K a) [e, it] e (fun i h => (∃ old, IsEnum h e it ((i : Nat) : Int) old) ∧ h.IsTupleIter it a i ∧ e ≠ it) where
  mem := by simp
  obj := fun i h st b hb => by
    obtain ⟨⟨old, he⟩, ⟨o, ho, hc, hd⟩, _⟩ := st
    have e' : b = e ∨ b = it := by simpa using hb
    rcases e' with z | z
    · rw [z]; exact ⟨_, he, fun v q => nomatch q⟩
    · rw [z]; exact ⟨o, ho, fun v q => by rw [hd] at q; cases q⟩
  keep := fun i h h' st k => let ⟨⟨old, he⟩, hi, hne⟩ := st; ⟨⟨old, k e (by simp) _ he⟩, hi.at fun o q => k it (by simp) o q, hne⟩
  item := by
    intro X hP hw hK hc i pins s σ H E I hf st hg
    subst hP hw hK
    obtain ⟨⟨old, he⟩, hit, hne⟩ := st
    obtain ⟨xs, x, hq, hx⟩ := hg
    obtain ⟨its, rv, p, hz⟩ := I.tuple hq
    obtain ⟨u, hu, ru⟩ := rv.get hx
    have hae' : a ≠ e := fun z => by
      obtain ⟨_, q, qc, _⟩ := (show s.heap.IsTuple a its.toArray from p)
      rw [z] at q
      rw [show s.heap.get? e = some _ from he] at q
      cases q
      exact absurd qc (by simp)
    have hlt : i < its.toArray.size := by
      rcases Nat.lt_or_ge i its.toArray.size with z | z
      · exact z
      · rw [List.getElem?_eq_none (by simpa using z)] at hu; cases hu
    have D : Draws X.prog X.w X.A.in1 it [it, a] its.toArray.size (fun i v => its.toArray[i]? = some v) (fun i h => h.IsTupleIter it a i ∧ h.IsTuple a its.toArray) :=
      Draws.tuple (show X.A.in1.handled = none from I.ok.hd hc) it a hae its.toArray
    have hel : e < s.heap.objs.size := Heap.lt_size he
    have hil : it < s.heap.objs.size := by obtain ⟨_, q, _⟩ := hit; exact Heap.lt_size q
    refine wpAny_pyNext_enum_itemD D he ⟨hit, p⟩ hlt hne (fun z => by
      rcases List.mem_cons.mp z with z | z
      · exact hne z
      · exact hae' (List.mem_singleton.mp z).symm) fun x' h' tk hx' ho st' hT hsz hk => ?_
    have ex : x' = u := by
      have e1 : its.toArray[i]? = some u := by simpa using hu
      rw [e1] at hx'
      exact (Option.some.inj hx').symm
    subst ex
    refine ⟨_, rfl, wpAny_letOwnedTupleGo_enum (s := { s with heap := h', toks := tk + 1 }) ho fun h'' he' sb => ?_⟩
    have hT2 : h''.get? s.heap.objs.size = some { cls := .type "tuple", data := .seq #[.int i tk, x'] } := (sb.2 _ (Nat.ne_of_gt hel)).trans hT
    have new : ObjOk X.prog X.w (upd H s.heap.objs.size (.tup [.int (i : Nat), x])) h'' s.heap.objs.size (.tup [.int (i : Nat), x]) :=
      ⟨by show 2 ≤ sizeLine; decide, [.int i tk, x'], .cons ⟨_, rfl⟩ (.cons ru .nil), ⟨_, hT2, rfl, _, rfl⟩⟩
    have I1 : Inv X pins σ (upd H s.heap.objs.size (.tup [.int (i : Nat), x])) { s with heap := h'', toks := tk + 1 } :=
      I.turnedNew (ch := [e, it]) (fun b ob hb q => (sb.2 b (fun z => hb (by simp [z]))).trans (hk b ob (fun z => hb (by simp [z])) (fun z => hb (by simp [z])) q)) hf (Nat.le_refl _) new
    refine ⟨.ref s.heap.objs.size, _, I1, rfl, ⟨_, x, rfl, I.hok.fresh (Nat.le_refl _), rfl, fun ys hy => by rw [I.tuple_inj hy hq]; exact hx⟩, ⟨⟨x', ?_⟩, st'.1.at fun o q => (sb.2 it (Ne.symm hne)).trans q, hne⟩, fun b hb => ?_⟩
    · have e1 : ((i + 1 : Nat) : Int) = (i : Int) + 1 := by omega
      rw [e1]; exact he'
    · have hb' : b < s.heap.objs.size := by
        have e' : b = e ∨ b = it := by simpa using hb
        rcases e' with z | z
        · rw [z]; exact hel
        · rw [z]; exact hil
      rw [upd_ne (Nat.ne_of_lt hb')]
      exact (hf b hb).1
  done := by
    intro X hP hw hK hc i pins s σ H E I hf st hg
    subst hP hw hK
    obtain ⟨⟨old, he⟩, hit, hne⟩ := st
    obtain ⟨xs, hq, hx⟩ := hg
    obtain ⟨its, rv, p, hz⟩ := I.tuple hq
    obtain ⟨f0, f1, f2, f3, f4, f5⟩ := hf it (by simp)
    have hl := rv.length
    refine wpAny_pyNext_enum_endT (I.ok.hd hc) he hit p (by simp; omega) fun h' eb => ⟨rfl, I.turned (t' := s.toks) (fun b o hb q => eb b o hb q) f0 f1 f3 f4 f5⟩
  self := fun A i s Q E st h => let ⟨⟨_, he⟩, _⟩ := st; wpAny_pyIter_enum he h
def iEnumT (K : PySem.W.Frag) (ta : TA) : TI := fun σ H R => ta σ H fun vs H1 => ∃ a xs, vs = [.ref a] ∧ SqT K H1 a xs ∧ R (IteT K a) H1
theorem pi_enumT {X : Cx} {e : Expr} {ta : TA} {p pos tpos : Pos} {elts : List Expr} {kk : Nat} (hg : Gl X "enumerate") (hm : X.mg "enumerate" = none) (ha : PA X [e] ta) (hs : starEach [e] X.env = [(false, eval e X.env)] := by rfl) :
    PI X (.Tuple elts kk tpos) (.Call (.Name "enumerate" p) [e] [] pos) (iEnumT X.K ta) := by
  refine ⟨fun pins s σ H R I h => ?_⟩
  refine Call_ (ld_blt I hg hm boot_enumerate (PyProof.Rows.callWith_type1 (thn (ha.run pos pins s σ H _ I h) fun us s1 ⟨vs, H1, I1, r1, q1⟩ => ?_) hs rfl))
  obtain ⟨a, xs, ex, hq, q⟩ := q1
  subst ex
  cases r1 with
  | cons r rr =>
    cases rr
    cases r
    obtain ⟨its, rv, p', hz⟩ := I1.tuple hq
    have ha : a ≠ s1.heap.objs.size := by
      obtain ⟨o, q, _⟩ := (show s1.heap.IsTuple a its.toArray from p')
      exact Nat.ne_of_lt (Heap.lt_size q)
    refine call_enumerate_tup (show s1.heap.IsTuple a its.toArray from p') fun h' he hit hsz hk => wpAny_pyIter_enum he ?_
    have I2 : Inv X pins σ H1 { s1 with heap := h' } := I1.kept (t' := s1.toks) hk
    refine ⟨s1.heap.objs.size + 1, [s1.heap.objs.size + 1, s1.heap.objs.size], _, _, H1, rfl, I2, turn_enumT a (s1.heap.objs.size + 1) s1.heap.objs.size ha, ⟨⟨.none, he⟩, hit, Nat.succ_ne_self _⟩, fun b hb => ?_, q⟩
    have e' : b = s1.heap.objs.size + 1 ∨ b = s1.heap.objs.size := by simpa using hb
    have hle : s1.heap.objs.size ≤ b := by
      rcases e' with z | z
      · rw [z]; exact Nat.le_add_right _ _
      · rw [z]; exact Nat.le_refl _
    exact I1.fpOk hle (I1.hok.fresh hle)
section
variable {K : PySem.W.Frag} {ρ : Rho} {F R : Hp}
theorem it_enumT {p : Addr} {vs : List V} {ds : List D} (h : SqT K F p vs) (q : Sqs K ρ F vs ds) : ItOk K ρ F R (IteT K p) (enumFrom 0 ds) := fun F2 H2 x1 x2 _ => by
  have hl : SqT K H2 p vs := (h.ext x1).ext x2
  refine ⟨fun i d e => ?_, vs, hl, by rw [enumFrom_length, q.1]; exact Nat.le_refl _⟩
  rw [enumFrom_get, Option.map_eq_some_iff] at e
  obtain ⟨d0, e, rfl⟩ := e
  obtain ⟨v, e1, dv⟩ := q.get e
  refine ⟨⟨vs, v, hl, e1⟩, fun x H' ⟨T, x0, e2, hT, e3, y⟩ => .inr ⟨T, _, e2, hT, e3, ?_⟩⟩
  have := y vs hl
  rw [e1] at this
  cases this
  subst e2
  simpa using pair_dt (none_of x2 hT) (.int _) (dv.mono x1)
end
section
variable {X : Cx} {g : Gb} {io : Nat → Option Addr} {Wx : WX} {pos : Pos} {a b tg : Expr} {f h : Sem} {hs : Smx (List W)}
def iEnq (hs : Smx (List W)) : Smx (List D) := fun e => bnd (hs e) fun ws e' => match ws with
  | [.dat (.lst ds)] => some (.ok (enumFrom 0 ds) e')
  | [.dat (.tup ds)] => some (.ok (enumFrom 0 ds) e')
  | _ => none
@[simp ↓] theorem iEnq_u (hs : Smx (List W)) (e : En) : iEnq hs e = (bnd (hs e) fun ws e' => match ws with
  | [.dat (.lst ds)] => some (.ok (enumFrom 0 ds) e')
  | [.dat (.tup ds)] => some (.ok (enumFrom 0 ds) e')
  | _ => none) := rfl
def wEnq (K : PySem.W.Frag) (ta : TA) : TI := fun σ H R => iEnum K ta σ H R ∨ iEnumT K ta σ H R
theorem ienq {p tpos : Pos} {elts : List Expr} {kk : Nat} (ha : PA X [a] (tA X.K g io Wx hs)) (hm : X.mg "enumerate" = none) (hg : Gl X "enumerate" := by rfl) (hst : starEach [a] X.env = [(false, eval a X.env)] := by rfl) :
    PId X g io Wx (.Tuple elts kk tpos) (.Call (.Name "enumerate" p) [a] [] pos) (wEnq X.K (tA X.K g io Wx hs)) (iEnq hs) := by
  refine ⟨⟨fun pins s σ H R I q => q.elim (fun q => (pi_enum hg hm ha hst).run pins s σ H R I q) fun q => (pi_enumT hg hm ha hst).run pins s σ H R I q⟩, fun σ H Rr q => ?_⟩
  obtain ⟨F, R, e, st, q⟩ := q
  unfold iEnq at q
  cases z : hs e with
  | none => rw [z] at q; exact q.elim
  | some rr =>
    rw [z] at q
    cases rr with
    | ex c pl e' => exact .inl ⟨F, R, e, st, by rw [z]; exact q⟩
    | ok ws e' =>
      change Aft _ _ _ _ _ _ _ _ _ (match ws with | [.dat (.lst ds)] => some (.ok (enumFrom 0 ds) e') | [.dat (.tup ds)] => some (.ok (enumFrom 0 ds) e') | _ => none) at q
      split at q
      · rename_i ds
        refine .inl ⟨F, R, e, st, ?_⟩
        rw [z]
        intro F' H' vs x s r
        obtain ⟨v, rfl, dt⟩ := opds1w r
        cases dt with
        | lst h hl hi => exact ⟨_, _, rfl, SqL.of (s.ext _ _ h), (q.weak x).ok s (it_enum h ⟨hl, hi⟩)⟩
      · rename_i ds
        refine .inr ⟨F, R, e, st, ?_⟩
        rw [z]
        intro F' H' vs x s r
        obtain ⟨v, rfl, dt⟩ := opds1w r
        cases dt with
        | tup h hl hi => exact ⟨_, _, rfl, h.ext s.ext, (q.weak x).ok s (it_enumT h ⟨hl, hi⟩)⟩
      · exact q.elim
end
end Mz

namespace Mz
open PySem PySem.Spec PyProof.Rows L2
/-! ### plain laws, more -/
def niceB : Nat → D → Prop
  | _, .int _ => True
  | _, .bl _ => True
  | _, .non => True
  | _, .str x => PyData.strOk x = true
  | k + 1, .tup xs => ∀ x ∈ xs, niceB k x
  | k + 1, .lst xs => ∀ x ∈ xs, niceB k x
  | _, _ => False
theorem eqvAll_refl {ps : List PyData} (h : ∀ p ∈ ps, PyData.eqv p p = true) : PyData.eqvAll ps ps = true := by
  induction ps with
  | nil => simp [PyData.eqvAll]
  | cons p ps ih => simp [PyData.eqvAll, h p (List.mem_cons_self ..), ih fun q hq => h q (List.mem_cons_of_mem _ hq)]
theorem niceB_py : ∀ {k : Nat} {d : D}, niceB k d → ∃ p, toPy d = some p ∧ p.canLay0 = true ∧ p.depth ≤ k + 1 ∧ PyData.eqv p p = true := by
  intro k
  induction k with
  | zero =>
    intro d h
    cases d with
    | int i => exact ⟨_, rfl, by simp [PyData.canLay0], by simp [PyData.depth], by simp [PyData.eqv]⟩
    | bl i => exact ⟨_, rfl, by simp [PyData.canLay0], by simp [PyData.depth], by simp [PyData.eqv]⟩
    | non => exact ⟨_, rfl, by simp [PyData.canLay0], by simp [PyData.depth], by simp [PyData.eqv]⟩
    | str x => exact ⟨_, rfl, by simpa [PyData.canLay0, niceB] using h, by simp [PyData.depth], by simp [PyData.eqv]⟩
    | _ => exact absurd h (by simp [niceB])
  | succ k ih =>
    intro d h
    cases d with
    | int i => exact ⟨_, rfl, by simp [PyData.canLay0], by simp [PyData.depth], by simp [PyData.eqv]⟩
    | bl i => exact ⟨_, rfl, by simp [PyData.canLay0], by simp [PyData.depth], by simp [PyData.eqv]⟩
    | non => exact ⟨_, rfl, by simp [PyData.canLay0], by simp [PyData.depth], by simp [PyData.eqv]⟩
    | str x => exact ⟨_, rfl, by simpa [PyData.canLay0, niceB] using h, by simp [PyData.depth], by simp [PyData.eqv]⟩
    | tup xs =>
      obtain ⟨ps, e, q⟩ := toPys_of (P := fun p => p.canLay0 = true ∧ p.depth ≤ k + 1 ∧ PyData.eqv p p = true) fun x hx => ih (h x hx)
      refine ⟨.tuple ps, by simp [toPy, e], by simpa [PyData.canLay0] using canAll fun p hp => (q p hp).1, ?_, by simpa [PyData.eqv] using eqvAll_refl fun p hp => (q p hp).2.2⟩
      have := depAll fun p hp => (q p hp).2.1
      simp only [PyData.depth]; omega
    | lst xs =>
      obtain ⟨ps, e, q⟩ := toPys_of (P := fun p => p.canLay0 = true ∧ p.depth ≤ k + 1 ∧ PyData.eqv p p = true) fun x hx => ih (h x hx)
      refine ⟨.list ps, by simp [toPy, e], by simpa [PyData.canLay0] using canAll fun p hp => (q p hp).1, ?_, by simpa [PyData.eqv] using eqvAll_refl fun p hp => (q p hp).2.2⟩
      have := depAll fun p hp => (q p hp).2.1
      simp only [PyData.depth]; omega
    | _ => exact absurd h (by simp [niceB])
theorem eqD_self {k : Nat} {a : D} (h : niceB k a) (hk : k < 64) : eqD a a = some true := by
  obtain ⟨p, e, c, dp, q⟩ := niceB_py h
  have s : SeqAt.shaped p = true := by
    unfold SeqAt.shaped
    rw [c, Bool.true_and, decide_eq_true_eq]
    omega
  simp [eqD, e, s, q]
theorem oEqB {k : Nat} {a b : D} (h : niceB k a) (e : b = a) (hk : k < 64 := by decide) : oEq a b = some (.bl true) := by
  subst e; simp [oEq, eqD_self h hk]
theorem oNeB {k : Nat} {a b : D} (h : niceB k a) (e : b = a) (hk : k < 64 := by decide) : oNe a b = some (.bl false) := by
  subst e; simp [oNe, eqD_self h hk]
theorem maxI_of {l : List Int} {m : Int} (h : m ∈ l) (hb : ∀ y ∈ l, y ≤ m) : maxI l = some m := by
  cases e : maxI l with
  | none => cases l with
    | nil => cases h
    | cons _ _ => cases e
  | some m' =>
    obtain ⟨a, b⟩ := maxI_spec e
    rw [Int.le_antisymm (hb _ a) (b _ h)]
theorem minI_of {l : List Int} {m : Int} (h : m ∈ l) (hb : ∀ y ∈ l, m ≤ y) : minI l = some m := by
  cases e : minI l with
  | none => cases l with
    | nil => cases h
    | cons _ _ => cases e
  | some m' =>
    obtain ⟨a, b⟩ := minI_spec e
    rw [Int.le_antisymm (b _ h) (hb _ a)]
@[simp] theorem oMaxQ_lst {α : Type} (l : List α) (f : α → Int) : oMaxQ [.lst (l.map fun a => .int (f a))] = (maxI (l.map f)).map .int := by
  simp [oMaxQ, oMaxL, oMaxT, oListI, oTupI]
@[simp] theorem oMinQ_lst {α : Type} (l : List α) (f : α → Int) : oMinQ [.lst (l.map fun a => .int (f a))] = (minI (l.map f)).map .int := by
  simp [oMinQ, oMinL, oMinT, oListI, oTupI]
/-- a loop that ends at the first item of a kind -/
theorem go_find {α : Type} {t : Tgt} {body : SSem} {f : α → D} {p : α → Bool} {v : α → D} {fr : Bool} {inv : En → Prop} : ∀ {l : List α} {e : En}, (∀ a e, a ∈ l → inv e → (p a = false → ∃ e2, (t (f a) e).bind body = some (.nx e2) ∧ inv e2) ∧ (p a = true → ∃ e2, (t (f a) e).bind body = some (.rt (v a) fr e2))) → inv e →
    match l.find? p with
    | some a => ∃ e', forGo t body (l.map f) e = some (.rt (v a) fr e')
    | none => ∃ e', forGo t body (l.map f) e = some (.nx e') ∧ inv e'
  | [], e, _, h => ⟨e, rfl, h⟩
  | a :: l, e, h, h0 => by
    obtain ⟨k1, k2⟩ := h a e (List.mem_cons_self ..) h0
    cases hp : p a with
    | true =>
      obtain ⟨e2, h1⟩ := k2 hp
      rw [Option.bind_eq_some_iff] at h1
      obtain ⟨e1, h3, h4⟩ := h1
      simp only [List.find?_cons, hp]
      refine ⟨e2, ?_⟩
      rw [List.map_cons]
      unfold forGo
      rw [h3]
      dsimp only
      rw [h4]
    | false =>
      obtain ⟨e2, h1, h2⟩ := k1 hp
      rw [Option.bind_eq_some_iff] at h1
      obtain ⟨e1, h3, h4⟩ := h1
      have ih := go_find (l := l) (fun b e hb => h b e (List.mem_cons_of_mem _ hb)) h2
      have e5 : forGo t body ((a :: l).map f) e = forGo t body (l.map f) e2 := by
        rw [List.map_cons]
        conv => lhs; unfold forGo
        rw [h3]
        dsimp only
        rw [h4]
      rw [List.find?_cons, hp, e5]
      exact ih
theorem enum_map {α : Type} (f : α → D) : ∀ (l : List α) (n : Nat), enumFrom n (l.map f) = (l.zipIdx n).map fun p => .tup [.int ((p.2 : Nat) : Int), f p.1]
  | [], _ => rfl
  | a :: l, n => by simp [enumFrom, List.zipIdx_cons, enum_map f l (n + 1)]
theorem find_filter {α : Type} (p : α → Bool) : ∀ l : List α, l.find? p = (l.filter p).head?
  | [] => rfl
  | a :: l => by
    cases h : p a with
    | true => simp only [List.find?_cons, h, List.filter_cons, if_true, List.head?_cons]
    | false => simp only [List.find?_cons, h, List.filter_cons, Bool.false_eq_true, if_false, find_filter p l]
/-- a loop that steps, or ends at once -/
theorem go_stop {α S : Type} {t : Tgt} {body : SSem} {f : α → D} {step : S → α → Option S} {v : D} {fr : Bool} {inv : S → En → Prop} : ∀ {l : List α} {s : S} {e : En}, (∀ s a e, a ∈ l → inv s e → match step s a with
      | some s' => ∃ e2, (t (f a) e).bind body = some (.nx e2) ∧ inv s' e2
      | none => ∃ e2, (t (f a) e).bind body = some (.rt v fr e2)) → inv s e →
    match l.foldlM step s with
    | some s' => ∃ e', forGo t body (l.map f) e = some (.nx e') ∧ inv s' e'
    | none => ∃ e', forGo t body (l.map f) e = some (.rt v fr e')
  | [], s, e, _, h => ⟨e, rfl, h⟩
  | a :: l, s, e, h, h0 => by
    have k := h s a e (List.mem_cons_self ..) h0
    rw [List.foldlM_cons]
    cases hs : step s a with
    | none =>
      rw [hs] at k
      obtain ⟨e2, h1⟩ := k
      rw [Option.bind_eq_some_iff] at h1
      obtain ⟨e1, h3, h4⟩ := h1
      refine ⟨e2, ?_⟩
      rw [List.map_cons]
      unfold forGo
      rw [h3]
      dsimp only
      rw [h4]
    | some s' =>
      rw [hs] at k
      obtain ⟨e2, h1, h2⟩ := k
      rw [Option.bind_eq_some_iff] at h1
      obtain ⟨e1, h3, h4⟩ := h1
      have ih := go_stop (l := l) (fun s b e hb => h s b e (List.mem_cons_of_mem _ hb)) h2
      have e5 : forGo t body ((a :: l).map f) e = forGo t body (l.map f) e2 := by
        rw [List.map_cons]
        conv => lhs; unfold forGo
        rw [h3]
        dsimp only
        rw [h4]
      rw [e5]
      exact ih
/-! ### fractions -/
abbrev P2 := Int × Int
abbrev frD (p : P2) : D := .tup [.int p.1, .int p.2]
theorem fr_le_trans {a b c d e f : Int} (hb : 0 < b) (hd : 0 < d) (hf : 0 < f) (h1 : a * d ≤ c * b) (h2 : c * f ≤ e * d) : a * f ≤ e * b := by
  have k1 := Int.mul_le_mul_of_nonneg_right h1 (Int.le_of_lt hf)
  have k2 := Int.mul_le_mul_of_nonneg_right h2 (Int.le_of_lt hb)
  have k3 : a * f * d ≤ e * b * d := by
    rw [Int.mul_right_comm a f d, Int.mul_right_comm e b d]
    refine Int.le_trans k1 ?_
    rw [Int.mul_right_comm c b f]
    exact k2
  exact Int.le_of_mul_le_mul_right k3 hd
theorem fr_lt_le {a b c d e f : Int} (hb : 0 < b) (hd : 0 < d) (hf : 0 < f) (h1 : a * d < c * b) (h2 : c * f ≤ e * d) : a * f < e * b := by
  have k1 := Int.mul_lt_mul_of_pos_right h1 hf
  have k2 := Int.mul_le_mul_of_nonneg_right h2 (Int.le_of_lt hb)
  have k3 : a * f * d < e * b * d := by
    rw [Int.mul_right_comm a f d, Int.mul_right_comm e b d]
    refine Int.lt_of_lt_of_le k1 ?_
    rw [Int.mul_right_comm c b f]
    exact k2
  exact Int.lt_of_mul_lt_mul_right k3 (Int.le_of_lt hd)
theorem fr_le_lt {a b c d e f : Int} (hb : 0 < b) (hd : 0 < d) (hf : 0 < f) (h1 : a * d ≤ c * b) (h2 : c * f < e * d) : a * f < e * b := by
  have k1 := Int.mul_le_mul_of_nonneg_right h1 (Int.le_of_lt hf)
  have k2 := Int.mul_lt_mul_of_pos_right h2 hb
  have k3 : a * f * d < e * b * d := by
    rw [Int.mul_right_comm a f d, Int.mul_right_comm e b d]
    refine Int.lt_of_le_of_lt k1 ?_
    rw [Int.mul_right_comm c b f]
    exact k2
  exact Int.lt_of_mul_lt_mul_right k3 (Int.le_of_lt hd)
/-- in lowest terms -/
def lw (t b : Int) : P2 := (t / (Nat.gcd t.natAbs b.natAbs : Nat), b / (Nat.gcd t.natAbs b.natAbs : Nat))
structure LwOk (t b : Int) (p : P2) : Prop where
  pos : 0 < p.2
  le : p.2 ≤ b
  eq : p.1 * b = t * p.2
  ex : ∃ g : Int, 0 < g ∧ t = g * p.1 ∧ b = g * p.2
  cop : Nat.gcd p.1.natAbs p.2.natAbs = 1
  abs : p.1.natAbs ≤ t.natAbs
theorem lw_ok (t b : Int) (hb : 0 < b) : LwOk t b (lw t b) := by
  obtain ⟨g, hg⟩ : ∃ g : Nat, Nat.gcd t.natAbs b.natAbs = g := ⟨_, rfl⟩
  have g0 : 0 < g := by rw [← hg]; exact Nat.gcd_pos_of_pos_right _ (by omega)
  have d1 : (g : Int) ∣ t := by rw [← hg]; exact Int.ofNat_dvd_left.mpr (Nat.gcd_dvd_left _ _)
  have d2 : (g : Int) ∣ b := by rw [← hg]; exact Int.ofNat_dvd_left.mpr (Nat.gcd_dvd_right _ _)
  obtain ⟨x, hx⟩ := d1
  obtain ⟨y, hy⟩ := d2
  have gi : (0 : Int) < (g : Int) := by omega
  have e : lw t b = (x, y) := by
    unfold lw
    rw [hg, hx, hy, Int.mul_ediv_cancel_left _ (by omega), Int.mul_ediv_cancel_left _ (by omega)]
  have y0 : 0 < y := by
    rw [hy] at hb
    exact Int.pos_of_mul_pos_right hb gi
  rw [e]
  refine ⟨y0, ?_, ?_, ⟨g, gi, hx, hy⟩, ?_, ?_⟩
  · show y ≤ b
    rw [hy]
    have := Int.mul_le_mul_of_nonneg_right (a := 1) (b := (g : Int)) (c := y) (by omega) (by omega)
    omega
  · show x * b = t * y
    rw [hx, hy, Int.mul_left_comm, Int.mul_assoc]
  · show Nat.gcd x.natAbs y.natAbs = 1
    have h1 : t.natAbs = g * x.natAbs := by rw [hx, Int.natAbs_mul]; simp
    have h2 : b.natAbs = g * y.natAbs := by rw [hy, Int.natAbs_mul]; simp
    rw [h1, h2, Nat.gcd_mul_left] at hg
    exact Nat.eq_of_mul_eq_mul_left g0 (by rw [hg, Nat.mul_one])
  · show x.natAbs ≤ t.natAbs
    have h1 : t.natAbs = g * x.natAbs := by rw [hx, Int.natAbs_mul]; simp
    rw [h1]
    exact Nat.le_mul_of_pos_left _ g0
end Mz

namespace Mz
open PySem PySem.Spec PyProof.Rows L2 HT
/-! ### a tuple turned round -/
section
variable {prog : Program} {w : World} {A : Around} {E : Value → Shared → Prop} {s : Shared}
theorem sl_back {sl : Addr} {vl vu vs : Value} {n : Nat} {Q : Int × Int × Nat → Shared → Prop} (hs : s.heap.IsSliceOf sl vl vu vs) (pl : IsPart vl none) (pu : IsPart vu none) (ps : IsPart vs (some (-1)))
    (h : Q ((n : Int) - 1, -1, n) s) : wpAny (model prog w) A (Builtin.Slice.sliceApplied (.ref sl) (pure (n : Int))) Q E s := by
  obtain ⟨os, hos, hcs, hds⟩ := id hs
  unfold Builtin.Slice.sliceApplied Builtin.Slice.sliceFields
  refine wpAny_bind (wpAny_bind (wpAny_field hos hds (x := vl) rfl (wpAny_bind (wpAny_field hos hds (x := vu) rfl (wpAny_bind (wpAny_field hos hds (x := vs) rfl (wpAny_pure ?_)))))))
  refine wpAny_bind (slicePart_ ps ?_)
  show wpAny _ _ (if ((-1 : Int) == 0) = true then _ else _) _ _ s
  rw [if_neg (by decide)]
  refine wpAny_bind (slicePart_ pl (wpAny_bind (slicePart_ pu (wpAny_bind (wpAny_pure ?_)))))
  have e : Builtin.Slice.slicePlaces ((n : Int) - 1) (-1) (-1) = n := by
    unfold Builtin.Slice.slicePlaces
    have h1 : ¬ (-1 : Int) > 0 := by omega
    simp only [h1, if_false]
    split
    · have : ((n : Int) - 1 - -1 - 1) / - -1 = (n : Int) - 1 := by rw [show (- -1 : Int) = 1 by decide, Int.ediv_one]; omega
      rw [this]; omega
    · omega
  refine wpAny_pure ?_
  show Q ((n : Int) - 1, (-1 : Int), Builtin.Slice.slicePlaces ((n : Int) - 1) (-1) (-1)) s
  rw [e]
  exact h
theorem fm_some {α β : Type} {f : α → Option β} {g : α → β} : ∀ {l : List α}, (∀ m ∈ l, f m = some (g m)) → l.filterMap f = l.map g
  | [], _ => rfl
  | a :: l, h => by rw [List.filterMap_cons, h a (List.mem_cons_self ..), List.map_cons, fm_some fun m hm => h m (List.mem_cons_of_mem _ hm)]
theorem pick_back (xs : Array Value) : ((List.range xs.size).filterMap fun (m : Nat) => xs[((xs.size : Int) - 1 + (m : Int) * -1).toNat]?).toArray = xs.toList.reverse.toArray := by
  congr 1
  apply List.ext_getElem?
  intro i
  have e : ∀ m ∈ List.range xs.size, xs[((xs.size : Int) - 1 + (m : Int) * -1).toNat]? = some (xs.getD (xs.size - 1 - m) .none) := fun m hm => by
    have hm := List.mem_range.mp hm
    rw [show ((xs.size : Int) - 1 + (m : Int) * -1).toNat = xs.size - 1 - m by omega]
    rw [Array.getElem?_eq_getElem (by omega), Array.getD_eq_getD_getElem?, Array.getElem?_eq_getElem (by omega)] <;> rfl
  have e2 : ((List.range xs.size).filterMap fun (m : Nat) => xs[((xs.size : Int) - 1 + (m : Int) * -1).toNat]?) = (List.range xs.size).map fun m => xs.getD (xs.size - 1 - m) .none := by
    exact fm_some (fun m hm => e m hm)
  rw [e2, List.getElem?_map]
  by_cases hi : i < xs.size
  · rw [List.getElem?_range hi, List.getElem?_reverse (by rw [Array.length_toList]; exact hi)]
    rw [Array.length_toList, Array.getElem?_toList, Array.getElem?_eq_getElem (by omega), Option.map_some, Array.getD_eq_getD_getElem?, Array.getElem?_eq_getElem (by omega)] <;> rfl
  · rw [List.getElem?_eq_none (by rw [List.length_range]; omega), List.getElem?_eq_none (by rw [List.length_reverse, Array.length_toList]; omega)] <;> rfl
theorem tup_back {t sl : Addr} {items : Array Value} {vl vu vs : Value} {Q : Value → Shared → Prop} (ht : IsTup s.heap t items) (hs : s.heap.IsSliceOf sl vl vu vs) (pl : IsPart vl none) (pu : IsPart vu none) (ps : IsPart vs (some (-1)))
    (h : Q (.ref s.heap.objs.size) { s with heap := s.heap.push { cls := .type "tuple", data := .seq items.toList.reverse.toArray } })
    (hsz : items.size ≤ sizeLine) : wpAny (model prog w) A (getItem (.ref t) (.ref sl)) Q E s := by
  have htake : sizeOk (.seq items.toList.reverse.toArray) := by
    show items.toList.reverse.toArray.size ≤ sizeLine
    rw [List.size_toArray, List.length_reverse, Array.length_toList]
    exact hsz
  obtain ⟨os, hos, hcs, hds⟩ := id hs
  have hTs : s.TypeIs (.ref sl) "slice" := ⟨os, hos, hcs⟩
  unfold getItem
  try with_reducible refine wpAny_holding ?_
  first | refine wpAny_bind (wpAny_pure ?_) | skip
  refine wpAny_bind (wpAny_sequenceKey ht.typeIs (by decide) ?_)
  refine wpAny_bind (wpAny_callSpecial?_slot (name := Str.ofString "__getitem__") ht.typeIs PyProof.Rows.slot_tuple_getitem
    (wpAny_call_entry PyProof.Rows.slot_tuple_getitem ht.typeIs entry_tuple_getitem ?_ (args_tuple_getitem _ _)))
  show wpAny _ _ (Builtin.Tuple.tupleItemsOf (.ref t) >>= _) _ _ s
  refine wpAny_bind (tupleItemsOf_ ht ?_)
  refine wpAny_bind (wpAny_typeOf hTs ?_)
  rw [if_pos (by decide)]
  refine wpAny_bind (sl_back hs pl pu ps ?_)
  have hno : ¬ (((items.size : Int) - 1 == 0 && (-1 : Int) == 1 && items.size == items.size) = true) := by
    intro q
    rw [Bool.and_eq_true, Bool.and_eq_true] at q
    exact absurd q.1.2 (by decide)
  show wpAny _ _ (if ((items.size : Int) - 1 == 0 && (-1 : Int) == 1 && items.size == items.size) = true then _ else _) _ _ s
  rw [if_neg hno, pick_back]
  first
    | exact wpAny_bind (m := Builtin.Tuple.tupleExact _) (wpAny_newObj_type (wpAny_pure ⟨_, rfl, wpAny_pure h⟩) htake)
    | exact wpAny_bind (m := Builtin.Tuple.tupleExact _) (wpAny_newObj_type (wpAny_bind (wpAny_pure (wpAny_pure ⟨_, rfl, wpAny_pure h⟩))) htake)
end
section
variable {X : Cx} {g : Gb} {io : Nat → Option Addr} {Wx : WX} {pos p1 p2 p3 : Pos} {e : Expr} {te : TE} {f : Sem}
def tRevT (K : PySem.W.Frag) (te : TE) : TE := fun σ H Q => te σ H fun x H1 => ∃ a xs, x = .ref a ∧ SqT K H1 a xs ∧ ∀ p, H1 p = none → Q (.ref p) (upd H1 p (.tup xs.reverse))
theorem pe_revT {k} (he : PE X e te) : PE X (.Subscript e (.Slice none none (some (.UnaryOp .USub (.Constant (.int 1) k p1) p2)) p3) pos) (tRevT X.K te) := by
  refine ⟨fun pins s σ H Q I h => ?_⟩
  refine Subscript_ (thn (he.run pins s σ H _ I h) fun v s1 ⟨x, H1, I1, r1, q1⟩ => ?_)
  obtain ⟨a, xs, ex, hx, q⟩ := q1
  subst ex
  cases r1
  have hst : PO X (some (.UnaryOp .USub (.Constant (.int 1) k p1) p2)) (tPart (tUn (rU fun i => .int (-i)) (tC (.int 1)))) := po_some (pe_un un_neg pe_int)
  refine wpAny_Slice (thn (po_none.run pins s1 σ H1 (fun o H2 => o = none ∧ H2 = H1) I1 ⟨rfl, rfl⟩) fun vl s2 ⟨l, H2, I2, pl, el, e2⟩ => ?_)
  subst el e2
  refine thn (po_none.run pins s2 σ H2 (fun o H3 => o = none ∧ H3 = H2) I2 ⟨rfl, rfl⟩) fun vu s3 ⟨u, H3, I3, pu, eu, e3⟩ => ?_
  subst eu e3
  refine thn (hst.run pins s3 σ H3 (fun o H4 => o = some (-1) ∧ H4 = H3) I3 ⟨1, rfl, -1, rfl, rfl, rfl⟩) fun vs s4 ⟨o, H4, I4, ps, eo, e4⟩ => ?_
  subst eo e4
  have I5 : Inv X pins σ H4 { s4 with heap := s4.heap.push { cls := .type "slice", data := .fields #[vl, vu, vs] } } := I4.kept (t' := s4.toks) fun b ob q => Heap.get?_push_of_some _ q
  obtain ⟨its, r, ht, hz⟩ := I5.tuple hx
  have hlen := r.length
  show wpAny (model X.prog X.w) X.A (subscriptTail e (.Slice none none (some (.UnaryOp .USub (.Constant (.int 1) k p1) p2)) p3) (.ref a) (.ref s4.heap.objs.size)) (EP X pins σ Q) X.xe { s4 with heap := s4.heap.push { cls := .type "slice", data := .fields #[vl, vu, vs] } }
  refine tail_any (ops := [.ref a, .ref s4.heap.objs.size]) ht.typeIs (PyProof.Rows.slot_tuple_getitem.lookup) ?_ (by with_unfolding_all rfl)
  refine tup_back ht (Heap.IsSliceOf.new _ vl vu vs) pl pu ps ?_ (by rw [List.size_toArray]; omega)
  refine ⟨.ref _, _, I5.laid (t' := s4.toks) (o := .tup xs.reverse) (fun b ob q => Heap.get?_push_of_some _ q) (Nat.le_refl _) ?_, rfl, q _ (I5.hok.fresh (Nat.le_refl _))⟩
  refine ⟨by rw [List.length_reverse]; exact hz, _, r.reverse, ?_⟩
  exact ⟨_, Heap.get?_push_size _ rfl, rfl, 0, rfl⟩
/-- x[::-1], frozen: of a list or a tuple -/
def kRv (w : W) (e : En) : Option (Rs W) := match rd e w with
  | some (.lst ds) => some (.ok (.dat (.lst ds.reverse)) e)
  | some (.tup ds) => some (.ok (.dat (.tup ds.reverse)) e)
  | _ => none
def sRv (f : Sem) : Sem := fun e => bnd (f e) kRv
@[simp ↓] theorem sRv_u (f : Sem) (e : En) : sRv f e = bnd (f e) kRv := rfl
@[simp] theorem kRv_u (w : W) (e : En) : kRv w e = (match rd e w with
  | some (.lst ds) => some (.ok (.dat (.lst ds.reverse)) e)
  | some (.tup ds) => some (.ok (.dat (.tup ds.reverse)) e)
  | _ => none) := rfl
theorem pe_or {t1 t2 : TE} {ex : Expr} (h1 : PE X ex t1) (h2 : PE X ex t2) : PE X ex (fun σ H Q => t1 σ H Q ∨ t2 σ H Q) := ⟨fun pins s σ H Q I q => q.elim (fun q => h1.run pins s σ H Q I q) fun q => h2.run pins s σ H Q I q⟩
theorem d_rv {k} (ha : PE X e (tE X.K g io Wx f)) : PE X (.Subscript e (.Slice none none (some (.UnaryOp .USub (.Constant (.int 1) k p1) p2)) p3) pos) (tE X.K g io Wx (sRv f)) := by
  refine ⟨fun pins s σ H Q I q => ?_⟩
  obtain ⟨F, R, en, st, q⟩ := q
  have q : Aft X.K g io (rE X.K g.ρ) Wx F R σ Q (bnd (f en) kRv) := q
  cases z : f en with
  | none => rw [z] at q; exact q.elim
  | some rr =>
    cases rr with
    | ex c pl e' =>
      refine (pe_revL ha).run pins s σ H Q I ⟨F, R, en, st, ?_⟩
      rw [z] at q ⊢
      exact q
    | ok w0 e1 =>
      rw [z] at q
      have q : Aft X.K g io (rE X.K g.ρ) Wx F R σ Q (kRv w0 e1) := q
      unfold kRv at q
      cases e4 : rd e1 w0 with
      | none => rw [e4] at q; exact q.elim
      | some d =>
        rw [e4] at q
        cases d with
        | lst ds =>
          refine (pe_revL ha).run pins s σ H Q I ⟨F, R, en, st, ?_⟩
          rw [z]
          intro F1 H1 v x1 s1 r1
          obtain ⟨p, vs, rfl, h3, h4⟩ := r1.seqL s1 e4
          refine ⟨p, vs, rfl, SqL.of h3, fun t ht => ?_⟩
          obtain ⟨s4, x4⟩ := s1.alloc (o := .lst vs.reverse) ht
          have sq := h4.reverse.mono x4
          exact q _ _ (V.ref t) (x1.trans x4) s4 (.lst upd_same sq.1 sq.2)
        | tup ds =>
          refine (pe_revT ha).run pins s σ H Q I ⟨F, R, en, st, ?_⟩
          rw [z]
          intro F1 H1 v x1 s1 r1
          obtain ⟨p, vs, rfl, h3, h4⟩ := r1.seqT s1 e4
          refine ⟨p, vs, rfl, h3.ext s1.ext, fun t ht => ?_⟩
          obtain ⟨s4, x4⟩ := s1.alloc (o := .tup vs.reverse) ht
          have sq := h4.reverse.mono x4
          exact q _ _ (V.ref t) (x1.trans x4) s4 (.tup (SqT.of upd_same) sq.1 sq.2)
        | _ => exact q.elim
end

/-! ### a tuple of texts of the module -/
def strsB : List Value → List Str → Bool
  | [], [] => true
  | .str y _ :: r, z :: q => decide (y = z) && strsB r q
  | _, _ => false
theorem strsB_ok : ∀ {us : List Value} {zs : List Str}, strsB us zs = true → Vals (zs.map V.str) us
  | [], [], _ => .nil
  | .str y t :: r, z :: q, h => by
    obtain ⟨h1, h2⟩ := He.ba h
    have h1 : y = z := of_decide_eq_true h1
    subst h1
    exact .cons ⟨t, rfl⟩ (strsB_ok h2)
  | [], _ :: _, h => nomatch h
def gtB (x : Str) (zs : List Str) : Fb := fun K => (He.Fa.glo x).ok K && match K.lookup (He.ga K x) with
  | some ⟨.type n, _, .seq its _, _⟩ => decide (n = "tuple") && (decide (its.size ≤ sizeLine) && strsB its.toList zs)
  | _ => false
structure GtOk (K : PySem.W.Frag) (mg : Str → Option Value) (x : Str) (zs : List Str) : Prop where
  at_ : mg x = some (.ref (He.ga K x))
  sq : ∀ H, SqT K H (He.ga K x) (zs.map V.str)
theorem Kn.gt {bs : List Fb} {ds : List Dm} {K : PySem.W.Frag} {mg : Str → Option Value} (k : Kn bs ds K mg) (i : Nat) {x : Str} {zs : List Str} (h : bs[i]? = some (gtB x zs) := by rfl) : GtOk K mg x zs := by
  obtain ⟨hp, X, G⟩ := k.hp
  obtain ⟨h1, h2⟩ := He.ba (k.says.fact i h)
  refine ⟨He.glo_ok X G h1, fun H => ?_⟩
  cases e : K.lookup (He.ga K x) with
  | none => rw [e] at h2; cases h2
  | some o =>
    rw [e] at h2
    obtain ⟨cls, dct, dt, sl⟩ := o
    cases cls with
    | type n =>
      cases dt with
      | seq its m =>
        obtain ⟨h3, h4⟩ := He.ba h2
        obtain ⟨h5, h6⟩ := He.ba h4
        have h3 : n = "tuple" := of_decide_eq_true h3
        exact .inr ⟨_, its, m, e, by rw [h3], rfl, of_decide_eq_true h5, strsB_ok h6⟩
      | _ => cases h2
    | _ => cases h2
section
variable {X : Cx} {g : Gb} {io : Nat → Option Addr} {Wx : WX} {pos : Pos} {x : Str}
theorem d_gtup {zs : List Str} (G : GtOk X.K X.mg x zs) (hg : Gl X x := by rfl) (hd : (x == ("__debug__" : Str)) = false := by decide) : PE X (.Name x pos) (tE X.K g io Wx (sC (.tup (zs.map .str)))) :=
  c_of (v := .ref (He.ga X.K x)) (fun F => .tup (G.sq F) (by simp) fun i v d a b => by
    rw [List.getElem?_map, Option.map_eq_some_iff] at a b
    obtain ⟨z, a, rfl⟩ := a
    obtain ⟨z', b, rfl⟩ := b
    rw [a] at b
    cases b
    exact .str z) (pe_glob hg G.at_ rfl hd)
end
/-! ### dicts, written and read -/
theorem mergeK_new : ∀ {more acc : List (Key × V)}, ((acc ++ more).map (·.1)).Nodup → mergeK acc more = acc ++ more
  | [], acc, _ => by simp [mergeK]
  | p :: r, acc, h => by
    have hn : valV acc p.1 = none := by
      cases e : valV acc p.1 with
      | none => rfl
      | some v =>
        exfalso
        unfold valV at e
        rw [Option.map_eq_some_iff] at e
        obtain ⟨q, e, _⟩ := e
        have h1 := List.mem_of_find?_eq_some e
        have h2 := List.find?_some e
        have h2 : q.1 = p.1 := of_decide_eq_true h2
        rw [List.map_append, List.nodup_append] at h
        exact h.2.2 q.1 (List.mem_map_of_mem h1) p.1 (List.mem_map_of_mem (List.mem_cons_self ..)) h2
    have e : mergeK acc (p :: r) = mergeK (putK acc p.1 p.2) r := rfl
    rw [e, putK_new p.2 hn, mergeK_new (by simpa [List.append_assoc] using h)]
    simp
def dGet : List Key → List D → Key → Option D
  | k :: ks, d :: ds, x => if k = x then some d else dGet ks ds x
  | _, _, _ => none
theorem dGet_ok {K : PySem.W.Frag} {ρ : Rho} {F : Hp} {k : Key} {d : D} : ∀ {ks : List Key} {vs : List V} {ds : List D}, Sqs K ρ F vs ds → ks.length = vs.length → dGet ks ds k = some d → ∃ v, valV (ks.zip vs) k = some v ∧ Dt K ρ F v d
  | [], _, _, _, _, h => by unfold dGet at h; cases h
  | x :: ks, [], _, _, hl, _ => by simp at hl
  | x :: ks, v :: vs, [], sq, _, _ => by have := sq.1; simp at this
  | x :: ks, v :: vs, y :: ds, sq, hl, h => by
    unfold dGet at h
    by_cases e : x = k
    · rw [if_pos e] at h
      cases h
      exact ⟨v, by rw [List.zip_cons_cons, valV_pos e], sq.2 0 _ _ rfl rfl⟩
    · rw [if_neg e] at h
      obtain ⟨v', h1, h2⟩ := dGet_ok (ks := ks) (vs := vs) (ds := ds) ⟨by have := sq.1; simpa using this, fun i a b h1 h2 => sq.2 (i + 1) a b (by simpa using h1) (by simpa using h2)⟩ (by simpa using hl) h
      exact ⟨v', by rw [List.zip_cons_cons, valV_neg e]; exact h1, h2⟩
def oDGet : D → D → Option D
  | .dct ks ds, .str s => dGet ks ds (.inr s)
  | .dct ks ds, .int i => dGet ks ds (.inl i)
  | _, _ => none
def sDct (ks : List Str) (hs : Smx (List W)) : Sem := fun e => bnd (hs e) fun ws e' => match dats ws with
  | some ds => if ds.length = ks.length ∧ ds.length ≤ 15 ∧ ks.Nodup then some (.ok (.dat (.dct (ks.map .inr) ds)) e') else none
  | none => none
@[simp ↓] theorem sDct_u (ks : List Str) (hs : Smx (List W)) (e : En) : sDct ks hs e = (bnd (hs e) fun ws e' => match dats ws with
  | some ds => if ds.length = ks.length ∧ ds.length ≤ 15 ∧ ks.Nodup then some (.ok (.dat (.dct (ks.map .inr) ds)) e') else none
  | none => none) := rfl
section
variable {X : Cx} {g : Gb} {io : Nat → Option Addr} {Wx : WX} {pos : Pos} {a b v : Expr} {f h : Sem} {hs : Smx (List W)}
def PDd (X : Cx) (g : Gb) (io : Nat → Option Addr) (Wx : WX) (pos : Pos) (keys : List (Option Expr)) (values : List Expr) (ks : List Str) (hs : Smx (List W)) : Prop :=
  ∃ trs, PPs X pos keys values trs ∧ ∀ σ H (Q : List (V × V) → Hp → Prop), tA X.K g io Wx hs σ H (fun vs H2 => Q ((ks.zip vs).map fun p => (V.str p.1, p.2)) H2) → tPairs trs σ H Q
theorem pd_nil : PDd X g io Wx pos [] [] [] sNil := ⟨[], pps_nil, fun σ H Q q => by
  obtain ⟨F, R, e, st, q⟩ := q
  exact q.ok st (v := []) .nil⟩
theorem pd_cons {k : Str} {j p} {keys : List (Option Expr)} {values : List Expr} {ks : List Str} (hv : PE X v (tE X.K g io Wx f)) (hr : PDd X g io Wx pos keys values ks hs) : PDd X g io Wx pos (some (.Constant (.str k) j p) :: keys) (v :: values) (k :: ks) (sCons f hs) := by
  obtain ⟨trs, h1, h2⟩ := hr
  refine ⟨_, pps_cons (pe_str) hv h1, fun σ H Q q => ?_⟩
  obtain ⟨F, R, e, st, q⟩ := q
  refine ⟨F, R, e, st, Aft.bnd (k := fun w e1 => bnd (hs e1) fun ws e2 => some (.ok (w :: ws) e2)) q fun w e1 F1 H1 v1 _ x1 s1 r1 q1 => ?_⟩
  refine h2 σ H1 (fun ps H3 => Q ((V.str k, v1) :: ps) H3) ⟨F1, R, e1, s1, Aft.bnd (k := fun ws e2 => some (.ok (w :: ws) e2)) q1 fun ws e2 F2 H2 v2 _ x2 s2 r2 q2 => ?_⟩
  exact Aft.ok (v := v1 :: v2) q2 s2 (Opds.cons (H' := H2) (e' := e2) (r1.mono (R := R) (H := H2) (e := e2) x2) r2)
theorem d_dct {keys : List (Option Expr)} {values : List Expr} {ks : List Str} (h : PDd X g io Wx pos keys values ks hs) (hall : keys.all (·.isSome) = true := by rfl) (hl : keys.length = values.length := by rfl) (h0 : keys ≠ [] := by exact fun z => nomatch z) (h15 : keys.length ≤ 15 := by decide) :
    PE X (.Dict keys values pos) (tE X.K g io Wx (sDct ks hs)) := by
  obtain ⟨trs, h1, h2⟩ := h
  refine PE.of (pe_disp h1 hall hl h0 h15) fun σ H Q q => ?_
  obtain ⟨F, R, e, st, q⟩ := q
  intro p hp
  have nR := st.none_R hp
  have s0 := (st.fresh (o := .dK []) hp).hold (st.none_F hp) nR (st.noCell hp) upd_same
  refine h2 σ _ _ ⟨F, upd R p (.dK []), e, s0, ?_⟩
  have q : Aft X.K g io (rE X.K g.ρ) Wx F R σ Q (bnd (hs e) fun ws e' => match dats ws with
    | some ds => if ds.length = ks.length ∧ ds.length ≤ 15 ∧ ks.Nodup then some (.ok (.dat (.dct (ks.map .inr) ds)) e') else none
    | none => none) := q
  cases z : hs e with
  | none => rw [z] at q; exact q.elim
  | some rr =>
    rw [z] at q
    cases rr with
    | ex c pl e' => exact fun F' H' cls d x s ex => q F' H' cls d x (s.letgo nR).1 ex
    | ok ws e' =>
      intro F' H' vs x s r
      replace q : Aft X.K g io (rE X.K g.ρ) Wx F R σ Q (match dats ws with
        | some ds => if ds.length = ks.length ∧ ds.length ≤ 15 ∧ ks.Nodup then some (.ok (.dat (.dct (ks.map .inr) ds)) e') else none
        | none => none) := q
      cases e1 : dats ws with
      | none => rw [e1] at q; exact q.elim
      | some ds =>
        rw [e1] at q
        replace q : Aft X.K g io (rE X.K g.ρ) Wx F R σ Q (if ds.length = ks.length ∧ ds.length ≤ 15 ∧ ks.Nodup then some (.ok (.dat (.dct (ks.map .inr) ds)) e') else none) := q
        by_cases hz : ds.length = ks.length ∧ ds.length ≤ 15 ∧ ks.Nodup
        · rw [if_pos hz] at q
          have sq := Opds.frozen r e1
          obtain ⟨_, _, _, hH⟩ := s.letgo nR
          have ev : vs.length = ks.length := sq.1.trans hz.1
          have ek : mergeK [] ((ks.map Sum.inr).zip vs) = (ks.map Sum.inr).zip vs := by
            rw [mergeK_new]
            · rfl
            · rw [List.nil_append, List.map_fst_zip (by rw [List.length_map]; omega)]
              exact List.pairwise_map.mpr (hz.2.2.imp fun hne he => hne (Sum.inr.inj he))
          refine ⟨hH, (ks.map Sum.inr).zip vs, ?_, ?_, ?_⟩
          · rw [List.zip_map_left, List.map_map] <;> rfl
          · rw [List.length_zip, List.length_map]; omega
          · rw [ek]
            have s3 := s.reframe (o' := .dK ((ks.map Sum.inr).zip vs))
            obtain ⟨s4, nF4, nC4, hH4⟩ := s3.letgo nR
            obtain ⟨s5, x5⟩ := s4.freeze nF4 nR nC4 hH4
            have sq5 := sq.mono x5
            exact q _ _ (V.ref p) (x.trans x5) s5 (.dct upd_same (by rw [List.length_map]; omega) sq5.1 sq5.2)
        · rw [if_neg hz] at q; exact q.elim
theorem ope_dget : OpE X.K g (fun x y H Q => ∃ a v, x = .ref a ∧ DGet H a y (some v) ∧ Q v H) oDGet := by
  intro io F R σ e H x y a b d wx wy Q st rx ry ea eb ho q
  cases a with
  | dct ks ds =>
    have hx := rx.dat st ea rfl
    have hy := ry.view st eb
    cases hx with
    | dct h hk hl hi =>
      rename_i p vs
      have go : ∀ (k : Key), dGet ks ds k = some d → y = kV k → ∃ a v, V.ref p = .ref a ∧ DGet H a y (some v) ∧ Q v H := fun k hd hyk => by
        obtain ⟨v, h1, h2⟩ := dGet_ok (K := X.K) (ρ := g.ρ) (F := F) ⟨hl, hi⟩ hk hd
        refine ⟨p, v, rfl, ?_, q F H v Ext.rfl' st h2⟩
        rw [hyk, ← h1]
        exact DGet.k (st.ext _ _ h)
      cases b with
      | str s => cases hy; exact go (.inr s) ho rfl
      | int i => cases hy; exact go (.inl i) ho rfl
      | _ => cases ho
  | _ => cases ho
theorem d_dget {k : Nat} (hr : Room k X.A) (ha : PE X a (tE X.K g io Wx f)) (hb : PE X b (tE X.K g io Wx h)) (hs : NoSl b := by exact fun _ _ => rfl) : PE X (.Subscript a b pos) (tE X.K g io Wx (sBin oDGet f h)) :=
  PE.of (pe_dget (by have := units65 hr; omega) ha hb hs) fun σ H Q q => bin_E (r := fun x y H Q => ∃ a v, x = .ref a ∧ DGet H a y (some v) ∧ Q v H) ope_dget σ H Q q
end
/-! ### sorted, of ints -/
def insI (n : Int) : List Int → List Int
  | [] => [n]
  | m :: r => if n ≤ m then n :: m :: r else m :: insI n r
def sortI : List Int → List Int
  | [] => []
  | n :: r => insI n (sortI r)
theorem insI_perm (n : Int) : ∀ l : List Int, (insI n l).Perm (n :: l)
  | [] => List.Perm.refl _
  | m :: r => by
    unfold insI
    split
    · exact List.Perm.refl _
    · exact ((insI_perm n r).cons m).trans (List.Perm.swap n m r)
theorem sortI_perm : ∀ l : List Int, (sortI l).Perm l
  | [] => List.Perm.refl _
  | n :: r => (insI_perm n (sortI r)).trans ((sortI_perm r).cons n)
theorem insI_asc (n : Int) : ∀ {l : List Int}, l.Pairwise (· ≤ ·) → (insI n l).Pairwise (· ≤ ·)
  | [], _ => by simp [insI]
  | m :: r, h => by
    unfold insI
    obtain ⟨h1, h2⟩ := List.pairwise_cons.mp h
    by_cases hn : n ≤ m
    · rw [if_pos hn]
      refine List.pairwise_cons.mpr ⟨fun b hb => ?_, h⟩
      rcases List.mem_cons.mp hb with rfl | hb
      · exact hn
      · exact Int.le_trans hn (h1 b hb)
    · rw [if_neg hn]
      refine List.pairwise_cons.mpr ⟨fun b hb => ?_, insI_asc n h2⟩
      rcases List.mem_cons.mp ((insI_perm n r).mem_iff.mp hb) with rfl | hb
      · omega
      · exact h1 b hb
theorem sortI_asc : ∀ l : List Int, (sortI l).Pairwise (· ≤ ·)
  | [] => List.Pairwise.nil
  | n :: r => insI_asc n (sortI_asc r)
theorem ascI_uniq : ∀ {l m : List Int}, l.Pairwise (· ≤ ·) → m.Pairwise (· ≤ ·) → l.Perm m → l = m
  | [], m, _, _, h => (List.Perm.eq_nil h.symm).symm
  | x :: l, [], _, _, h => absurd h.length_eq (by simp)
  | x :: l, y :: m, hl, hm, h => by
    obtain ⟨l1, l2⟩ := List.pairwise_cons.mp hl
    obtain ⟨m1, m2⟩ := List.pairwise_cons.mp hm
    have e : x = y := by
      rcases List.mem_cons.mp (h.mem_iff.mp (List.mem_cons_self (a := x) (l := l))) with e | hx
      · exact e
      · rcases List.mem_cons.mp (h.mem_iff.mpr (List.mem_cons_self (a := y) (l := m))) with e | hy
        · exact e.symm
        · have := l1 y hy; have := m1 x hx; omega
    subst e
    rw [ascI_uniq l2 m2 h.cons_inv]
def oSortI : List D → Option D := oListI fun ns => some (.lst ((sortI ns).map .int))
theorem Sqs.ofInts {K : PySem.W.Frag} {ρ : Rho} {F : Hp} (ns : List Int) : Sqs K ρ F (ns.map V.int) (ns.map .int) := ⟨by simp, fun i v d a b => by
  rw [List.getElem?_map, Option.map_eq_some_iff] at a b
  obtain ⟨z, a, rfl⟩ := a
  obtain ⟨z', b, rfl⟩ := b
  rw [a] at b
  cases b
  exact .int z⟩
section
variable {X : Cx} {g : Gb}
theorem bn_sortI : BltNew X g (.builtin "sorted") oSortI := by
  refine ⟨_, cr_sortedI, fun io F R σ e H vs ws ds dd Q st ho hr hop q => ?_⟩
  obtain ⟨p, ns, rfl, h1, h2⟩ := listI st ho hr hop
  cases h2
  refine ⟨p, ns, rfl, SqL.of h1, fun ns' p' hp ha hn => ?_⟩
  rw [ascI_uniq ha (sortI_asc ns) (hp.trans (sortI_perm ns).symm)]
  exact q F _ (.ref p') Ext.rfl' (st.fresh hn) (new_list st hn (Sqs.ofInts _))
end
/-! ### a tuple times 0 or 1 -/
theorem tup_mul1 (l : Addr) (items : Array Value) (n : Nat) (sl : Array (Option Value)) (dd : Option Addr) (u : Tok) (hne : items.isEmpty = false) :
    Meets (Builtin.«tuple.__mul__» ⟨[.ref l, .int 1 u], []⟩) (fun _ R s => s.heap.get? l = some { cls := .type "tuple", dict := dd, data := .seq items n, slots := sl } ∧ R (.ok (.ret (Value.ref l))) s) :=
  .of_wp fun prog w A R s h => by
    obtain ⟨hp, g, d, tk, os⟩ := s
    obtain ⟨hl, h⟩ := h
    have f1 := AutoSeq1.idx_int
    have c1 : (items.isEmpty || (1 : Int) == 1) = true := by simp
    wp_walk using wpAny_loadPart' hl
    repeat (first
      | (refine wpAny_ite_true (decide_eq_true c1) ?_; wp_walk using wpAny_loadPart' hl)
      | (refine wpAny_ite_false (by decide) ?_; wp_walk using wpAny_loadPart' hl))
    exact ⟨_, rfl, h⟩
theorem tup_mul0 (l : Addr) (items : Array Value) (n : Nat) (sl : Array (Option Value)) (dd : Option Addr) (u : Tok) (hne : items.isEmpty = false) :
    Meets (Builtin.«tuple.__mul__» ⟨[.ref l, .int 0 u], []⟩) (fun _ R s => s.heap.get? l = some { cls := .type "tuple", dict := dd, data := .seq items n, slots := sl } ∧ R (.ok (.ret (Value.ref s.heap.objs.size))) { s with heap := s.heap.push { cls := Value.type "tuple", data := Data.seq #[] }, toks := s.toks }) :=
  .of_wp fun prog w A R s h => by
    obtain ⟨hp, g, d, tk, os⟩ := s
    obtain ⟨hl, h⟩ := h
    have f1 := AutoSeq1.idx_int
    have c1 : (items.isEmpty || (0 : Int) == 1) = false := by rw [hne] <;> rfl
    have c2 : (decide ((0 : Int) ≤ 0) || items.isEmpty) = true := by simp
    wp_walk using wpAny_loadPart' hl
    repeat (first
      | (refine wpAny_ite_false (decide_eq_false (by rw [c1]; exact Bool.false_ne_true)) ?_; wp_walk using wpAny_loadPart' hl)
      | (refine wpAny_ite_true (decide_eq_true c2) ?_; wp_walk using wpAny_loadPart' hl)
      | (refine wpAny_ite_false (by decide) ?_; wp_walk using wpAny_loadPart' hl))
    exact ⟨_, rfl, h⟩

def rRep01 (K : PySem.W.Frag) : R2 := fun x y H Q => ∃ l xs, x = .ref l ∧ SqT K H l xs ∧ xs ≠ [] ∧ ((y = .int 1 ∧ Q (.ref l) H) ∨ (y = .int 0 ∧ ∀ p, H p = none → Q (.ref p) (upd H p (.tup []))))
section
variable {X : Cx} {g : Gb} {io : Nat → Option Addr} {Wx : WX} {pos : Pos} {a b : Expr} {f h : Sem}
theorem op_rep01 : OpR X (binaryOp .Mult) (rRep01 X.K) := by
  intro pins s σ H x y v u Q I rx ry h
  obtain ⟨l, xs, rfl, hT, hne, h⟩ := h
  cases rx
  obtain ⟨its, r, ⟨⟨cls, dd, data, sl⟩, ho, hc, n, hd⟩, hs⟩ := I.tuple hT
  simp only at hc hd
  subst hc hd
  have hle : its.length = xs.length := r.length.symm
  have hi : its.toArray.isEmpty = false := by
    cases its with
    | nil => exact absurd (List.eq_nil_of_length_eq_zero hle.symm) hne
    | cons a b => rfl
  rcases h with ⟨rfl, q⟩ | ⟨rfl, q⟩
  · obtain ⟨t, rfl⟩ := ry
    exact wpAny_binaryOp_repeat_ref (T := "tuple") (U := "int") (by decide) ⟨_, ho, rfl⟩ (fun s' => typeIs_int s' 1 t) noFill_tuple_mul F.fills_int_mul F.slot_int_rmul repeat_tuple F.slot_int_index.lookup
      (call_meets F.slot_int_rmul (typeIs_int s 1 t) F.entry_int_rmul (F.args_int_rmul_2 _ _) (int_rmul_tuple 1 t l its.toArray n dd sl)
        ⟨ho, rfl, ⟨_, ho, rfl⟩, call_meets F.slot_tuple_mul ⟨_, ho, rfl⟩ F.entry_tuple_mul (F.args_tuple_mul_2 _ _) (tup_mul1 l its.toArray n sl dd t hi) ⟨ho, .ref l, H, I, rfl, q⟩⟩)
  · obtain ⟨t, rfl⟩ := ry
    refine wpAny_binaryOp_repeat_ref (T := "tuple") (U := "int") (by decide) ⟨_, ho, rfl⟩ (fun s' => typeIs_int s' 0 t) noFill_tuple_mul F.fills_int_mul F.slot_int_rmul repeat_tuple F.slot_int_index.lookup
      (call_meets F.slot_int_rmul (typeIs_int s 0 t) F.entry_int_rmul (F.args_int_rmul_2 _ _) (int_rmul_tuple 0 t l its.toArray n dd sl)
        ⟨ho, rfl, ⟨_, ho, rfl⟩, call_meets F.slot_tuple_mul ⟨_, ho, rfl⟩ F.entry_tuple_mul (F.args_tuple_mul_2 _ _) (tup_mul0 l its.toArray n sl dd t hi) ⟨ho, ?_⟩⟩)
    refine ⟨.ref s.heap.objs.size, _, I.laid (t' := s.toks) (o := .tup []) (fun b ob q => Heap.get?_push_of_some _ q) (Nat.le_refl _) ?_, rfl, q _ (I.hok.fresh (Nat.le_refl _))⟩
    exact ⟨Nat.zero_le _, _, .nil, IsTup.new _ _⟩
@[simp] def oRep : D → D → Option D
  | .lst xs, .int k => if 0 ≤ k ∧ k ≤ 1000 ∧ xs.length ≤ 1000 then some (.lst (List.replicate k.toNat xs).flatten) else none
  | .tup xs, .int k => if 0 ≤ k ∧ k ≤ 1000 ∧ xs.length ≤ 1000 ∧ xs ≠ [] then some (.tup (List.replicate k.toNat xs).flatten) else none
  | _, _ => none
theorem Sqs.repl {K : PySem.W.Frag} {ρ : Rho} {F : Hp} {vs : List V} {ds : List D} (h : Sqs K ρ F vs ds) : ∀ n : Nat, Sqs K ρ F (List.replicate n vs).flatten (List.replicate n ds).flatten
  | 0 => .nil
  | n + 1 => by
    rw [List.replicate_succ, List.replicate_succ, List.flatten_cons, List.flatten_cons]
    exact h.append (Sqs.repl h n)
theorem ope_rep : OpE X.K g (fun x y H Q => rRep x y H Q ∨ rRepT X.K x y H Q ∨ rRep01 X.K x y H Q) oRep := by
  intro io F R σ e H x y a b d wx wy Q st rx ry ea eb ho q
  have hy := ry.view st eb
  cases b with
  | int k =>
    cases hy
    cases a with
    | lst xs =>
      replace ho : (if 0 ≤ k ∧ k ≤ 1000 ∧ xs.length ≤ 1000 then some (D.lst (List.replicate k.toNat xs).flatten) else none) = some d := ho
      by_cases hz : 0 ≤ k ∧ k ≤ 1000 ∧ xs.length ≤ 1000
      · rw [if_pos hz] at ho
        cases ho
        obtain ⟨p, vs, rfl, h1, h2⟩ := rx.seqL st ea
        refine .inl ⟨p, k, vs, rfl, rfl, h1, by omega, by omega, ?_, fun t ht => ?_⟩
        · rw [h2.1, sizeLine_eq]
          have : xs.length * k.toNat ≤ 1000 * 1000 := Nat.mul_le_mul hz.2.2 (by omega)
          omega
        · obtain ⟨s2, x2⟩ := st.alloc (o := .lst (List.replicate k.toNat vs).flatten) ht
          have sq := (h2.repl k.toNat).mono x2
          exact q _ _ _ x2 s2 (.lst upd_same sq.1 sq.2)
      · rw [if_neg hz] at ho; cases ho
    | tup xs =>
      replace ho : (if 0 ≤ k ∧ k ≤ 1000 ∧ xs.length ≤ 1000 ∧ xs ≠ [] then some (D.tup (List.replicate k.toNat xs).flatten) else none) = some d := ho
      by_cases hz : 0 ≤ k ∧ k ≤ 1000 ∧ xs.length ≤ 1000 ∧ xs ≠ []
      · rw [if_pos hz] at ho
        cases ho
        obtain ⟨p, vs, rfl, h1, h2⟩ := rx.seqT st ea
        have hv : vs ≠ [] := fun z => hz.2.2.2 (by
          have := h2.1
          rw [z] at this
          exact List.eq_nil_of_length_eq_zero this.symm)
        by_cases k2 : 2 ≤ k
        · refine .inr (.inl ⟨p, k, vs, rfl, rfl, h1.ext st.ext, hv, k2, hz.2.1, by rw [h2.1]; exact hz.2.2.1, fun t ht => ?_⟩)
          obtain ⟨s2, x2⟩ := st.alloc (o := .tup (List.replicate k.toNat vs).flatten) ht
          have sq := (h2.repl k.toNat).mono x2
          exact q _ _ _ x2 s2 (.tup (SqT.of upd_same) sq.1 sq.2)
        · refine .inr (.inr ⟨p, vs, rfl, h1.ext st.ext, hv, ?_⟩)
          by_cases k1 : k = 1
          · subst k1
            refine .inl ⟨rfl, ?_⟩
            have e1 : (List.replicate (1 : Int).toNat xs).flatten = xs := by simp
            rw [e1] at q
            exact q F H _ Ext.rfl' st (.tup h1 h2.1 h2.2)
          · have k0 : k = 0 := by omega
            subst k0
            refine .inr ⟨rfl, fun t ht => ?_⟩
            obtain ⟨s2, x2⟩ := st.alloc (o := .tup []) ht
            exact q _ _ _ x2 s2 (.tup (SqT.of upd_same) rfl fun i v d a => by simp at a)
      · rw [if_neg hz] at ho; cases ho
    | _ => cases ho
  | _ => cases a <;> cases ho
theorem d_rep (ha : PE X a (tE X.K g io Wx f)) (hb : PE X b (tE X.K g io Wx h)) : PE X (.BinOp a .Mult b pos) (tE X.K g io Wx (sBin oRep f h)) := PE.of (pe_op (op_rep.or (op_repT.or op_rep01)) ha hb) fun σ H Q q => bin_E ope_rep σ H Q q
end

/-! ### in, of a list or a tuple -/
def oInQ : D → D → Option D := fun a b => (oInL a b).or (oInT a b)
def oNotInQ : D → D → Option D := fun a b => (oNotInL a b).or (oNotInT a b)
theorem inDT_lst (a : D) (ys : List D) : inDT a (.lst ys) = none := by
  unfold inDT
  cases e : toPys ys <;> cases toPy a <;> simp [toPy, e]
theorem inD_tup (a : D) (ys : List D) : inD a (.tup ys) = none := by
  unfold inD
  cases e : toPys ys <;> cases toPy a <;> simp [toPy, e]
@[simp] theorem oInQ_lst (a : D) (ys : List D) : oInQ a (.lst ys) = oInL a (.lst ys) := by simp [oInQ, oInT, inDT_lst]
@[simp] theorem oInQ_tup (a : D) (ys : List D) : oInQ a (.tup ys) = oInT a (.tup ys) := by simp [oInQ, oInL, inD_tup]
@[simp] theorem oNotInQ_lst (a : D) (ys : List D) : oNotInQ a (.lst ys) = oNotInL a (.lst ys) := by simp [oNotInQ, oNotInT, inDT_lst]
@[simp] theorem oNotInQ_tup (a : D) (ys : List D) : oNotInQ a (.tup ys) = oNotInT a (.tup ys) := by simp [oNotInQ, oNotInL, inD_tup]
section
variable {X : Cx} {g : Gb}
theorem opd_or {r r' : R2} {o o' : D → D → Option D} (h : OpD X.K g r o) (h' : OpD X.K g r' o') : OpD X.K g (fun x y H Q => r x y H Q ∨ r' x y H Q) (fun a b => (o a b).or (o' a b)) := by
  intro io F R σ e H x y a b d Q st ha hb ho q
  replace ho : (o a b).or (o' a b) = some d := ho
  cases e1 : o a b with
  | some d1 =>
    rw [e1] at ho
    cases ho
    exact .inl (h io F R σ e H x y a b _ Q st ha hb e1 q)
  | none =>
    rw [e1] at ho
    exact .inr (h' io F R σ e H x y a b _ Q st ha hb ho q)
theorem c_inQ {k : Nat} (hr : Room k X.A) : CmpOk X g .In oInQ := ⟨_, (op_inD (units65 hr)).or (op_inDT (units65 hr)), opd_or opd_inL opd_inT⟩
theorem c_notInQ {k : Nat} (hr : Room k X.A) : CmpOk X g .NotIn oNotInQ := ⟨_, (op_notInD (units65 hr)).or (op_notInDT (units65 hr)), opd_or opd_notInL opd_notInT⟩
end
end Mz

namespace Mz
open PySem PySem.Spec PyProof.Rows L2
/-! ### a comprehension over an own list -/
def kLcO (i : Nat) (t : Tgt) (c : Smx Bool) (el : Sem) (vs : List Nat) (e : En) : Option (Rs D) := match e[i]? with
  | some (.own (.lst ds)) => (match kLc t c el vs ds (e.set i .un) with
    | some (.ok d e') => some (.ok d (e'.set i (.own (.lst ds))))
    | _ => none)
  | _ => none
def sLcO (i : Nat) (t : Tgt) (c : Smx Bool) (el : Sem) (vs : List Nat) : Smx D := kLcO i t c el vs
@[simp ↓] theorem sLcO_u (i : Nat) (t : Tgt) (c : Smx Bool) (el : Sem) (vs : List Nat) (e : En) : sLcO i t c el vs e = (match e[i]? with
  | some (.own (.lst ds)) => (match kLc t c el vs ds (e.set i .un) with
    | some (.ok d e') => some (.ok d (e'.set i (.own (.lst ds))))
    | _ => none)
  | _ => none) := rfl
section
variable {X : Cx} {g : Gb} {io : Nat → Option Addr} {Wx : WX} {pos p q apos : Pos} {a b : Expr} {f h : Sem} {x y : Str} {i : Nat}
theorem it_held {K : PySem.W.Frag} {ρ : Rho} {F R : Hp} {p : Addr} {vs : List V} {ds : List D} (h : R p = some (.lst vs)) (q : Sqs K ρ F vs ds) : ItOk K ρ F R (Itl K p) ds := fun F2 H2 x1 x2 x3 => by
  have h2 : (upd F2 p (.lst vs)) p = some (.lst vs) := upd_same
  have k := it_list (K := K) (ρ := ρ) (F := upd F2 p (.lst vs)) (R := fun _ => none) (p := p) (vs := vs) (ds := ds)
  have hH : SqL K H2 p vs := SqL.of (x3 _ _ h)
  refine ⟨fun i d e => ?_, vs, hH, by rw [q.1]; exact Nat.le_refl _⟩
  obtain ⟨v, e1, dv⟩ := q.get e
  refine ⟨⟨vs, v, hH, e1⟩, fun x H' ⟨e2, y⟩ => .inl ⟨e2, ?_⟩⟩
  have := y vs hH
  rw [e1] at this
  cases this
  exact dv.mono x1
def wOwn (i : Nat) : TI := fun σ H Z => ∃ p vs, σ[i]? = some (some (V.ref p)) ∧ H p = some (.lst vs) ∧ Z (Itl X.K p) H
theorem pi_own {tg : Expr} (hN : X.N[i]? = some x) (hv : Vis X.env.scope x) (hd : (x == ("__debug__" : Str)) = false) (hcd : (x == ("__classdict__" : Str)) = false) : PI X tg (.Name x pos) (wOwn (X := X) i) :=
  ⟨fun pins s σ H Z I ⟨p, vs, h1, h2, z⟩ => (pi_list (pe_var hN hv hd hcd)).run pins s σ H Z I ⟨_, h1, p, rfl, ⟨vs, SqL.of h2⟩, z⟩⟩
theorem lcO {tg elt : Expr} {ifs : List Expr} {r : TG} {t : Tgt} {scope : Scope} {i : Nat} (own : List (Str × Nat)) {c : Smx Bool} {el : Sem} (hN : X.N.Nodup) (hgd : GcD X.K g io (own.map (·.2)) r t)
    (hg : ∀ (s : Shared) (H : Hp) (C : Addr) (cl : List (Str × Addr)) (fp : List Addr), PG (X.blk s H scope (compEnvC scope cl C X.env) fp) tg r) (ht : ∀ (s : Shared) (H : Hp) (C : Addr) (cl : List (Str × Addr)) (fp : List Addr), PTd (X.blk s H scope (compEnvC scope cl C X.env) fp) g io ifs c)
    (he : ∀ (s : Shared) (H : Hp) (C : Addr) (cl : List (Str × Addr)) (fp : List Addr), PE (X.blk s H scope (compEnvC scope cl C X.env) fp) elt (tE X.K g io W0 el)) (hi : X.N[i]? = some x := by rfl) (hv : Vis X.env.scope x := by first | exact .inl rfl | exact .inr (.inl rfl) | exact .inr (.inr rfl)) (hd : (x == ("__debug__" : Str)) = false := by decide) (hcd : (x == ("__classdict__" : Str)) = false := by decide)
    (ok : blkB X.N X.env.scope scope own = true := by first | kernel_rfl | rfl) (hc : X.calm = true := by rfl) (hs : ∀ y, foldedSetIterable (.Name x p) X.env y = pure y := by intro _; rfl) :
    PE X (.ListComp elt [⟨tg, .Name x p, ifs, 0⟩] scope pos) (tN X.K g io Wx (sLcO i t c el (own.map (·.2)))) := by
  refine PE.of (pe_lc (tt := tB X.K g io W0 c) (te := tE X.K g io W0 el) hc hN (pi_own (i := i) hi hv hd hcd) (blkB_ok ok) hg ht he hs) fun σ H Q q => ?_
  obtain ⟨F, R, e, st, q⟩ := q
  have q : Aft X.K g io (rN X.K g.ρ) Wx F R σ Q (kLcO i t c el (own.map (·.2)) e) := q
  unfold kLcO at q
  split at q
  · rename_i ds h1
    obtain ⟨p, o, h4, nF, nR, hp, co⟩ := st.slot i _ h1
    cases co with
    | lst sq =>
      rename_i vs
      have s0 := st.forget i
      have nc : NoCell σ (e.set i .un) p := fun j sj hj cj pj => by
        by_cases hji : i = j
        · subst hji
          have hl : i < e.length := (List.getElem?_eq_some_iff.mp h1).1
          rw [List.getElem?_set_self hl] at hj
          cases hj; cases cj
        · rw [List.getElem?_set_ne hji] at hj
          exact st.inj i j _ _ p hji h1 hj rfl cj h4 pj
      have s1 := s0.hold nF nR nc hp
      refine ⟨p, vs, h4, hp, ?_⟩
      refine lc_rest (Wx := Wx) (F1 := F) (R := upd R p (.lst vs)) (items := ds) hgd s1 (it_held upd_same sq) ?_
      cases z : kLc t c el (own.map (·.2)) ds (e.set i .un) with
      | none => rw [z] at q; exact q.elim
      | some rr =>
        rw [z] at q
        cases rr with
        | ex cc pl e' => exact q.elim
        | ok d e' =>
          intro F' H' v x' s' n
          obtain ⟨s2, nF', nC', hH'⟩ := s'.letgo nR
          have es : σ.set i (some (V.ref p)) = σ := by
            apply List.ext_getElem?
            intro j
            by_cases hj : i = j
            · subst hj
              rw [List.getElem?_set_self (List.getElem?_eq_some_iff.mp h4).1, h4]
            · rw [List.getElem?_set_ne hj]
          have sqF : Sqs X.K g.ρ F' vs ds := sq.mono x'
          have s3 : Stt X.K g.ρ io F' R (σ.set i (some (V.ref p))) (e'.set i (.own (.lst ds))) H' := s2.setSlot (fun hl => ⟨p, _, List.getElem?_set_self (by rw [s2.len]; exact hl), nF', nR, hH', .lst sqF⟩) fun _ p' hp' j sj hj h1 h2 h3 => by
            cases hp'
            exact nC' j sj h1 h2 h3
          rw [es] at s3
          refine q F' H' v x' s3 ?_
          obtain ⟨pn, on, rfl, n1, n2, n3, n4, n5⟩ := n
          have hne : pn ≠ p := fun zz => by rw [zz, upd_same] at n2; cases n2
          rw [upd_ne hne] at n2
          refine ⟨pn, on, rfl, n1, n2, fun j sj hj cj pj => ?_, n4, n5⟩
          by_cases hji : i = j
          · subst hji
            rw [h4] at pj
            cases pj
            exact hne rfl
          · rw [List.getElem?_set_ne hji] at hj
            exact n3 j sj hj cj pj
  · exact q.elim
/-! ### x.insert(k, e) -/
def kIns (i : Nat) (k w : W) (e : En) : Option Fl := match k, w, getC e i with
  | .dat (.int k), .dat d, some (.lst ds) => if ds.length < sizeLine ∧ 0 ≤ k ∧ k < 1073741824 then some (.nx (putC e i (.lst (ds.take k.toNat ++ [d] ++ ds.drop k.toNat)))) else none
  | _, _, _ => none
def sIns (i : Nat) (f h : Sem) : SSem := fun e => match getC e i with
  | some (.lst _) => run (f e) fun k e1 => run (h e1) fun w e2 => kIns i k w e2
  | _ => none
@[simp ↓] theorem sIns_u (i : Nat) (f h : Sem) (e : En) : sIns i f h e = (match getC e i with
  | some (.lst _) => run (f e) fun k e1 => run (h e1) fun w e2 => kIns i k w e2
  | _ => none) := rfl
theorem st_ins (ha : PE X a (tE X.K g io Wx f)) (hb : PE X b (tE X.K g io Wx h)) (hN : X.N[i]? = some x := by rfl) (hv : Vis X.env.scope x := by first | exact .inl rfl | exact .inr (.inl rfl) | exact .inr (.inr rfl)) (hd : (x == ("__debug__" : Str)) = false := by decide) (hcd : (x == ("__classdict__" : Str)) = false := by decide)
    (hbase : attributeBase (.Name x p) "insert" X.env (eval (.Name x p) X.env) = eval (.Name x p) X.env := by rfl)
    (hfew : ((backTo q (starEach [a, b] X.env)).all (fun x => !x.1) && (backToKw q (keywordEach [] X.env)).all (fun x => x.1.isSome)
      && decide ([a, b].length + ([] : List Keyword).length + (if ([] : List Keyword).isEmpty then 0 else 1) < 30)) = true := by rfl)
    (hline : (apos.endLine == q.line) = true := by rfl) (hs : starEach [a, b] X.env = (false, eval a X.env) :: starEach [b] X.env := by rfl) (hs2 : starEach [b] X.env = (false, eval b X.env) :: starEach [] X.env := by rfl) (hplain : (backTo q (starEach [b] X.env)).any (·.1) = false := by rfl)
    (hsw : swapsWith (.Call (.Attribute (.Name x p) "insert" apos) [a, b] [] q) none pos.line X.env = pure false := by rfl) :
    PS X (.Expr (.Call (.Attribute (.Name x p) "insert" apos) [a, b] [] q) pos) (tS X.K g io Wx (sIns i f h)) := by
  refine PS.of (ps_expr (pe_bm PySem.F.plainAttrs_list PySem.F.slot_list_insert PySem.F.type_list_insert mt_insert (pe_var hN hv hd hcd) (pa_cons ha (pa_cons hb pa_nil hs2) hs) hbase hfew hline hs hplain) hsw) fun D' σ H q => ?_
  obtain ⟨F, R, e, st, q⟩ := q
  unfold sIns at q
  split at q
  · rename_i ds0 e1
    obtain ⟨p, o, s, h1, h2, h3, h4, h5, h6, h7, h8⟩ := st.cellAt e1
    cases h8 with
    | lst sq0 =>
      refine ⟨_, h4, .inl ⟨rfl, _, SqL.of h7⟩, F, R, e, st, AftS.run (D' := D') (k := fun k e1 => run (h e1) fun w e2 => kIns i k w e2) q fun k ea Fa Ha va xa sa ra qa => ?_⟩
      refine ⟨Fa, R, ea, sa, AftS.run (D' := D') (k := fun w e2 => kIns i k w e2) qa fun w e' F' H' v x s' r q' => ?_⟩
      unfold kIns at q'
      split at q'
      · rename_i _ kk d ds e2
        by_cases hz : ds.length < sizeLine ∧ 0 ≤ kk ∧ kk < 1073741824
        · rw [if_pos hz] at q'
          obtain ⟨p', o', s2, k1, k2, k3, k4, k5, k6, k7, k8⟩ := s'.cellAt e2
          rw [h4] at k4
          cases k4
          have ra : Dt X.K g.ρ Fa va (.int kk) := ra
          cases ra
          cases k8 with
          | lst sq =>
            refine ⟨p, _, kk, v, rfl, rfl, k7, by rw [sq.1]; exact hz.1, hz.2.1, by omega, ?_⟩
            exact q' F' _ σ Ext.rfl' (s'.mutate e2 h4 (.lst (((sq.take kk.toNat).append (.one r)).append (sq.drop kk.toNat))))
        · rw [if_neg hz] at q'; exact q'.elim
      · exact q'.elim
  · exact q.elim
end
/-! ### sorted(set(xs)), ints -/
section
variable {P : Program} {w : World} {A : Around} {E : Value → Shared → Prop} {s : Shared}
theorem set_of_list {l : Addr} {items : Array Value} (ns : List Int) {Q : Value → Shared → Prop} (hh : A.handled = none) (hl : s.heap.IsList l items) (hit : IntsAre items.toList ns) (hb : ns.length + 1 < scanBound)
    (h : ∀ (h' : Heap) (tk c : Nat), SetR w h' s.heap.objs.size (fun j => decide (j ∈ ns)) c → c ≤ ns.length → (∀ b o, s.heap.get? b = some o → h'.get? b = some o) → Q (.ref s.heap.objs.size) { s with heap := h', toks := tk }) :
    wpAny (model P w) A (call (.type "set") [.ref l]) Q E s := by
  have hisz : items.size = ns.length := by
    have q := IntsAre.length hit
    rw [Array.length_toList] at q
    exact q
  obtain ⟨c, tl, hmro⟩ := F.called_set.mro
  have hmade := F.called_set.made
  have hsub := F.called_set.sub
  refine wpAny_call (codeAny_of_tree ?_)
  show wpAny _ _ (callAny (.type "set") _) _ _ _
  refine wpAny_pure ⟨Code.quiet_builtin _ (by decide +kernel), codeAny_builtin F.entry_type_call ?_⟩
  rw [Around.under_plain (weight_type_call_type "set" [.ref l] []) rfl]
  have h1 := F.called_set.notType
  have h2 := F.called_set.canCreate
  have hct := F.typeCall_set_1 (.ref l)
  repeat (any_goals (first | assumption | wp_step))

  refine codeAny_mono (code_set_led1 (.ref l) (E := E) (Q₁ := fun obj s₁ => obj = .ref s.heap.objs.size ∧ s₁ = { s with heap := s.heap.push { cls := .type "set", dict := none, data := .set #[] 0 (.fresh 0 0 (!w.params.followText "set-order")) } }) ⟨rfl, rfl⟩) fun r s₁ hr => ?_
  cases r with
  | error e => exact hr
  | ok fl =>
    cases fl with
    | ret obj =>
      obtain ⟨rfl, rfl⟩ := hr
      have hS : (s.heap.push { cls := .type "set", dict := none, data := .set #[] 0 (.fresh 0 0 (!w.params.followText "set-order")) }).get? s.heap.objs.size = some { cls := .type "set", dict := none, data := .set #[] 0 (.fresh 0 0 (!w.params.followText "set-order")) } := Heap.get?_push_size _ rfl
      have hT : Shared.TypeIs { s with heap := s.heap.push { cls := .type "set", dict := none, data := .set #[] 0 (.fresh 0 0 (!w.params.followText "set-order")) } } (.ref s.heap.objs.size) "set" := ⟨_, hS, rfl⟩
      have hli := F.called_set.init.lookup
      have hbi := F.called_set.init.bind (.ref s.heap.objs.size)
      repeat (any_goals (first | assumption | wp_step))

      refine codeAny_mono (codeAny_call_builtin (R := wants (fun r s₂ => r = .none ∧ ∃ h' tk c, s₂ = { s with heap := h', toks := tk } ∧ SetR w h' s.heap.objs.size (fun j => decide (j ∈ ns)) c ∧ c ≤ ns.length ∧
          (∀ b o, s.heap.get? b = some o → h'.get? b = some o)) E) F.called_set.init.plain F.entry_set_init (check_set_init_1 hT ?_)) fun r₂ s₂ hr₂ => ?_
      · obtain ⟨ol, hol, hcl, nl, hdl⟩ := hl
        obtain ⟨ocls, odict, odata, oslots⟩ := ol
        simp only at hcl hdl
        subst hcl; subst hdl
        have hol' : (s.heap.push { cls := .type "set", dict := none, data := .set #[] 0 (.fresh 0 0 (!w.params.followText "set-order")) }).get? l = some { cls := .type "list", dict := odict, data := .seq items nl, slots := oslots } := Heap.get?_push_of_some _ hol
        have hsls := F.sub_list_set
        have hslf := F.sub_list_frozenset
        have hne : (Value.type "list" == Value.type "dict") = false := by decide
        have hl1 : (s.heap.push { cls := .type "set", dict := none, data := .set #[] 0 (.fresh 0 0 (!w.params.followText "set-order")) }).IsList l items := ⟨_, hol', rfl, nl, rfl⟩
        unfold Builtin.«set.__init__» noKeywords Builtin.Frozenset.updateFrom
        generalize hPI : pyIter = PI
        wp_walk
        subst hPI

        refine wpAny_pyIter_list hl1 ?_
        refine wpAny_bind (wpAny_runValue ?_)
        have hlS : l < s.heap.objs.size := Heap.lt_size hol
        have hh3 : A.in1.in1.in1.handled = none := by simp [hh]
        have hz1 : (s.heap.push { cls := .type "set", dict := none, data := .set #[] 0 (.fresh 0 0 (!w.params.followText "set-order")) }).objs.size = s.heap.objs.size + 1 := Heap.size_push ..
        have hneI : l ≠ (s.heap.push { cls := .type "set", dict := none, data := .set #[] 0 (.fresh 0 0 (!w.params.followText "set-order")) }).objs.size := by
          rw [Heap.size_push]; exact Nat.ne_of_lt (Nat.lt_succ_of_lt hlS)
        have hSf : s.heap.objs.size ∉ [(s.heap.push { cls := .type "set", dict := none, data := .set #[] 0 (.fresh 0 0 (!w.params.followText "set-order")) }).objs.size, l] := by
          rw [Heap.size_push]; simp only [List.mem_cons, List.mem_singleton, List.not_mem_nil, or_false, not_or]
          exact ⟨Nat.ne_of_lt (Nat.lt_succ_self _), Nat.ne_of_gt hlS⟩
        have hval : ∀ (i : Nat) (v : Value), items[i]? = some v → ∃ k t, ns[i]? = some k ∧ v = .int k t := fun i v hv => by
          have hi : i < ns.length := by rw [← hisz]; exact (Array.getElem?_eq_some_iff.mp hv).1
          obtain ⟨t, e⟩ := PyProof.Rows.IntsAre.int_at hit i v (by rw [Array.getElem?_toList]; exact hv)
          refine ⟨ns[i], t, List.getElem?_eq_getElem hi, ?_⟩
          rw [e, List.getD_eq_getElem?_getD, List.getElem?_eq_getElem hi] <;> rfl
        refine set_update_ints ((Walks.list hh3 _ l hneI items).toS) s.heap.objs.size
          hSf ns hisz hb hval (items.size - 0) 0 _ (by omega) (Nat.zero_le _)
          ⟨⟨_, Heap.get?_push_size _ rfl, rfl, rfl⟩, (hl1.push _)⟩ ?hS0 ?hR
        case hS0 =>
          have hget : ((s.heap.push { cls := .type "set", dict := none, data := .set #[] 0 (.fresh 0 0 (!w.params.followText "set-order")) }).push { cls := .type "list_iterator", data := .fields #[.ref l, .int 0 0] }).get? s.heap.objs.size
              = some { cls := .type "set", dict := none, data := .set #[] 0 (.fresh 0 0 (!w.params.followText "set-order")) } := Heap.get?_push_of_some _ hS
          exact ⟨0, Nat.le_refl 0, setR_new_at hget⟩
        case hR =>
          intro s' c' hm hc' hS'
          obtain ⟨h', g2, d', tk', os'⟩ := s'
          have eg : g2 = s.gens := hm.gens
          have ed : d' = s.drawn := hm.drawn
          have eo : os' = s.os := hm.os
          subst eg; subst ed; subst eo
          show wpAny _ _ _ _ _ _
          refine wpAny_pure ?_
          show wpAny _ _ (ret Value.none) _ _ _
          rw [hisz] at hc'
          refine wpAny_pure ⟨rfl, h', tk', c', rfl, hS', hc', fun b o e => ?_⟩
          have hb0 : b < s.heap.objs.size := Heap.lt_size e
          have hb1 : b ≠ s.heap.objs.size := Nat.ne_of_lt hb0
          have hb2 : b ≠ (s.heap.push { cls := .type "set", dict := none, data := .set #[] 0 (.fresh 0 0 (!w.params.followText "set-order")) }).objs.size := by
            rw [Heap.size_push]; exact Nat.ne_of_lt (Nat.lt_succ_of_lt hb0)
          exact hm.heap b o (by simp only [List.mem_cons, List.mem_singleton, List.not_mem_nil, or_false, not_or]; exact ⟨hb1, hb2⟩) (Heap.get?_push_of_some _ (Heap.get?_push_of_some _ e))

      · cases r₂ with
        | error e => exact hr₂
        | ok fl₂ =>
          cases fl₂ with
          | ret r =>
            obtain ⟨rfl, h', tk, c', rfl, hS', hc', hk'⟩ := hr₂
            repeat (any_goals (first | assumption | wp_step))
            exact h _ _ _ hS' hc' hk'
          | _ => exact hr₂.elim
    | _ => exact hr.elim

end
def insU (n : Int) : List Int → List Int
  | [] => [n]
  | m :: r => if n < m then n :: m :: r else if n = m then m :: r else m :: insU n r
def setI (l : List Int) : List Int := l.foldr insU []
abbrev AscS (l : List Int) : Prop := l.Pairwise (· < ·)
theorem mem_insU {n x : Int} : ∀ {l : List Int}, x ∈ insU n l ↔ x = n ∨ x ∈ l
  | [] => by simp [insU]
  | m :: r => by
    unfold insU
    by_cases h1 : n < m
    · rw [if_pos h1]; simp
    · rw [if_neg h1]
      by_cases h2 : n = m
      · rw [if_pos h2]; subst h2; simp
      · rw [if_neg h2, List.mem_cons, mem_insU (l := r), List.mem_cons]
        constructor
        · rintro (h | h | h) <;> simp [h]
        · rintro (h | h | h) <;> simp [h]
theorem insU_asc (n : Int) : ∀ {l : List Int}, AscS l → AscS (insU n l)
  | [], _ => by simp [insU]
  | m :: r, h => by
    obtain ⟨a, b⟩ := List.pairwise_cons.mp h
    unfold insU
    by_cases h1 : n < m
    · rw [if_pos h1]
      refine List.pairwise_cons.mpr ⟨fun y hy => ?_, h⟩
      rcases List.mem_cons.mp hy with rfl | hy
      · exact h1
      · have := a y hy; omega
    · rw [if_neg h1]
      by_cases h2 : n = m
      · rw [if_pos h2]; exact h
      · rw [if_neg h2]
        refine List.pairwise_cons.mpr ⟨fun y hy => ?_, insU_asc n b⟩
        rcases mem_insU.mp hy with rfl | hy
        · omega
        · exact a y hy
theorem mem_setI {x : Int} : ∀ {l : List Int}, x ∈ setI l ↔ x ∈ l
  | [] => by simp [setI]
  | a :: l => by
    show x ∈ insU a (setI l) ↔ _
    rw [mem_insU, mem_setI (l := l), List.mem_cons]
theorem setI_asc : ∀ (l : List Int), AscS (setI l)
  | [] => List.Pairwise.nil
  | a :: l => insU_asc a (setI_asc l)
theorem ascS_uniq : ∀ {l m : List Int}, AscS l → AscS m → (∀ x, x ∈ l ↔ x ∈ m) → l = m
  | [], [], _, _, _ => rfl
  | [], y :: m, _, _, h => by have := (h y).mpr (List.mem_cons_self ..); cases this
  | x :: l, [], _, _, h => by have := (h x).mp (List.mem_cons_self ..); cases this
  | x :: l, y :: m, hl, hm, h => by
    obtain ⟨l1, l2⟩ := List.pairwise_cons.mp hl
    obtain ⟨m1, m2⟩ := List.pairwise_cons.mp hm
    have e : x = y := by
      rcases List.mem_cons.mp ((h x).mp (List.mem_cons_self ..)) with e | hx
      · exact e
      · rcases List.mem_cons.mp ((h y).mpr (List.mem_cons_self ..)) with e | hy
        · exact e.symm
        · have := l1 y hy; have := m1 x hx; omega
    subst e
    rw [ascS_uniq l2 m2 fun z => ⟨fun hz => by
      rcases List.mem_cons.mp ((h z).mp (List.mem_cons_of_mem _ hz)) with e | h2
      · have := l1 z hz; omega
      · exact h2, fun hz => by
      rcases List.mem_cons.mp ((h z).mpr (List.mem_cons_of_mem _ hz)) with e | h2
      · have := m1 z hz; omega
      · exact h2⟩]
theorem insU_len (n : Int) : ∀ l : List Int, (insU n l).length ≤ l.length + 1
  | [] => by simp [insU]
  | m :: r => by
    have := insU_len n r
    unfold insU
    split
    · simp
    · split
      · simp
      · simp; omega
theorem setI_len : ∀ l : List Int, (setI l).length ≤ l.length
  | [] => by simp [setI]
  | a :: l => by
    have := insU_len a (setI l)
    have := setI_len l
    show (insU a (setI l)).length ≤ _
    simp only [List.length_cons]
    omega
section
variable {X : Cx} {g : Gb} {io : Nat → Option Addr} {Wx : WX} {pos p p2 q : Pos} {a : Expr} {ta : TE} {f : Sem}
def tSrtSet (K : PySem.W.Frag) (ta : TE) : TE := fun σ H Q => ta σ H fun x H1 => ∃ (l : Addr) (ns : List Int), x = V.ref l ∧ SqL K H1 l (ns.map V.int) ∧ ns.length ≤ 1000 ∧ (setI ns).length < 64 ∧ ∀ p, H1 p = none → Q (.ref p) (upd H1 p (.lst ((setI ns).map V.int)))
theorem pe_srtset (hc : X.calm = true) (hg : Gl X "sorted") (hm : X.mg "sorted" = none) (hg2 : Gl X "set") (hm2 : X.mg "set" = none) (ha : PE X a ta)
    (na : starEach [a] X.env = (false, eval a X.env) :: starEach [] X.env := by rfl) : PE X (.Call (.Name "sorted" p) [.Call (.Name "set" p2) [a] [] q] [] pos) (tSrtSet X.K ta) := by
  refine ⟨fun pins s σ H Q I h => ?_⟩
  refine Call_ (ld_blt I hg hm PyProof.Rows.boot_sorted ?_)
  refine PyProof.Rows.callWith_builtin1 (PyProof.Rows.args_cons ?_ rfl) rfl rfl
  refine Call_ (ld_blt I hg2 hm2 PyProof.Rows.boot_set ?_)
  refine PyProof.Rows.callWith_type1 (PyProof.Rows.args_cons (thn (ha.run pins s σ H _ I h) fun v s1 ⟨x, H1, I1, r1, q1⟩ => PyProof.Rows.args_nil ?_) na) na rfl
  obtain ⟨l, ns, rfl, hq, h1, h64, q1⟩ := q1
  cases r1
  obtain ⟨its, r, pl, hz⟩ := I1.list hq
  refine set_of_list ns (I1.ok.hd hc) pl.isList (by simpa using r.ints) (by unfold scanBound; omega) fun h' tk c hS hcl hk => ?_
  refine PyProof.Rows.args_nil ?_
  have I2 : Inv X pins σ H1 { s1 with heap := h', toks := tk } := I1.kept hk
  have hlt : s1.heap.objs.size < h'.objs.size := by
    obtain ⟨o, es, ep, t, ho, _⟩ := hS
    exact Heap.lt_size ho
  have hc2 : c = (setI ns).length := by
    obtain ⟨o, es, ep, t, ho, hex, hd, g1, nd, hmm, hb, hf, hn, hr, hl⟩ := hS
    have e1 : (es.toList.map keyOf).length = c := by rw [List.length_map, Array.length_toList]; exact hn
    have pm : (es.toList.map keyOf).Perm (setI ns) := by
      refine (List.perm_ext_iff_of_nodup nd ((setI_asc ns).imp fun hxy => Int.ne_of_lt hxy)).mpr fun k => ?_
      rw [← hmm k, mem_setI, decide_eq_true_eq]
    rw [← e1, pm.length_eq]
  refine sorted_set hS (I1.ok.hd hc) (by rw [hc2]; exact h64) fun s' p' out cc ns' k g1 o hp hg' hi hs hmem hl => ?_
  have en : ns' = setI ns := ascS_uniq hs (setI_asc ns) fun k => by rw [hmem k, mem_setI, decide_eq_true_eq]
  subst en
  have hlen : ((setI ns).map V.int).length ≤ sizeLine := by rw [List.length_map, sizeLine_eq]; omega
  have hn : H1 p' = none := I2.hok.fresh hp
  have J : Inv X pins σ (upd H1 p' (.lst ((setI ns).map V.int))) { s1 with heap := s'.heap, gens := s'.gens, drawn := s'.drawn, toks := s'.toks } :=
    I1.call (ch := []) (Un.laid (fun b u e => k b u (hk b u e)) (Nat.le_trans (Nat.le_of_lt hlt) hp) hn) (I1.hok.laid (fun b u e => k b u (hk b u e)) (Nat.le_trans (Nat.le_of_lt hlt) hp) ⟨hlen, out.toList, cc, vals_of_ints hi, hg'⟩) (by rw [g1]; exact I1.bare) (fun _ z => nomatch z)
  have e : s' = { s1 with heap := s'.heap, gens := s'.gens, drawn := s'.drawn, toks := s'.toks } := by
    cases s'
    cases s1
    cases o
    rfl
  rw [e]
  exact ⟨.ref p', _, J, rfl, q1 p' hn⟩
def kSrtSet (d : W) (e : En) : Option (Rs D) := match rd e d with
  | some (.lst ds) => (match toInts ds with
    | some ns => if ns.length ≤ 1000 ∧ (setI ns).length < 64 then some (.ok (.lst ((setI ns).map .int)) e) else none
    | none => none)
  | _ => none
def sSrtSet (f : Sem) : Smx D := fun e => bnd (f e) kSrtSet
@[simp ↓] theorem sSrtSet_u (f : Sem) (e : En) : sSrtSet f e = bnd (f e) kSrtSet := rfl
@[simp] theorem kSrtSet_u (d : W) (e : En) : kSrtSet d e = (match rd e d with
  | some (.lst ds) => (match toInts ds with
    | some ns => if ns.length ≤ 1000 ∧ (setI ns).length < 64 then some (.ok (.lst ((setI ns).map .int)) e) else none
    | none => none)
  | _ => none) := rfl
theorem n_srtset (hm : X.mg "sorted" = none) (hm2 : X.mg "set" = none) (ha : PE X a (tE X.K g io Wx f)) (hc : X.calm = true := by rfl) (hg : Gl X "sorted" := by rfl) (hg2 : Gl X "set" := by rfl) (na : starEach [a] X.env = (false, eval a X.env) :: starEach [] X.env := by rfl) :
    PE X (.Call (.Name "sorted" p) [.Call (.Name "set" p2) [a] [] q] [] pos) (tN X.K g io Wx (sSrtSet f)) := by
  refine PE.of (pe_srtset hc hg hm hg2 hm2 ha na) fun σ H Q q => ?_
  obtain ⟨F, R, e, st, q⟩ := q
  refine ⟨F, R, e, st, Aft.bnd (k := kSrtSet) q fun w e' F' H' v _ x s r q => ?_⟩
  unfold kSrtSet at q
  cases e4 : rd e' w with
  | none => rw [e4] at q; exact q.elim
  | some d =>
    rw [e4] at q
    cases d with
    | lst ds =>
      cases e5 : toInts ds with
      | none => simp only [e5] at q; exact q.elim
      | some ns =>
        simp only [e5] at q
        by_cases hz : ns.length ≤ 1000 ∧ (setI ns).length < 64
        · rw [if_pos hz] at q
          obtain ⟨l, vs, rfl, h3, h4⟩ := r.seqL s e4
          rw [toInts_eq _ _ e5] at h4
          rw [h4.ints] at h3
          refine ⟨l, ns, rfl, SqL.of h3, hz.1, hz.2, fun p hp => ?_⟩
          exact q F' _ (.ref p) Ext.rfl' (s.fresh hp) (new_list s hp (Sqs.ofInts _))
        · rw [if_neg hz] at q; exact q.elim
    | _ => exact q.elim
end
end Mz

namespace Mz
open PySem PySem.Spec PyProof.Rows L2
/-! ### plain laws: environments by their length, places by number -/
theorem len_succ {e : En} {n : Nat} (h : e.length = n + 1) : ∃ a r, e = a :: r ∧ r.length = n := by
  cases e with
  | nil => simp at h
  | cons a r => exact ⟨a, r, rfl, by simpa using h⟩
theorem len_zero {e : En} (h : e.length = 0) : e = [] := List.eq_nil_of_length_eq_zero h
/-- e, of a known length, as a list of its slots -/
theorem nx_of {r : Option Fl} {e : En} {P : En → Prop} (h : r = some (.nx e)) (p : P e) : ∃ e2, r = some (.nx e2) ∧ P e2 := ⟨e, h, p⟩
theorem ixN_nat (n i : Nat) : ixN n (i : Int) = if i < n then some i else none := by
  unfold ixN
  rw [if_pos (by omega)]
  by_cases h : i < n
  · rw [if_pos (by omega), if_pos h]; simp
  · rw [if_neg (by omega), if_neg h]
theorem ixN_lt {n i : Nat} (h : i < n) : ixN n (i : Int) = some i := by rw [ixN_nat, if_pos h]
theorem atI_nt {α : Type} (l : List α) (i : Nat) : atI l (i : Int) = l[i]? := by
  unfold atI
  rw [ixN_nat]
  by_cases h : i < l.length
  · rw [if_pos h] <;> rfl
  · rw [if_neg h, List.getElem?_eq_none (by omega)] <;> rfl
@[simp] theorem atI_0 {α : Type} (a : α) (l : List α) : atI (a :: l) 0 = some a := atI_nt (a :: l) 0
@[simp] theorem atI_1 {α : Type} (a b : α) (l : List α) : atI (a :: b :: l) 1 = some b := atI_nt (a :: b :: l) 1
@[simp] theorem atI_2 {α : Type} (a b c : α) (l : List α) : atI (a :: b :: c :: l) 2 = some c := atI_nt (a :: b :: c :: l) 2
theorem atI_map {α β : Type} (f : α → β) (l : List α) (i : Int) : atI (l.map f) i = (atI l i).map f := by
  unfold atI
  rw [List.length_map]
  cases ixN l.length i with
  | none => rfl
  | some j => exact List.getElem?_map
@[simp] theorem forGo_nil (t : Tgt) (body : SSem) (e : En) : forGo t body [] e = some (.nx e) := rfl
theorem forGo_cons {t : Tgt} {body : SSem} {x : D} {xs : List D} {e e1 e2 : En} (h1 : t x e = some e1) (h2 : body e1 = some (.nx e2)) : forGo t body (x :: xs) e = forGo t body xs e2 := by
  conv => lhs; unfold forGo
  rw [h1]
  dsimp only
  rw [h2]
/-- one turn after another, with a condition on what is left -/
theorem go_left {α S : Type} {t : Tgt} {body : SSem} {f : α → D} {step : S → α → S} {P : S → List α → Prop} {inv : S → En → Prop} (h : ∀ s a l e, P s (a :: l) → inv s e → P (step s a) l ∧ ∃ e2, (t (f a) e).bind body = some (.nx e2) ∧ inv (step s a) e2) :
    ∀ {l : List α} {s : S} {e : En}, P s l → inv s e → ∃ e', forGo t body (l.map f) e = some (.nx e') ∧ inv (l.foldl step s) e'
  | [], s, e, _, hi => ⟨e, rfl, hi⟩
  | a :: l, s, e, hp, hi => by
    obtain ⟨hp2, e2, h1, h2⟩ := h s a l e hp hi
    rw [Option.bind_eq_some_iff] at h1
    obtain ⟨e1, h3, h4⟩ := h1
    obtain ⟨e', h5, h6⟩ := go_left h (l := l) hp2 h2
    exact ⟨e', by rw [List.map_cons, forGo_cons h3 h4]; exact h5, h6⟩
/-- a comprehension, of any environment of a kind -/
theorem kLc_E {α : Type} {t : Tgt} {el : Sem} {vs : List Nat} {l : List α} {ι φ : α → D} {P : En → Prop} (hz : l.length ≤ 16777216) (h : ∀ e, P e → ∀ a ∈ l, match t (ι a) (wipeE e vs) with
      | some e1 => el e1 = some (.ok (.dat (φ a)) e1) ∧ wipeE e1 vs = wipeE e vs
      | none => False) : ∀ e, P e → kLc t bYes el vs (l.map ι) e = some (.ok (.lst (l.map φ)) (wipeE e vs)) := fun e he => kLc_on rfl (by rw [sizeLine_eq]; omega) (h e he)
theorem kLc_EIf {α : Type} {t : Tgt} {c : Smx Bool} {el : Sem} {vs : List Nat} {l : List α} {ι φ : α → D} {p : α → Bool} {P : En → Prop} (hz : l.length ≤ 16777216) (h : ∀ e, P e → ∀ a ∈ l, match t (ι a) (wipeE e vs) with
      | some e1 => c e1 = some (.ok (p a) e1) ∧ (p a = true → el e1 = some (.ok (.dat (φ a)) e1)) ∧ wipeE e1 vs = wipeE e vs
      | none => False) : ∀ e, P e → kLc t c el vs (l.map ι) e = some (.ok (.lst ((l.filter p).map φ)) (wipeE e vs)) := fun e he => kLc_onIf rfl (by rw [sizeLine_eq]; omega) (h e he)
/-- a list comprehension that draws: any number of items, each of a kind -/
theorem rng_map (lo : Int) (n : Nat) : rngD lo n = (List.range n).map fun (i : Nat) => D.int (lo + (i : Nat)) := rfl

theorem lcGo_draw {α : Type} {t : Tgt} {el : Sem} {vs : List Nat} {Q : α → Prop} {φ : α → D} {inv : En → Prop} (h : ∀ x e, inv e → ∃ e1 a e2, t x e = some e1 ∧ el e1 = some (.ok (.dat (φ a)) e2) ∧ Q a ∧ inv (wipeE e2 vs)) :
    ∀ {items : List D} {e : En}, inv e → ∃ (as : List α) (e' : En), lcGo t bYes el vs items e = some (as.map φ, e') ∧ as.length = items.length ∧ (∀ a ∈ as, Q a) ∧ inv e'
  | [], e, hi => ⟨[], e, rfl, rfl, fun a h => (by cases h), hi⟩
  | x :: xs, e, hi => by
    obtain ⟨e1, a, e2, h1, h2, h3, h4⟩ := h x e hi
    obtain ⟨as, e', k1, k2, k3, k4⟩ := lcGo_draw h (items := xs) h4
    refine ⟨a :: as, e', ?_, by simp [k2], fun b hb => ?_, k4⟩
    · simp only [lcGo, h1, bYes, h2, k1, List.map_cons]
    · rcases List.mem_cons.mp hb with rfl | hb
      · exact h3
      · exact k3 b hb
theorem kLc_draw {α : Type} {t : Tgt} {el : Sem} {vs : List Nat} {Q : α → Prop} {φ : α → D} {inv : En → Prop} {items : List D} {e : En} (hz : items.length ≤ 16777216) (h : ∀ x e, inv e → ∃ e1 a e2, t x e = some e1 ∧ el e1 = some (.ok (.dat (φ a)) e2) ∧ Q a ∧ inv (wipeE e2 vs)) (hi : inv (wipeE e vs)) :
    ∃ (as : List α) (e' : En), kLc t bYes el vs items e = some (.ok (.lst (as.map φ)) e') ∧ as.length = items.length ∧ (∀ a ∈ as, Q a) ∧ inv e' := by
  obtain ⟨as, e', k1, k2, k3, k4⟩ := lcGo_draw (t := t) (el := el) (vs := vs) (Q := Q) (φ := φ) (inv := inv) h (items := items) hi
  refine ⟨as, e', ?_, k2, k3, k4⟩
  unfold kLc
  rw [k1]
  dsimp only
  rw [if_pos (by rw [List.length_map, k2, sizeLine_eq]; exact hz)]

/-- the places of l are as they were -/
def Keep (l : List Nat) (e e' : En) : Prop := e'.length = e.length ∧ ∀ i ∈ l, e'[i]? = e[i]?
theorem Keep.rfl' {l : List Nat} {e : En} : Keep l e e := ⟨rfl, fun _ _ => rfl⟩
theorem Keep.trans {l : List Nat} {e e' e'' : En} (h : Keep l e e') (h' : Keep l e' e'') : Keep l e e'' := ⟨h'.1.trans h.1, fun i hi => (h'.2 i hi).trans (h.2 i hi)⟩
theorem Keep.set {l : List Nat} {e e' : En} (h : Keep l e e') {i : Nat} {s : Sl} (hi : i ∉ l := by decide) : Keep l e (e'.set i s) := ⟨by rw [List.length_set]; exact h.1, fun j hj => by
  rw [List.getElem?_set_ne (fun z : i = j => hi (by rw [z]; exact hj))]
  exact h.2 j hj⟩
theorem Keep.at {l : List Nat} {e e' : En} (h : Keep l e e') {i : Nat} {s : Option Sl} (q : e[i]? = s) (hi : i ∈ l := by decide) : e'[i]? = s := (h.2 i hi).trans q
theorem Keep.sub {l l' : List Nat} {e e' : En} (h : Keep l e e') (hs : ∀ i ∈ l', i ∈ l := by decide) : Keep l' e e' := ⟨h.1, fun i hi => h.2 i (hs i hi)⟩
theorem Keep.len {l : List Nat} {e e' : En} {n : Nat} (h : Keep l e e') (q : e.length = n) : e'.length = n := h.1.trans q

open Classical in
theorem fun_of {A B : Type} [Inhabited B] {P : A → Prop} {Q : A → B → Prop} (h : ∀ a, P a → ∃ b, Q a b) : ∃ F : A → B, ∀ a, P a → Q a (F a) :=
  ⟨fun a => if x : P a then Classical.choose (h a x) else default, fun a x => by
    dsimp only
    rw [dif_pos x]
    exact Classical.choose_spec (h a x)⟩
instance : Inhabited En := ⟨[]⟩

theorem cut_from (xs : List D) (k : Nat) : Mz.cutD xs (some (k : Int)) none = xs.drop k := by
  unfold Mz.cutD
  rw [HT.sIx_nat, HT.sIx_none]
  rcases Nat.lt_or_ge k xs.length with h | h
  · rw [Nat.min_eq_left (by omega)]
    exact List.take_of_length_le (by simp)
  · rw [Nat.min_eq_right h, List.drop_of_length_le (Nat.le_refl _), List.drop_of_length_le h] <;> simp
theorem cut_to (xs : List D) (k : Nat) : Mz.cutD xs none (some (k : Int)) = xs.take k := by
  unfold Mz.cutD
  rw [HT.sIx_nat, HT.sIx_none, List.drop_zero, Nat.sub_zero]
  rcases Nat.lt_or_ge k xs.length with h | h
  · rw [Nat.min_eq_left (by omega)]
  · rw [Nat.min_eq_right h, List.take_of_length_le (Nat.le_refl _), List.take_of_length_le h]
@[simp] theorem cut_from1 (xs : List D) : Mz.cutD xs (some 1) none = xs.drop 1 := cut_from xs 1
@[simp] theorem cut_to1 (xs : List D) : Mz.cutD xs none (some 1) = xs.take 1 := cut_to xs 1
@[simp] theorem cut_to2 (xs : List D) : Mz.cutD xs none (some 2) = xs.take 2 := cut_to xs 2
@[simp] theorem cut_to4 (xs : List D) : Mz.cutD xs none (some 4) = xs.take 4 := cut_to xs 4

@[simp] theorem kSl_u (w : W) (lo hi : Option Int) (e : En) : kSl w lo hi e = (match rd e w with
  | some (.lst ds) => some (.ok (.dat (.lst (Mz.cutD ds lo hi))) e)
  | some (.tup ds) => some (.ok (.dat (.tup (Mz.cutD ds lo hi))) e)
  | _ => none) := rfl

theorem seq_nx {s t : SSem} {e e1 : En} (h : s e = some (.nx e1)) : sSeq s t e = t e1 := by rw [sSeq_u, h]
theorem dsem_rt {n k : Nat} {body : SSem} {ds : List D} {d : D} {fr : Bool} {e : En} (hl : ds.length = k) (h : body (en0 n ds) = some (.rt d fr e)) : dSem n k body ds = some (.ok d fr) := by
  unfold dSem
  rw [if_pos hl, h]

theorem ret_call0 {M : List D → Option Ot} {d : D} {fr : Bool} (h : M [] = some (.ok d fr)) (e : En) : sRet (sCall M sNil) e = some (.rt d false e) := by simp [h]
end Mz

section
open PySem PySem.Spec PyProof.Rows L2 Mz
namespace Mk29
def top (i : Nat) : Stmt := PySem.Challenge.pw_pointsystems_k29_written_fixtures_and_ra.main.body.getD i (.Pass ⟨0, 0, 0, 0⟩)
def clsBody (s : Stmt) : List Stmt := match s with
  | .ClassDef _ _ _ b _ _ _ _ _ _ _ => b
  | _ => []
abbrev cs : Cls_ := [("Record", ["numbers"]), ("System", ["points"])]
abbrev st_law_source : Stmt := (top 53)
abbrev dm_law_source : Dm := ⟨fun K => He.ga K "_law_source", "_law_source", "_law_source", st_law_source⟩
abbrev st_law_draw : Stmt := (top 54)
abbrev dm_law_draw : Dm := ⟨fun K => He.ga K "_law_draw", "_law_draw", "_law_draw", st_law_draw⟩
abbrev st_is_between : Stmt := (top 14)
abbrev dm_is_between : Dm := ⟨fun K => He.ga K "is_between", "is_between", "is_between", st_is_between⟩
abbrev st_System___init__ : Stmt := ((clsBody (top 25)).getD 0 (.Pass ⟨0, 0, 0, 0⟩))
abbrev dm_System___init__ : Dm := ⟨fun K => He.ma K (He.ga K "System") "__init__", "__init__", "System.__init__", st_System___init__⟩
abbrev st_Record___init__ : Stmt := ((clsBody (top 15)).getD 0 (.Pass ⟨0, 0, 0, 0⟩))
abbrev dm_Record___init__ : Dm := ⟨fun K => He.ma K (He.ga K "Record") "__init__", "__init__", "Record.__init__", st_Record___init__⟩
abbrev st_need_system : Stmt := (top 26)
abbrev dm_need_system : Dm := ⟨fun K => He.ga K "need_system", "need_system", "need_system", st_need_system⟩
abbrev st_need_teams : Stmt := (top 31)
abbrev dm_need_teams : Dm := ⟨fun K => He.ga K "need_teams", "need_teams", "need_teams", st_need_teams⟩
abbrev st_need_fixtures : Stmt := (top 32)
abbrev dm_need_fixtures : Dm := ⟨fun K => He.ga K "need_fixtures", "need_fixtures", "need_fixtures", st_need_fixtures⟩
abbrev st_need_team : Stmt := (top 33)
abbrev dm_need_team : Dm := ⟨fun K => He.ga K "need_team", "need_team", "need_team", st_need_team⟩
abbrev st_need_ends : Stmt := (top 36)
abbrev dm_need_ends : Dm := ⟨fun K => He.ga K "need_ends", "need_ends", "need_ends", st_need_ends⟩
abbrev st_System_loss : Stmt := ((clsBody (top 25)).getD 4 (.Pass ⟨0, 0, 0, 0⟩))
abbrev dm_System_loss : Dm := ⟨fun K => prG K (He.ga K "System") "loss", "loss", "System.loss", st_System_loss⟩
abbrev st_System_win : Stmt := ((clsBody (top 25)).getD 2 (.Pass ⟨0, 0, 0, 0⟩))
abbrev dm_System_win : Dm := ⟨fun K => prG K (He.ga K "System") "win", "win", "System.win", st_System_win⟩
abbrev st_System_draw : Stmt := ((clsBody (top 25)).getD 3 (.Pass ⟨0, 0, 0, 0⟩))
abbrev dm_System_draw : Dm := ⟨fun K => prG K (He.ga K "System") "draw", "draw", "System.draw", st_System_draw⟩
abbrev st_need_record : Stmt := (top 16)
abbrev dm_need_record : Dm := ⟨fun K => He.ga K "need_record", "need_record", "need_record", st_need_record⟩
abbrev st_total_of : Stmt := (top 24)
abbrev dm_total_of : Dm := ⟨fun K => He.ga K "total_of", "total_of", "total_of", st_total_of⟩
abbrev st_System___call__ : Stmt := ((clsBody (top 25)).getD 6 (.Pass ⟨0, 0, 0, 0⟩))
abbrev dm_System___call__ : Dm := ⟨fun K => He.ma K (He.ga K "System") "__call__", "__call__", "System.__call__", st_System___call__⟩
abbrev st_all_ends : Stmt := (top 34)
abbrev dm_all_ends : Dm := ⟨fun K => He.ga K "all_ends", "all_ends", "all_ends", st_all_ends⟩
abbrev st_place_in : Stmt := (top 35)
abbrev dm_place_in : Dm := ⟨fun K => He.ga K "place_in", "place_in", "place_in", st_place_in⟩
abbrev st_place_range : Stmt := (top 37)
abbrev dm_place_range : Dm := ⟨fun K => He.ga K "place_range", "place_range", "place_range", st_place_range⟩
abbrev st_enough : Stmt := (top 39)
abbrev dm_enough : Dm := ⟨fun K => He.ga K "enough", "enough", "enough", st_enough⟩
abbrev st_need_games : Stmt := (top 18)
abbrev dm_need_games : Dm := ⟨fun K => He.ga K "need_games", "need_games", "need_games", st_need_games⟩
abbrev st_results_for : Stmt := (top 38)
abbrev dm_results_for : Dm := ⟨fun K => He.ga K "results_for", "results_for", "results_for", st_results_for⟩
abbrev st_need_like : Stmt := (top 44)
abbrev dm_need_like : Dm := ⟨fun K => He.ga K "need_like", "need_like", "need_like", st_need_like⟩
abbrev st_Record_games : Stmt := ((clsBody (top 15)).getD 4 (.Pass ⟨0, 0, 0, 0⟩))
abbrev dm_Record_games : Dm := ⟨fun K => prG K (He.ga K "Record") "games", "games", "Record.games", st_Record_games⟩
abbrev st_need_games_alike : Stmt := (top 45)
abbrev dm_need_games_alike : Dm := ⟨fun K => He.ga K "need_games_alike", "need_games_alike", "need_games_alike", st_need_games_alike⟩
abbrev st_need_pair : Stmt := (top 17)
abbrev dm_need_pair : Dm := ⟨fun K => He.ga K "need_pair", "need_pair", "need_pair", st_need_pair⟩
abbrev st_Record_wins : Stmt := ((clsBody (top 15)).getD 1 (.Pass ⟨0, 0, 0, 0⟩))
abbrev dm_Record_wins : Dm := ⟨fun K => prG K (He.ga K "Record") "wins", "wins", "Record.wins", st_Record_wins⟩
abbrev st_Record_draws : Stmt := ((clsBody (top 15)).getD 2 (.Pass ⟨0, 0, 0, 0⟩))
abbrev dm_Record_draws : Dm := ⟨fun K => prG K (He.ga K "Record") "draws", "draws", "Record.draws", st_Record_draws⟩
abbrev st_greatest_divisor : Stmt := (top 21)
abbrev dm_greatest_divisor : Dm := ⟨fun K => He.ga K "greatest_divisor", "greatest_divisor", "greatest_divisor", st_greatest_divisor⟩
abbrev st_lowest : Stmt := (top 22)
abbrev dm_lowest : Dm := ⟨fun K => He.ga K "lowest", "lowest", "lowest", st_lowest⟩
abbrev st_tie_share : Stmt := (top 41)
abbrev dm_tie_share : Dm := ⟨fun K => He.ga K "tie_share", "tie_share", "tie_share", st_tie_share⟩
abbrev st_is_less : Stmt := (top 23)
abbrev dm_is_less : Dm := ⟨fun K => He.ga K "is_less", "is_less", "is_less", st_is_less⟩
abbrev st_shares_of : Stmt := (top 47)
abbrev dm_shares_of : Dm := ⟨fun K => He.ga K "shares_of", "shares_of", "shares_of", st_shares_of⟩
abbrev st_turning_shares : Stmt := (top 48)
abbrev dm_turning_shares : Dm := ⟨fun K => He.ga K "turning_shares", "turning_shares", "turning_shares", st_turning_shares⟩
abbrev st_law_lowest : Stmt := (top 55)
abbrev dm_law_lowest : Dm := ⟨fun K => He.ga K "_law_lowest", "_law_lowest", "_law_lowest", st_law_lowest⟩
abbrev st_count_rankings : Stmt := (top 50)
abbrev dm_count_rankings : Dm := ⟨fun K => He.ga K "count_rankings", "count_rankings", "count_rankings", st_count_rankings⟩
abbrev st_is_share : Stmt := (top 46)
abbrev dm_is_share : Dm := ⟨fun K => He.ga K "is_share", "is_share", "is_share", st_is_share⟩
abbrev st_ranked_at : Stmt := (top 49)
abbrev dm_ranked_at : Dm := ⟨fun K => He.ga K "ranked_at", "ranked_at", "ranked_at", st_ranked_at⟩
abbrev st_always_ahead : Stmt := (top 51)
abbrev dm_always_ahead : Dm := ⟨fun K => He.ga K "always_ahead", "always_ahead", "always_ahead", st_always_ahead⟩
abbrev st_law : Stmt := (top 56)
abbrev dm_law : Dm := ⟨fun K => He.ga K "law", "law", "law", st_law⟩
abbrev ds : List Dm := [dm_law_source, dm_law_draw, dm_is_between, dm_System___init__, dm_Record___init__, dm_need_system, dm_need_teams, dm_need_fixtures, dm_need_team, dm_need_ends, dm_System_loss, dm_System_win, dm_System_draw, dm_need_record, dm_total_of, dm_System___call__, dm_all_ends, dm_place_in, dm_place_range, dm_enough, dm_need_games, dm_results_for, dm_need_like, dm_Record_games, dm_need_games_alike, dm_need_pair, dm_Record_wins, dm_Record_draws, dm_greatest_divisor, dm_lowest, dm_tie_share, dm_is_less, dm_shares_of, dm_turning_shares, dm_law_lowest, dm_count_rankings, dm_is_share, dm_ranked_at, dm_always_ahead, dm_law]
abbrev bs : List Fb := [fun K => (He.Fa.free "len").ok K,
  fun K => (He.Fa.free "min").ok K,
  fun K => (He.Fa.free "range").ok K,
  fun K => (He.Fa.free "abs").ok K,
  fun K => (He.Fa.free "int").ok K,
  fun K => (He.Fa.glo "_law_source").ok K,
  fun K => (He.Fa.glo "_law_draw").ok K,
  isB cs (.ty "int"),
  fun K => (He.Fa.free "isinstance").ok K,
  fun K => (He.Fa.free "bool").ok K,
  isB cs (.ty "bool"),
  fun K => (He.Fa.glo "is_between").ok K,
  fun K => (He.Fa.int "MOST_POINTS" (1000)).ok K,
  setB cs "points",
  fun K => (He.Fa.mkr "System").ok K,
  fun K => (He.Fa.glo "System").ok K,
  fun K => (He.Fa.int "MOST_GAMES" (500)).ok K,
  setB cs "numbers",
  fun K => (He.Fa.mkr "Record").ok K,
  fun K => (He.Fa.glo "Record").ok K,
  isB cs (.own 1),
  fun K => (He.Fa.glo "need_system").ok K,
  fun K => (He.Fa.free "tuple").ok K,
  isB cs (.ty "tuple"),
  fun K => (He.Fa.int "MOST_TEAMS" (6)).ok K,
  isB cs (.own 0),
  fun K => (He.Fa.free "all").ok K,
  fun K => (He.Fa.glo "need_teams").ok K,
  fun K => (He.Fa.int "MOST_FIXTURES" (6)).ok K,
  fun K => (He.Fa.glo "need_fixtures").ok K,
  fun K => (He.Fa.glo "need_team").ok K,
  fun K => (He.Fa.glo "need_ends").ok K,
  fldB cs 1 "points" 0,
  prB "System" "loss",
  prB "System" "win",
  prB "System" "draw",
  fun K => (He.Fa.glo "need_record").ok K,
  fun K => (He.Fa.free "zip").ok K,
  fun K => (He.Fa.free "sum").ok K,
  fun K => (He.Fa.glo "total_of").ok K,
  fldB cs 0 "numbers" 0,
  mtB "System" "__call__",
  gtB "RESULTS" (["draw", "loss", "win"] : List Str),
  fun K => (He.Fa.free "list").ok K,
  fun K => (He.Fa.glo "all_ends").ok K,
  fun K => (He.Fa.glo "place_in").ok K,
  fun K => (He.Fa.free "max").ok K,
  fun K => (He.Fa.glo "place_range").ok K,
  fun K => (He.Fa.glo "enough").ok K,
  fun K => (He.Fa.glo "need_games").ok K,
  fun K => (He.Fa.glo "results_for").ok K,
  fun K => (He.Fa.int "MOST_RECORDS" (20)).ok K,
  fun K => (He.Fa.glo "need_like").ok K,
  prB "Record" "games",
  fun K => (He.Fa.glo "need_games_alike").ok K,
  fun K => (He.Fa.free "enumerate").ok K,
  fun K => (He.Fa.glo "need_pair").ok K,
  prB "Record" "wins",
  prB "Record" "draws",
  fun K => (He.Fa.glo "greatest_divisor").ok K,
  fun K => (He.Fa.glo "lowest").ok K,
  fun K => (He.Fa.glo "tie_share").ok K,
  fun K => (He.Fa.glo "is_less").ok K,
  fun K => (He.Fa.glo "shares_of").ok K,
  fun K => (He.Fa.glo "turning_shares").ok K,
  fun K => (He.Fa.glo "_law_lowest").ok K,
  fun K => (He.Fa.glo "count_rankings").ok K,
  fun K => (He.Fa.glo "is_share").ok K,
  fun K => (He.Fa.free "sorted").ok K,
  fun K => (He.Fa.free "set").ok K,
  fun K => (He.Fa.glo "ranked_at").ok K,
  fun K => (He.Fa.glo "always_ahead").ok K,
  fun K => (He.Fa.glo "law").ok K]
abbrev gK (K : PySem.W.Frag) : Gb := ⟨rhoK cs K, fun _ => none⟩
section
variable {P : Program} {w : World} {K : PySem.W.Frag} {mg : Str → Option Value} {base : Heap}
def b_law_source : SSem := (sSeq (sAsg (sC (.int 0)) (gVar 2))
  (sSeq (sIf (sT (sBin oLt (sVar 1) (sBlt oLen (sCons (sVar 0) sNil)))) (sAsg (sBlt oAbs (sCons (sBin oIx (sVar 0) (sVar 1)) sNil)) (gVar 2)) sSkip)
  (sSeq (sIf (sT (sBin oLt (sVar 2) (sBin oPow (sC (.int 10)) (sC (.int 18))))) (sRetN (sLst (sCons (sC (.int 0)) (sCons (sBin (dI2 fun i j => .int (i + j)) (sC (.int 1)) (sBin oMod (sBlt oInt1 (sCons (sBin (dI2 fun i j => .int (i + j)) (sBin oMul (sVar 2) (sC (.int 7919))) (sBin oMul (sC (.int 104729)) (sVar 1))) sNil)) (sC (.int 2147483646)))) sNil)))) sSkip)
  (sRetN (sLst (sCons (sVar 2) (sCons (sBin (dI2 fun i j => .int (i + j)) (sC (.int 1)) (sBin oMod (sBlt oInt1 (sCons (sBin (dI2 fun i j => .int (i + j)) (sVar 2) (sVar 1)) sNil)) (sC (.int 2147483646)))) sNil)))))))
theorem sc_law_source : FnScope ["script", "index", "cell"] ["script", "index"] (defScope st_law_source) := ⟨rfl, rfl, rfl, by decide +kernel, rfl, by decide +kernel, by decide +kernel⟩
def m_law_source : List D → Option Ot := dSem 3 2 b_law_source
theorem ok_law_source (k : Kn bs ds K mg) : Df P w K mg base (gK K) "_law_source" 1 2 m_law_source := by
  obtain ⟨fd, F⟩ := k.fn 0 (d := dm_law_source) rfl
  exact df_mk (j := 0) (k.glo 5) F sc_law_source rfl (fun _ _ _ _ _ _ us hl => match us, hl with | [_, _], _ => rfl) fun cdv A outer s H E hr => (s_cons (st_set sc_law_source.nd d_int)
  (s_cons (s_if (t_cm c_lt (pv 1) (bB b_len (k.free 0) (a_cons (pv 0) a_nil))) (s_one (st_set sc_law_source.nd (bB b_abs (k.free 3) (a_cons (d_ix (pv 0) (pv 1)) a_nil)))) s_nil)
  (s_cons (s_if (t_cm c_lt (pv 2) (d_pow d_int d_int)) (s_one (s_retN (n_lst (a_cons d_int (a_cons (d_addI d_int (d_mod (bT b_int (k.free 4) (a_cons (d_addI (d_mulI (pv 2) d_int) (d_mulI d_int (pv 1))) a_nil)) d_int)) a_nil))))) s_nil)
  (s_one (s_retN (n_lst (a_cons (pv 2) (a_cons (d_addI d_int (d_mod (bT b_int (k.free 4) (a_cons (d_addI (pv 2) (pv 1)) a_nil)) d_int)) a_nil))))))))
def b_law_draw : SSem := (sSeq (sIf (sT (sBin oGt (sBin oIx (sVar 0) (sC (.int 0))) (sC (.int 0)))) (sSeq (sAsg (sBin oMod (sBlt oInt1 (sCons (sBin oIx (sVar 0) (sC (.int 0))) sNil)) (sVar 1)) (gVar 2))
  (sSeq (sPutI 0 (sBin oDiv (sBin oIx (sVar 0) (sC (.int 0))) (sVar 1)) (sC (.int 0)))
  (sRet (sVar 2)))) sSkip)
  (sSeq (sPutI 0 (sBin oMod (sBlt oInt1 (sCons (sBin oMul (sBin oIx (sVar 0) (sC (.int 1))) (sC (.int 48271))) sNil)) (sC (.int 2147483647))) (sC (.int 1)))
  (sRet (sBin oMod (sBlt oInt1 (sCons (sBin oDiv (sBin oMod (sBlt oInt1 (sCons (sBin oMul (sBin oIx (sVar 0) (sC (.int 1))) (sBin oIx (sVar 0) (sC (.int 1)))) sNil)) (sC (.int 2147483629))) (sC (.int 64))) sNil)) (sVar 1)))))
theorem sc_law_draw : FnScope ["source", "size", "drawn"] ["source", "size"] (defScope st_law_draw) := ⟨rfl, rfl, rfl, by decide +kernel, rfl, by decide +kernel, by decide +kernel⟩
def m_law_draw : D → List D → Option Oti := dSemIO 3 2 b_law_draw
theorem ok_law_draw (k : Kn bs ds K mg) : DfIO P w K mg base (gK K) "_law_draw" 1 2 m_law_draw := by
  obtain ⟨fd, F⟩ := k.fn 1 (d := dm_law_draw) rfl
  exact dfIO_mk (j := 0) (k.glo 6) F sc_law_draw rfl (fun _ _ _ _ _ _ us hl => match us, hl with | [_, _], _ => rfl) (by decide) fun io cdv A outer s H E hr => (s_cons (s_if (t_cm c_gt (d_ix (pv 0) d_int) d_int) (s_cons (st_set sc_law_draw.nd (d_mod (bT b_int (k.free 4) (a_cons (d_ix (pv 0) d_int) a_nil)) (pv 1)))
  (s_cons (st_putI (d_div (d_ix (pv 0) d_int) (pv 1)) d_int)
  (s_one (s_ret (pv 2))))) s_nil)
  (s_cons (st_putI (d_mod (bT b_int (k.free 4) (a_cons (d_mulI (d_ix (pv 0) d_int) d_int) a_nil)) d_int) d_int)
  (s_one (s_ret (d_mod (bT b_int (k.free 4) (a_cons (d_div (d_mod (bT b_int (k.free 4) (a_cons (d_mulI (d_ix (pv 0) d_int) (d_ix (pv 0) d_int)) a_nil)) d_int) d_int) a_nil)) (pv 1))))))
def b_is_between : SSem := (sRet (sAnd (sIsi (.ty "int") (sVar 0)) (sAnd (sNot (sIsi (.ty "bool") (sVar 0))) (sChain oLe oLe (sVar 1) (sVar 0) (sVar 2)))))
theorem sc_is_between : FnScope ["value", "low", "high"] ["value", "low", "high"] (defScope st_is_between) := ⟨rfl, rfl, rfl, by decide +kernel, rfl, by decide +kernel, by decide +kernel⟩
def m_is_between : List D → Option Ot := dSem 3 3 b_is_between
theorem ok_is_between (k : Kn bs ds K mg) : Df P w K mg base (gK K) "is_between" 1 3 m_is_between := by
  obtain ⟨fd, F⟩ := k.fn 2 (d := dm_is_between) rfl
  exact df_mk (j := 0) (k.glo 11) F sc_is_between rfl (fun _ _ _ _ _ _ us hl => match us, hl with | [_, _, _], _ => rfl) fun cdv A outer s H E hr => (s_one (s_ret (d_and (isi (cT (k.free 4)) (k.is_ 7) (k.free 8) (pv 0)) (d_and (d_not (isi (cT (k.free 9)) (k.is_ 10) (k.free 8) (pv 0))) (d_one (d_ch c_le c_le (pv 1) (pv 0) (pv 2)))))))
def l_System___init___1 : SSem := (sIf (bNot (sT (sCall m_is_between (sCons (sVar 4) (sCons (sC (.int 0)) (sCons (sC (.int (1000))) sNil)))))) sNoS sSkip)
def b_System___init__ : SSem := (sSeq (sFor (iSeq (sTup (sCons (sVar 1) (sCons (sVar 2) (sCons (sVar 3) sNil))))) (gVar 4) l_System___init___1)
  (sSeq (sIf (bOr (bNot (sT (sChain oLe oLe (sVar 3) (sVar 2) (sVar 1)))) (sT (sBin oEq (sVar 3) (sVar 1)))) sNoS sSkip)
  (sSelf 0 "points" (sTup (sCons (sVar 1) (sCons (sVar 2) (sCons (sVar 3) sNil)))))))
theorem sc_System___init__ : FnScope ["self", "win", "draw", "loss", "points"] ["self", "win", "draw", "loss"] (defScope st_System___init__) := ⟨rfl, rfl, rfl, by decide +kernel, rfl, by decide +kernel, by decide +kernel⟩
def m_System___init__ : List D → Option Oi := mSem 5 4 1 ["points"] b_System___init__
theorem ok_System___init__ (k : Kn bs ds K mg) : DfM P w K mg base (gK K) 1 "System" 2 4 m_System___init__ := by
  obtain ⟨fd, F⟩ := k.fn 3 (d := dm_System___init__) rfl
  exact dfM_mk (j := 1) (k.glo 15) rfl (k.mkr 14) F sc_System___init__ rfl (fun _ _ _ _ _ _ us hl => match us, hl with | [_, _, _, _], _ => rfl) fun io cdv A outer s H E hr => (s_cons (st_for (i_seq (d_tup (a_cons (pv 1) (a_cons (pv 2) (a_cons (pv 3) a_nil))))) (gv sc_System___init__.nd) (s_one (s_if (t_not (t_val (ca (ok_is_between k) (ary_dSem _ _ _) (hr.mono (by decide)) wok_def (a_cons (pv 4) (a_cons d_int (a_cons (pgi (k.int 12)) a_nil)))))) (s_one s_no) s_nil)))
  (s_cons (s_if (t_or (t_not (t_ch c_le c_le (pv 3) (pv 2) (pv 1))) (t_or1 (t_cm (c_eq hr) (pv 3) (pv 1)))).pt (s_one s_no) s_nil)
  (s_one (st_self (k.set 13) (d_tup (a_cons (pv 1) (a_cons (pv 2) (a_cons (pv 3) a_nil))))))))
def l_Record___init___1 : SSem := (sIf (bNot (sT (sCall m_is_between (sCons (sVar 4) (sCons (sC (.int 0)) (sCons (sC (.int (500))) sNil)))))) sNoS sSkip)
def b_Record___init__ : SSem := (sSeq (sFor (iSeq (sTup (sCons (sVar 1) (sCons (sVar 2) (sCons (sVar 3) sNil))))) (gVar 4) l_Record___init___1)
  (sSeq (sIf (sT (sBin oGt (sBin (dI2 fun i j => .int (i + j)) (sBin (dI2 fun i j => .int (i + j)) (sVar 1) (sVar 2)) (sVar 3)) (sC (.int (500))))) sNoS sSkip)
  (sSelf 0 "numbers" (sTup (sCons (sVar 1) (sCons (sVar 2) (sCons (sVar 3) sNil)))))))
theorem sc_Record___init__ : FnScope ["self", "wins", "draws", "losses", "count"] ["self", "wins", "draws", "losses"] (defScope st_Record___init__) := ⟨rfl, rfl, rfl, by decide +kernel, rfl, by decide +kernel, by decide +kernel⟩
def m_Record___init__ : List D → Option Oi := mSem 5 4 0 ["numbers"] b_Record___init__
theorem ok_Record___init__ (k : Kn bs ds K mg) : DfM P w K mg base (gK K) 0 "Record" 2 4 m_Record___init__ := by
  obtain ⟨fd, F⟩ := k.fn 4 (d := dm_Record___init__) rfl
  exact dfM_mk (j := 1) (k.glo 19) rfl (k.mkr 18) F sc_Record___init__ rfl (fun _ _ _ _ _ _ us hl => match us, hl with | [_, _, _, _], _ => rfl) fun io cdv A outer s H E hr => (s_cons (st_for (i_seq (d_tup (a_cons (pv 1) (a_cons (pv 2) (a_cons (pv 3) a_nil))))) (gv sc_Record___init__.nd) (s_one (s_if (t_not (t_val (ca (ok_is_between k) (ary_dSem _ _ _) (hr.mono (by decide)) wok_def (a_cons (pv 4) (a_cons d_int (a_cons (pgi (k.int 16)) a_nil)))))) (s_one s_no) s_nil)))
  (s_cons (s_if (t_cm c_gt (d_addI (d_addI (pv 1) (pv 2)) (pv 3)) (pgi (k.int 16))) (s_one s_no) s_nil)
  (s_one (st_self (k.set 17) (d_tup (a_cons (pv 1) (a_cons (pv 2) (a_cons (pv 3) a_nil))))))))
def b_need_system : SSem := (sIf (bNot (sT (sIsi (.own 1) (sVar 0)))) sNoS sSkip)
theorem sc_need_system : FnScope ["system"] ["system"] (defScope st_need_system) := ⟨rfl, rfl, rfl, by decide +kernel, rfl, by decide +kernel, by decide +kernel⟩
def m_need_system : List D → Option Ot := dSem 1 1 b_need_system
theorem ok_need_system (k : Kn bs ds K mg) : Df P w K mg base (gK K) "need_system" 1 1 m_need_system := by
  obtain ⟨fd, F⟩ := k.fn 5 (d := dm_need_system) rfl
  exact df_mk (j := 0) (k.glo 21) F sc_need_system rfl (fun _ _ _ _ _ _ us hl => match us, hl with | [_], _ => rfl) fun cdv A outer s H E hr => (s_one (s_if (t_not (t_val (isi (cO rfl (k.glo 15)) (k.is_ 20) (k.free 8) (pv 0)))) (s_one s_no) s_nil))
def c_need_teams_1 : Sem := (sIsi (.own 0) (sVar 1))
def b_need_teams : SSem := (sSeq (sIf (bOr (bNot (sT (sIsi (.ty "tuple") (sVar 0)))) (bNot (sT (sChain oLe oLe (sC (.int 2)) (sBlt oLen (sCons (sVar 0) sNil)) (sC (.int (6))))))) sNoS sSkip)
  (sIf (bNot (sT (sBlt oAll (sCons (sF (sLc (iSeq (sVar 0)) (gVar 1) bYes c_need_teams_1 [1])) sNil)))) sNoS sSkip))
theorem sc_need_teams : FnScope ["records", "record"] ["records"] (defScope st_need_teams) := ⟨rfl, rfl, rfl, by decide +kernel, rfl, by decide +kernel, by decide +kernel⟩
def m_need_teams : List D → Option Ot := dSem 2 1 b_need_teams
theorem ok_need_teams (k : Kn bs ds K mg) : Df P w K mg base (gK K) "need_teams" 1 1 m_need_teams := by
  obtain ⟨fd, F⟩ := k.fn 6 (d := dm_need_teams) rfl
  exact df_mk (j := 0) (k.glo 27) F sc_need_teams rfl (fun _ _ _ _ _ _ us hl => match us, hl with | [_], _ => rfl) fun cdv A outer s H E hr => (s_cons (s_if (t_or (t_not (t_val (isi (cT (k.free 22)) (k.is_ 23) (k.free 8) (pv 0)))) (t_or1 (t_not (t_ch c_le c_le d_int (bB b_len (k.free 0) (a_cons (pv 0) a_nil)) (pgi (k.int 24)))))).pt (s_one s_no) s_nil)
  (s_one (s_if (t_not (t_val (bB (b_all rfl) (k.free 26) (a_cons (d_f (lc [("record", 1)] sc_need_teams.nd (i_seq (pv 0)) (gc_var (by decide)) (fun _ _ _ _ _ => (pgn sc_need_teams.nd)) (fun _ _ _ _ _ => c_nil) (fun _ _ _ _ _ => (isi (cO rfl (k.glo 19)) (k.is_ 25) (k.free 8) (pv 1))))) a_nil)))) (s_one s_no) s_nil)))
def c_need_fixtures_1 : Sem := (sCall m_is_between (sCons (sVar 3) (sCons (sC (.int 0)) (sCons (sBin oSub (sBlt oLen (sCons (sVar 0) sNil)) (sC (.int 1))) sNil))))
def l_need_fixtures_2 : SSem := (sSeq (sIf (bOr (bNot (sT (sIsi (.ty "tuple") (sVar 2)))) (sT (sBin oNe (sBlt oLen (sCons (sVar 2) sNil)) (sC (.int 2))))) sNoS sSkip)
  (sIf (bOr (bNot (sT (sBlt oAll (sCons (sF (sLc (iSeq (sVar 2)) (gVar 3) bYes c_need_fixtures_1 [3])) sNil)))) (sT (sBin oEq (sBin oIx (sVar 2) (sC (.int 0))) (sBin oIx (sVar 2) (sC (.int 1)))))) sNoS sSkip))
def b_need_fixtures : SSem := (sSeq (sIf (bOr (bNot (sT (sIsi (.ty "tuple") (sVar 1)))) (sT (sBin oGt (sBlt oLen (sCons (sVar 1) sNil)) (sC (.int (6)))))) sNoS sSkip)
  (sFor (iSeq (sVar 1)) (gVar 2) l_need_fixtures_2))
theorem sc_need_fixtures : FnScope ["records", "fixtures", "pair", "index"] ["records", "fixtures"] (defScope st_need_fixtures) := ⟨rfl, rfl, rfl, by decide +kernel, rfl, by decide +kernel, by decide +kernel⟩
def m_need_fixtures : List D → Option Ot := dSem 4 2 b_need_fixtures
theorem ok_need_fixtures (k : Kn bs ds K mg) : Df P w K mg base (gK K) "need_fixtures" 2 2 m_need_fixtures := by
  obtain ⟨fd, F⟩ := k.fn 7 (d := dm_need_fixtures) rfl
  exact df_mk (j := 1) (k.glo 29) F sc_need_fixtures rfl (fun _ _ _ _ _ _ us hl => match us, hl with | [_, _], _ => rfl) fun cdv A outer s H E hr => (s_cons (s_if (t_or (t_not (t_val (isi (cT (k.free 22)) (k.is_ 23) (k.free 8) (pv 1)))) (t_or1 (t_cm c_gt (bB b_len (k.free 0) (a_cons (pv 1) a_nil)) (pgi (k.int 28))))).pt (s_one s_no) s_nil)
  (s_one (st_for (i_seq (pv 1)) (gv sc_need_fixtures.nd) (s_cons (s_if (t_or (t_not (t_val (isi (cT (k.free 22)) (k.is_ 23) (k.free 8) (pv 2)))) (t_or1 (t_cm (c_ne hr) (bB b_len (k.free 0) (a_cons (pv 2) a_nil)) d_int))).pt (s_one s_no) s_nil)
  (s_one (s_if (t_or (t_not (t_val (bB (b_all rfl) (k.free 26) (a_cons (d_f (lc [("index", 3)] sc_need_fixtures.nd (i_seq (pv 2)) (gc_var (by decide)) (fun _ _ _ _ _ => (pgn sc_need_fixtures.nd)) (fun _ _ _ _ _ => c_nil) (fun _ _ _ _ _ => (ca (ok_is_between k) (ary_dSem _ _ _) (hr.mono (by decide)) wok_0 (a_cons (pv 3) (a_cons d_int (a_cons (d_sub (bB b_len (k.free 0) (a_cons (pv 0) a_nil)) d_int) a_nil))))))) a_nil)))) (t_or1 (t_cm (c_eq hr) (d_ix (pv 2) d_int) (d_ix (pv 2) d_int)))).pt (s_one s_no) s_nil))))))
def b_need_team : SSem := (sIf (bNot (sT (sCall m_is_between (sCons (sVar 1) (sCons (sC (.int 0)) (sCons (sBin oSub (sBlt oLen (sCons (sVar 0) sNil)) (sC (.int 1))) sNil)))))) sNoS sSkip)
theorem sc_need_team : FnScope ["records", "index"] ["records", "index"] (defScope st_need_team) := ⟨rfl, rfl, rfl, by decide +kernel, rfl, by decide +kernel, by decide +kernel⟩
def m_need_team : List D → Option Ot := dSem 2 2 b_need_team
theorem ok_need_team (k : Kn bs ds K mg) : Df P w K mg base (gK K) "need_team" 2 2 m_need_team := by
  obtain ⟨fd, F⟩ := k.fn 8 (d := dm_need_team) rfl
  exact df_mk (j := 1) (k.glo 30) F sc_need_team rfl (fun _ _ _ _ _ _ us hl => match us, hl with | [_, _], _ => rfl) fun cdv A outer s H E hr => (s_one (s_if (t_not (t_val (ca (ok_is_between k) (ary_dSem _ _ _) (hr.mono (by decide)) wok_def (a_cons (pv 1) (a_cons d_int (a_cons (d_sub (bB b_len (k.free 0) (a_cons (pv 0) a_nil)) d_int) a_nil)))))) (s_one s_no) s_nil))
def b_need_ends : SSem := (sSeq (sDrop (sCall m_need_system (sCons (sVar 0) sNil)))
  (sSeq (sDrop (sCall m_need_teams (sCons (sVar 1) sNil)))
  (sSeq (sDrop (sCall m_need_fixtures (sCons (sVar 1) (sCons (sVar 2) sNil))))
  (sDrop (sCall m_need_team (sCons (sVar 1) (sCons (sVar 3) sNil)))))))
theorem sc_need_ends : FnScope ["system", "records", "fixtures", "index"] ["system", "records", "fixtures", "index"] (defScope st_need_ends) := ⟨rfl, rfl, rfl, by decide +kernel, rfl, by decide +kernel, by decide +kernel⟩
def m_need_ends : List D → Option Ot := dSem 4 4 b_need_ends
theorem ok_need_ends (k : Kn bs ds K mg) : Df P w K mg base (gK K) "need_ends" 3 4 m_need_ends := by
  obtain ⟨fd, F⟩ := k.fn 9 (d := dm_need_ends) rfl
  exact df_mk (j := 2) (k.glo 31) F sc_need_ends rfl (fun _ _ _ _ _ _ us hl => match us, hl with | [_, _, _, _], _ => rfl) fun cdv A outer s H E hr => (s_cons (s_expr (ca (ok_need_system k) (ary_dSem _ _ _) (hr.mono (by decide)) wok_def (a_cons (pv 0) a_nil)))
  (s_cons (s_expr (ca (ok_need_teams k) (ary_dSem _ _ _) (hr.mono (by decide)) wok_def (a_cons (pv 1) a_nil)))
  (s_cons (s_expr (ca (ok_need_fixtures k) (ary_dSem _ _ _) (hr.mono (by decide)) wok_def (a_cons (pv 1) (a_cons (pv 2) a_nil))))
  (s_one (s_expr (ca (ok_need_team k) (ary_dSem _ _ _) (hr.mono (by decide)) wok_def (a_cons (pv 1) (a_cons (pv 3) a_nil))))))))
def b_System_loss : SSem := (sRet (sBin oIx (sUn (oFld 1 0) (sVar 0)) (sC (.int 2))))
theorem sc_System_loss : FnScope ["self"] ["self"] (defScope st_System_loss) := ⟨rfl, rfl, rfl, by decide +kernel, rfl, by decide +kernel, by decide +kernel⟩
def m_System_loss : List D → Option Ot := dSem 1 1 b_System_loss
theorem ok_System_loss (k : Kn bs ds K mg) : DfP P w K mg base (gK K) 1 "loss" 1 m_System_loss := by
  obtain ⟨fd, F⟩ := k.fn 10 (d := dm_System_loss) rfl
  exact dfP_mk (j := 0) rfl (k.pr 33) F sc_System_loss (fun _ _ _ _ _ _ us hl => match us, hl with | [_], _ => rfl) fun cdv A outer s H E hr => (s_one (s_ret (d_ix (d_fld (k.fld 32) (pv 0)) d_int)))
def b_System_win : SSem := (sRet (sBin oIx (sUn (oFld 1 0) (sVar 0)) (sC (.int 0))))
theorem sc_System_win : FnScope ["self"] ["self"] (defScope st_System_win) := ⟨rfl, rfl, rfl, by decide +kernel, rfl, by decide +kernel, by decide +kernel⟩
def m_System_win : List D → Option Ot := dSem 1 1 b_System_win
theorem ok_System_win (k : Kn bs ds K mg) : DfP P w K mg base (gK K) 1 "win" 1 m_System_win := by
  obtain ⟨fd, F⟩ := k.fn 11 (d := dm_System_win) rfl
  exact dfP_mk (j := 0) rfl (k.pr 34) F sc_System_win (fun _ _ _ _ _ _ us hl => match us, hl with | [_], _ => rfl) fun cdv A outer s H E hr => (s_one (s_ret (d_ix (d_fld (k.fld 32) (pv 0)) d_int)))
def b_System_draw : SSem := (sRet (sBin oIx (sUn (oFld 1 0) (sVar 0)) (sC (.int 1))))
theorem sc_System_draw : FnScope ["self"] ["self"] (defScope st_System_draw) := ⟨rfl, rfl, rfl, by decide +kernel, rfl, by decide +kernel, by decide +kernel⟩
def m_System_draw : List D → Option Ot := dSem 1 1 b_System_draw
theorem ok_System_draw (k : Kn bs ds K mg) : DfP P w K mg base (gK K) 1 "draw" 1 m_System_draw := by
  obtain ⟨fd, F⟩ := k.fn 12 (d := dm_System_draw) rfl
  exact dfP_mk (j := 0) rfl (k.pr 35) F sc_System_draw (fun _ _ _ _ _ _ us hl => match us, hl with | [_], _ => rfl) fun cdv A outer s H E hr => (s_one (s_ret (d_ix (d_fld (k.fld 32) (pv 0)) d_int)))
def b_need_record : SSem := (sIf (bNot (sT (sIsi (.own 0) (sVar 0)))) sNoS sSkip)
theorem sc_need_record : FnScope ["record"] ["record"] (defScope st_need_record) := ⟨rfl, rfl, rfl, by decide +kernel, rfl, by decide +kernel, by decide +kernel⟩
def m_need_record : List D → Option Ot := dSem 1 1 b_need_record
theorem ok_need_record (k : Kn bs ds K mg) : Df P w K mg base (gK K) "need_record" 1 1 m_need_record := by
  obtain ⟨fd, F⟩ := k.fn 13 (d := dm_need_record) rfl
  exact df_mk (j := 0) (k.glo 36) F sc_need_record rfl (fun _ _ _ _ _ _ us hl => match us, hl with | [_], _ => rfl) fun cdv A outer s H E hr => (s_one (s_if (t_not (t_val (isi (cO rfl (k.glo 19)) (k.is_ 25) (k.free 8) (pv 0)))) (s_one s_no) s_nil))
def c_total_of_1 : Sem := (sBin oMul (sVar 2) (sVar 3))
def b_total_of : SSem := (sRet (sBlt oSumQ (sCons (sF (sLc (iZp (sCons (sVar 0) (sCons (sVar 1) sNil))) (gTupD 2 (gsCons (gVar 2) (gsCons (gVar 3) gsNil))) bYes c_total_of_1 [2, 3])) sNil)))
theorem sc_total_of : FnScope ["points", "numbers", "one", "count"] ["points", "numbers"] (defScope st_total_of) := ⟨rfl, rfl, rfl, by decide +kernel, rfl, by decide +kernel, by decide +kernel⟩
def m_total_of : List D → Option Ot := dSem 4 2 b_total_of
theorem ok_total_of (k : Kn bs ds K mg) : Df P w K mg base (gK K) "total_of" 1 2 m_total_of := by
  obtain ⟨fd, F⟩ := k.fn 14 (d := dm_total_of) rfl
  exact df_mk (j := 0) (k.glo 39) F sc_total_of rfl (fun _ _ _ _ _ _ us hl => match us, hl with | [_, _], _ => rfl) fun cdv A outer s H E hr => (s_one (s_ret (bB (b_sumQ rfl) (k.free 38) (a_cons (d_f (lc [("one", 2), ("count", 3)] sc_total_of.nd (izp (a_cons (pv 0) (a_cons (pv 1) a_nil)) (k.free 37)) (gc_tup (gcs_cons (gc_var (by decide)) (gcs_cons (gc_var (by decide)) gcs_nil))) (fun _ _ _ _ _ => (pgt (pgs_cons (pgn sc_total_of.nd) (pgs_cons (pgn sc_total_of.nd) pgs_nil)))) (fun _ _ _ _ _ => c_nil) (fun _ _ _ _ _ => (d_mulI (pv 2) (pv 3))))) a_nil))))
def b_System___call__ : SSem := (sSeq (sDrop (sCall m_need_record (sCons (sVar 1) sNil)))
  (sRet (sCall m_total_of (sCons (sUn (oFld 1 0) (sVar 0)) (sCons (sUn (oFld 0 0) (sVar 1)) sNil)))))
theorem sc_System___call__ : FnScope ["self", "record"] ["self", "record"] (defScope st_System___call__) := ⟨rfl, rfl, rfl, by decide +kernel, rfl, by decide +kernel, by decide +kernel⟩
def m_System___call__ : List D → Option Ot := dSem 2 2 b_System___call__
theorem ok_System___call__ (k : Kn bs ds K mg) : DfO P w K mg base (gK K) 1 "__call__" 2 2 m_System___call__ := by
  obtain ⟨fd, F⟩ := k.fn 15 (d := dm_System___call__) rfl
  exact dfO_mk (j := 1) (cn := "System") rfl (k.mt 41) F sc_System___call__ rfl (fun _ _ _ _ _ _ us hl => match us, hl with | [_, _], _ => rfl) fun cdv A outer s H E hr => (s_cons (s_expr (ca (ok_need_record k) (ary_dSem _ _ _) (hr.mono (by decide)) wok_def (a_cons (pv 1) a_nil)))
  (s_one (s_ret (ca (ok_total_of k) (ary_dSem _ _ _) (hr.mono (by decide)) wok_def (a_cons (d_fld (k.fld 32) (pv 0)) (a_cons (d_fld (k.fld 40) (pv 1)) a_nil))))))
def c_all_ends_1 : Sem := (sCallO 1 m_System___call__ (sVar 0) (sCons (sVar 12) sNil))
def l_all_ends_2 : SSem := (sSeq (sOwn (sBltN oListOf (sCons (sVar 9) sNil)) 11)
  (sSeq (sPutI 11 (sBin (dI2 fun i j => .int (i + j)) (sBin oIx (sVar 11) (sVar 5)) (sBin oIx (sBin oDGet (sVar 3) (sVar 10)) (sC (.int 0)))) (sVar 5))
  (sSeq (sPutI 11 (sBin (dI2 fun i j => .int (i + j)) (sBin oIx (sVar 11) (sVar 6)) (sBin oIx (sBin oDGet (sVar 3) (sVar 10)) (sC (.int 1)))) (sVar 6))
  (sApp 7 (sTup (sCons (sBin oAdd (sVar 8) (sTup (sCons (sVar 10) sNil))) (sCons (sBlt oTupOf (sCons (sVar 11) sNil)) sNil)))))))
def l_all_ends_3 : SSem := (sFor (iSeq (sC (.tup ((["draw", "loss", "win"] : List Str).map .str)))) (gVar 10) l_all_ends_2)
def l_all_ends_4 : SSem := (sSeq (sOwn (sLst sNil) 7)
  (sSeq (sFor (iSeq (sVar 4)) (gTupD 2 (gsCons (gVar 8) (gsCons (gVar 9) gsNil))) l_all_ends_3)
  (sFrz 7 (sAsg (sVar 7) (gVar 4)))))
def b_all_ends : SSem := (sSeq (sAsg (sDct ["win", "draw", "loss"] (sCons (sTup (sCons (sProp 1 m_System_win (sVar 0)) (sCons (sProp 1 m_System_loss (sVar 0)) sNil))) (sCons (sTup (sCons (sProp 1 m_System_draw (sVar 0)) (sCons (sProp 1 m_System_draw (sVar 0)) sNil))) (sCons (sTup (sCons (sProp 1 m_System_loss (sVar 0)) (sCons (sProp 1 m_System_win (sVar 0)) sNil))) sNil)))) (gVar 3))
  (sSeq (sAsg (sF (sLst (sCons (sTup (sCons (sTup sNil) (sCons (sBlt oTupOf (sCons (sF (sLc (iSeq (sVar 1)) (gVar 12) bYes c_all_ends_1 [12])) sNil)) sNil))) sNil))) (gVar 4))
  (sSeq (sFor (iSeq (sVar 2)) (gTupD 2 (gsCons (gVar 5) (gsCons (gVar 6) gsNil))) l_all_ends_4)
  (sRet (sVar 4)))))
theorem sc_all_ends : FnScope ["system", "records", "fixtures", "gains", "found", "home", "away", "later", "results", "totals", "result", "new", "record"] ["system", "records", "fixtures"] (defScope st_all_ends) := ⟨rfl, rfl, rfl, by decide +kernel, rfl, by decide +kernel, by decide +kernel⟩
def m_all_ends : List D → Option Ot := dSem 13 3 b_all_ends
theorem ok_all_ends (k : Kn bs ds K mg) : Df P w K mg base (gK K) "all_ends" 3 3 m_all_ends := by
  obtain ⟨fd, F⟩ := k.fn 16 (d := dm_all_ends) rfl
  exact df_mk (j := 2) (k.glo 44) F sc_all_ends rfl (fun _ _ _ _ _ _ us hl => match us, hl with | [_, _, _], _ => rfl) fun cdv A outer s H E hr => (s_cons (st_set sc_all_ends.nd (d_dct (pd_cons (d_tup (a_cons (d_prop (ok_System_win k) (hr.mono (by decide)) (pv 0)) (a_cons (d_prop (ok_System_loss k) (hr.mono (by decide)) (pv 0)) a_nil))) (pd_cons (d_tup (a_cons (d_prop (ok_System_draw k) (hr.mono (by decide)) (pv 0)) (a_cons (d_prop (ok_System_draw k) (hr.mono (by decide)) (pv 0)) a_nil))) (pd_cons (d_tup (a_cons (d_prop (ok_System_loss k) (hr.mono (by decide)) (pv 0)) (a_cons (d_prop (ok_System_win k) (hr.mono (by decide)) (pv 0)) a_nil))) pd_nil)))))
  (s_cons (st_set sc_all_ends.nd (d_f (n_lst (a_cons (d_tup (a_cons (d_tup a_nil) (a_cons (bT b_tup (k.free 22) (a_cons (d_f (lc [("record", 12)] sc_all_ends.nd (i_seq (pv 1)) (gc_var (by decide)) (fun _ _ _ _ _ => (pgn sc_all_ends.nd)) (fun _ _ _ _ _ => c_nil) (fun _ _ _ _ _ => (d_callO (ok_System___call__ k) (ary_dSem _ _ _) (hr.mono (by decide)) wok_0 (pv 0) (a_cons (pv 12) a_nil))))) a_nil)) a_nil))) a_nil))))
  (s_cons (st_for (i_seq (pv 2)) (gt (gs_cons (gv sc_all_ends.nd) (gs_cons (gv sc_all_ends.nd) gs_nil))) (s_cons (st_own sc_all_ends.nd (n_lst a_nil))
  (s_cons (st_for (i_seq (pv 4)) (gt (gs_cons (gv sc_all_ends.nd) (gs_cons (gv sc_all_ends.nd) gs_nil))) (s_one (st_for (i_seq (d_gtup (k.gt 42))) (gv sc_all_ends.nd) (s_cons (st_own sc_all_ends.nd (bnT bn_list (k.free 43) (a_cons (pv 9) a_nil)))
  (s_cons (st_putI (d_addI (d_ix (pv 11) (pv 5)) (d_ix (d_dget hr (pv 3) (pv 10)) d_int)) (pv 5))
  (s_cons (st_putI (d_addI (d_ix (pv 11) (pv 6)) (d_ix (d_dget hr (pv 3) (pv 10)) d_int)) (pv 6))
  (s_one (st_app (d_tup (a_cons (d_add (pv 8) (d_tup (a_cons (pv 10) a_nil))) (a_cons (bT b_tup (k.free 22) (a_cons (pv 11) a_nil)) a_nil)))))))))))
  (ss_frz (i := 7) (s_one (st_set sc_all_ends.nd (pv 7)))))))
  (s_one (s_ret (pv 4))))))
def p_place_in_1 : Smx Bool := (sT (sBin oGt (sVar 2) (sBin oIx (sVar 0) (sVar 1))))
def c_place_in_2 : Sem := (sVar 2)
def b_place_in : SSem := (sRet (sBin (dI2 fun i j => .int (i + j)) (sC (.int 1)) (sBlt oLen (sCons (sF (sLc (iSeq (sVar 0)) (gVar 2) p_place_in_1 c_place_in_2 [2])) sNil))))
theorem sc_place_in : FnScope ["totals", "index", "total"] ["totals", "index"] (defScope st_place_in) := ⟨rfl, rfl, rfl, by decide +kernel, rfl, by decide +kernel, by decide +kernel⟩
def m_place_in : List D → Option Ot := dSem 3 2 b_place_in
theorem ok_place_in (k : Kn bs ds K mg) : Df P w K mg base (gK K) "place_in" 1 2 m_place_in := by
  obtain ⟨fd, F⟩ := k.fn 17 (d := dm_place_in) rfl
  exact df_mk (j := 0) (k.glo 45) F sc_place_in rfl (fun _ _ _ _ _ _ us hl => match us, hl with | [_, _], _ => rfl) fun cdv A outer s H E hr => (s_one (s_ret (d_addI d_int (bB b_len (k.free 0) (a_cons (d_f (lc [("total", 2)] sc_place_in.nd (i_seq (pv 0)) (gc_var (by decide)) (fun _ _ _ _ _ => (pgn sc_place_in.nd)) (fun _ _ _ _ _ => (c_one (t_cm c_gt (pv 2) (d_ix (pv 0) (pv 1))))) (fun _ _ _ _ _ => (pv 2)))) a_nil)))))
def c_place_range_1 : Sem := (sCall m_place_in (sCons (sVar 6) (sCons (sVar 3) sNil)))
def b_place_range : SSem := (sSeq (sDrop (sCall m_need_ends (sCons (sVar 0) (sCons (sVar 1) (sCons (sVar 2) (sCons (sVar 3) sNil))))))
  (sSeq (sAsg (sF (sLc (iSeq (sCall m_all_ends (sCons (sVar 0) (sCons (sVar 1) (sCons (sVar 2) sNil))))) (gTupD 2 (gsCons (gVar 5) (gsCons (gVar 6) gsNil))) bYes c_place_range_1 [5, 6])) (gVar 4))
  (sRet (sTup (sCons (sBlt oMinQ (sCons (sVar 4) sNil)) (sCons (sBlt oMaxQ (sCons (sVar 4) sNil)) sNil))))))
theorem sc_place_range : FnScope ["system", "records", "fixtures", "index", "places", "results", "totals"] ["system", "records", "fixtures", "index"] (defScope st_place_range) := ⟨rfl, rfl, rfl, by decide +kernel, rfl, by decide +kernel, by decide +kernel⟩
def m_place_range : List D → Option Ot := dSem 7 4 b_place_range
theorem ok_place_range (k : Kn bs ds K mg) : Df P w K mg base (gK K) "place_range" 4 4 m_place_range := by
  obtain ⟨fd, F⟩ := k.fn 18 (d := dm_place_range) rfl
  exact df_mk (j := 3) (k.glo 47) F sc_place_range rfl (fun _ _ _ _ _ _ us hl => match us, hl with | [_, _, _, _], _ => rfl) fun cdv A outer s H E hr => (s_cons (s_expr (ca (ok_need_ends k) (ary_dSem _ _ _) (hr.mono (by decide)) wok_def (a_cons (pv 0) (a_cons (pv 1) (a_cons (pv 2) (a_cons (pv 3) a_nil))))))
  (s_cons (st_lc [("results", 5), ("totals", 6)] sc_place_range.nd (i_seq (ca (ok_all_ends k) (ary_dSem _ _ _) (hr.mono (by decide)) wok_def (a_cons (pv 0) (a_cons (pv 1) (a_cons (pv 2) a_nil))))) (gc_tup (gcs_cons (gc_var (by decide)) (gcs_cons (gc_var (by decide)) gcs_nil))) (fun _ _ _ _ _ => (pgt (pgs_cons (pgn sc_place_range.nd) (pgs_cons (pgn sc_place_range.nd) pgs_nil)))) (fun _ _ _ _ _ => c_nil) (fun _ _ _ _ _ => (ca (ok_place_in k) (ary_dSem _ _ _) (hr.mono (by decide)) wok_0 (a_cons (pv 6) (a_cons (pv 3) a_nil)))))
  (s_one (s_ret (d_tup (a_cons (bB (b_minQ rfl) (k.free 1) (a_cons (pv 4) a_nil)) (a_cons (bB (b_maxQ rfl) (k.free 46) (a_cons (pv 4) a_nil)) a_nil)))))))
def p_enough_1 : Smx Bool := (sT (sBin oGt (sCall m_place_in (sCons (sVar 8) (sCons (sVar 3) sNil))) (sC (.int 1))))
def c_enough_2 : Sem := (sBin oIx (sVar 8) (sVar 3))
def p_enough_3 : Smx Bool := (bOr (sT (sBin oEq (sVar 5) (sF (sLst sNil)))) (sT (sBin oGt (sBin oIx (sVar 8) (sVar 3)) (sBlt oMaxQ (sCons (sVar 5) sNil)))))
def c_enough_4 : Sem := (sBin oIx (sVar 8) (sVar 3))
def b_enough : SSem := (sSeq (sDrop (sCall m_need_ends (sCons (sVar 0) (sCons (sVar 1) (sCons (sVar 2) (sCons (sVar 3) sNil))))))
  (sSeq (sAsg (sCall m_all_ends (sCons (sVar 0) (sCons (sVar 1) (sCons (sVar 2) sNil)))) (gVar 4))
  (sSeq (sAsg (sF (sLc (iSeq (sVar 4)) (gTupD 2 (gsCons (gVar 7) (gsCons (gVar 8) gsNil))) p_enough_1 c_enough_2 [7, 8])) (gVar 5))
  (sSeq (sAsg (sF (sLc (iSeq (sVar 4)) (gTupD 2 (gsCons (gVar 7) (gsCons (gVar 8) gsNil))) p_enough_3 c_enough_4 [7, 8])) (gVar 6))
  (sRet (sIfE (sT (sBin oNe (sVar 6) (sF (sLst sNil)))) (sBlt oMinQ (sCons (sVar 6) sNil)) (sC .non)))))))
theorem sc_enough : FnScope ["system", "records", "fixtures", "index", "ends", "late", "good", "results", "totals"] ["system", "records", "fixtures", "index"] (defScope st_enough) := ⟨rfl, rfl, rfl, by decide +kernel, rfl, by decide +kernel, by decide +kernel⟩
def m_enough : List D → Option Ot := dSem 9 4 b_enough
theorem ok_enough (k : Kn bs ds K mg) : Df P w K mg base (gK K) "enough" 4 4 m_enough := by
  obtain ⟨fd, F⟩ := k.fn 19 (d := dm_enough) rfl
  exact df_mk (j := 3) (k.glo 48) F sc_enough rfl (fun _ _ _ _ _ _ us hl => match us, hl with | [_, _, _, _], _ => rfl) fun cdv A outer s H E hr => (s_cons (s_expr (ca (ok_need_ends k) (ary_dSem _ _ _) (hr.mono (by decide)) wok_def (a_cons (pv 0) (a_cons (pv 1) (a_cons (pv 2) (a_cons (pv 3) a_nil))))))
  (s_cons (st_set sc_enough.nd (ca (ok_all_ends k) (ary_dSem _ _ _) (hr.mono (by decide)) wok_def (a_cons (pv 0) (a_cons (pv 1) (a_cons (pv 2) a_nil)))))
  (s_cons (st_set sc_enough.nd (d_f (lc [("results", 7), ("totals", 8)] sc_enough.nd (i_seq (pv 4)) (gc_tup (gcs_cons (gc_var (by decide)) (gcs_cons (gc_var (by decide)) gcs_nil))) (fun _ _ _ _ _ => (pgt (pgs_cons (pgn sc_enough.nd) (pgs_cons (pgn sc_enough.nd) pgs_nil)))) (fun _ _ _ _ _ => (c_one (t_cm c_gt (ca (ok_place_in k) (ary_dSem _ _ _) (hr.mono (by decide)) wok_0 (a_cons (pv 8) (a_cons (pv 3) a_nil))) d_int))) (fun _ _ _ _ _ => (d_ix (pv 8) (pv 3))))))
  (s_cons (st_lc [("results", 7), ("totals", 8)] sc_enough.nd (i_seq (pv 4)) (gc_tup (gcs_cons (gc_var (by decide)) (gcs_cons (gc_var (by decide)) gcs_nil))) (fun _ _ _ _ _ => (pgt (pgs_cons (pgn sc_enough.nd) (pgs_cons (pgn sc_enough.nd) pgs_nil)))) (fun _ _ _ _ _ => (c_one (t_or (t_cm (c_eq hr) (pv 5) (d_f (n_lst a_nil))) (t_or1 (t_cm c_gt (d_ix (pv 8) (pv 3)) (bB (b_maxQ rfl) (k.free 46) (a_cons (pv 5) a_nil))))).pt)) (fun _ _ _ _ _ => (d_ix (pv 8) (pv 3))))
  (s_one (s_ret (d_ifE (t_cm (c_ne hr) (pv 6) (d_f (n_lst a_nil))) (bB (b_minQ rfl) (k.free 1) (a_cons (pv 6) a_nil)) d_non)))))))
def b_need_games : SSem := (sIf (bNot (sT (sCall m_is_between (sCons (sVar 0) (sCons (sC (.int 1)) (sCons (sVar 1) sNil)))))) sNoS sSkip)
theorem sc_need_games : FnScope ["games", "most"] ["games", "most"] (defScope st_need_games) := ⟨rfl, rfl, rfl, by decide +kernel, rfl, by decide +kernel, by decide +kernel⟩
def m_need_games : List D → Option Ot := dSem 2 2 b_need_games
theorem ok_need_games (k : Kn bs ds K mg) : Df P w K mg base (gK K) "need_games" 2 2 m_need_games := by
  obtain ⟨fd, F⟩ := k.fn 20 (d := dm_need_games) rfl
  exact df_mk (j := 1) (k.glo 49) F sc_need_games rfl (fun _ _ _ _ _ _ us hl => match us, hl with | [_, _], _ => rfl) fun cdv A outer s H E hr => (s_one (s_if (t_not (t_val (ca (ok_is_between k) (ary_dSem _ _ _) (hr.mono (by decide)) wok_def (a_cons (pv 0) (a_cons d_int (a_cons (pv 1) a_nil)))))) (s_one s_no) s_nil))
def l_results_for_1 : SSem := (sIf (sT (sBin oLe (sCall m_place_in (sCons (sVar 6) (sCons (sVar 3) sNil))) (sVar 4))) (sRet (sVar 5)) sSkip)
def b_results_for : SSem := (sSeq (sDrop (sCall m_need_ends (sCons (sVar 0) (sCons (sVar 1) (sCons (sVar 2) (sCons (sVar 3) sNil))))))
  (sSeq (sDrop (sCall m_need_games (sCons (sVar 4) (sCons (sC (.int (6))) sNil))))
  (sSeq (sFor (iSeq (sCall m_all_ends (sCons (sVar 0) (sCons (sVar 1) (sCons (sVar 2) sNil))))) (gTupD 2 (gsCons (gVar 5) (gsCons (gVar 6) gsNil))) l_results_for_1)
  (sRet (sC .non)))))
theorem sc_results_for : FnScope ["system", "records", "fixtures", "index", "place", "results", "totals"] ["system", "records", "fixtures", "index", "place"] (defScope st_results_for) := ⟨rfl, rfl, rfl, by decide +kernel, rfl, by decide +kernel, by decide +kernel⟩
def m_results_for : List D → Option Ot := dSem 7 5 b_results_for
theorem ok_results_for (k : Kn bs ds K mg) : Df P w K mg base (gK K) "results_for" 4 5 m_results_for := by
  obtain ⟨fd, F⟩ := k.fn 21 (d := dm_results_for) rfl
  exact df_mk (j := 3) (k.glo 50) F sc_results_for rfl (fun _ _ _ _ _ _ us hl => match us, hl with | [_, _, _, _, _], _ => rfl) fun cdv A outer s H E hr => (s_cons (s_expr (ca (ok_need_ends k) (ary_dSem _ _ _) (hr.mono (by decide)) wok_def (a_cons (pv 0) (a_cons (pv 1) (a_cons (pv 2) (a_cons (pv 3) a_nil))))))
  (s_cons (s_expr (ca (ok_need_games k) (ary_dSem _ _ _) (hr.mono (by decide)) wok_def (a_cons (pv 4) (a_cons (pgi (k.int 24)) a_nil))))
  (s_cons (st_for (i_seq (ca (ok_all_ends k) (ary_dSem _ _ _) (hr.mono (by decide)) wok_def (a_cons (pv 0) (a_cons (pv 1) (a_cons (pv 2) a_nil))))) (gt (gs_cons (gv sc_results_for.nd) (gs_cons (gv sc_results_for.nd) gs_nil))) (s_one (s_if (t_cm c_le (ca (ok_place_in k) (ary_dSem _ _ _) (hr.mono (by decide)) wok_def (a_cons (pv 6) (a_cons (pv 3) a_nil))) (pv 4)) (s_one (s_ret (pv 5))) s_nil)))
  (s_one (s_ret d_non)))))
def c_need_like_1 : Sem := (sIsi (.own 0) (sVar 1))
def b_need_like : SSem := (sSeq (sIf (bOr (bNot (sT (sIsi (.ty "tuple") (sVar 0)))) (bNot (sT (sChain oLe oLe (sC (.int 1)) (sBlt oLen (sCons (sVar 0) sNil)) (sC (.int (20))))))) sNoS sSkip)
  (sIf (bNot (sT (sBlt oAll (sCons (sF (sLc (iSeq (sVar 0)) (gVar 1) bYes c_need_like_1 [1])) sNil)))) sNoS sSkip))
theorem sc_need_like : FnScope ["records", "record"] ["records"] (defScope st_need_like) := ⟨rfl, rfl, rfl, by decide +kernel, rfl, by decide +kernel, by decide +kernel⟩
def m_need_like : List D → Option Ot := dSem 2 1 b_need_like
theorem ok_need_like (k : Kn bs ds K mg) : Df P w K mg base (gK K) "need_like" 1 1 m_need_like := by
  obtain ⟨fd, F⟩ := k.fn 22 (d := dm_need_like) rfl
  exact df_mk (j := 0) (k.glo 52) F sc_need_like rfl (fun _ _ _ _ _ _ us hl => match us, hl with | [_], _ => rfl) fun cdv A outer s H E hr => (s_cons (s_if (t_or (t_not (t_val (isi (cT (k.free 22)) (k.is_ 23) (k.free 8) (pv 0)))) (t_or1 (t_not (t_ch c_le c_le d_int (bB b_len (k.free 0) (a_cons (pv 0) a_nil)) (pgi (k.int 51)))))).pt (s_one s_no) s_nil)
  (s_one (s_if (t_not (t_val (bB (b_all rfl) (k.free 26) (a_cons (d_f (lc [("record", 1)] sc_need_like.nd (i_seq (pv 0)) (gc_var (by decide)) (fun _ _ _ _ _ => (pgn sc_need_like.nd)) (fun _ _ _ _ _ => c_nil) (fun _ _ _ _ _ => (isi (cO rfl (k.glo 19)) (k.is_ 25) (k.free 8) (pv 1))))) a_nil)))) (s_one s_no) s_nil)))
def b_Record_games : SSem := (sRet (sBlt oSumQ (sCons (sUn (oFld 0 0) (sVar 0)) sNil)))
theorem sc_Record_games : FnScope ["self"] ["self"] (defScope st_Record_games) := ⟨rfl, rfl, rfl, by decide +kernel, rfl, by decide +kernel, by decide +kernel⟩
def m_Record_games : List D → Option Ot := dSem 1 1 b_Record_games
theorem ok_Record_games (k : Kn bs ds K mg) : DfP P w K mg base (gK K) 0 "games" 1 m_Record_games := by
  obtain ⟨fd, F⟩ := k.fn 23 (d := dm_Record_games) rfl
  exact dfP_mk (j := 0) rfl (k.pr 53) F sc_Record_games (fun _ _ _ _ _ _ us hl => match us, hl with | [_], _ => rfl) fun cdv A outer s H E hr => (s_one (s_ret (bB (b_sumQ rfl) (k.free 38) (a_cons (d_fld (k.fld 40) (pv 0)) a_nil))))
def c_need_games_alike_1 : Sem := (sBin oEq (sProp 0 m_Record_games (sVar 1)) (sProp 0 m_Record_games (sBin oIx (sVar 0) (sC (.int 0)))))
def b_need_games_alike : SSem := (sIf (bNot (sT (sBlt oAll (sCons (sF (sLc (iSeq (sVar 0)) (gVar 1) bYes c_need_games_alike_1 [1])) sNil)))) sNoS sSkip)
theorem sc_need_games_alike : FnScope ["records", "record"] ["records"] (defScope st_need_games_alike) := ⟨rfl, rfl, rfl, by decide +kernel, rfl, by decide +kernel, by decide +kernel⟩
def m_need_games_alike : List D → Option Ot := dSem 2 1 b_need_games_alike
theorem ok_need_games_alike (k : Kn bs ds K mg) : Df P w K mg base (gK K) "need_games_alike" 3 1 m_need_games_alike := by
  obtain ⟨fd, F⟩ := k.fn 24 (d := dm_need_games_alike) rfl
  exact df_mk (j := 2) (k.glo 54) F sc_need_games_alike rfl (fun _ _ _ _ _ _ us hl => match us, hl with | [_], _ => rfl) fun cdv A outer s H E hr => (s_one (s_if (t_not (t_val (bB (b_all rfl) (k.free 26) (a_cons (d_f (lc [("record", 1)] sc_need_games_alike.nd (i_seq (pv 0)) (gc_var (by decide)) (fun _ _ _ _ _ => (pgn sc_need_games_alike.nd)) (fun _ _ _ _ _ => c_nil) (fun _ _ _ _ _ => (d_cm (c_eq hr) (d_prop (ok_Record_games k) (hr.mono (by decide)) (pv 1)) (d_prop (ok_Record_games k) (hr.mono (by decide)) (d_ix (pv 0) d_int)))))) a_nil)))) (s_one s_no) s_nil))
def b_need_pair : SSem := (sSeq (sDrop (sCall m_need_record (sCons (sVar 0) sNil)))
  (sSeq (sDrop (sCall m_need_record (sCons (sVar 1) sNil)))
  (sIf (sT (sBin oNe (sProp 0 m_Record_games (sVar 0)) (sProp 0 m_Record_games (sVar 1)))) sNoS sSkip)))
theorem sc_need_pair : FnScope ["one", "other"] ["one", "other"] (defScope st_need_pair) := ⟨rfl, rfl, rfl, by decide +kernel, rfl, by decide +kernel, by decide +kernel⟩
def m_need_pair : List D → Option Ot := dSem 2 2 b_need_pair
theorem ok_need_pair (k : Kn bs ds K mg) : Df P w K mg base (gK K) "need_pair" 3 2 m_need_pair := by
  obtain ⟨fd, F⟩ := k.fn 25 (d := dm_need_pair) rfl
  exact df_mk (j := 2) (k.glo 56) F sc_need_pair rfl (fun _ _ _ _ _ _ us hl => match us, hl with | [_, _], _ => rfl) fun cdv A outer s H E hr => (s_cons (s_expr (ca (ok_need_record k) (ary_dSem _ _ _) (hr.mono (by decide)) wok_def (a_cons (pv 0) a_nil)))
  (s_cons (s_expr (ca (ok_need_record k) (ary_dSem _ _ _) (hr.mono (by decide)) wok_def (a_cons (pv 1) a_nil)))
  (s_one (s_if (t_cm (c_ne hr) (d_prop (ok_Record_games k) (hr.mono (by decide)) (pv 0)) (d_prop (ok_Record_games k) (hr.mono (by decide)) (pv 1))) (s_one s_no) s_nil))))
def b_Record_wins : SSem := (sRet (sBin oIx (sUn (oFld 0 0) (sVar 0)) (sC (.int 0))))
theorem sc_Record_wins : FnScope ["self"] ["self"] (defScope st_Record_wins) := ⟨rfl, rfl, rfl, by decide +kernel, rfl, by decide +kernel, by decide +kernel⟩
def m_Record_wins : List D → Option Ot := dSem 1 1 b_Record_wins
theorem ok_Record_wins (k : Kn bs ds K mg) : DfP P w K mg base (gK K) 0 "wins" 1 m_Record_wins := by
  obtain ⟨fd, F⟩ := k.fn 26 (d := dm_Record_wins) rfl
  exact dfP_mk (j := 0) rfl (k.pr 57) F sc_Record_wins (fun _ _ _ _ _ _ us hl => match us, hl with | [_], _ => rfl) fun cdv A outer s H E hr => (s_one (s_ret (d_ix (d_fld (k.fld 40) (pv 0)) d_int)))
def b_Record_draws : SSem := (sRet (sBin oIx (sUn (oFld 0 0) (sVar 0)) (sC (.int 1))))
theorem sc_Record_draws : FnScope ["self"] ["self"] (defScope st_Record_draws) := ⟨rfl, rfl, rfl, by decide +kernel, rfl, by decide +kernel, by decide +kernel⟩
def m_Record_draws : List D → Option Ot := dSem 1 1 b_Record_draws
theorem ok_Record_draws (k : Kn bs ds K mg) : DfP P w K mg base (gK K) 0 "draws" 1 m_Record_draws := by
  obtain ⟨fd, F⟩ := k.fn 27 (d := dm_Record_draws) rfl
  exact dfP_mk (j := 0) rfl (k.pr 58) F sc_Record_draws (fun _ _ _ _ _ _ us hl => match us, hl with | [_], _ => rfl) fun cdv A outer s H E hr => (s_one (s_ret (d_ix (d_fld (k.fld 40) (pv 0)) d_int)))
def l_greatest_divisor_1 : SSem := (sPar 0 1 (sCons (sVar 1) (sCons (sBin oMod (sVar 0) (sVar 1)) sNil)))
def b_greatest_divisor : SSem := (sSeq (sWhile (fuelI 1) (sT (sBin oGt (sVar 1) (sC (.int 0)))) l_greatest_divisor_1)
  (sRet (sVar 0)))
theorem sc_greatest_divisor : FnScope ["one", "other"] ["one", "other"] (defScope st_greatest_divisor) := ⟨rfl, rfl, rfl, by decide +kernel, rfl, by decide +kernel, by decide +kernel⟩
def m_greatest_divisor : List D → Option Ot := dSem 2 2 b_greatest_divisor
theorem ok_greatest_divisor (k : Kn bs ds K mg) : Df P w K mg base (gK K) "greatest_divisor" 1 2 m_greatest_divisor := by
  obtain ⟨fd, F⟩ := k.fn 28 (d := dm_greatest_divisor) rfl
  exact df_mk (j := 0) (k.glo 59) F sc_greatest_divisor rfl (fun _ _ _ _ _ _ us hl => match us, hl with | [_, _], _ => rfl) fun cdv A outer s H E hr => (s_cons (st_while (fuelI 1) (t_cm c_gt (pv 1) d_int) (s_one (st_par sc_greatest_divisor.nd (a_cons (pv 1) (a_cons (d_mod (pv 0) (pv 1)) a_nil)))))
  (s_one (s_ret (pv 0))))
def b_lowest : SSem := (sSeq (sAsg (sCall m_greatest_divisor (sCons (sBlt oAbs (sCons (sVar 0) sNil)) (sCons (sVar 1) sNil))) (gVar 2))
  (sRet (sTup (sCons (sBin oDiv (sVar 0) (sVar 2)) (sCons (sBin oDiv (sVar 1) (sVar 2)) sNil)))))
theorem sc_lowest : FnScope ["top", "bottom", "divisor"] ["top", "bottom"] (defScope st_lowest) := ⟨rfl, rfl, rfl, by decide +kernel, rfl, by decide +kernel, by decide +kernel⟩
def m_lowest : List D → Option Ot := dSem 3 2 b_lowest
theorem ok_lowest (k : Kn bs ds K mg) : Df P w K mg base (gK K) "lowest" 2 2 m_lowest := by
  obtain ⟨fd, F⟩ := k.fn 29 (d := dm_lowest) rfl
  exact df_mk (j := 1) (k.glo 60) F sc_lowest rfl (fun _ _ _ _ _ _ us hl => match us, hl with | [_, _], _ => rfl) fun cdv A outer s H E hr => (s_cons (st_set sc_lowest.nd (ca (ok_greatest_divisor k) (ary_dSem _ _ _) (hr.mono (by decide)) wok_def (a_cons (bB b_abs (k.free 3) (a_cons (pv 0) a_nil)) (a_cons (pv 1) a_nil))))
  (s_one (s_ret (d_tup (a_cons (d_div (pv 0) (pv 2)) (a_cons (d_div (pv 1) (pv 2)) a_nil))))))
def b_tie_share : SSem := (sSeq (sDrop (sCall m_need_pair (sCons (sVar 0) (sCons (sVar 1) sNil))))
  (sSeq (sPar 2 3 (sCons (sBin oSub (sProp 0 m_Record_wins (sVar 0)) (sProp 0 m_Record_wins (sVar 1))) (sCons (sBin oSub (sProp 0 m_Record_draws (sVar 0)) (sProp 0 m_Record_draws (sVar 1))) sNil)))
  (sSeq (sIf (sT (sBin oLt (sVar 3) (sC (.int 0)))) (sPar 2 3 (sCons (sBin oSub (sC (.int 0)) (sVar 2)) (sCons (sBin oSub (sC (.int 0)) (sVar 3)) sNil))) sSkip)
  (sSeq (sIf (bOr (sT (sBin oEq (sVar 3) (sC (.int 0)))) (bNot (sT (sChain oLe oLe (sC (.int 0)) (sBin oSub (sC (.int 0)) (sVar 2)) (sVar 3))))) (sRet (sC .non)) sSkip)
  (sRet (sCall m_lowest (sCons (sBin oSub (sC (.int 0)) (sVar 2)) (sCons (sVar 3) sNil))))))))
theorem sc_tie_share : FnScope ["one", "other", "wins", "draws"] ["one", "other"] (defScope st_tie_share) := ⟨rfl, rfl, rfl, by decide +kernel, rfl, by decide +kernel, by decide +kernel⟩
def m_tie_share : List D → Option Ot := dSem 4 2 b_tie_share
theorem ok_tie_share (k : Kn bs ds K mg) : Df P w K mg base (gK K) "tie_share" 4 2 m_tie_share := by
  obtain ⟨fd, F⟩ := k.fn 30 (d := dm_tie_share) rfl
  exact df_mk (j := 3) (k.glo 61) F sc_tie_share rfl (fun _ _ _ _ _ _ us hl => match us, hl with | [_, _], _ => rfl) fun cdv A outer s H E hr => (s_cons (s_expr (ca (ok_need_pair k) (ary_dSem _ _ _) (hr.mono (by decide)) wok_def (a_cons (pv 0) (a_cons (pv 1) a_nil))))
  (s_cons (st_par sc_tie_share.nd (a_cons (d_sub (d_prop (ok_Record_wins k) (hr.mono (by decide)) (pv 0)) (d_prop (ok_Record_wins k) (hr.mono (by decide)) (pv 1))) (a_cons (d_sub (d_prop (ok_Record_draws k) (hr.mono (by decide)) (pv 0)) (d_prop (ok_Record_draws k) (hr.mono (by decide)) (pv 1))) a_nil)))
  (s_cons (s_if (t_cm c_lt (pv 3) d_int) (s_one (st_par sc_tie_share.nd (a_cons (d_sub d_int (pv 2)) (a_cons (d_sub d_int (pv 3)) a_nil)))) s_nil)
  (s_cons (s_if (t_or (t_cm (c_eq hr) (pv 3) d_int) (t_or1 (t_not (t_ch c_le c_le d_int (d_sub d_int (pv 2)) (pv 3))))).pt (s_one (s_ret d_non)) s_nil)
  (s_one (s_ret (ca (ok_lowest k) (ary_dSem _ _ _) (hr.mono (by decide)) wok_def (a_cons (d_sub d_int (pv 2)) (a_cons (pv 3) a_nil)))))))))
def b_is_less : SSem := (sRet (sBin oLt (sBin oMul (sBin oIx (sVar 0) (sC (.int 0))) (sBin oIx (sVar 1) (sC (.int 1)))) (sBin oMul (sBin oIx (sVar 1) (sC (.int 0))) (sBin oIx (sVar 0) (sC (.int 1))))))
theorem sc_is_less : FnScope ["one", "other"] ["one", "other"] (defScope st_is_less) := ⟨rfl, rfl, rfl, by decide +kernel, rfl, by decide +kernel, by decide +kernel⟩
def m_is_less : List D → Option Ot := dSem 2 2 b_is_less
theorem ok_is_less (k : Kn bs ds K mg) : Df P w K mg base (gK K) "is_less" 1 2 m_is_less := by
  obtain ⟨fd, F⟩ := k.fn 31 (d := dm_is_less) rfl
  exact df_mk (j := 0) (k.glo 62) F sc_is_less rfl (fun _ _ _ _ _ _ us hl => match us, hl with | [_, _], _ => rfl) fun cdv A outer s H E hr => (s_one (s_ret (d_cm c_lt (d_mulI (d_ix (pv 0) d_int) (d_ix (pv 1) d_int)) (d_mulI (d_ix (pv 1) d_int) (d_ix (pv 0) d_int)))))
def p_shares_of_1 : Smx Bool := (sT (sCall m_is_less (sCons (sVar 7) (sCons (sVar 5) sNil))))
def c_shares_of_2 : Sem := (sVar 7)
def l_shares_of_3 : SSem := (sSeq (sAsg (sCall m_tie_share (sCons (sVar 3) (sCons (sVar 4) sNil))) (gVar 5))
  (sIf (bAnd (sT (sBin oNotN (sVar 5) (sC .non))) (sT (sBin oNotInQ (sVar 5) (sVar 1)))) (sSeq (sAsg (sBlt oLen (sCons (sF (sLcO 1 (gVar 7) p_shares_of_1 c_shares_of_2 [7])) sNil)) (gVar 6))
  (sIns 1 (sVar 6) (sVar 5))) sSkip))
def l_shares_of_4 : SSem := (sFor (iSeq (sSl (sVar 0) sOm (sPart (sVar 2)))) (gVar 4) l_shares_of_3)
def b_shares_of : SSem := (sSeq (sOwn (sLst sNil) 1)
  (sSeq (sFor (iEnq (sCons (sVar 0) sNil)) (gTupD 2 (gsCons (gVar 2) (gsCons (gVar 3) gsNil))) l_shares_of_4)
  (sRetO 1)))
theorem sc_shares_of : FnScope ["records", "found", "index", "one", "other", "share", "at", "known"] ["records"] (defScope st_shares_of) := ⟨rfl, rfl, rfl, by decide +kernel, rfl, by decide +kernel, by decide +kernel⟩
def m_shares_of : List D → Option Ot := dSem 8 1 b_shares_of
theorem ok_shares_of (k : Kn bs ds K mg) : Df P w K mg base (gK K) "shares_of" 5 1 m_shares_of := by
  obtain ⟨fd, F⟩ := k.fn 32 (d := dm_shares_of) rfl
  exact df_mk (j := 4) (k.glo 63) F sc_shares_of rfl (fun _ _ _ _ _ _ us hl => match us, hl with | [_], _ => rfl) fun cdv A outer s H E hr => (s_cons (st_own sc_shares_of.nd (n_lst a_nil))
  (s_cons (st_for (ienq (a_cons (pv 0) a_nil) (k.free 55)) (gt (gs_cons (gv sc_shares_of.nd) (gs_cons (gv sc_shares_of.nd) gs_nil))) (s_one (st_for (i_seq (d_sl (pv 0) o_none (o_some (pv 2)))) (gv sc_shares_of.nd) (s_cons (st_set sc_shares_of.nd (ca (ok_tie_share k) (ary_dSem _ _ _) (hr.mono (by decide)) wok_def (a_cons (pv 3) (a_cons (pv 4) a_nil))))
  (s_one (s_if (t_and (t_cm c_notN (pv 5) d_non) (t_and1 (t_cm (c_notInQ hr) (pv 5) (pv 1)))).pt (s_cons (st_set sc_shares_of.nd (bB b_len (k.free 0) (a_cons (d_f (lcO [("known", 7)] sc_shares_of.nd  (gc_var (by decide)) (fun _ _ _ _ _ => (pgn sc_shares_of.nd)) (fun _ _ _ _ _ => (c_one (t_val (ca (ok_is_less k) (ary_dSem _ _ _) (hr.mono (by decide)) wok_0 (a_cons (pv 7) (a_cons (pv 5) a_nil)))))) (fun _ _ _ _ _ => (pv 7)))) a_nil)))
  (s_one (st_ins (pv 6) (pv 5)))) s_nil))))))
  (s_one st_retO)))
def b_turning_shares : SSem := (sSeq (sDrop (sCall m_need_like (sCons (sVar 0) sNil)))
  (sSeq (sDrop (sCall m_need_games_alike (sCons (sVar 0) sNil)))
  (sRetN (sCallN m_shares_of (sCons (sVar 0) sNil)))))
theorem sc_turning_shares : FnScope ["records"] ["records"] (defScope st_turning_shares) := ⟨rfl, rfl, rfl, by decide +kernel, rfl, by decide +kernel, by decide +kernel⟩
def m_turning_shares : List D → Option Ot := dSem 1 1 b_turning_shares
theorem ok_turning_shares (k : Kn bs ds K mg) : Df P w K mg base (gK K) "turning_shares" 6 1 m_turning_shares := by
  obtain ⟨fd, F⟩ := k.fn 33 (d := dm_turning_shares) rfl
  exact df_mk (j := 5) (k.glo 64) F sc_turning_shares rfl (fun _ _ _ _ _ _ us hl => match us, hl with | [_], _ => rfl) fun cdv A outer s H E hr => (s_cons (s_expr (ca (ok_need_like k) (ary_dSem _ _ _) (hr.mono (by decide)) wok_def (a_cons (pv 0) a_nil)))
  (s_cons (s_expr (ca (ok_need_games_alike k) (ary_dSem _ _ _) (hr.mono (by decide)) wok_def (a_cons (pv 0) a_nil)))
  (s_one (s_retN (caN (ok_shares_of k) (ary_dSem _ _ _) (hr.mono (by decide)) wok_def (a_cons (pv 0) a_nil))))))
def l_law_lowest_1 : SSem := (sPar 2 3 (sCons (sBin oMod (sVar 3) (sVar 2)) (sCons (sVar 2) sNil)))
def b_law_lowest : SSem := (sSeq (sPar 2 3 (sCons (sBlt oAbs (sCons (sVar 0) sNil)) (sCons (sVar 1) sNil)))
  (sSeq (sWhile (fuelI 2) (sT (sBin oGt (sVar 2) (sC (.int 0)))) l_law_lowest_1)
  (sRet (sTup (sCons (sBin oDiv (sVar 0) (sVar 3)) (sCons (sBin oDiv (sVar 1) (sVar 3)) sNil))))))
theorem sc_law_lowest : FnScope ["top", "bottom", "one", "other"] ["top", "bottom"] (defScope st_law_lowest) := ⟨rfl, rfl, rfl, by decide +kernel, rfl, by decide +kernel, by decide +kernel⟩
def m_law_lowest : List D → Option Ot := dSem 4 2 b_law_lowest
theorem ok_law_lowest (k : Kn bs ds K mg) : Df P w K mg base (gK K) "_law_lowest" 1 2 m_law_lowest := by
  obtain ⟨fd, F⟩ := k.fn 34 (d := dm_law_lowest) rfl
  exact df_mk (j := 0) (k.glo 65) F sc_law_lowest rfl (fun _ _ _ _ _ _ us hl => match us, hl with | [_, _], _ => rfl) fun cdv A outer s H E hr => (s_cons (st_par sc_law_lowest.nd (a_cons (bB b_abs (k.free 3) (a_cons (pv 0) a_nil)) (a_cons (pv 1) a_nil)))
  (s_cons (st_while (fuelI 2) (t_cm c_gt (pv 2) d_int) (s_one (st_par sc_law_lowest.nd (a_cons (d_mod (pv 3) (pv 2)) (a_cons (pv 2) a_nil)))))
  (s_one (s_ret (d_tup (a_cons (d_div (pv 0) (pv 3)) (a_cons (d_div (pv 1) (pv 3)) a_nil)))))))
def p_count_rankings_1 : Smx Bool := (sT (sChain oLt oLt (sC (.int 0)) (sBin oIx (sVar 3) (sC (.int 0))) (sBin oIx (sVar 3) (sC (.int 1)))))
def c_count_rankings_2 : Sem := (sVar 3)
def b_count_rankings : SSem := (sSeq (sDrop (sCall m_need_like (sCons (sVar 0) sNil)))
  (sSeq (sDrop (sCall m_need_games_alike (sCons (sVar 0) sNil)))
  (sSeq (sAsg (sF (sCallN m_shares_of (sCons (sVar 0) sNil))) (gVar 1))
  (sSeq (sAsg (sBlt oLen (sCons (sF (sLc (iSeq (sVar 1)) (gVar 3) p_count_rankings_1 c_count_rankings_2 [3])) sNil)) (gVar 2))
  (sRet (sBin (dI2 fun i j => .int (i + j)) (sBin (dI2 fun i j => .int (i + j)) (sBlt oLen (sCons (sVar 1) sNil)) (sVar 2)) (sC (.int 1))))))))
theorem sc_count_rankings : FnScope ["records", "found", "inner", "share"] ["records"] (defScope st_count_rankings) := ⟨rfl, rfl, rfl, by decide +kernel, rfl, by decide +kernel, by decide +kernel⟩
def m_count_rankings : List D → Option Ot := dSem 4 1 b_count_rankings
theorem ok_count_rankings (k : Kn bs ds K mg) : Df P w K mg base (gK K) "count_rankings" 6 1 m_count_rankings := by
  obtain ⟨fd, F⟩ := k.fn 35 (d := dm_count_rankings) rfl
  exact df_mk (j := 5) (k.glo 66) F sc_count_rankings rfl (fun _ _ _ _ _ _ us hl => match us, hl with | [_], _ => rfl) fun cdv A outer s H E hr => (s_cons (s_expr (ca (ok_need_like k) (ary_dSem _ _ _) (hr.mono (by decide)) wok_def (a_cons (pv 0) a_nil)))
  (s_cons (s_expr (ca (ok_need_games_alike k) (ary_dSem _ _ _) (hr.mono (by decide)) wok_def (a_cons (pv 0) a_nil)))
  (s_cons (st_set sc_count_rankings.nd (d_f (caN (ok_shares_of k) (ary_dSem _ _ _) (hr.mono (by decide)) wok_def (a_cons (pv 0) a_nil))))
  (s_cons (st_set sc_count_rankings.nd (bB b_len (k.free 0) (a_cons (d_f (lc [("share", 3)] sc_count_rankings.nd (i_seq (pv 1)) (gc_var (by decide)) (fun _ _ _ _ _ => (pgn sc_count_rankings.nd)) (fun _ _ _ _ _ => (c_one (t_ch c_lt c_lt d_int (d_ix (pv 3) d_int) (d_ix (pv 3) d_int)))) (fun _ _ _ _ _ => (pv 3)))) a_nil)))
  (s_one (s_ret (d_addI (d_addI (bB b_len (k.free 0) (a_cons (pv 1) a_nil)) (pv 2)) d_int)))))))
def b_is_share : SSem := (sSeq (sIf (bOr (bNot (sT (sIsi (.ty "tuple") (sVar 0)))) (bOr (sT (sBin oNe (sBlt oLen (sCons (sVar 0) sNil)) (sC (.int 2)))) (bNot (sT (sCall m_is_between (sCons (sBin oIx (sVar 0) (sC (.int 1))) (sCons (sC (.int 1)) (sCons (sC (.int (1000))) sNil)))))))) (sRet (sC (.bl false))) sSkip)
  (sRet (sCall m_is_between (sCons (sBin oIx (sVar 0) (sC (.int 0))) (sCons (sC (.int 0)) (sCons (sBin oIx (sVar 0) (sC (.int 1))) sNil))))))
theorem sc_is_share : FnScope ["value"] ["value"] (defScope st_is_share) := ⟨rfl, rfl, rfl, by decide +kernel, rfl, by decide +kernel, by decide +kernel⟩
def m_is_share : List D → Option Ot := dSem 1 1 b_is_share
theorem ok_is_share (k : Kn bs ds K mg) : Df P w K mg base (gK K) "is_share" 2 1 m_is_share := by
  obtain ⟨fd, F⟩ := k.fn 36 (d := dm_is_share) rfl
  exact df_mk (j := 1) (k.glo 67) F sc_is_share rfl (fun _ _ _ _ _ _ us hl => match us, hl with | [_], _ => rfl) fun cdv A outer s H E hr => (s_cons (s_if (t_or (t_not (t_val (isi (cT (k.free 22)) (k.is_ 23) (k.free 8) (pv 0)))) (t_or (t_cm (c_ne hr) (bB b_len (k.free 0) (a_cons (pv 0) a_nil)) d_int) (t_or1 (t_not (t_val (ca (ok_is_between k) (ary_dSem _ _ _) (hr.mono (by decide)) wok_def (a_cons (d_ix (pv 0) d_int) (a_cons d_int (a_cons (pgi (k.int 12)) a_nil))))))))).pt (s_one (s_ret d_bl)) s_nil)
  (s_one (s_ret (ca (ok_is_between k) (ary_dSem _ _ _) (hr.mono (by decide)) wok_def (a_cons (d_ix (pv 0) d_int) (a_cons d_int (a_cons (d_ix (pv 0) d_int) a_nil)))))))
def c_ranked_at_1 : Sem := (sBin (dI2 fun i j => .int (i + j)) (sBin oMul (sProp 0 m_Record_wins (sVar 5)) (sBin oIx (sVar 1) (sC (.int 1)))) (sBin oMul (sProp 0 m_Record_draws (sVar 5)) (sBin oIx (sVar 1) (sC (.int 0)))))
def p_ranked_at_2 : Smx Bool := (sT (sBin oEq (sVar 7) (sVar 4)))
def c_ranked_at_3 : Sem := (sVar 6)
def l_ranked_at_4 : SSem := (sApp 3 (sF (sLc (iEnq (sCons (sVar 2) sNil)) (gTupD 2 (gsCons (gVar 6) (gsCons (gVar 7) gsNil))) p_ranked_at_2 c_ranked_at_3 [6, 7])))
def b_ranked_at : SSem := (sSeq (sDrop (sCall m_need_like (sCons (sVar 0) sNil)))
  (sSeq (sIf (bNot (sT (sCall m_is_share (sCons (sVar 1) sNil)))) sNoS sSkip)
  (sSeq (sDrop (sCall m_need_games_alike (sCons (sVar 0) sNil)))
  (sSeq (sAsg (sF (sLc (iSeq (sVar 0)) (gVar 5) bYes c_ranked_at_1 [5])) (gVar 2))
  (sSeq (sOwn (sLst sNil) 3)
  (sSeq (sFor (iSeq (sRv (sF (sSrtSet (sVar 2))))) (gVar 4) l_ranked_at_4)
  (sRetO 3)))))))
theorem sc_ranked_at : FnScope ["records", "share", "totals", "found", "total", "record", "index", "here"] ["records", "share"] (defScope st_ranked_at) := ⟨rfl, rfl, rfl, by decide +kernel, rfl, by decide +kernel, by decide +kernel⟩
def m_ranked_at : List D → Option Ot := dSem 8 2 b_ranked_at
theorem ok_ranked_at (k : Kn bs ds K mg) : Df P w K mg base (gK K) "ranked_at" 4 2 m_ranked_at := by
  obtain ⟨fd, F⟩ := k.fn 37 (d := dm_ranked_at) rfl
  exact df_mk (j := 3) (k.glo 70) F sc_ranked_at rfl (fun _ _ _ _ _ _ us hl => match us, hl with | [_, _], _ => rfl) fun cdv A outer s H E hr => (s_cons (s_expr (ca (ok_need_like k) (ary_dSem _ _ _) (hr.mono (by decide)) wok_def (a_cons (pv 0) a_nil)))
  (s_cons (s_if (t_not (t_val (ca (ok_is_share k) (ary_dSem _ _ _) (hr.mono (by decide)) wok_def (a_cons (pv 1) a_nil)))) (s_one s_no) s_nil)
  (s_cons (s_expr (ca (ok_need_games_alike k) (ary_dSem _ _ _) (hr.mono (by decide)) wok_def (a_cons (pv 0) a_nil)))
  (s_cons (st_lc [("record", 5)] sc_ranked_at.nd (i_seq (pv 0)) (gc_var (by decide)) (fun _ _ _ _ _ => (pgn sc_ranked_at.nd)) (fun _ _ _ _ _ => c_nil) (fun _ _ _ _ _ => (d_addI (d_mulI (d_prop (ok_Record_wins k) (hr.mono (by decide)) (pv 5)) (d_ix (pv 1) d_int)) (d_mulI (d_prop (ok_Record_draws k) (hr.mono (by decide)) (pv 5)) (d_ix (pv 1) d_int)))))
  (s_cons (st_own sc_ranked_at.nd (n_lst a_nil))
  (s_cons (st_for (i_seq (d_rv (d_f (n_srtset (k.free 68) (k.free 69) (pv 2))))) (gv sc_ranked_at.nd) (s_one (st_app (d_f (lc [("index", 6), ("here", 7)] sc_ranked_at.nd (ienq (a_cons (pv 2) a_nil) (k.free 55)) (gc_tup (gcs_cons (gc_var (by decide)) (gcs_cons (gc_var (by decide)) gcs_nil))) (fun _ _ _ _ _ => (pgt (pgs_cons (pgn sc_ranked_at.nd) (pgs_cons (pgn sc_ranked_at.nd) pgs_nil)))) (fun _ _ _ _ _ => (c_one (t_cm (c_eq hr) (pv 7) (pv 4)))) (fun _ _ _ _ _ => (pv 6)))))))
  (s_one st_retO)))))))
def l_always_ahead_1 : SSem := (sIf (bNot (sT (sCall m_is_between (sCons (sVar 3) (sCons (sC (.int 0)) (sCons (sBin oSub (sBlt oLen (sCons (sVar 0) sNil)) (sC (.int 1))) sNil)))))) sNoS sSkip)
def b_always_ahead : SSem := (sSeq (sDrop (sCall m_need_like (sCons (sVar 0) sNil)))
  (sSeq (sFor (iSeq (sTup (sCons (sVar 1) (sCons (sVar 2) sNil)))) (gVar 3) l_always_ahead_1)
  (sSeq (sDrop (sCall m_need_games_alike (sCons (sVar 0) sNil)))
  (sSeq (sPar 4 5 (sCons (sBin oIx (sVar 0) (sVar 1)) (sCons (sBin oIx (sVar 0) (sVar 2)) sNil)))
  (sRet (sAnd (sBin oGt (sProp 0 m_Record_wins (sVar 4)) (sProp 0 m_Record_wins (sVar 5))) (sBin oGt (sBin (dI2 fun i j => .int (i + j)) (sProp 0 m_Record_wins (sVar 4)) (sProp 0 m_Record_draws (sVar 4))) (sBin (dI2 fun i j => .int (i + j)) (sProp 0 m_Record_wins (sVar 5)) (sProp 0 m_Record_draws (sVar 5))))))))))
theorem sc_always_ahead : FnScope ["records", "index", "other", "place", "one", "two"] ["records", "index", "other"] (defScope st_always_ahead) := ⟨rfl, rfl, rfl, by decide +kernel, rfl, by decide +kernel, by decide +kernel⟩
def m_always_ahead : List D → Option Ot := dSem 6 3 b_always_ahead
theorem ok_always_ahead (k : Kn bs ds K mg) : Df P w K mg base (gK K) "always_ahead" 4 3 m_always_ahead := by
  obtain ⟨fd, F⟩ := k.fn 38 (d := dm_always_ahead) rfl
  exact df_mk (j := 3) (k.glo 71) F sc_always_ahead rfl (fun _ _ _ _ _ _ us hl => match us, hl with | [_, _, _], _ => rfl) fun cdv A outer s H E hr => (s_cons (s_expr (ca (ok_need_like k) (ary_dSem _ _ _) (hr.mono (by decide)) wok_def (a_cons (pv 0) a_nil)))
  (s_cons (st_for (i_seq (d_tup (a_cons (pv 1) (a_cons (pv 2) a_nil)))) (gv sc_always_ahead.nd) (s_one (s_if (t_not (t_val (ca (ok_is_between k) (ary_dSem _ _ _) (hr.mono (by decide)) wok_def (a_cons (pv 3) (a_cons d_int (a_cons (d_sub (bB b_len (k.free 0) (a_cons (pv 0) a_nil)) d_int) a_nil)))))) (s_one s_no) s_nil)))
  (s_cons (s_expr (ca (ok_need_games_alike k) (ary_dSem _ _ _) (hr.mono (by decide)) wok_def (a_cons (pv 0) a_nil)))
  (s_cons (st_par sc_always_ahead.nd (a_cons (d_ix (pv 0) (pv 1)) (a_cons (d_ix (pv 0) (pv 2)) a_nil)))
  (s_one (s_ret (d_and (d_cm c_gt (d_prop (ok_Record_wins k) (hr.mono (by decide)) (pv 4)) (d_prop (ok_Record_wins k) (hr.mono (by decide)) (pv 5))) (d_one (d_cm c_gt (d_addI (d_prop (ok_Record_wins k) (hr.mono (by decide)) (pv 4)) (d_prop (ok_Record_draws k) (hr.mono (by decide)) (pv 4))) (d_addI (d_prop (ok_Record_wins k) (hr.mono (by decide)) (pv 5)) (d_prop (ok_Record_draws k) (hr.mono (by decide)) (pv 5))))))))))))
def l_law_1 : SSem := (sSeq (sAsg (sBin oRep (sTup (sCons (sTup (sCons (sC (.int 0)) (sCons (sC (.int 1)) sNil))) sNil)) (sVar 7)) (gVar 8))
  (sSeq (sIf (sT (sBin oNe (sCall m_place_range (sCons (sVar 5) (sCons (sVar 6) (sCons (sVar 8) (sCons (sC (.int 0)) sNil))))) (sTup (sCons (sC (.int 1)) (sCons (sIfE (sT (sBin oGe (sVar 4) (sVar 7))) (sC (.int 1)) (sC (.int 2))) sNil))))) (sRet (sC (.bl false))) sSkip)
  (sSeq (sIf (sT (sBin oNe (sCall m_place_range (sCons (sVar 5) (sCons (sVar 6) (sCons (sVar 8) (sCons (sC (.int 1)) sNil))))) (sTup (sCons (sIfE (sT (sBin oLe (sVar 4) (sVar 7))) (sC (.int 1)) (sC (.int 2))) (sCons (sIfE (sT (sBin oGt (sBin (dI2 fun i j => .int (i + j)) (sVar 4) (sVar 7)) (sC (.int 0)))) (sC (.int 2)) (sC (.int 1))) sNil))))) (sRet (sC (.bl false))) sSkip)
  (sSeq (sIf (sT (sBin oNe (sCall m_enough (sCons (sVar 5) (sCons (sVar 6) (sCons (sVar 8) (sCons (sC (.int 0)) sNil))))) (sBin (dI2 fun i j => .int (i + j)) (sBin oMul (sBin oMul (sC (.int 2)) (sVar 3)) (sVar 4)) (sBin oMul (sVar 3) (sBlt oMax2 (sCons (sC (.int 0)) (sCons (sBin oSub (sVar 7) (sVar 4)) sNil))))))) (sRet (sC (.bl false))) sSkip)
  (sSeq (sAsg (sIfE (sT (sBin oGt (sVar 4) (sVar 7))) (sC .non) (sBin oAdd (sBin oRep (sTup (sCons (sC (.str "draw")) sNil)) (sBin oSub (sVar 7) (sVar 4))) (sBin oRep (sTup (sCons (sC (.str "loss")) sNil)) (sVar 4)))) (gVar 9))
  (sIf (sT (sBin oNe (sCall m_results_for (sCons (sVar 5) (sCons (sVar 6) (sCons (sVar 8) (sCons (sC (.int 1)) (sCons (sC (.int 1)) sNil)))))) (sVar 9))) (sRet (sC (.bl false))) sSkip))))))
def l_law_2 : SSem := (sSeq (sOwn (sCallN m_law_source (sCons (sVar 0) (sCons (sVar 1) sNil))) 2)
  (sSeq (sPar 3 4 (sCons (sBin (dI2 fun i j => .int (i + j)) (sC (.int 1)) (sCallIO 2 m_law_draw (sCons (sC (.int 9)) sNil))) (sCons (sCallIO 2 m_law_draw (sCons (sC (.int 4)) sNil)) sNil)))
  (sSeq (sAsg (sMake 1 m_System___init__ (sCons (sBin oMul (sC (.int 2)) (sVar 3)) (sCons (sVar 3) (sCons (sC (.int 0)) sNil)))) (gVar 5))
  (sSeq (sAsg (sTup (sCons (sMake 0 m_Record___init__ (sCons (sVar 4) (sCons (sC (.int 0)) (sCons (sC (.int 0)) sNil)))) (sCons (sMake 0 m_Record___init__ (sCons (sC (.int 0)) (sCons (sC (.int 0)) (sCons (sVar 4) sNil)))) sNil))) (gVar 6))
  (sSeq (sFor (iRange1 (sCons (sC (.int 5)) sNil)) (gVar 7) l_law_1)
  (sSeq (sAsg (sBin (dI2 fun i j => .int (i + j)) (sC (.int 1)) (sCallIO 2 m_law_draw (sCons (sC (.int 8)) sNil))) (gVar 10))
  (sSeq (sAsg (sTup (sCons (sMake 0 m_Record___init__ (sCons (sVar 10) (sCons (sC (.int 0)) (sCons (sBin oSub (sC (.int 9)) (sVar 10)) sNil)))) (sCons (sMake 0 m_Record___init__ (sCons (sC (.int 0)) (sCons (sC (.int 9)) (sCons (sC (.int 0)) sNil)))) sNil))) (gVar 11))
  (sSeq (sIf (bOr (sT (sBin oNe (sF (sCallN m_turning_shares (sCons (sVar 11) sNil))) (sF (sLst (sCons (sCall m_law_lowest (sCons (sVar 10) (sCons (sC (.int 9)) sNil))) sNil))))) (sT (sBin oNe (sCall m_count_rankings (sCons (sVar 11) sNil)) (sC (.int 3))))) (sRet (sC (.bl false))) sSkip)
  (sSeq (sIf (bOr (sT (sBin oNe (sF (sCallN m_ranked_at (sCons (sVar 11) (sCons (sTup (sCons (sVar 10) (sCons (sC (.int 9)) sNil))) sNil)))) (sF (sLst (sCons (sF (sLst (sCons (sC (.int 0)) (sCons (sC (.int 1)) sNil)))) sNil))))) (sT (sBin oNe (sF (sCallN m_ranked_at (sCons (sVar 11) (sCons (sTup (sCons (sC (.int 0)) (sCons (sC (.int 1)) sNil))) sNil)))) (sF (sLst (sCons (sF (sLst (sCons (sC (.int 0)) sNil))) (sCons (sF (sLst (sCons (sC (.int 1)) sNil))) sNil))))))) (sRet (sC (.bl false))) sSkip)
  (sIf (bOr (sT (sBin oNe (sF (sCallN m_ranked_at (sCons (sVar 11) (sCons (sTup (sCons (sC (.int 1)) (sCons (sC (.int 1)) sNil))) sNil)))) (sF (sLst (sCons (sF (sLst (sCons (sC (.int 1)) sNil))) (sCons (sF (sLst (sCons (sC (.int 0)) sNil))) sNil)))))) (sT (sBin oNotB (sCall m_always_ahead (sCons (sVar 11) (sCons (sC (.int 0)) (sCons (sC (.int 1)) sNil)))) (sC (.bl false))))) (sRet (sC (.bl false))) sSkip))))))))))
def c_law_3 : Sem := (sCall m_enough (sCons (sVar 12) (sCons (sVar 6) (sCons (sTup (sCons (sTup (sCons (sC (.int 0)) (sCons (sC (.int 1)) sNil))) sNil)) (sCons (sVar 13) sNil)))))
def b_law : SSem := (sSeq (sFor (iRange1 (sCons (sBin (dI2 fun i j => .int (i + j)) (sC (.int 1)) (sBlt oMin2 (sCons (sBlt oLen (sCons (sVar 0) sNil)) (sCons (sC (.int 8)) sNil)))) sNil)) (gVar 1) l_law_2)
  (sSeq (sAsg (sTup (sCons (sMake 1 m_System___init__ (sCons (sC (.int 3)) (sCons (sC (.int 1)) (sCons (sC (.int 0)) sNil)))) (sCons (sTup (sCons (sMake 0 m_Record___init__ (sCons (sC (.int 2)) (sCons (sC (.int 0)) (sCons (sC (.int 0)) sNil)))) (sCons (sMake 0 m_Record___init__ (sCons (sC (.int 1)) (sCons (sC (.int 1)) (sCons (sC (.int 0)) sNil)))) (sCons (sMake 0 m_Record___init__ (sCons (sC (.int 0)) (sCons (sC (.int 1)) (sCons (sC (.int 2)) sNil)))) sNil)))) sNil))) (gTupD 2 (gsCons (gVar 12) (gsCons (gVar 6) gsNil))))
  (sSeq (sIf (sT (sBin oNe (sF (sLc (iSeq (sF (sLst (sCons (sC (.int 0)) (sCons (sC (.int 1)) (sCons (sC (.int 2)) sNil)))))) (gVar 13) bYes c_law_3 [13])) (sF (sLst (sCons (sC (.int 7)) (sCons (sC (.int 7)) (sCons (sC .non) sNil))))))) (sRet (sC (.bl false))) sSkip)
  (sSeq (sIf (sT (sBin oNe (sCall m_place_range (sCons (sVar 12) (sCons (sVar 6) (sCons (sTup (sCons (sTup (sCons (sC (.int 0)) (sCons (sC (.int 1)) sNil))) (sCons (sTup (sCons (sC (.int 1)) (sCons (sC (.int 2)) sNil))) sNil))) (sCons (sC (.int 2)) sNil))))) (sTup (sCons (sC (.int 2)) (sCons (sC (.int 3)) sNil))))) (sRet (sC (.bl false))) sSkip)
  (sRet (sBin oEq (sCall m_results_for (sCons (sVar 12) (sCons (sVar 6) (sCons (sTup (sCons (sTup (sCons (sC (.int 1)) (sCons (sC (.int 2)) sNil))) (sCons (sTup (sCons (sC (.int 0)) (sCons (sC (.int 1)) sNil))) sNil))) (sCons (sC (.int 2)) (sCons (sC (.int 2)) sNil)))))) (sTup (sCons (sC (.str "loss")) (sCons (sC (.str "win")) sNil)))))))))
theorem sc_law : FnScope ["script", "k", "source", "draw", "lead", "system", "rows", "games", "left", "due", "wins", "two", "three", "index"] ["script"] (defScope st_law) := ⟨rfl, rfl, rfl, by decide +kernel, rfl, by decide +kernel, by decide +kernel⟩
def m_law : List D → Option Ot := dSem 14 1 b_law
theorem fn_law (k : Kn bs ds K mg) {fd : FuncData} (F : Fun K "law" "law" st_law (He.ga K "law") fd) : FnOk P w K mg base (L2.CX P w) 7 (He.ga K "law") fd ["script"] (spD K (gK K) 1 m_law) :=
  def_ok F sc_law fun cdv A outer s H E hr => (s_cons (st_for (ir1 (a_cons (d_addI d_int (bB (b_min2 rfl) (k.free 1) (a_cons (bB b_len (k.free 0) (a_cons (pv 0) a_nil)) (a_cons d_int a_nil)))) a_nil) (k.free 2)) (gv sc_law.nd) (s_cons (st_own sc_law.nd (caN (ok_law_source k) (ary_dSem _ _ _) (hr.mono (by decide)) wok_def (a_cons (pv 0) (a_cons (pv 1) a_nil))))
  (s_cons (st_par sc_law.nd (a_cons (d_addI d_int (caI (ok_law_draw k) (ary_dSemIO _ _ _) (hr.mono (by decide)) wok_def (a_cons d_int a_nil))) (a_cons (caI (ok_law_draw k) (ary_dSemIO _ _ _) (hr.mono (by decide)) wok_def (a_cons d_int a_nil)) a_nil)))
  (s_cons (st_set sc_law.nd (mk_ (ok_System___init__ k) (ary_mSem _ _ _ _ _) (hr.mono (by decide)) wok_def (a_cons (d_mulI d_int (pv 3)) (a_cons (pv 3) (a_cons d_int a_nil)))))
  (s_cons (st_set sc_law.nd (d_tup (a_cons (mk_ (ok_Record___init__ k) (ary_mSem _ _ _ _ _) (hr.mono (by decide)) wok_def (a_cons (pv 4) (a_cons d_int (a_cons d_int a_nil)))) (a_cons (mk_ (ok_Record___init__ k) (ary_mSem _ _ _ _ _) (hr.mono (by decide)) wok_def (a_cons d_int (a_cons d_int (a_cons (pv 4) a_nil)))) a_nil))))
  (s_cons (st_for (ir1 (a_cons d_int a_nil) (k.free 2)) (gv sc_law.nd) (s_cons (st_set sc_law.nd (d_rep (d_tup (a_cons (d_tup (a_cons d_int (a_cons d_int a_nil))) a_nil)) (pv 7)))
  (s_cons (s_if (t_cm (c_ne hr) (ca (ok_place_range k) (ary_dSem _ _ _) (hr.mono (by decide)) wok_def (a_cons (pv 5) (a_cons (pv 6) (a_cons (pv 8) (a_cons d_int a_nil))))) (d_tup (a_cons d_int (a_cons (d_ifE (t_cm c_ge (pv 4) (pv 7)) d_int d_int) a_nil)))) (s_one (s_ret d_bl)) s_nil)
  (s_cons (s_if (t_cm (c_ne hr) (ca (ok_place_range k) (ary_dSem _ _ _) (hr.mono (by decide)) wok_def (a_cons (pv 5) (a_cons (pv 6) (a_cons (pv 8) (a_cons d_int a_nil))))) (d_tup (a_cons (d_ifE (t_cm c_le (pv 4) (pv 7)) d_int d_int) (a_cons (d_ifE (t_cm c_gt (d_addI (pv 4) (pv 7)) d_int) d_int d_int) a_nil)))) (s_one (s_ret d_bl)) s_nil)
  (s_cons (s_if (t_cm (c_ne hr) (ca (ok_enough k) (ary_dSem _ _ _) (hr.mono (by decide)) wok_def (a_cons (pv 5) (a_cons (pv 6) (a_cons (pv 8) (a_cons d_int a_nil))))) (d_addI (d_mulI (d_mulI d_int (pv 3)) (pv 4)) (d_mulI (pv 3) (bB (b_max2 rfl) (k.free 46) (a_cons d_int (a_cons (d_sub (pv 7) (pv 4)) a_nil)))))) (s_one (s_ret d_bl)) s_nil)
  (s_cons (st_set sc_law.nd (d_ifE (t_cm c_gt (pv 4) (pv 7)) d_non (d_add (d_rep (d_tup (a_cons d_str a_nil)) (d_sub (pv 7) (pv 4))) (d_rep (d_tup (a_cons d_str a_nil)) (pv 4)))))
  (s_one (s_if (t_cm (c_ne hr) (ca (ok_results_for k) (ary_dSem _ _ _) (hr.mono (by decide)) wok_def (a_cons (pv 5) (a_cons (pv 6) (a_cons (pv 8) (a_cons d_int (a_cons d_int a_nil)))))) (pv 9)) (s_one (s_ret d_bl)) s_nil))))))))
  (s_cons (st_set sc_law.nd (d_addI d_int (caI (ok_law_draw k) (ary_dSemIO _ _ _) (hr.mono (by decide)) wok_def (a_cons d_int a_nil))))
  (s_cons (st_set sc_law.nd (d_tup (a_cons (mk_ (ok_Record___init__ k) (ary_mSem _ _ _ _ _) (hr.mono (by decide)) wok_def (a_cons (pv 10) (a_cons d_int (a_cons (d_sub d_int (pv 10)) a_nil)))) (a_cons (mk_ (ok_Record___init__ k) (ary_mSem _ _ _ _ _) (hr.mono (by decide)) wok_def (a_cons d_int (a_cons d_int (a_cons d_int a_nil)))) a_nil))))
  (s_cons (s_if (t_or (t_cm (c_ne hr) (d_f (caN (ok_turning_shares k) (ary_dSem _ _ _) (hr.mono (by decide)) wok_def (a_cons (pv 11) a_nil))) (d_f (n_lst (a_cons (ca (ok_law_lowest k) (ary_dSem _ _ _) (hr.mono (by decide)) wok_def (a_cons (pv 10) (a_cons d_int a_nil))) a_nil)))) (t_or1 (t_cm (c_ne hr) (ca (ok_count_rankings k) (ary_dSem _ _ _) (hr.mono (by decide)) wok_def (a_cons (pv 11) a_nil)) d_int))).pt (s_one (s_ret d_bl)) s_nil)
  (s_cons (s_if (t_or (t_cm (c_ne hr) (d_f (caN (ok_ranked_at k) (ary_dSem _ _ _) (hr.mono (by decide)) wok_def (a_cons (pv 11) (a_cons (d_tup (a_cons (pv 10) (a_cons d_int a_nil))) a_nil)))) (d_f (n_lst (a_cons (d_f (n_lst (a_cons d_int (a_cons d_int a_nil)))) a_nil)))) (t_or1 (t_cm (c_ne hr) (d_f (caN (ok_ranked_at k) (ary_dSem _ _ _) (hr.mono (by decide)) wok_def (a_cons (pv 11) (a_cons (d_tup (a_cons d_int (a_cons d_int a_nil))) a_nil)))) (d_f (n_lst (a_cons (d_f (n_lst (a_cons d_int a_nil))) (a_cons (d_f (n_lst (a_cons d_int a_nil))) a_nil))))))).pt (s_one (s_ret d_bl)) s_nil)
  (s_one (s_if (t_or (t_cm (c_ne hr) (d_f (caN (ok_ranked_at k) (ary_dSem _ _ _) (hr.mono (by decide)) wok_def (a_cons (pv 11) (a_cons (d_tup (a_cons d_int (a_cons d_int a_nil))) a_nil)))) (d_f (n_lst (a_cons (d_f (n_lst (a_cons d_int a_nil))) (a_cons (d_f (n_lst (a_cons d_int a_nil))) a_nil))))) (t_or1 (t_cm c_notB (ca (ok_always_ahead k) (ary_dSem _ _ _) (hr.mono (by decide)) wok_def (a_cons (pv 11) (a_cons d_int (a_cons d_int a_nil)))) d_bl))).pt (s_one (s_ret d_bl)) s_nil))))))))))))
  (s_cons (s_asg (d_tup (a_cons (mk_ (ok_System___init__ k) (ary_mSem _ _ _ _ _) (hr.mono (by decide)) wok_def (a_cons d_int (a_cons d_int (a_cons d_int a_nil)))) (a_cons (d_tup (a_cons (mk_ (ok_Record___init__ k) (ary_mSem _ _ _ _ _) (hr.mono (by decide)) wok_def (a_cons d_int (a_cons d_int (a_cons d_int a_nil)))) (a_cons (mk_ (ok_Record___init__ k) (ary_mSem _ _ _ _ _) (hr.mono (by decide)) wok_def (a_cons d_int (a_cons d_int (a_cons d_int a_nil)))) (a_cons (mk_ (ok_Record___init__ k) (ary_mSem _ _ _ _ _) (hr.mono (by decide)) wok_def (a_cons d_int (a_cons d_int (a_cons d_int a_nil)))) a_nil)))) a_nil))) (gt (gs_cons (gv sc_law.nd) (gs_cons (gv sc_law.nd) gs_nil))))
  (s_cons (s_if (t_cm (c_ne hr) (d_f (lc [("index", 13)] sc_law.nd (i_seq (d_f (n_lst (a_cons d_int (a_cons d_int (a_cons d_int a_nil)))))) (gc_var (by decide)) (fun _ _ _ _ _ => (pgn sc_law.nd)) (fun _ _ _ _ _ => c_nil) (fun _ _ _ _ _ => (ca (ok_enough k) (ary_dSem _ _ _) (hr.mono (by decide)) wok_0 (a_cons (pv 12) (a_cons (pv 6) (a_cons (d_tup (a_cons (d_tup (a_cons d_int (a_cons d_int a_nil))) a_nil)) (a_cons (pv 13) a_nil)))))))) (d_f (n_lst (a_cons d_int (a_cons d_int (a_cons d_non a_nil)))))) (s_one (s_ret d_bl)) s_nil)
  (s_cons (s_if (t_cm (c_ne hr) (ca (ok_place_range k) (ary_dSem _ _ _) (hr.mono (by decide)) wok_def (a_cons (pv 12) (a_cons (pv 6) (a_cons (d_tup (a_cons (d_tup (a_cons d_int (a_cons d_int a_nil))) (a_cons (d_tup (a_cons d_int (a_cons d_int a_nil))) a_nil))) (a_cons d_int a_nil))))) (d_tup (a_cons d_int (a_cons d_int a_nil)))) (s_one (s_ret d_bl)) s_nil)
  (s_one (s_ret (d_cm (c_eq hr) (ca (ok_results_for k) (ary_dSem _ _ _) (hr.mono (by decide)) wok_def (a_cons (pv 12) (a_cons (pv 6) (a_cons (d_tup (a_cons (d_tup (a_cons d_int (a_cons d_int a_nil))) (a_cons (d_tup (a_cons d_int (a_cons d_int a_nil))) a_nil))) (a_cons d_int (a_cons d_int a_nil)))))) (d_tup (a_cons d_str (a_cons d_str a_nil))))))))))
end
end Mk29
end
namespace Mk29
open PySem PySem.Spec PyProof.Rows L2 Mz
@[simp] theorem is_between_int (v lo hi : Int) : m_is_between [.int v, .int lo, .int hi] = some (.ok (.bl (decide (lo ≤ v) && decide (v ≤ hi))) false) := by
  by_cases h : lo ≤ v <;> by_cases h2 : v ≤ hi <;> simp [m_is_between, b_is_between, h, h2]
abbrev recD (a b c : Int) : D := .ins 0 [.tup [.int a, .int b, .int c]]
theorem Record_ok (a b c : Int) (ha : 0 ≤ a) (hb : 0 ≤ b) (hc : 0 ≤ c) (h : a + b + c ≤ 500) : m_Record___init__ [.int a, .int b, .int c] = some (.ok [.tup [.int a, .int b, .int c]]) := by
  have h1 : a ≤ 500 := by omega
  have h2 : b ≤ 500 := by omega
  have h3 : c ≤ 500 := by omega
  have h4 : ¬ (500 < a + b + c) := by omega
  simp [m_Record___init__, b_Record___init__, l_Record___init___1, forGo, ha, hb, hc, h1, h2, h3, h4, sizeLine_eq]
structure Src (d : D) : Prop where
  ex : ∃ a b : Int, d = .lst [.int a, .int b] ∧ 0 ≤ a ∧ 0 ≤ b ∧ b < 2147483648
theorem draw_ok {s : D} (h : Src s) (n : Int) (hn : 0 < n) (hn2 : n < 1073741824) : ∃ d s', m_law_draw s [.int n] = some (.ok (.int d) false s') ∧ Src s' ∧ 0 ≤ d ∧ d < n := by
  obtain ⟨a, b, rfl, ha, hb, hb2⟩ := h.ex
  by_cases h0 : 0 < a
  · refine ⟨a % n, .lst [.int (a / n), .int b], ?_, ⟨_, _, rfl, Int.ediv_nonneg ha (by omega), hb, hb2⟩, Int.emod_nonneg _ (by omega), Int.emod_lt_of_pos _ hn⟩
    simp [m_law_draw, b_law_draw, h0, hn, hn2, atI, ixN]
  · have k1 : 0 ≤ b * 48271 % 2147483647 := Int.emod_nonneg _ (by omega)
    have k2 : b * 48271 % 2147483647 < 2147483647 := Int.emod_lt_of_pos _ (by omega)
    have k3 : (b * 48271 % 2147483647).natAbs < 18446744073709551616 := by omega
    refine ⟨b * 48271 % 2147483647 * (b * 48271 % 2147483647) % 2147483629 / 64 % n, .lst [.int a, .int (b * 48271 % 2147483647)], ?_, ⟨_, _, rfl, ha, k1, by omega⟩, Int.emod_nonneg _ (by omega), Int.emod_lt_of_pos _ hn⟩
    simp [m_law_draw, b_law_draw, h0, hn, hn2, atI, ixN, k3]
theorem source_ok (ns : List Int) (k : Int) (hk : 0 ≤ k) : ∃ s, m_law_source [.ro ns, .int k] = some (.ok s true) ∧ Src s := by
  have c1 : (10 : Int) ^ 18 = 1000000000000000000 := by decide
  have pos : ∀ c : Int, 0 ≤ (1 + c % 2147483646) ∧ (1 + c % 2147483646) < 2147483648 := fun c => by
    have := Int.emod_nonneg c (b := 2147483646) (by omega)
    have := Int.emod_lt_of_pos c (b := 2147483646) (by omega)
    omega
  by_cases h : k < (ns.length : Int)
  · obtain ⟨c, hc⟩ : ∃ c, atI ns k = some c := by
      have hl : k.toNat < ns.length := by omega
      refine ⟨ns[k.toNat], ?_⟩
      simp only [atI, ixN]
      have h1 : (if k < 0 then k + (ns.length : Int) else k) = k := by rw [if_neg (by omega)]
      simp [h1, hk, h, hl]
    obtain ⟨C, hC⟩ : ∃ C : Int, C = if c < 0 then -c else c := ⟨_, rfl⟩
    have hC0 : 0 ≤ C := by rw [hC]; split <;> omega
    by_cases h2 : C < 1000000000000000000
    · refine ⟨.lst [.int 0, .int (1 + (C * 7919 + 104729 * k) % 2147483646)], ?_, ⟨_, _, rfl, by omega, (pos _).1, (pos _).2⟩⟩
      simp [m_law_source, b_law_source, h, hc, ← hC, h2, c1, sizeLine_eq]
    · refine ⟨.lst [.int C, .int (1 + (C + k) % 2147483646)], ?_, ⟨_, _, rfl, hC0, (pos _).1, (pos _).2⟩⟩
      simp [m_law_source, b_law_source, h, hc, ← hC, h2, c1, sizeLine_eq]
  · refine ⟨.lst [.int 0, .int (1 + (0 * 7919 + 104729 * k) % 2147483646)], ?_, ⟨_, _, rfl, by omega, (pos _).1, (pos _).2⟩⟩
    simp [m_law_source, b_law_source, h, c1, sizeLine_eq]
theorem atI_nat {α : Type} {l : List α} {i : Int} (h0 : 0 ≤ i) (h1 : i < (l.length : Int)) : ∃ h : i.toNat < l.length, atI l i = some l[i.toNat] := by
  have hl : i.toNat < l.length := by omega
  refine ⟨hl, ?_⟩
  simp only [atI, ixN]
  have e : (if i < 0 then i + (l.length : Int) else i) = i := by rw [if_neg (by omega)]
  simp [e, h0, h1, hl]

abbrev T3 := Int × Int × Int
abbrev tD (t : T3) : D := .tup [.int t.1, .int t.2.1, .int t.2.2]
abbrev rD (t : T3) : D := recD t.1 t.2.1 t.2.2
def tot (w d l : Int) (t : T3) : Int := w * t.1 + d * t.2.1 + l * t.2.2
def othr (w d l : Int) (ts : List T3) (ix : Nat) : List Int := ((ts.zipIdx).filter fun p => !decide ((p.2 : Int) = (ix : Int))).map fun p => tot w d l p.1
structure PtOk (w d l : Int) : Prop where
  l0 : 0 ≤ l
  ld : l ≤ d
  dw : d ≤ w
  lw : l < w
  w1 : w ≤ 1000

abbrev sysD (w d l : Int) : D := .ins 1 [.tup [.int w, .int d, .int l]]
theorem System_ok (w d l : Int) (h0 : 0 ≤ l) (h1 : l ≤ d) (h2 : d ≤ w) (h3 : l < w) (h4 : w ≤ 1000) : m_System___init__ [.int w, .int d, .int l] = some (.ok [.tup [.int w, .int d, .int l]]) := by
  have k1 : 0 ≤ w := by omega
  have k2 : 0 ≤ d := by omega
  have k3 : d ≤ 1000 := by omega
  have k4 : l ≤ 1000 := by omega
  have k5 : ¬ l = w := by omega
  simp [m_System___init__, b_System___init__, l_System___init___1, forGo, h0, h1, h2, h4, k1, k2, k3, k4, k5, sizeLine_eq]
@[simp] theorem need_record_ok (a b c : Int) : m_need_record [recD a b c] = some (.ok .non false) := by simp [m_need_record, b_need_record]
theorem total_of_ok (w d l a b c : Int) (hw : w.natAbs < 1000000) (hd : d.natAbs < 1000000) (hl : l.natAbs < 1000000) : m_total_of [.tup [.int w, .int d, .int l], .tup [.int a, .int b, .int c]] = some (.ok (.int (w * a + d * b + l * c)) false) := by
  have k1 : w.natAbs < 18446744073709551616 := by omega
  have k2 : d.natAbs < 18446744073709551616 := by omega
  have k3 : l.natAbs < 18446744073709551616 := by omega
  simp [m_total_of, b_total_of, c_total_of_1, zipD, kLc, lcGo, wipeE, oSumQ, oSum, oListI, toInts, k1, k2, k3, sizeLine_eq, Int.add_assoc]
theorem call_ok (w d l a b c : Int) (hw : w.natAbs < 1000000) (hd : d.natAbs < 1000000) (hl : l.natAbs < 1000000) : m_System___call__ [sysD w d l, recD a b c] = some (.ok (.int (w * a + d * b + l * c)) false) := by
  simp [m_System___call__, b_System___call__, total_of_ok w d l a b c hw hd hl]

@[simp] theorem need_system_ok (w d l : Int) : m_need_system [sysD w d l] = some (.ok .non false) := by simp [m_need_system, b_need_system]

@[simp] theorem games_ok (a b c : Int) : m_Record_games [recD a b c] = some (.ok (.int (a + b + c)) false) := by
  simp [m_Record_games, b_Record_games, oSumQ, oSum, oListI, oSumT, oTupI, toInts, Int.add_assoc]
@[simp] theorem wins_ok (a b c : Int) : m_Record_wins [recD a b c] = some (.ok (.int a) false) := by simp [m_Record_wins, b_Record_wins, atI, ixN]
@[simp] theorem draws_ok (a b c : Int) : m_Record_draws [recD a b c] = some (.ok (.int b) false) := by simp [m_Record_draws, b_Record_draws, atI, ixN]

@[simp] theorem swin_ok (w d l : Int) : m_System_win [sysD w d l] = some (.ok (.int w) false) := by simp [m_System_win, b_System_win, atI, ixN]
@[simp] theorem sdraw_ok (w d l : Int) : m_System_draw [sysD w d l] = some (.ok (.int d) false) := by simp [m_System_draw, b_System_draw, atI, ixN]
@[simp] theorem sloss_ok (w d l : Int) : m_System_loss [sysD w d l] = some (.ok (.int l) false) := by simp [m_System_loss, b_System_loss, atI, ixN]

structure T3Ok (n : Int) (t : T3) : Prop where
  a0 : 0 ≤ t.1
  b0 : 0 ≤ t.2.1
  c0 : 0 ≤ t.2.2
  s1 : t.1 + t.2.1 + t.2.2 ≤ n

abbrev pD (p : Nat × Nat) : D := .tup [.int (p.1 : Nat), .int (p.2 : Nat)]
structure FxOk (n : Nat) (left : List (Nat × Nat)) : Prop where
  ok : ∀ p ∈ left, p.1 < n ∧ p.2 < n ∧ p.1 ≠ p.2

theorem need_teams_ok (ts : List T3) (h1 : 2 ≤ ts.length) (h2 : ts.length ≤ 6) : m_need_teams [.tup (ts.map rD)] = some (.ok .non false) := by
  have k := kLc_E (t := gVar 1) (el := c_need_teams_1) (vs := [1]) (l := ts) (ι := rD) (φ := fun _ => .bl true) (P := fun e => e.length = 2) (by omega) (fun e he t ht => by
    ((repeat (have hxQ := len_succ he; clear he; obtain ⟨_, _, heQ, he⟩ := hxQ; subst heQ)); (have hzQ := len_zero he; subst hzQ))
    simp [c_need_teams_1, wipeE])
  have k1 := k [.val (.tup (ts.map rD)), .un] rfl
  have k2 : (2 : Int) ≤ (ts.length : Int) := by omega
  have k3 : (ts.length : Int) ≤ 6 := by omega
  have k4 : oAll [.lst (ts.map fun _ => .bl true)] = some (.bl true) := by simp [oAll]
  simp [m_need_teams, b_need_teams, k1, k2, k3, k4]
theorem need_fix1 (ts : List T3) (p : Nat × Nat) (h1 : p.1 < ts.length) (h2 : p.2 < ts.length) (h3 : p.1 ≠ p.2) (x1 x3 : Sl) :
    l_need_fixtures_2 [.val (.tup (ts.map rD)), x1, .val (pD p), x3] = some (.nx [.val (.tup (ts.map rD)), x1, .val (pD p), .un]) := by
  have k1 : kLc (gVar 3) bYes c_need_fixtures_1 [3] [.int (p.1 : Nat), .int (p.2 : Nat)] [.val (.tup (ts.map rD)), x1, .val (pD p), x3] = some (.ok (.lst [.bl true, .bl true]) [.val (.tup (ts.map rD)), x1, .val (pD p), .un]) := by
    have a1 : (p.1 : Int) ≤ (ts.length : Int) - 1 := by omega
    have a2 : (p.2 : Int) ≤ (ts.length : Int) - 1 := by omega
    simp [kLc, lcGo, wipeE, c_need_fixtures_1, a1, a2, sizeLine_eq]
  have k4 : oAll [.lst [.bl true, .bl true]] = some (.bl true) := by simp [oAll, toBls]
  have k5 : ¬ ((p.1 : Int) = (p.2 : Int)) := by omega
  simp [l_need_fixtures_2, k1, k4, k5, h3, atI, ixN]
theorem need_fixtures_ok (ts : List T3) (left : List (Nat × Nat)) (hl : left.length ≤ 6) (h : FxOk ts.length left) : m_need_fixtures [.tup (ts.map rD), .tup (left.map pD)] = some (.ok .non false) := by
  obtain ⟨e', g, he, h0⟩ := go_inv (t := gVar 2) (body := l_need_fixtures_2) (f := pD) (l := left) (inv := fun e => e.length = 4 ∧ e[0]? = some (.val (.tup (ts.map rD)))) (e := [.val (.tup (ts.map rD)), .val (.tup (left.map pD)), .un, .un])
    (fun p e hp hi => by
      obtain ⟨he, h0⟩ := hi
      ((repeat (have hxQ := len_succ he; clear he; obtain ⟨_, _, heQ, he⟩ := hxQ; subst heQ)); (have hzQ := len_zero he; subst hzQ))
      (have hsQ := Option.some.inj h0; subst hsQ)
      obtain ⟨k1, k2, k3⟩ := h.ok p hp
      exact ⟨_, need_fix1 ts p k1 k2 k3 _ _, rfl, rfl⟩) ⟨rfl, rfl⟩
  have k3 : ¬ ((6 : Int) < (left.length : Int)) := by omega
  simp [m_need_fixtures, b_need_fixtures, g, k3]
theorem need_team_ok (ts : List T3) (ix : Nat) (h : ix < ts.length) : m_need_team [.tup (ts.map rD), .int (ix : Nat)] = some (.ok .non false) := by
  have k1 : (0 : Int) ≤ (ix : Int) := by omega
  have k2 : (ix : Int) ≤ (ts.length : Int) - 1 := by omega
  simp [m_need_team, b_need_team, k1, k2]
/-- teams, games left -/
structure Fix (ts : List T3) (left : List (Nat × Nat)) : Prop where
  n2 : 2 ≤ ts.length
  n6 : ts.length ≤ 6
  l6 : left.length ≤ 6
  fx : FxOk ts.length left
theorem need_ends_ok (w d l : Int) {ts : List T3} {left : List (Nat × Nat)} (h : Fix ts left) {ix : Nat} (hi : ix < ts.length) : m_need_ends [sysD w d l, .tup (ts.map rD), .tup (left.map pD), .int (ix : Nat)] = some (.ok .non false) := by
  have k1 := need_teams_ok ts h.n2 h.n6
  have k2 := need_fixtures_ok ts left h.l6 h.fx
  have k3 := need_team_ok ts ix hi
  simp [m_need_ends, b_need_ends, k1, k2, k3]

inductive R3 where
  | d | l | w
deriving DecidableEq
def R3.s : R3 → Str
  | .d => "draw"
  | .l => "loss"
  | .w => "win"
abbrev rsD (rs : List R3) : D := .tup (rs.map fun r => .str r.s)
abbrev Oc := List R3 × List Int
abbrev ocT (o : Oc) : D := .tup [rsD o.1, .tup (o.2.map .int)]
def gn (w d l : Int) : R3 → Int × Int
  | .d => (d, d)
  | .l => (l, w)
  | .w => (w, l)
def bump (ts : List Int) (i : Nat) (x : Int) : List Int := ts.set i (ts.getD i 0 + x)
def play (w d l : Int) (ts : List Int) (p : Nat × Nat) (r : R3) : List Int := bump (bump ts p.1 (gn w d l r).1) p.2 (gn w d l r).2
def all3 : List R3 := [.d, .l, .w]
def step3 (w d l : Int) (p : Nat × Nat) (o : Oc) : List Oc := all3.map fun r => (o.1 ++ [r], play w d l o.2 p r)
def step (w d l : Int) (os : List Oc) (p : Nat × Nat) : List Oc := os.flatMap (step3 w d l p)
def outs (w d l : Int) (ts : List Int) (left : List (Nat × Nat)) : List Oc := left.foldl (step w d l) [([], ts)]
theorem bump_len (ts : List Int) (i : Nat) (x : Int) : (bump ts i x).length = ts.length := by simp [bump]
theorem play_len (w d l : Int) (ts : List Int) (p : Nat × Nat) (r : R3) : (play w d l ts p r).length = ts.length := by simp [play, bump_len]
theorem step_len (w d l : Int) (os : List Oc) (p : Nat × Nat) : (step w d l os p).length = 3 * os.length := by
  unfold step
  induction os with
  | nil => rfl
  | cons o os ih => rw [List.flatMap_cons, List.length_append, ih]; simp [step3, all3]; omega
/-- each outcome has so many totals, so many results -/
def OcN (n k : Nat) (os : List Oc) : Prop := ∀ o ∈ os, o.2.length = n ∧ o.1.length = k
theorem step_ok {w d l : Int} {n k : Nat} {os : List Oc} {p : Nat × Nat} (h : OcN n k os) : OcN n (k + 1) (step w d l os p) := fun o ho => by
  obtain ⟨o1, h1, h2⟩ := List.mem_flatMap.mp ho
  obtain ⟨r, _, rfl⟩ := List.mem_map.mp h2
  exact ⟨by rw [play_len]; exact (h o1 h1).1, by simp [(h o1 h1).2]⟩
theorem outs_ok (w d l : Int) (ts : List Int) : ∀ (left : List (Nat × Nat)) {os : List Oc} {k : Nat}, OcN ts.length k os → OcN ts.length (k + left.length) (left.foldl (step w d l) os) ∧ (left.foldl (step w d l) os).length = 3 ^ left.length * os.length
  | [], os, k, h => ⟨by simpa using h, by simp⟩
  | p :: left, os, k, h => by
    have ih := outs_ok w d l ts left (step_ok (w := w) (d := d) (l := l) (p := p) h)
    rw [step_len] at ih
    refine ⟨by rw [List.length_cons, show k + (left.length + 1) = k + 1 + left.length by omega]; exact ih.1, ?_⟩
    rw [List.foldl_cons, ih.2, List.length_cons, Nat.pow_succ, Nat.mul_assoc]
theorem atI_set (l : List Int) (i : Nat) (h : i < l.length) : atI (l.map D.int) (i : Int) = some (.int (l.getD i 0)) := by
  rw [atI_map, atI_nt, List.getD_eq_getElem?_getD, List.getElem?_eq_getElem h] <;> rfl
theorem dget3 (a b c : D) : dGet [.inr "win", .inr "draw", .inr "loss"] [a, b, c] (.inr (R3.s .d)) = some b ∧ dGet [.inr "win", .inr "draw", .inr "loss"] [a, b, c] (.inr (R3.s .l)) = some c ∧ dGet [.inr "win", .inr "draw", .inr "loss"] [a, b, c] (.inr (R3.s .w)) = some a := by
  have n1 : ¬ (Sum.inr (α := Int) (Str.ofString "win") = Sum.inr (Str.ofString "draw")) := by decide
  have n2 : ¬ (Sum.inr (α := Int) (Str.ofString "win") = Sum.inr (Str.ofString "loss")) := by decide
  have n3 : ¬ (Sum.inr (α := Int) (Str.ofString "draw") = Sum.inr (Str.ofString "loss")) := by decide
  refine ⟨?_, ?_, ?_⟩
  · simp [dGet, R3.s, n1]
  · simp [dGet, R3.s, n2, n3]
  · simp [dGet, R3.s]
def gainsD (w d l : Int) : D := .dct [.inr "win", .inr "draw", .inr "loss"] [.tup [.int w, .int l], .tup [.int d, .int d], .tup [.int l, .int w]]
theorem gains_get (w d l : Int) (r : R3) : oDGet (gainsD w d l) (.str r.s) = some (.tup [.int (gn w d l r).1, .int (gn w d l r).2]) := by
  cases r
  · exact (dget3 _ _ _).1
  · exact (dget3 _ _ _).2.1
  · exact (dget3 _ _ _).2.2
theorem ends_2 {w d l : Int} (p : Nat × Nat) (o : Oc) (r : R3) (acc : List Oc) (hp1 : p.1 < o.2.length) (hp2 : p.2 < o.2.length) (hz : acc.length ≤ 1000) (ho : o.1.length ≤ 1000) (hl : o.2.length ≤ 1000) (x0 x1 x2 x4 x11 x12 : Sl) :
    l_all_ends_2 [x0, x1, x2, .val (gainsD w d l), x4, .val (.int (p.1 : Nat)), .val (.int (p.2 : Nat)), .own (.lst (acc.map ocT)), .val (rsD o.1), .val (.tup (o.2.map .int)), .val (.str r.s), x11, x12] =
    some (.nx [x0, x1, x2, .val (gainsD w d l), x4, .val (.int (p.1 : Nat)), .val (.int (p.2 : Nat)), .own (.lst ((acc ++ [(o.1 ++ [r], play w d l o.2 p r)]).map ocT)), .val (rsD o.1), .val (.tup (o.2.map .int)), .val (.str r.s), .own (.lst ((play w d l o.2 p r).map .int)), x12]) := by
  have k1 := gains_get w d l r
  have k2 := atI_set o.2 p.1 hp1
  have e1 : ∀ (l : List Int) (i : Nat) (x : Int), (l.map D.int).set i (.int x) = (l.set i x).map .int := fun l i x => by rw [List.map_set]
  have k3 := atI_set (bump o.2 p.1 (gn w d l r).1) p.2 (by rw [bump_len]; exact hp2)
  have k4 : ixN o.2.length (p.1 : Int) = some p.1 := ixN_lt hp1
  have k5 : ixN o.2.length (p.2 : Int) = some p.2 := ixN_lt hp2
  have e2 : o.2.set p.1 (o.2.getD p.1 0 + (gn w d l r).1) = bump o.2 p.1 (gn w d l r).1 := rfl
  have e3 : (bump o.2 p.1 (gn w d l r).1).set p.2 ((bump o.2 p.1 (gn w d l r).1).getD p.2 0 + (gn w d l r).2) = play w d l o.2 p r := rfl
  have hb := bump_len o.2 p.1 (gn w d l r).1
  obtain ⟨B, hB⟩ : ∃ z : List Int, bump o.2 p.1 (gn w d l r).1 = z := ⟨_, rfl⟩
  rw [hB] at k3 e2 e3 hb
  obtain ⟨Pl, hP⟩ : ∃ z : List Int, play w d l o.2 p r = z := ⟨_, rfl⟩
  rw [hP] at e3 ⊢
  obtain ⟨g1, hg1⟩ : ∃ z : Int, (gn w d l r).1 = z := ⟨_, rfl⟩
  obtain ⟨g2, hg2⟩ : ∃ z : Int, (gn w d l r).2 = z := ⟨_, rfl⟩
  obtain ⟨v1, hv1⟩ : ∃ z : Int, o.2.getD p.1 0 = z := ⟨_, rfl⟩
  obtain ⟨v2, hv2⟩ : ∃ z : Int, B.getD p.2 0 = z := ⟨_, rfl⟩
  rw [hg1, hg2] at k1
  rw [hv1] at k2
  rw [hv2] at k3
  rw [hv1, hg1] at e2
  rw [hv2, hg2] at e3
  have q1 : (o.2.map D.int).set p.1 (.int (v1 + g1)) = B.map .int := by rw [e1, e2]
  have q2 : (B.map D.int).set p.2 (.int (v2 + g2)) = Pl.map .int := by rw [e1, e3]
  have z1 : acc.length < 16777216 := by omega
  have z2 : o.1.length ≤ 16777215 := by omega
  have z3 : Pl.length ≤ 16777216 := by rw [← hP, play_len]; omega
  simp [l_all_ends_2, k1, k2, k3, k4, k5, q1, q2, hb, z1, z2, z3, sizeLine_eq]
theorem ends_3 {w d l : Int} (p : Nat × Nat) (o : Oc) (acc : List Oc) (hp1 : p.1 < o.2.length) (hp2 : p.2 < o.2.length) (hz : acc.length ≤ 900) (ho : o.1.length ≤ 1000) (hl : o.2.length ≤ 1000) (x0 x1 x2 x4 x8 x9 x10 x11 x12 : Sl) :
    ∃ x8' x9' x10' x11', (gTupD 2 (gsCons (gVar 8) (gsCons (gVar 9) gsNil)) (ocT o) [x0, x1, x2, .val (gainsD w d l), x4, .val (.int (p.1 : Nat)), .val (.int (p.2 : Nat)), .own (.lst (acc.map ocT)), x8, x9, x10, x11, x12]).bind l_all_ends_3 =
    some (.nx [x0, x1, x2, .val (gainsD w d l), x4, .val (.int (p.1 : Nat)), .val (.int (p.2 : Nat)), .own (.lst ((acc ++ step3 w d l p o).map ocT)), x8', x9', x10', x11', x12]) := by
  have f1 := fun (acc : List Oc) (r : R3) (hz : acc.length ≤ 1000) (x11 : Sl) => ends_2 (w := w) (d := d) (l := l) p o r acc hp1 hp2 hz ho hl x0 x1 x2 x4 x11 x12
  have e1 := f1 acc .d (by omega) x11
  have e2 := fun x11 => f1 (acc ++ [(o.1 ++ [R3.d], play w d l o.2 p .d)]) .l (by simp; omega) x11
  have e3 := fun x11 => f1 (acc ++ [(o.1 ++ [R3.d], play w d l o.2 p .d)] ++ [(o.1 ++ [R3.l], play w d l o.2 p .l)]) .w (by simp; omega) x11
  refine ⟨.val (rsD o.1), .val (.tup (o.2.map .int)), .val (.str (R3.s .w)), .own (.lst ((play w d l o.2 p .w).map .int)), ?_⟩
  have g : forGo (gVar 10) l_all_ends_2 [.str (R3.s .d), .str (R3.s .l), .str (R3.s .w)] [x0, x1, x2, .val (gainsD w d l), x4, .val (.int (p.1 : Nat)), .val (.int (p.2 : Nat)), .own (.lst (acc.map ocT)), .val (rsD o.1), .val (.tup (o.2.map .int)), x10, x11, x12] = _ :=
    (forGo_cons rfl e1).trans ((forGo_cons rfl (e2 _)).trans ((forGo_cons rfl (e3 _)).trans rfl))
  have e4 : acc ++ [(o.1 ++ [R3.d], play w d l o.2 p .d)] ++ [(o.1 ++ [R3.l], play w d l o.2 p .l)] ++ [(o.1 ++ [R3.w], play w d l o.2 p .w)] = acc ++ step3 w d l p o := by simp [step3, all3]
  rw [e4] at g
  exact g
theorem ends_4 {w d l : Int} (n k : Nat) (p : Nat × Nat) (os : List Oc) (hk : k ≤ 900) (hn : n ≤ 900) (hp1 : p.1 < n) (hp2 : p.2 < n) (ho : OcN n k os) (hz : 3 * os.length ≤ 900) (x0 x1 x2 x5 x6 x7 x8 x9 x10 x11 x12 : Sl) :
    ∃ x5' x6' x7' x8' x9' x10' x11', (gTupD 2 (gsCons (gVar 5) (gsCons (gVar 6) gsNil)) (pD p) [x0, x1, x2, .val (gainsD w d l), .val (.lst (os.map ocT)), x5, x6, x7, x8, x9, x10, x11, x12]).bind l_all_ends_4 =
    some (.nx [x0, x1, x2, .val (gainsD w d l), .val (.lst ((step w d l os p).map ocT)), x5', x6', x7', x8', x9', x10', x11', x12]) := by
  obtain ⟨e', g, x8', x9', x10', x11', rfl⟩ := go_cat (t := gTupD 2 (gsCons (gVar 8) (gsCons (gVar 9) gsNil))) (body := l_all_ends_3) (f := ocT) (g := step3 w d l p) (N := 900) (l := os) (s := [])
    (inv := fun acc e => ∃ x8 x9 x10 x11, e = [x0, x1, x2, .val (gainsD w d l), .val (.lst (os.map ocT)), .val (.int (p.1 : Nat)), .val (.int (p.2 : Nat)), .own (.lst (acc.map ocT)), x8, x9, x10, x11, x12])
    (e := [x0, x1, x2, .val (gainsD w d l), .val (.lst (os.map ocT)), .val (.int (p.1 : Nat)), .val (.int (p.2 : Nat)), .own (.lst []), x8, x9, x10, x11, x12])
    (by have := step_len w d l os p; unfold step at this; rw [List.nil_append, this]; exact hz)
    (fun acc o e hm hl hi => by
      obtain ⟨x8, x9, x10, x11, rfl⟩ := hi
      obtain ⟨h1, h2⟩ := ho o hm
      obtain ⟨_, _, _, _, h⟩ := ends_3 (w := w) (d := d) (l := l) p o acc (by omega) (by omega) (by rw [List.length_append] at hl; omega) (by omega) (by omega) x0 x1 x2 (.val (.lst (os.map ocT))) x8 x9 x10 x11 x12
      exact ⟨_, h, _, _, _, _, rfl⟩) ⟨x8, x9, x10, x11, rfl⟩
  rw [List.nil_append] at g
  refine ⟨.val (.int (p.1 : Nat)), .val (.int (p.2 : Nat)), .val (.lst ((step w d l os p).map ocT)), x8', x9', x10', x11', ?_⟩
  have g' : forGo (gTupD 2 (gsCons (gVar 8) (gsCons (gVar 9) gsNil))) l_all_ends_3 (os.map ocT) [x0, x1, x2, .val (gainsD w d l), .val (.lst (os.map ocT)), .val (.int (p.1 : Nat)), .val (.int (p.2 : Nat)), .own (.lst []), x8, x9, x10, x11, x12] =
    some (.nx [x0, x1, x2, .val (gainsD w d l), .val (.lst (os.map ocT)), .val (.int (p.1 : Nat)), .val (.int (p.2 : Nat)), .own (.lst ((step w d l os p).map ocT)), x8', x9', x10', x11', x12]) := g
  simp [l_all_ends_4, g', pD]
theorem all_ends_ok {w d l : Int} (hp : PtOk w d l) {ts : List T3} {left : List (Nat × Nat)} (h : Fix ts left) : m_all_ends [sysD w d l, .tup (ts.map rD), .tup (left.map pD)] = some (.ok (.lst ((outs w d l (ts.map (tot w d l)) left).map ocT)) false) := by
  have n6 := h.n6
  have l6 := h.l6
  have k := kLc_E (t := gVar 12) (el := c_all_ends_1) (vs := [12]) (l := ts) (ι := rD) (φ := fun t => .int (tot w d l t)) (P := fun e => e.length = 13 ∧ e[0]? = some (.val (sysD w d l))) (by omega) (fun e he t ht => by
    obtain ⟨he, h0⟩ := he
    ((repeat (have hxQ := len_succ he; clear he; obtain ⟨_, _, heQ, he⟩ := hxQ; subst heQ)); (have hzQ := len_zero he; subst hzQ))
    (have hsQ := Option.some.inj h0; subst hsQ)
    have e := call_ok w d l t.1 t.2.1 t.2.2 (by have := hp.w1; have := hp.l0; have := hp.lw; omega) (by have := hp.w1; have := hp.l0; have := hp.ld; have := hp.dw; omega) (by have := hp.w1; have := hp.l0; have := hp.lw; omega)
    simp [c_all_ends_1, wipeE, e, tot])
  have k1 := k [.val (sysD w d l), .val (.tup (ts.map rD)), .val (.tup (left.map pD)), .val (gainsD w d l), .un, .un, .un, .un, .un, .un, .un, .un, .un] ⟨rfl, rfl⟩
  have o0 : OcN ts.length 0 [([], ts.map (tot w d l))] := fun o ho => by
    rw [List.mem_singleton.mp ho]; simp
  obtain ⟨e', g, x5, x6, x7, x8, x9, x10, x11, rfl⟩ := go_left (t := gTupD 2 (gsCons (gVar 5) (gsCons (gVar 6) gsNil))) (body := l_all_ends_4) (f := pD) (step := step w d l)
    (P := fun os r => ∃ k, OcN ts.length k os ∧ k + r.length ≤ 6 ∧ os.length * 3 ^ r.length ≤ 729 ∧ FxOk ts.length r)
    (inv := fun os e => ∃ x5 x6 x7 x8 x9 x10 x11, e = [.val (sysD w d l), .val (.tup (ts.map rD)), .val (.tup (left.map pD)), .val (gainsD w d l), .val (.lst (os.map ocT)), x5, x6, x7, x8, x9, x10, x11, .un])
    (fun os p r e hP hi => by
      obtain ⟨k, hk, hk2, hk3, hk4⟩ := hP
      obtain ⟨x5, x6, x7, x8, x9, x10, x11, rfl⟩ := hi
      have q := hk4.ok p (List.mem_cons_self ..)
      rw [List.length_cons] at hk2 hk3
      have q3 : os.length * 3 ≤ os.length * 3 ^ (r.length + 1) := Nat.mul_le_mul_left _ (by rw [Nat.pow_succ]; have := Nat.pow_pos (n := r.length) (show 0 < 3 by decide); omega)
      obtain ⟨_, _, _, _, _, _, _, hh⟩ := ends_4 (w := w) (d := d) (l := l) ts.length k p os (by omega) (by omega) q.1 q.2.1 hk (by omega) (.val (sysD w d l)) (.val (.tup (ts.map rD))) (.val (.tup (left.map pD))) x5 x6 x7 x8 x9 x10 x11 .un
      refine ⟨⟨k + 1, step_ok hk, by omega, by rw [step_len]; rw [Nat.pow_succ] at hk3; rw [Nat.mul_comm 3, Nat.mul_assoc, Nat.mul_comm 3]; exact hk3, ⟨fun p hp => hk4.ok p (List.mem_cons_of_mem _ hp)⟩⟩, _, hh, _, _, _, _, _, _, _, rfl⟩)
    (l := left) (s := [([], ts.map (tot w d l))]) (e := [.val (sysD w d l), .val (.tup (ts.map rD)), .val (.tup (left.map pD)), .val (gainsD w d l), .val (.lst ([([], ts.map (tot w d l))].map ocT)), .un, .un, .un, .un, .un, .un, .un, .un])
    ⟨0, o0, by omega, by rw [List.length_singleton, Nat.one_mul]; exact Nat.pow_le_pow_right (n := 3) (by decide) l6, h.fx⟩ ⟨_, _, _, _, _, _, _, rfl⟩
  have nd : (["win", "draw", "loss"] : List Str).Nodup := by decide
  have eg : D.dct ((["win", "draw", "loss"] : List Str).map .inr) [.tup [.int w, .int l], .tup [.int d, .int d], .tup [.int l, .int w]] = gainsD w d l := rfl
  simp only [List.map_cons, List.map_nil] at g eg
  have z1 : ts.length ≤ 16777216 := by omega
  have eo : ocT ([], ts.map (tot w d l)) = .tup [.tup [], .tup (ts.map fun t => .int (tot w d l t))] := by simp [ocT, rsD]
  rw [eo] at g
  simp [outs, m_all_ends, b_all_ends, nd, eg, wipeE, k1, g, z1, sizeLine_eq]


/-- the place of a team -/
def plc (ts : List Int) (ix : Nat) : Int := 1 + ((ts.filter fun t => decide (ts.getD ix 0 < t)).length : Nat)
theorem place_in_ok (ts : List Int) (ix : Nat) (h : ix < ts.length) (hz : ts.length ≤ 1000) : m_place_in [.tup (ts.map .int), .int (ix : Nat)] = some (.ok (.int (plc ts ix)) false) := by
  have e := atI_set ts ix h
  have k := kLc_EIf (t := gVar 2) (c := p_place_in_1) (el := c_place_in_2) (vs := [2]) (l := ts) (ι := D.int) (φ := D.int) (p := fun t => decide (ts.getD ix 0 < t)) (P := fun e => e.length = 3 ∧ e[0]? = some (.val (.tup (ts.map .int))) ∧ e[1]? = some (.val (.int (ix : Nat)))) (by omega) (fun en he t ht => by
    obtain ⟨he, h0, h1⟩ := he
    ((repeat (have hxQ := len_succ he; clear he; obtain ⟨_, _, heQ, he⟩ := hxQ; subst heQ)); (have hzQ := len_zero he; subst hzQ))
    (have hsQ := Option.some.inj h0; subst hsQ)
    (have hsQ := Option.some.inj h1; subst hsQ)
    simp [p_place_in_1, c_place_in_2, wipeE, e])
  have k1 := k [.val (.tup (ts.map .int)), .val (.int (ix : Nat)), .un] ⟨rfl, rfl, rfl⟩
  simp [m_place_in, b_place_in, k1, plc]
theorem outs_n {w d l : Int} {ts : List Int} {left : List (Nat × Nat)} : (∀ o ∈ outs w d l ts left, o.2.length = ts.length ∧ o.1.length = left.length) ∧ (outs w d l ts left).length = 3 ^ left.length := by
  have o0 : OcN ts.length 0 [([], ts)] := fun o ho => by
    rw [List.mem_singleton.mp ho]; simp
  have := outs_ok w d l ts left o0
  rw [Nat.zero_add, List.length_singleton, Nat.mul_one] at this
  exact this
theorem pow3 {n : Nat} (h : n ≤ 6) : 3 ^ n ≤ 729 := Nat.pow_le_pow_right (n := 3) (by decide) h
theorem outs_ne {w d l : Int} {ts : List Int} {left : List (Nat × Nat)} : outs w d l ts left ≠ [] := fun z => by
  have := outs_n (w := w) (d := d) (l := l) (ts := ts) (left := left).2
  rw [z] at this
  have := Nat.pow_pos (n := left.length) (show 0 < 3 by decide)
  simp at *
  omega
theorem maxI_some {l : List Int} (h : l ≠ []) : ∃ m, maxI l = some m := by
  cases l with
  | nil => exact absurd rfl h
  | cons a l => exact ⟨_, rfl⟩
theorem minI_some {l : List Int} (h : l ≠ []) : ∃ m, minI l = some m := by
  cases l with
  | nil => exact absurd rfl h
  | cons a l => exact ⟨_, rfl⟩
/-- the places of a team over all outcomes -/
def plcs (w d l : Int) (ts : List Int) (left : List (Nat × Nat)) (ix : Nat) : List Int := (outs w d l ts left).map fun o => plc o.2 ix
def loP (w d l : Int) (ts : List Int) (left : List (Nat × Nat)) (ix : Nat) : Int := (minI (plcs w d l ts left ix)).getD 0
def hiP (w d l : Int) (ts : List Int) (left : List (Nat × Nat)) (ix : Nat) : Int := (maxI (plcs w d l ts left ix)).getD 0
theorem plcs_ne {w d l : Int} {ts : List Int} {left : List (Nat × Nat)} {ix : Nat} : plcs w d l ts left ix ≠ [] := fun z => outs_ne (List.map_eq_nil_iff.mp z)
theorem lo_eq (w d l : Int) (ts : List Int) (left : List (Nat × Nat)) (ix : Nat) : minI (plcs w d l ts left ix) = some (loP w d l ts left ix) := by
  obtain ⟨m, h⟩ := minI_some (plcs_ne (w := w) (d := d) (l := l) (ts := ts) (left := left) (ix := ix))
  unfold loP
  rw [h] <;> rfl
theorem hi_eq (w d l : Int) (ts : List Int) (left : List (Nat × Nat)) (ix : Nat) : maxI (plcs w d l ts left ix) = some (hiP w d l ts left ix) := by
  obtain ⟨m, h⟩ := maxI_some (plcs_ne (w := w) (d := d) (l := l) (ts := ts) (left := left) (ix := ix))
  unfold hiP
  rw [h] <;> rfl
theorem place_range_ok {w d l : Int} (hp : PtOk w d l) {ts : List T3} {left : List (Nat × Nat)} (h : Fix ts left) {ix : Nat} (hi : ix < ts.length) :
    m_place_range [sysD w d l, .tup (ts.map rD), .tup (left.map pD), .int (ix : Nat)] = some (.ok (.tup [.int (loP w d l (ts.map (tot w d l)) left ix), .int (hiP w d l (ts.map (tot w d l)) left ix)]) false) := by
  have k1 := need_ends_ok w d l h hi
  have k2 := all_ends_ok hp h
  have n6 := h.n6
  have on := outs_n (w := w) (d := d) (l := l) (ts := ts.map (tot w d l)) (left := left)
  rw [List.length_map] at on
  have k := kLc_E (t := gTupD 2 (gsCons (gVar 5) (gsCons (gVar 6) gsNil))) (el := c_place_range_1) (vs := [5, 6]) (l := outs w d l (ts.map (tot w d l)) left) (ι := ocT) (φ := fun o => .int (plc o.2 ix)) (P := fun e => e.length = 7 ∧ e[3]? = some (.val (.int (ix : Nat)))) (by have := pow3 h.l6; omega) (fun e he o ho => by
    obtain ⟨he, h0⟩ := he
    ((repeat (have hxQ := len_succ he; clear he; obtain ⟨_, _, heQ, he⟩ := hxQ; subst heQ)); (have hzQ := len_zero he; subst hzQ))
    (have hsQ := Option.some.inj h0; subst hsQ)
    have q := on.1 o ho
    have e := place_in_ok o.2 ix (by omega) (by omega)
    simp [c_place_range_1, wipeE, e])
  have k3 := k [.val (sysD w d l), .val (.tup (ts.map rD)), .val (.tup (left.map pD)), .val (.int (ix : Nat)), .un, .un, .un] ⟨rfl, rfl⟩
  have e1 := lo_eq w d l (ts.map (tot w d l)) left ix
  have e2 := hi_eq w d l (ts.map (tot w d l)) left ix
  unfold plcs at e1 e2
  simp [m_place_range, b_place_range, k1, k2, k3, wipeE, e1, e2, sizeLine_eq]

theorem fm_map {α β γ : Type} (f : α → List β) (g : β → γ) : ∀ l : List α, (l.flatMap f).map g = l.flatMap fun a => (f a).map g
  | [] => rfl
  | a :: l => by rw [List.flatMap_cons, List.flatMap_cons, List.map_append, fm_map f g l]
theorem fm_fm {α β γ : Type} (f : α → List β) (g : β → List γ) : ∀ l : List α, (l.flatMap f).flatMap g = l.flatMap fun a => (f a).flatMap g
  | [] => rfl
  | a :: l => by rw [List.flatMap_cons, List.flatMap_cons, List.flatMap_append, fm_fm f g l]
theorem fm_ext {α β : Type} {f g : α → List β} : ∀ {l : List α}, (∀ a ∈ l, f a = g a) → l.flatMap f = l.flatMap g
  | [], _ => rfl
  | a :: l, h => by rw [List.flatMap_cons, List.flatMap_cons, h a (List.mem_cons_self ..), fm_ext fun b hb => h b (List.mem_cons_of_mem _ hb)]
theorem outs_go (w d l : Int) : ∀ (left : List (Nat × Nat)) (os : List Oc), left.foldl (step w d l) os = os.flatMap fun o => (outs w d l o.2 left).map fun q => (o.1 ++ q.1, q.2)
  | [], os => by
    have : ∀ os : List Oc, os = os.flatMap fun o => [(o.1 ++ [], o.2)] := fun os => by
      induction os with
      | nil => rfl
      | cons o os ih => rw [List.flatMap_cons, ← ih]; simp
    exact this os
  | p :: left, os => by
    rw [List.foldl_cons, outs_go w d l left]
    unfold step
    rw [fm_fm]
    refine fm_ext fun o _ => ?_
    have e : outs w d l o.2 (p :: left) = (step3 w d l p ([], o.2)).flatMap fun o => (outs w d l o.2 left).map fun q => (o.1 ++ q.1, q.2) := by
      show left.foldl (step w d l) (step w d l [([], o.2)] p) = _
      rw [outs_go w d l left]
      simp [step]
    rw [e, fm_map]
    simp [step3, all3, Function.comp_def]
theorem outs_cons (w d l : Int) (ts : List Int) (p : Nat × Nat) (left : List (Nat × Nat)) : outs w d l ts (p :: left) = all3.flatMap fun r => (outs w d l (play w d l ts p r) left).map fun q => (r :: q.1, q.2) := by
  show left.foldl (step w d l) (step w d l [([], ts)] p) = _
  rw [outs_go w d l left]
  simp [step, step3, all3]
def tots (w d l : Int) (ts : List Int) (left : List (Nat × Nat)) : List (List Int) := (outs w d l ts left).map (·.2)
theorem tots_nil (w d l : Int) (ts : List Int) : tots w d l ts [] = [ts] := rfl
theorem mem_all3 (r : R3) : r ∈ all3 := by cases r <;> simp [all3]
theorem mem_tots {w d l : Int} {ts : List Int} {p : Nat × Nat} {left : List (Nat × Nat)} {t : List Int} : t ∈ tots w d l ts (p :: left) ↔ ∃ r, t ∈ tots w d l (play w d l ts p r) left := by
  unfold tots
  rw [outs_cons]
  simp only [List.mem_map, List.mem_flatMap]
  constructor
  · rintro ⟨o, ⟨r, _, q, hq, rfl⟩, rfl⟩
    exact ⟨r, q, hq, rfl⟩
  · rintro ⟨r, q, hq, rfl⟩
    exact ⟨_, ⟨r, mem_all3 r, q, hq, rfl⟩, rfl⟩
theorem bump_get (ts : List Int) (i k : Nat) (x : Int) : (bump ts i x)[k]? = if i = k then ts[k]?.map (· + x) else ts[k]? := by
  unfold bump
  rw [List.getElem?_set]
  by_cases h : i = k
  · subst h
    rw [if_pos rfl, if_pos rfl, List.getD_eq_getElem?_getD]
    by_cases hl : i < ts.length
    · rw [if_pos hl, List.getElem?_eq_getElem hl] <;> rfl
    · rw [if_neg hl, List.getElem?_eq_none (by omega)] <;> rfl
  · rw [if_neg h, if_neg h]
theorem bump_comm (ts : List Int) (i j : Nat) (x y : Int) : bump (bump ts i x) j y = bump (bump ts j y) i x := by
  apply List.ext_getElem?
  intro k
  simp only [bump_get]
  by_cases h1 : i = k <;> by_cases h2 : j = k <;> simp [h1, h2]
  cases ts[k]? with
  | none => rfl
  | some v => simp; omega
theorem play_comm (w d l : Int) (ts : List Int) (p q : Nat × Nat) (r s : R3) : play w d l (play w d l ts p r) q s = play w d l (play w d l ts q s) p r := by
  unfold play
  rw [bump_comm (bump ts p.1 _) p.2 q.1, bump_comm (bump (bump ts p.1 _) q.1 _) p.2 q.2, bump_comm ts p.1 q.1, bump_comm (bump ts q.1 _) p.1 q.2]
theorem tots_perm {w d l : Int} {left left' : List (Nat × Nat)} (h : left.Perm left') : ∀ ts t, t ∈ tots w d l ts left ↔ t ∈ tots w d l ts left' := by
  induction h with
  | nil => exact fun ts t => Iff.rfl
  | cons p _ ih => exact fun ts t => by simp only [mem_tots, ih]
  | swap p q left =>
    intro ts t
    simp only [mem_tots]
    constructor
    · rintro ⟨r, s, h⟩
      exact ⟨s, r, by rw [play_comm]; exact h⟩
    · rintro ⟨r, s, h⟩
      exact ⟨s, r, by rw [play_comm]; exact h⟩
  | trans _ _ ih1 ih2 => exact fun ts t => (ih1 ts t).trans (ih2 ts t)
theorem plcs_tots (w d l : Int) (ts : List Int) (left : List (Nat × Nat)) (ix : Nat) : plcs w d l ts left ix = (tots w d l ts left).map fun t => plc t ix := by
  unfold plcs tots
  rw [List.map_map] <;> rfl
theorem lo_spec {w d l : Int} {ts : List Int} {left : List (Nat × Nat)} {ix : Nat} : (∃ t ∈ tots w d l ts left, plc t ix = loP w d l ts left ix) ∧ ∀ t ∈ tots w d l ts left, loP w d l ts left ix ≤ plc t ix := by
  have h := lo_eq w d l ts left ix
  rw [plcs_tots] at h
  obtain ⟨h1, h2⟩ := minI_spec h
  obtain ⟨t, ht, e⟩ := List.mem_map.mp h1
  exact ⟨⟨t, ht, e⟩, fun t ht => h2 _ (List.mem_map_of_mem ht)⟩
theorem hi_spec {w d l : Int} {ts : List Int} {left : List (Nat × Nat)} {ix : Nat} : (∃ t ∈ tots w d l ts left, plc t ix = hiP w d l ts left ix) ∧ ∀ t ∈ tots w d l ts left, plc t ix ≤ hiP w d l ts left ix := by
  have h := hi_eq w d l ts left ix
  rw [plcs_tots] at h
  obtain ⟨h1, h2⟩ := maxI_spec h
  obtain ⟨t, ht, e⟩ := List.mem_map.mp h1
  exact ⟨⟨t, ht, e⟩, fun t ht => h2 _ (List.mem_map_of_mem ht)⟩
/-- the ends depend on the places alone -/
theorem lo_of {w d l : Int} {ts : List Int} {left : List (Nat × Nat)} {ix : Nat} {m : Int} (h1 : ∃ t ∈ tots w d l ts left, plc t ix = m) (h2 : ∀ t ∈ tots w d l ts left, m ≤ plc t ix) : loP w d l ts left ix = m := by
  obtain ⟨⟨t, ht, e⟩, h⟩ := lo_spec (w := w) (d := d) (l := l) (ts := ts) (left := left) (ix := ix)
  obtain ⟨u, hu, e2⟩ := h1
  have := h u hu
  have := h2 t ht
  omega
theorem hi_of {w d l : Int} {ts : List Int} {left : List (Nat × Nat)} {ix : Nat} {m : Int} (h1 : ∃ t ∈ tots w d l ts left, plc t ix = m) (h2 : ∀ t ∈ tots w d l ts left, plc t ix ≤ m) : hiP w d l ts left ix = m := by
  obtain ⟨⟨t, ht, e⟩, h⟩ := hi_spec (w := w) (d := d) (l := l) (ts := ts) (left := left) (ix := ix)
  obtain ⟨u, hu, e2⟩ := h1
  have := h u hu
  have := h2 t ht
  omega
theorem lo_perm {w d l : Int} {left left' : List (Nat × Nat)} (h : left.Perm left') (ts : List Int) (ix : Nat) : loP w d l ts left ix = loP w d l ts left' ix := by
  obtain ⟨⟨t, ht, e⟩, hh⟩ := lo_spec (w := w) (d := d) (l := l) (ts := ts) (left := left') (ix := ix)
  exact lo_of ⟨t, (tots_perm h ts t).mpr ht, e⟩ fun t ht => hh t ((tots_perm h ts t).mp ht)
theorem hi_perm {w d l : Int} {left left' : List (Nat × Nat)} (h : left.Perm left') (ts : List Int) (ix : Nat) : hiP w d l ts left ix = hiP w d l ts left' ix := by
  obtain ⟨⟨t, ht, e⟩, hh⟩ := hi_spec (w := w) (d := d) (l := l) (ts := ts) (left := left') (ix := ix)
  exact hi_of ⟨t, (tots_perm h ts t).mpr ht, e⟩ fun t ht => hh t ((tots_perm h ts t).mp ht)
theorem lo_nil (w d l : Int) (ts : List Int) (ix : Nat) : loP w d l ts [] ix = plc ts ix := rfl
theorem hi_nil (w d l : Int) (ts : List Int) (ix : Nat) : hiP w d l ts [] ix = plc ts ix := rfl

theorem plc_ge (ts : List Int) (ix : Nat) : 1 ≤ plc ts ix := by unfold plc; omega
theorem plc_le (ts : List Int) (ix : Nat) (h : ix < ts.length) : plc ts ix ≤ ts.length := by
  unfold plc
  have : (ts.filter fun t => decide (ts.getD ix 0 < t)).length < ts.length := by
    rw [List.length_filter_lt_length_iff_exists]
    refine ⟨ts[ix], List.getElem_mem h, ?_⟩
    rw [List.getD_eq_getElem?_getD, List.getElem?_eq_getElem h]
    simp
  omega
theorem tots_len {w d l : Int} {ts : List Int} {left : List (Nat × Nat)} {t : List Int} (h : t ∈ tots w d l ts left) : t.length = ts.length := by
  obtain ⟨o, ho, rfl⟩ := List.mem_map.mp h
  exact (outs_n.1 o ho).1

def lateL (w d l : Int) (ts : List Int) (left : List (Nat × Nat)) (ix : Nat) : List Int := ((outs w d l ts left).filter fun o => decide (1 < plc o.2 ix)).map fun o => o.2.getD ix 0
def isGood (late : List Int) (v : Int) : Bool := match maxI late with
  | none => true
  | some m => decide (m < v)
def goodL (w d l : Int) (ts : List Int) (left : List (Nat × Nat)) (ix : Nat) : List Int := ((outs w d l ts left).filter fun o => isGood (lateL w d l ts left ix) (o.2.getD ix 0)).map fun o => o.2.getD ix 0
def enoV (w d l : Int) (ts : List Int) (left : List (Nat × Nat)) (ix : Nat) : Option Int := minI (goodL w d l ts left ix)
def oiD : Option Int → D
  | some m => .int m
  | none => .non
theorem ints_nice (l : List Int) : nice 1 (.lst (l.map .int)) := fun x hx => by
  obtain ⟨i, _, rfl⟩ := List.mem_map.mp hx; simp [nice]
theorem eq_nil_ints (l : List Int) : oEq (.lst (l.map .int)) (.lst []) = some (.bl l.isEmpty) := oEq_if (k := 1) (ints_nice l) (by simp [nice]) (by decide) (by cases l <;> simp)
theorem ne_nil_ints (l : List Int) : oNe (.lst (l.map .int)) (.lst []) = some (.bl (!l.isEmpty)) := oNe_if (k := 1) (ints_nice l) (by simp [nice]) (by decide) (by cases l <;> simp)
theorem max_ints (l : List Int) : oMaxQ [.lst (l.map .int)] = (maxI l).map .int := by
  have := oMaxQ_lst l id
  simpa using this
theorem min_ints (l : List Int) : oMinQ [.lst (l.map .int)] = (minI l).map .int := by
  have := oMinQ_lst l id
  simpa using this
theorem maxI_nil_iff (l : List Int) : maxI l = none ↔ l = [] := by
  cases l with
  | nil => simp [maxI]
  | cons a l => simp [maxI]
theorem minI_nil_iff (l : List Int) : minI l = none ↔ l = [] := by
  cases l with
  | nil => simp [minI]
  | cons a l => simp [minI]
theorem enough_ok {w d l : Int} (hp : PtOk w d l) {ts : List T3} {left : List (Nat × Nat)} (h : Fix ts left) {ix : Nat} (hi : ix < ts.length) :
    m_enough [sysD w d l, .tup (ts.map rD), .tup (left.map pD), .int (ix : Nat)] = some (.ok (oiD (enoV w d l (ts.map (tot w d l)) left ix)) false) := by
  have k1 := need_ends_ok w d l h hi
  have k2 := all_ends_ok hp h
  have n6 := h.n6
  have on := outs_n (w := w) (d := d) (l := l) (ts := ts.map (tot w d l)) (left := left)
  rw [List.length_map] at on
  have ol : (outs w d l (ts.map (tot w d l)) left).length ≤ 16777216 := by have := pow3 h.l6; omega
  have ka := kLc_EIf (t := gTupD 2 (gsCons (gVar 7) (gsCons (gVar 8) gsNil))) (c := p_enough_1) (el := c_enough_2) (vs := [7, 8]) (l := outs w d l (ts.map (tot w d l)) left) (ι := ocT) (φ := fun o => .int (o.2.getD ix 0)) (p := fun o => decide (1 < plc o.2 ix)) (P := fun e => e.length = 9 ∧ e[3]? = some (.val (.int (ix : Nat)))) ol (fun e he o ho => by
    obtain ⟨he, h0⟩ := he
    ((repeat (have hxQ := len_succ he; clear he; obtain ⟨_, _, heQ, he⟩ := hxQ; subst heQ)); (have hzQ := len_zero he; subst hzQ))
    (have hsQ := Option.some.inj h0; subst hsQ)
    have q := on.1 o ho
    have e := place_in_ok o.2 ix (by omega) (by omega)
    have e2 := atI_set o.2 ix (by omega)
    obtain ⟨v, hv⟩ : ∃ v : Int, o.2.getD ix 0 = v := ⟨_, rfl⟩
    rw [hv] at e2 ⊢
    simp [p_enough_1, c_enough_2, wipeE, e, e2])
  obtain ⟨late, hlate⟩ : ∃ z, lateL w d l (ts.map (tot w d l)) left ix = z := ⟨_, rfl⟩
  have kb := kLc_EIf (t := gTupD 2 (gsCons (gVar 7) (gsCons (gVar 8) gsNil))) (c := p_enough_3) (el := c_enough_4) (vs := [7, 8]) (l := outs w d l (ts.map (tot w d l)) left) (ι := ocT) (φ := fun o => .int (o.2.getD ix 0)) (p := fun o => isGood late (o.2.getD ix 0)) (P := fun e => e.length = 9 ∧ e[3]? = some (.val (.int (ix : Nat))) ∧ e[5]? = some (.val (.lst (late.map .int)))) ol (fun e he o ho => by
    obtain ⟨he, h0, h1⟩ := he
    ((repeat (have hxQ := len_succ he; clear he; obtain ⟨_, _, heQ, he⟩ := hxQ; subst heQ)); (have hzQ := len_zero he; subst hzQ))
    (have hsQ := Option.some.inj h0; subst hsQ)
    (have hsQ := Option.some.inj h1; subst hsQ)
    have q := on.1 o ho
    have e2 := atI_set o.2 ix (by omega)
    obtain ⟨v, hv⟩ : ∃ v : Int, o.2.getD ix 0 = v := ⟨_, rfl⟩
    rw [hv] at e2 ⊢
    have e3 := eq_nil_ints late
    have e4 := max_ints late
    unfold isGood
    cases hm : maxI late with
    | none =>
      rw [(maxI_nil_iff late).mp hm] at e3 ⊢
      have e3 : oEq (.lst []) (.lst []) = some (.bl true) := e3
      simp [p_enough_3, c_enough_4, wipeE, e2, e3]
    | some m =>
      have e5 : late.isEmpty = false := by
        cases late with
        | nil => cases hm
        | cons => rfl
      rw [hm] at e4
      rw [e5] at e3
      have e4 : oMaxQ [.lst (late.map .int)] = some (.int m) := e4
      simp [p_enough_3, c_enough_4, wipeE, e2, e3, e4])
  have e1 : ((outs w d l (ts.map (tot w d l)) left).filter fun o => decide (1 < plc o.2 ix)).map (fun o => D.int (o.2.getD ix 0)) = late.map .int := by rw [← hlate]; unfold lateL; rw [List.map_map] <;> rfl
  have e2 : ((outs w d l (ts.map (tot w d l)) left).filter fun o => isGood late (o.2.getD ix 0)).map (fun o => D.int (o.2.getD ix 0)) = (goodL w d l (ts.map (tot w d l)) left ix).map .int := by unfold goodL; rw [hlate, List.map_map] <;> rfl
  rw [e1] at ka
  rw [e2] at kb
  unfold enoV
  obtain ⟨good, hgood⟩ : ∃ z, goodL w d l (ts.map (tot w d l)) left ix = z := ⟨_, rfl⟩
  rw [hgood] at kb ⊢
  have ka1 := ka [.val (sysD w d l), .val (.tup (ts.map rD)), .val (.tup (left.map pD)), .val (.int (ix : Nat)), .val (.lst ((outs w d l (ts.map (tot w d l)) left).map ocT)), .un, .un, .un, .un] ⟨rfl, rfl⟩
  have kb1 := kb [.val (sysD w d l), .val (.tup (ts.map rD)), .val (.tup (left.map pD)), .val (.int (ix : Nat)), .val (.lst ((outs w d l (ts.map (tot w d l)) left).map ocT)), .val (.lst (late.map .int)), .un, .un, .un] ⟨rfl, rfl, rfl⟩
  have e3 := ne_nil_ints good
  have e4 := min_ints good
  cases hm : minI good with
  | none =>
    have hn := (minI_nil_iff good).mp hm
    subst hn
    have e3 : oNe (.lst []) (.lst []) = some (.bl false) := e3
    simp only [List.map_nil] at kb1
    simp [m_enough, b_enough, k1, k2, ka1, kb1, wipeE, e3, oiD]
  | some m =>
    rw [hm] at e4
    have e5 : good.isEmpty = false := by
      cases good with
      | nil => cases hm
      | cons => rfl
    rw [e5] at e3
    have e4 : oMinQ [.lst (good.map .int)] = some (.int m) := e4
    simp [m_enough, b_enough, k1, k2, ka1, kb1, wipeE, e3, e4, oiD]

def IsMin (G : Int → Prop) (o x : Option Int) : Prop := (x = o ∧ ∀ v, ¬ G v) ∨ ∃ m, x = some m ∧ G m ∧ ∀ v, G v → m ≤ v
theorem isMin_uniq {G G' : Int → Prop} {o x y : Option Int} (h : IsMin G o x) (h' : IsMin G' o y) (hg : ∀ v, G v ↔ G' v) : x = y := by
  rcases h with ⟨rfl, n⟩ | ⟨m, rfl, g, b⟩
  · rcases h' with ⟨rfl, _⟩ | ⟨m, rfl, g, _⟩
    · rfl
    · exact absurd ((hg m).mpr g) (n m)
  · rcases h' with ⟨rfl, n⟩ | ⟨m', rfl, g', b'⟩
    · exact absurd ((hg m).mp g) (n m)
    · have h1 := b m' ((hg m').mpr g')
      have h2 := b' m ((hg m).mp g)
      rw [Int.le_antisymm h1 h2]
theorem isGood_iff (late : List Int) (v : Int) : isGood late v = true ↔ ∀ y ∈ late, y < v := by
  unfold isGood
  cases h : maxI late with
  | none =>
    have := (maxI_nil_iff late).mp h
    subst this
    simp
  | some m =>
    obtain ⟨h1, h2⟩ := maxI_spec h
    simp only [decide_eq_true_eq]
    exact ⟨fun k y hy => by have := h2 y hy; omega, fun k => k m h1⟩
theorem mem_late {w d l : Int} {ts : List Int} {left : List (Nat × Nat)} {ix : Nat} {y : Int} : y ∈ lateL w d l ts left ix ↔ ∃ t ∈ tots w d l ts left, 1 < plc t ix ∧ t.getD ix 0 = y := by
  unfold lateL tots
  constructor
  · intro h
    obtain ⟨o, ho, rfl⟩ := List.mem_map.mp h
    obtain ⟨h1, h2⟩ := List.mem_filter.mp ho
    exact ⟨o.2, List.mem_map_of_mem h1, of_decide_eq_true h2, rfl⟩
  · rintro ⟨t, ht, h1, rfl⟩
    obtain ⟨o, ho, rfl⟩ := List.mem_map.mp ht
    exact List.mem_map.mpr ⟨o, List.mem_filter.mpr ⟨ho, decide_eq_true h1⟩, rfl⟩
theorem mem_good {w d l : Int} {ts : List Int} {left : List (Nat × Nat)} {ix : Nat} {y : Int} : y ∈ goodL w d l ts left ix ↔ (∃ t ∈ tots w d l ts left, t.getD ix 0 = y) ∧ ∀ t ∈ tots w d l ts left, 1 < plc t ix → t.getD ix 0 < y := by
  unfold goodL
  constructor
  · intro h
    obtain ⟨o, ho, rfl⟩ := List.mem_map.mp h
    obtain ⟨h1, h2⟩ := List.mem_filter.mp ho
    exact ⟨⟨o.2, List.mem_map_of_mem h1, rfl⟩, fun t ht hp => (isGood_iff _ _).mp h2 _ (mem_late.mpr ⟨t, ht, hp, rfl⟩)⟩
  · rintro ⟨⟨t, ht, rfl⟩, h1⟩
    obtain ⟨o, ho, rfl⟩ := List.mem_map.mp ht
    refine List.mem_map.mpr ⟨o, List.mem_filter.mpr ⟨ho, (isGood_iff _ _).mpr fun y hy => ?_⟩, rfl⟩
    obtain ⟨t, h2, h3, rfl⟩ := mem_late.mp hy
    exact h1 t h2 h3
theorem eno_spec (w d l : Int) (ts : List Int) (left : List (Nat × Nat)) (ix : Nat) : IsMin (fun m => (∃ t ∈ tots w d l ts left, t.getD ix 0 = m) ∧ ∀ t ∈ tots w d l ts left, 1 < plc t ix → t.getD ix 0 < m) none (enoV w d l ts left ix) := by
  cases h : enoV w d l ts left ix with
  | none =>
    refine .inl ⟨rfl, fun v hv => ?_⟩
    have h1 := (minI_nil_iff _).mp h
    have h2 := mem_good.mpr hv
    rw [h1] at h2
    cases h2
  | some m =>
    obtain ⟨h1, h2⟩ := minI_spec h
    exact .inr ⟨m, rfl, mem_good.mp h1, fun v hv => h2 v (mem_good.mpr hv)⟩
/-- the values of a team -/
def vals (w d l : Int) (ts : List Int) (left : List (Nat × Nat)) (ix : Nat) : List Int := (tots w d l ts left).map fun t => t.getD ix 0
theorem mem_vals {w d l : Int} {ts : List Int} {left : List (Nat × Nat)} {ix : Nat} {v : Int} : v ∈ vals w d l ts left ix ↔ ∃ t ∈ tots w d l ts left, t.getD ix 0 = v := by
  unfold vals
  simp
theorem eno_low {w d l : Int} {ts : List Int} {left : List (Nat × Nat)} {ix : Nat} (h : 1 < loP w d l ts left ix) : enoV w d l ts left ix = none := by
  have s := (lo_spec (w := w) (d := d) (l := l) (ts := ts) (left := left) (ix := ix)).2
  rcases eno_spec w d l ts left ix with ⟨e, _⟩ | ⟨m, e, ⟨⟨t, ht, rfl⟩, g⟩, _⟩
  · exact e
  · have h1 := s t ht
    have := g t ht (by omega)
    omega
theorem eno_high {w d l : Int} {ts : List Int} {left : List (Nat × Nat)} {ix : Nat} (h : hiP w d l ts left ix = 1) : enoV w d l ts left ix = minI (vals w d l ts left ix) := by
  have s := (hi_spec (w := w) (d := d) (l := l) (ts := ts) (left := left) (ix := ix)).2
  have ne : vals w d l ts left ix ≠ [] := fun z => outs_ne (List.map_eq_nil_iff.mp (List.map_eq_nil_iff.mp z))
  obtain ⟨m, hm⟩ := minI_some ne
  rw [hm]
  obtain ⟨h1, h2⟩ := minI_spec hm
  refine isMin_uniq (eno_spec w d l ts left ix) (G' := fun v => v ∈ vals w d l ts left ix) (.inr ⟨m, rfl, h1, h2⟩) fun v => ?_
  rw [mem_vals]
  exact ⟨fun h => h.1, fun h1 => ⟨h1, fun t ht hp => by have := s t ht; omega⟩⟩
theorem play_bd {w d l : Int} (hp : PtOk w d l) (ts : List Int) (p : Nat × Nat) (r : R3) (hn : p.1 ≠ p.2) (ix : Nat) : ts.getD ix 0 ≤ (play w d l ts p r).getD ix 0 ∧ (play w d l ts p r).getD ix 0 ≤ ts.getD ix 0 + w := by
  obtain ⟨g0, g1, g2, g3⟩ : 0 ≤ (gn w d l r).1 ∧ (gn w d l r).1 ≤ w ∧ 0 ≤ (gn w d l r).2 ∧ (gn w d l r).2 ≤ w := by
    have := hp.l0; have := hp.ld; have := hp.dw; have := hp.lw
    cases r <;> simp only [gn] <;> omega
  unfold play
  simp only [List.getD_eq_getElem?_getD, bump_get]
  cases ts[ix]? with
  | none =>
    split <;> split <;> simp <;> omega
  | some v =>
    split <;> split <;> simp <;> omega
theorem tots_bd {w d l : Int} (hp : PtOk w d l) (ix : Nat) : ∀ (left : List (Nat × Nat)) (ts t : List Int), (∀ p ∈ left, p.1 ≠ p.2) → t ∈ tots w d l ts left → ts.getD ix 0 ≤ t.getD ix 0 ∧ t.getD ix 0 ≤ ts.getD ix 0 + left.length * w
  | [], ts, t, _, h => by
    rw [tots_nil, List.mem_singleton] at h
    subst h
    simp
  | p :: left, ts, t, hn, h => by
    obtain ⟨r, hr⟩ := mem_tots.mp h
    have h1 := tots_bd hp ix left _ t (fun q hq => hn q (List.mem_cons_of_mem _ hq)) hr
    have h2 := play_bd hp ts p r (hn p (List.mem_cons_self ..)) ix
    rw [List.length_cons, Int.natCast_add, Int.add_mul]
    simp only [Int.natCast_one, Int.one_mul]
    omega

def resV (w d l : Int) (ts : List Int) (left : List (Nat × Nat)) (ix : Nat) (place : Int) : D := match (outs w d l ts left).find? (fun o => decide (plc o.2 ix ≤ place)) with
  | some o => rsD o.1
  | none => .non
theorem need_games6 (p : Int) (h1 : 1 ≤ p) (h2 : p ≤ 6) : m_need_games [.int p, .int 6] = some (.ok .non false) := by
  simp [m_need_games, b_need_games, h1, h2]
theorem results_for_ok {w d l : Int} (hp : PtOk w d l) {ts : List T3} {left : List (Nat × Nat)} (h : Fix ts left) {ix : Nat} (hi : ix < ts.length) {place : Int} (p1 : 1 ≤ place) (p2 : place ≤ 6) :
    m_results_for [sysD w d l, .tup (ts.map rD), .tup (left.map pD), .int (ix : Nat), .int place] = some (.ok (resV w d l (ts.map (tot w d l)) left ix place) false) := by
  have k1 := need_ends_ok w d l h hi
  have k2 := all_ends_ok hp h
  have k3 := need_games6 place p1 p2
  have n6 := h.n6
  have on := outs_n (w := w) (d := d) (l := l) (ts := ts.map (tot w d l)) (left := left)
  rw [List.length_map] at on
  have gf := go_find (t := gTupD 2 (gsCons (gVar 5) (gsCons (gVar 6) gsNil))) (body := l_results_for_1) (f := ocT) (p := fun o => decide (plc o.2 ix ≤ place)) (v := fun o => rsD o.1) (fr := false) (l := outs w d l (ts.map (tot w d l)) left)
    (inv := fun e => e.length = 7 ∧ e[3]? = some (.val (.int (ix : Nat))) ∧ e[4]? = some (.val (.int place))) (e := [.val (sysD w d l), .val (.tup (ts.map rD)), .val (.tup (left.map pD)), .val (.int (ix : Nat)), .val (.int place), .un, .un])
    (fun o e ho hi => by
      obtain ⟨he, h0, h1⟩ := hi
      have q := on.1 o ho
      have e1 := place_in_ok o.2 ix (by omega) (by omega)
      ((repeat (have hxQ := len_succ he; clear he; obtain ⟨_, _, heQ, he⟩ := hxQ; subst heQ)); (have hzQ := len_zero he; subst hzQ))
      (have hsQ := Option.some.inj h0; subst hsQ)
      (have hsQ := Option.some.inj h1; subst hsQ)
      refine ⟨fun z => ?_, fun z => ?_⟩
      · have z := of_decide_eq_false z
        exact nx_of (by simp [l_results_for_1, e1, z]; rfl) ⟨rfl, rfl, rfl⟩
      · have z := of_decide_eq_true z
        exact ⟨_, by simp [l_results_for_1, e1, z]; rfl⟩) ⟨rfl, rfl, rfl⟩
  unfold resV
  cases hf : (outs w d l (ts.map (tot w d l)) left).find? (fun o => decide (plc o.2 ix ≤ place)) with
  | none =>
    rw [hf] at gf
    obtain ⟨e', g, _⟩ := gf
    simp [m_results_for, b_results_for, k1, k2, k3, g]
  | some o =>
    rw [hf] at gf
    obtain ⟨e', g⟩ := gf
    simp [m_results_for, b_results_for, k1, k2, k3, g]
theorem rs_nice (rs : List R3) : nice 1 (rsD rs) := fun x hx => by
  obtain ⟨r, _, rfl⟩ := List.mem_map.mp hx
  cases r <;> (show PyData.strOk _ = true) <;> decide +kernel
theorem resV_nice (w d l : Int) (ts : List Int) (left : List (Nat × Nat)) (ix : Nat) (place : Int) : nice 1 (resV w d l ts left ix place) := by
  unfold resV
  split
  · exact rs_nice _
  · simp [nice]
theorem R3.s_inj {r q : R3} (h : r.s = q.s) : r = q := by
  cases r <;> cases q <;> first | rfl | exact absurd h (by decide)
theorem ss_inj : ∀ {a b : List R3}, (a.map fun r => D.str r.s) = (b.map fun r => D.str r.s) → a = b
  | [], [], _ => rfl
  | [], _ :: _, h => by simp at h
  | _ :: _, [], h => by simp at h
  | x :: a, y :: b, h => by
    simp only [List.map_cons, List.cons.injEq, D.str.injEq] at h
    rw [R3.s_inj h.1, ss_inj h.2]
theorem rsD_inj {a b : List R3} (h : rsD a = rsD b) : a = b := ss_inj (D.tup.inj h)

def resO (w d l : Int) (ts : List Int) (left : List (Nat × Nat)) (ix : Nat) (place : Int) : Option (List R3) := ((outs w d l ts left).find? fun o => decide (plc o.2 ix ≤ place)).map (·.1)
def orsD : Option (List R3) → D
  | some rs => rsD rs
  | none => .non
theorem resV_O (w d l : Int) (ts : List Int) (left : List (Nat × Nat)) (ix : Nat) (place : Int) : resV w d l ts left ix place = orsD (resO w d l ts left ix place) := by
  unfold resV resO
  cases (outs w d l ts left).find? fun o => decide (plc o.2 ix ≤ place) <;> rfl
theorem find_cons (place : Int) (ix : Nat) (r : R3) : ∀ os : List Oc, ((os.map fun q => (r :: q.1, q.2)).find? fun o => decide (plc o.2 ix ≤ place)).map (·.1) = ((os.find? fun o => decide (plc o.2 ix ≤ place)).map (·.1)).map (r :: ·)
  | [] => rfl
  | o :: os => by
    rw [List.map_cons, List.find?_cons, List.find?_cons]
    cases h : decide (plc o.2 ix ≤ place) with
    | true => simp [h]
    | false => simp only [h]; exact find_cons place ix r os
theorem resO_cons (w d l : Int) (ts : List Int) (p : Nat × Nat) (left : List (Nat × Nat)) (ix : Nat) (place : Int) : resO w d l ts (p :: left) ix place = all3.findSome? fun r => (resO w d l (play w d l ts p r) left ix place).map (r :: ·) := by
  unfold resO
  rw [outs_cons]
  simp only [all3, List.flatMap_cons, List.flatMap_nil, List.append_nil, List.find?_append, List.findSome?_cons, List.findSome?_nil]
  have e := fun r => find_cons place ix r (outs w d l (play w d l ts p r) left)
  rw [← e .d, ← e .l, ← e .w]
  cases ((outs w d l (play w d l ts p .d) left).map fun q => (R3.d :: q.1, q.2)).find? fun o => decide (plc o.2 ix ≤ place) with
  | some o => rfl
  | none =>
    cases ((outs w d l (play w d l ts p .l) left).map fun q => (R3.l :: q.1, q.2)).find? fun o => decide (plc o.2 ix ≤ place) with
    | some o => rfl
    | none =>
      cases ((outs w d l (play w d l ts p .w) left).map fun q => (R3.w :: q.1, q.2)).find? fun o => decide (plc o.2 ix ≤ place) <;> rfl
theorem resO_len {w d l : Int} {ts : List Int} {left : List (Nat × Nat)} {ix : Nat} {place : Int} {rs : List R3} (h : resO w d l ts left ix place = some rs) : rs.length = left.length := by
  unfold resO at h
  rw [Option.map_eq_some_iff] at h
  obtain ⟨o, h1, rfl⟩ := h
  exact (outs_n.1 o (List.mem_of_find?_eq_some h1)).2
theorem ors_nice (o : Option (List R3)) : nice 1 (orsD o) := by
  cases o with
  | none => simp [orsD, nice]
  | some rs => exact rs_nice rs

theorem play2 (w d l x y : Int) (r : R3) : play w d l [x, y] (0, 1) r = [x + (gn w d l r).1, y + (gn w d l r).2] := rfl
theorem plc20 (x y : Int) : plc [x, y] 0 = if x < y then 2 else 1 := by
  unfold plc
  by_cases h : x < y <;> simp [h]
theorem plc21 (x y : Int) : plc [x, y] 1 = if y < x then 2 else 1 := by
  unfold plc
  by_cases h : y < x <;> simp [h]
theorem two_bd {w d l : Int} (hl : l ≤ w) : ∀ (n : Nat) (x y : Int) (t : List Int), t ∈ tots w d l [x, y] (List.replicate n (0, 1)) → ∃ u v, t = [u, v] ∧ (x - y) - n * (w - l) ≤ u - v ∧ u - v ≤ (x - y) + n * (w - l)
  | 0, x, y, t, h => by
    rw [List.replicate_zero, tots_nil, List.mem_singleton] at h
    exact ⟨x, y, h, by simp, by simp⟩
  | n + 1, x, y, t, h => by
    rw [List.replicate_succ, mem_tots] at h
    obtain ⟨r, hr⟩ := h
    rw [play2] at hr
    obtain ⟨u, v, e, h1, h2⟩ := two_bd hl n _ _ t hr
    refine ⟨u, v, e, ?_, ?_⟩ <;> (rw [Int.natCast_add, Int.add_mul]; simp only [Int.natCast_one, Int.one_mul]; cases r <;> simp only [gn] at h1 h2 <;> omega)
theorem two_hi {w d l : Int} : ∀ (n : Nat) (x y : Int), ∃ u v, [u, v] ∈ tots w d l [x, y] (List.replicate n (0, 1)) ∧ u - v = (x - y) + n * (w - l)
  | 0, x, y => ⟨x, y, by rw [List.replicate_zero, tots_nil]; exact List.mem_singleton.mpr rfl, by simp⟩
  | n + 1, x, y => by
    obtain ⟨u, v, h, e⟩ := two_hi (w := w) (d := d) (l := l) n (x + w) (y + l)
    refine ⟨u, v, ?_, ?_⟩
    · rw [List.replicate_succ, mem_tots]
      exact ⟨.w, h⟩
    · rw [e, Int.natCast_add, Int.add_mul]
      simp only [Int.natCast_one, Int.one_mul]
      omega
theorem two_lo {w d l : Int} : ∀ (n : Nat) (x y : Int), ∃ u v, [u, v] ∈ tots w d l [x, y] (List.replicate n (0, 1)) ∧ u - v = (x - y) - n * (w - l)
  | 0, x, y => ⟨x, y, by rw [List.replicate_zero, tots_nil]; exact List.mem_singleton.mpr rfl, by simp⟩
  | n + 1, x, y => by
    obtain ⟨u, v, h, e⟩ := two_lo (w := w) (d := d) (l := l) n (x + l) (y + w)
    refine ⟨u, v, ?_, ?_⟩
    · rw [List.replicate_succ, mem_tots]
      exact ⟨.l, h⟩
    · rw [e, Int.natCast_add, Int.add_mul]
      simp only [Int.natCast_one, Int.one_mul]
      omega
theorem lo0 {w d l : Int} (hl : l ≤ w) (n : Nat) (x y : Int) : loP w d l [x, y] (List.replicate n (0, 1)) 0 = if (x - y) + n * (w - l) < 0 then 2 else 1 := by
  obtain ⟨u, v, hm, e⟩ := two_hi (w := w) (d := d) (l := l) n x y
  refine lo_of ⟨_, hm, ?_⟩ fun t ht => ?_
  · rw [plc20]
    split <;> split <;> omega
  · obtain ⟨a, b, rfl, h1, h2⟩ := two_bd hl n x y t ht
    rw [plc20]
    split <;> split <;> omega
theorem hi0 {w d l : Int} (hl : l ≤ w) (n : Nat) (x y : Int) : hiP w d l [x, y] (List.replicate n (0, 1)) 0 = if (x - y) - n * (w - l) < 0 then 2 else 1 := by
  obtain ⟨u, v, hm, e⟩ := two_lo (w := w) (d := d) (l := l) n x y
  refine hi_of ⟨_, hm, ?_⟩ fun t ht => ?_
  · rw [plc20]
    split <;> split <;> omega
  · obtain ⟨a, b, rfl, h1, h2⟩ := two_bd hl n x y t ht
    rw [plc20]
    split <;> split <;> omega
theorem lo1 {w d l : Int} (hl : l ≤ w) (n : Nat) (x y : Int) : loP w d l [x, y] (List.replicate n (0, 1)) 1 = if 0 < (x - y) - n * (w - l) then 2 else 1 := by
  obtain ⟨u, v, hm, e⟩ := two_lo (w := w) (d := d) (l := l) n x y
  refine lo_of ⟨_, hm, ?_⟩ fun t ht => ?_
  · rw [plc21]
    split <;> split <;> omega
  · obtain ⟨a, b, rfl, h1, h2⟩ := two_bd hl n x y t ht
    rw [plc21]
    split <;> split <;> omega
theorem hi1 {w d l : Int} (hl : l ≤ w) (n : Nat) (x y : Int) : hiP w d l [x, y] (List.replicate n (0, 1)) 1 = if 0 < (x - y) + n * (w - l) then 2 else 1 := by
  obtain ⟨u, v, hm, e⟩ := two_hi (w := w) (d := d) (l := l) n x y
  refine hi_of ⟨_, hm, ?_⟩ fun t ht => ?_
  · rw [plc21]
    split <;> split <;> omega
  · obtain ⟨a, b, rfl, h1, h2⟩ := two_bd hl n x y t ht
    rw [plc21]
    split <;> split <;> omega
/-- how many steps of so much until nothing is missing, at most so many -/
def wn (wo : Int) : Nat → Int → Nat
  | 0, _ => 0
  | m + 1, δ => if δ < 0 then wn wo m (δ + wo) + 1 else 0
theorem wn_le (wo : Int) : ∀ (m : Nat) (δ : Int), wn wo m δ ≤ m
  | 0, _ => Nat.le_refl _
  | m + 1, δ => by
    have := wn_le wo m (δ + wo)
    unfold wn
    split <;> omega
theorem wn_cut (wo : Int) : ∀ (m : Nat) (δ : Int), wn wo m δ = min (wn wo (m + 1) δ) m
  | 0, δ => by simp [wn]
  | m + 1, δ => by
    have := wn_cut wo m (δ + wo)
    rw [wn, wn]
    split <;> omega
theorem wn_anti (wo : Int) : ∀ (m : Nat) (δ δ' : Int), δ' ≤ δ → wn wo m δ ≤ wn wo m δ'
  | 0, _, _, _ => Nat.le_refl _
  | m + 1, δ, δ', h => by
    have := wn_anti wo m (δ + wo) (δ' + wo) (by omega)
    rw [wn, wn]
    split <;> split <;> omega
theorem res0 {w d l : Int} (hl : l ≤ w) : ∀ (n : Nat) (x y : Int), resO w d l [x, y] (List.replicate n (0, 1)) 0 1 = if wn (w - l) (n + 1) (x - y) ≤ n then some (List.replicate (n - wn (w - l) (n + 1) (x - y)) .d ++ List.replicate (wn (w - l) (n + 1) (x - y)) .w) else none
  | 0, x, y => by
    simp only [List.replicate_zero, resO, outs, List.foldl_nil, List.find?_cons, List.find?_nil, plc20, wn]
    by_cases h : x < y
    · have h2 : x - y < 0 := by omega
      simp [h, h2]
    · have h2 : ¬ x - y < 0 := by omega
      simp [h, h2]
  | n + 1, x, y => by
    have r1 := res0 (d := d) hl n (x + d) (y + d)
    have r2 := res0 (d := d) hl n (x + l) (y + w)
    have r3 := res0 (d := d) hl n (x + w) (y + l)
    rw [show x + d - (y + d) = x - y by omega] at r1
    rw [show x + l - (y + w) = x - y - (w - l) by omega] at r2
    rw [show x + w - (y + l) = x - y + (w - l) by omega] at r3
    have cut := wn_cut (w - l) (n + 1) (x - y)
    have le := wn_le (w - l) (n + 1 + 1) (x - y)
    have le2 := wn_le (w - l) (n + 1) (x - y - (w - l))
    have anti := wn_anti (w - l) (n + 1) (x - y) (x - y - (w - l)) (by omega)
    have st : wn (w - l) (n + 1 + 1) (x - y) = if x - y < 0 then wn (w - l) (n + 1) (x - y + (w - l)) + 1 else 0 := rfl
    rw [List.replicate_succ, resO_cons]
    simp only [all3, List.findSome?_cons, List.findSome?_nil, play2, gn]
    rw [r1, r2, r3]
    obtain ⟨W, hW⟩ : ∃ z, wn (w - l) (n + 1 + 1) (x - y) = z := ⟨_, rfl⟩
    rw [hW] at cut le st ⊢
    by_cases a : W ≤ n
    · have c1 : wn (w - l) (n + 1) (x - y) = W := by omega
      have b : W ≤ n + 1 := by omega
      have ee : n + 1 - W = (n - W) + 1 := by omega
      rw [c1, if_pos a, ee]
      simp only [Option.map_some, if_pos b, List.replicate_succ, List.cons_append]
    · have c1 : wn (w - l) (n + 1) (x - y) = n + 1 := by omega
      have c2 : wn (w - l) (n + 1) (x - y - (w - l)) = n + 1 := by omega
      rw [c1, c2, if_neg (by omega)]
      have hd : x - y < 0 := by
        refine Int.not_le.mp fun z => ?_
        rw [if_neg (by omega)] at st
        omega
      rw [if_pos hd] at st
      by_cases b : W ≤ n + 1
      · have c3 : wn (w - l) (n + 1) (x - y + (w - l)) = n := by omega
        have c4 : W = n + 1 := by omega
        rw [c3, c4, if_pos (Nat.le_refl _), if_pos (Nat.le_refl _)]
        simp [List.replicate_succ]
      · have c3 : wn (w - l) (n + 1) (x - y + (w - l)) = n + 1 := by omega
        rw [c3, if_neg (by omega), if_neg b]
        rfl
theorem res1 {w d l : Int} (hl : l ≤ w) : ∀ (n : Nat) (x y : Int), resO w d l [x, y] (List.replicate n (0, 1)) 1 1 = if wn (w - l) (n + 1) (y - x) ≤ n then some (List.replicate (n - wn (w - l) (n + 1) (y - x)) .d ++ List.replicate (wn (w - l) (n + 1) (y - x)) .l) else none
  | 0, x, y => by
    simp only [List.replicate_zero, resO, outs, List.foldl_nil, List.find?_cons, List.find?_nil, plc21, wn]
    by_cases h : y < x
    · have h2 : y - x < 0 := by omega
      simp [h, h2]
    · have h2 : ¬ y - x < 0 := by omega
      simp [h, h2]
  | n + 1, x, y => by
    have r1 := res1 (d := d) hl n (x + d) (y + d)
    have r2 := res1 (d := d) hl n (x + l) (y + w)
    have r3 := res1 (d := d) hl n (x + w) (y + l)
    rw [show y + d - (x + d) = y - x by omega] at r1
    rw [show y + w - (x + l) = y - x + (w - l) by omega] at r2
    rw [show y + l - (x + w) = y - x - (w - l) by omega] at r3
    have cut := wn_cut (w - l) (n + 1) (y - x)
    have le := wn_le (w - l) (n + 1 + 1) (y - x)
    have le2 := wn_le (w - l) (n + 1) (y - x - (w - l))
    have anti := wn_anti (w - l) (n + 1) (y - x) (y - x - (w - l)) (by omega)
    have st : wn (w - l) (n + 1 + 1) (y - x) = if y - x < 0 then wn (w - l) (n + 1) (y - x + (w - l)) + 1 else 0 := rfl
    rw [List.replicate_succ, resO_cons]
    simp only [all3, List.findSome?_cons, List.findSome?_nil, play2, gn]
    rw [r1, r2, r3]
    obtain ⟨W, hW⟩ : ∃ z, wn (w - l) (n + 1 + 1) (y - x) = z := ⟨_, rfl⟩
    rw [hW] at cut le st ⊢
    by_cases a : W ≤ n
    · have c1 : wn (w - l) (n + 1) (y - x) = W := by omega
      have b : W ≤ n + 1 := by omega
      have ee : n + 1 - W = (n - W) + 1 := by omega
      rw [c1, if_pos a, ee]
      simp only [Option.map_some, if_pos b, List.replicate_succ, List.cons_append]
    · have c1 : wn (w - l) (n + 1) (y - x) = n + 1 := by omega
      have c2 : wn (w - l) (n + 1) (y - x - (w - l)) = n + 1 := by omega
      rw [c1, c2, if_neg (by omega)]
      have hd : y - x < 0 := by
        refine Int.not_le.mp fun z => ?_
        rw [if_neg (by omega)] at st
        omega
      rw [if_pos hd] at st
      by_cases b : W ≤ n + 1
      · have c3 : wn (w - l) (n + 1) (y - x + (w - l)) = n := by omega
        have c4 : W = n + 1 := by omega
        rw [c3, c4, if_pos (Nat.le_refl _), if_pos (Nat.le_refl _)]
        simp [List.replicate_succ]
      · have c3 : wn (w - l) (n + 1) (y - x + (w - l)) = n + 1 := by omega
        rw [c3, if_neg (by omega), if_neg b]
        rfl

namespace RK

theorem need_pair_ok (a b c a' b' c' : Int) (h : a + b + c = a' + b' + c') : m_need_pair [recD a b c, recD a' b' c'] = some (.ok .non false) := by simp [m_need_pair, b_need_pair, h]

theorem gcd_go : ∀ (n a b : Nat), b < n → whileGo (sT (sBin oGt (sVar 1) (sC (.int 0)))) l_greatest_divisor_1 n [.val (.int a), .val (.int b)] = some (.nx [.val (.int (Nat.gcd a b)), .val (.int 0)])
  | 0, a, b, h => by omega
  | n + 1, a, b, h => by
    by_cases hb : b = 0
    · subst hb
      rw [while_stop (e1 := [.val (.int a), .val (.int (0 : Nat))]) (by simp)]
      simp
    · have h1 : 0 < b := by omega
      have e : ((a : Int) % (b : Int)) = ((a % b : Nat) : Int) := by omega
      have ih := gcd_go n b (a % b) (by have := Nat.mod_lt a h1; omega)
      have g : Nat.gcd b (a % b) = Nat.gcd a b := by rw [Nat.gcd_comm a b, Nat.gcd_rec b a, Nat.gcd_comm]
      rw [g, ← e] at ih
      rw [while_step (e1 := [.val (.int a), .val (.int b)]) (e2 := [.val (.int b), .val (.int ((a : Int) % (b : Int)))]) (by simp [h1]) (by simp [l_greatest_divisor_1, h1])]
      exact ih
theorem gcd_ok (a b : Nat) : m_greatest_divisor [.int a, .int b] = some (.ok (.int (Nat.gcd a b)) false) := by
  have h := gcd_go (b + 1) a b (by omega)
  have hw : sWhile (fuelI 1) (sT (sBin oGt (sVar 1) (sC (.int 0)))) l_greatest_divisor_1 [.val (.int a), .val (.int b)] = some (.nx [.val (.int (Nat.gcd a b)), .val (.int 0)]) := h
  generalize hx : sWhile (fuelI 1) (sT (sBin oGt (sVar 1) (sC (.int 0)))) l_greatest_divisor_1 = W at hw
  simp only [m_greatest_divisor, b_greatest_divisor, hx]
  simp [hw]
theorem lowest_ok (t : Int) (b : Nat) (h0 : 0 < b) (h1 : b < 1000000) : m_lowest [.int t, .int b] = some (.ok (.tup [.int (t / (Nat.gcd t.natAbs b : Nat)), .int ((b : Int) / (Nat.gcd t.natAbs b : Nat))]) false) := by
  have e : (if t < 0 then -t else t) = (t.natAbs : Int) := by split <;> omega
  have g0 : 0 < Nat.gcd t.natAbs b := Nat.gcd_pos_of_pos_right _ h0
  have g1 : Nat.gcd t.natAbs b ≤ b := Nat.gcd_le_right _ h0
  have k := gcd_ok t.natAbs b
  obtain ⟨G, hG⟩ : ∃ G : Nat, Nat.gcd t.natAbs b = G := ⟨_, rfl⟩
  rw [hG] at g0 g1 k ⊢
  have c1 : (G : Int) < 1073741824 := by omega
  simp only [m_lowest, b_lowest]
  have k' : sCall m_greatest_divisor (sCons (sBlt oAbs (sCons (sVar 0) sNil)) (sCons (sVar 1) sNil)) [.val (.int t), .val (.int b), .un] = some (.ok (.dat (.int G)) [.val (.int t), .val (.int b), .un]) := by
    simp [e, k]
  generalize sCall m_greatest_divisor (sCons (sBlt oAbs (sCons (sVar 0) sNil)) (sCons (sVar 1) sNil)) = W at k'
  simp [k', g0, c1, sizeLine_eq]
def tieV (x y : Int) : D := let w := if y < 0 then -x else x; let d := if y < 0 then -y else y
  if d = 0 ∨ ¬ (0 ≤ -w ∧ -w ≤ d) then .non else .tup [.int (-w / (Nat.gcd (-w).natAbs d.toNat : Nat)), .int (d / (Nat.gcd (-w).natAbs d.toNat : Nat))]
theorem tie_ok (a b c a' b' c' : Int) (h : a + b + c = a' + b' + c') (h1 : (b - b').natAbs < 1000000) : m_tie_share [recD a b c, recD a' b' c'] = some (.ok (tieV (a - a') (b - b')) false) := by
  have np := need_pair_ok a b c a' b' c' h
  have low : ∀ x y : Int, y ≠ 0 → 0 ≤ y → y < 1000000 → m_lowest [.int x, .int y] = some (.ok (.tup [.int (x / (Nat.gcd x.natAbs y.toNat : Nat)), .int (y / (Nat.gcd x.natAbs y.toNat : Nat))]) false) := fun x y h1 h2 h3 => by
    have := lowest_ok x y.toNat (by omega) (by omega)
    rw [show ((y.toNat : Nat) : Int) = y by omega] at this
    exact this
  obtain ⟨x, hx⟩ : ∃ x : Int, a - a' = x := ⟨_, rfl⟩
  obtain ⟨y, hy⟩ : ∃ y : Int, b - b' = y := ⟨_, rfl⟩
  rw [hy] at h1
  by_cases h2 : y < 0
  · have n1 : ¬ y = 0 := by omega
    by_cases h4 : 0 ≤ x ∧ x ≤ -y
    · have l := low x (-y) (by omega) (by omega) (by omega)
      simp [m_tie_share, b_tie_share, np, hx, hy, h2, h4.1, h4.2, l, n1, tieV]
    · by_cases h5 : 0 ≤ x
      · have h6 : ¬ x ≤ -y := fun z => h4 ⟨h5, z⟩
        simp [m_tie_share, b_tie_share, np, hx, hy, h2, h5, h6, n1, tieV]
      · simp [m_tie_share, b_tie_share, np, hx, hy, h2, h5, n1, tieV]
  · by_cases n1 : y = 0
    · subst n1
      simp [m_tie_share, b_tie_share, np, hx, hy, tieV]
    · by_cases h5 : 0 ≤ -x
      · by_cases h6 : -x ≤ y
        · have l := low (-x) y (by omega) (by omega) (by omega)
          have h5' : x ≤ 0 := by omega
          simp [m_tie_share, b_tie_share, np, hx, hy, h2, h5, h5', h6, l, n1, tieV]
        · have h5' : x ≤ 0 := by omega
          simp [m_tie_share, b_tie_share, np, hx, hy, h2, h5, h5', h6, n1, tieV]
      · have h5' : ¬ x ≤ 0 := by omega
        simp [m_tie_share, b_tie_share, np, hx, hy, h2, h5, h5', n1, tieV]
theorem tieV_nice (x y : Int) : nice 1 (tieV x y) := by
  have z : ∀ (c : Prop) [Decidable c] (u v : Int), nice 1 (if c then D.non else .tup [.int u, .int v]) := fun c _ u v => by
    split <;> simp [nice]
  exact z _ _ _

theorem exCop (m n : Nat) (h : 0 < Nat.gcd m n) : ∃ m' n' : Nat, Nat.gcd m' n' = 1 ∧ m = m' * Nat.gcd m n ∧ n = n' * Nat.gcd m n := by
  obtain ⟨m', hm⟩ := Nat.gcd_dvd_left m n
  obtain ⟨n', hn⟩ := Nat.gcd_dvd_right m n
  refine ⟨m', n', ?_, by rw [Nat.mul_comm]; exact hm, by rw [Nat.mul_comm]; exact hn⟩
  have e : Nat.gcd m n * Nat.gcd m' n' = Nat.gcd m n * 1 := by
    rw [← Nat.gcd_mul_left, ← hm, ← hn, Nat.mul_one]
  exact Nat.eq_of_mul_eq_mul_left h e
theorem cop_uniq {p q u d : Nat} (h1 : Nat.gcd p q = 1) (h2 : Nat.gcd u d = 1) (hq : 0 < q) (e : q * u = p * d) : p = u ∧ q = d := by
  have c1 : Nat.Coprime q p := by rw [Nat.Coprime, Nat.gcd_comm]; exact h1
  have c2 : Nat.Coprime d u := by rw [Nat.Coprime, Nat.gcd_comm]; exact h2
  have d1 : d ∣ q := c2.dvd_of_dvd_mul_right (by rw [e]; exact Nat.dvd_mul_left d p)
  have d2 : q ∣ d := c1.dvd_of_dvd_mul_left (by rw [← e]; exact Nat.dvd_mul_right q u)
  have e2 : q = d := Nat.dvd_antisymm d2 d1
  subst e2
  refine ⟨?_, rfl⟩
  have : q * u = q * p := by rw [e, Nat.mul_comm]
  exact (Nat.eq_of_mul_eq_mul_left hq this).symm
/-- what tie_share finds -/
theorem tieV_cases (x y : Int) (hne : ¬ (x = 0 ∧ y = 0)) (hy : y.natAbs < 1000000) :
    (tieV x y = .non ∧ ∀ p q : Int, 0 ≤ p → p ≤ q → 0 < q → ¬ (q * x + p * y = 0)) ∨
    (∃ T B : Int, tieV x y = .tup [.int T, .int B] ∧ 0 ≤ T ∧ T ≤ B ∧ 0 < B ∧ B < 1000000 ∧ Nat.gcd T.natAbs B.toNat = 1 ∧ B * x + T * y = 0 ∧ ∀ p q : Int, 0 ≤ p → p ≤ q → 0 < q → Nat.gcd p.natAbs q.toNat = 1 → q * x + p * y = 0 → p = T ∧ q = B) := by
  obtain ⟨w, hw⟩ : ∃ w : Int, (if y < 0 then -x else x) = w := ⟨_, rfl⟩
  obtain ⟨d, hd⟩ : ∃ d : Int, (if y < 0 then -y else y) = d := ⟨_, rfl⟩
  have d0 : 0 ≤ d := by rw [← hd]; split <;> omega
  have d1 : d < 1000000 := by rw [← hd]; split <;> omega
  have eqv : ∀ p q : Int, q * x + p * y = 0 ↔ q * w + p * d = 0 := fun p q => by
    rw [← hw, ← hd]
    split
    · rw [Int.mul_neg, Int.mul_neg]
      constructor <;> intro z <;> omega
    · exact Iff.rfl
  have nz : ¬ (w = 0 ∧ d = 0) := by rw [← hw, ← hd]; split <;> omega
  have tv : tieV x y = if d = 0 ∨ ¬ (0 ≤ -w ∧ -w ≤ d) then .non else .tup [.int (-w / (Nat.gcd (-w).natAbs d.toNat : Nat)), .int (d / (Nat.gcd (-w).natAbs d.toNat : Nat))] := by
    unfold tieV
    simp only [hw, hd]
  have key : ∀ p q : Int, 0 ≤ p → p ≤ q → 0 < q → q * w + p * d = 0 → d ≠ 0 ∧ 0 ≤ -w ∧ -w ≤ d := fun p q h1 h2 h3 h4 => by
    have e : q * (-w) = p * d := by rw [Int.mul_neg]; omega
    have m1 : 0 ≤ p * d := Int.mul_nonneg h1 d0
    have m2 : p * d ≤ q * d := Int.mul_le_mul_of_nonneg_right h2 d0
    have k1 : 0 ≤ -w := by
      have : q * 0 ≤ q * (-w) := by rw [e, Int.mul_zero]; exact m1
      exact Int.le_of_mul_le_mul_left this h3
    have k2 : -w ≤ d := Int.le_of_mul_le_mul_left (by rw [e]; exact m2) h3
    exact ⟨fun z => nz ⟨by omega, z⟩, k1, k2⟩
  by_cases hc : d = 0 ∨ ¬ (0 ≤ -w ∧ -w ≤ d)
  · refine .inl ⟨by rw [tv, if_pos hc], fun p q h1 h2 h3 h4 => ?_⟩
    obtain ⟨k1, k2, k3⟩ := key p q h1 h2 h3 ((eqv p q).mp h4)
    rcases hc with hc | hc
    · exact k1 hc
    · exact hc ⟨k2, k3⟩
  · have hd0 : 0 < d := by omega
    have u0 : 0 ≤ -w := by omega
    have u1 : -w ≤ d := by omega
    obtain ⟨U, hU⟩ : ∃ U : Nat, -w = (U : Int) := ⟨(-w).toNat, by omega⟩
    obtain ⟨N, hN⟩ : ∃ N : Nat, d = (N : Int) := ⟨d.toNat, by omega⟩
    have eU : (-w).natAbs = U := by omega
    have eN : d.toNat = N := by omega
    rw [if_neg hc, eU, eN] at tv
    have g0 : 0 < Nat.gcd U N := Nat.gcd_pos_of_pos_right _ (by omega)
    obtain ⟨u, n, hcop, hu, hn⟩ := exCop U N g0
    obtain ⟨G, hG⟩ : ∃ G : Nat, Nat.gcd U N = G := ⟨_, rfl⟩
    rw [hG] at tv g0 hu hn
    have e1 : -w / (G : Int) = (u : Int) := by
      rw [hU, hu, Int.natCast_mul, Int.mul_ediv_cancel _ (by omega)]
    have e2 : d / (G : Int) = (n : Int) := by
      rw [hN, hn, Int.natCast_mul, Int.mul_ediv_cancel _ (by omega)]
    have n0 : 0 < n := by
      rcases Nat.eq_zero_or_pos n with z | z
      · rw [z, Nat.zero_mul] at hn; omega
      · exact z
    have un : u ≤ n := by
      have : u * G ≤ n * G := by rw [← hu, ← hn]; omega
      exact Nat.le_of_mul_le_mul_right this g0
    have nN : n ≤ N := by rw [hn]; exact Nat.le_mul_of_pos_right n g0
    refine .inr ⟨(u : Int), (n : Int), by rw [tv, e1, e2], by omega, by omega, by omega, by omega, by simpa using hcop, ?_, fun p q h1 h2 h3 h4 h5 => ?_⟩
    · rw [eqv, show w = -(U : Int) by omega, hN, hu, hn, Int.natCast_mul, Int.natCast_mul, Int.mul_neg, ← Int.mul_assoc, ← Int.mul_assoc, Int.mul_comm (n : Int) (u : Int)]
      omega
    · rw [eqv] at h5
      obtain ⟨P, hP⟩ : ∃ P : Nat, p = (P : Int) := ⟨p.toNat, by omega⟩
      obtain ⟨Q, hQ⟩ : ∃ Q : Nat, q = (Q : Int) := ⟨q.toNat, by omega⟩
      subst hP hQ
      have e : Q * U = P * N := by
        have : (Q : Int) * (-w) = (P : Int) * d := by rw [Int.mul_neg]; omega
        rw [hU, hN] at this
        exact_mod_cast this
      have e' : Q * u = P * n := by
        rw [hu, hn, ← Nat.mul_assoc, ← Nat.mul_assoc] at e
        exact Nat.eq_of_mul_eq_mul_right g0 e
      have := cop_uniq (by simpa using h4) hcop (by omega) e'
      exact ⟨by rw [this.1], by rw [this.2]⟩

/-! ### rankings, plain -/
def ixs {α : Type} (ts : List α) (F : α → Int) (v : Int) : List Nat := ((ts.zipIdx).filter fun p => decide (F p.1 = v)).map (·.2)
def rk {α : Type} (ts : List α) (F : α → Int) : List (List Nat) := (setI (ts.map F)).reverse.map (ixs ts F)
def rkD (r : List (List Nat)) : D := .lst (r.map fun g => .lst (g.map fun i => .int (i : Nat)))
theorem mem_ixs {α : Type} {ts : List α} {F : α → Int} {v : Int} {i : Nat} : i ∈ ixs ts F v ↔ ∃ a, ts[i]? = some a ∧ F a = v := by
  unfold ixs
  rw [List.mem_map]
  constructor
  · rintro ⟨⟨a, j⟩, h, rfl⟩
    rw [List.mem_filter] at h
    exact ⟨a, by have := h.1; rw [List.mem_zipIdx_iff_getElem?] at this; exact this, of_decide_eq_true h.2⟩
  · rintro ⟨a, h, e⟩
    exact ⟨(a, i), List.mem_filter.mpr ⟨by rw [List.mem_zipIdx_iff_getElem?]; exact h, decide_eq_true e⟩, rfl⟩
theorem mem_vals {α : Type} {ts : List α} {F : α → Int} {v : Int} : v ∈ setI (ts.map F) ↔ ∃ a ∈ ts, F a = v := by
  rw [mem_setI, List.mem_map]
theorem rk_mono {α : Type} {ts : List α} {F G : α → Int} (h : ∀ a ∈ ts, ∀ b ∈ ts, F a < F b ↔ G a < G b) : rk ts F = rk ts G := by
  have heq : ∀ a ∈ ts, ∀ b ∈ ts, F a = F b → G a = G b := fun a ha b hb e => by
    have h1 := h a ha b hb
    have h2 := h b hb a ha
    omega
  have heq' : ∀ a ∈ ts, ∀ b ∈ ts, G a = G b → F a = F b := fun a ha b hb e => by
    have h1 := h a ha b hb
    have h2 := h b hb a ha
    omega
  obtain ⟨k, hk⟩ : ∃ k : Int → Int, k = fun v => match ts.find? (fun a => decide (F a = v)) with | some a => G a | none => v := ⟨_, rfl⟩
  have kF : ∀ a ∈ ts, k (F a) = G a := fun a ha => by
    rw [hk]
    dsimp only
    cases hf : ts.find? (fun b => decide (F b = F a)) with
    | none => exact absurd (decide_eq_true rfl) (List.find?_eq_none.mp hf a ha)
    | some b => exact heq b (List.mem_of_find?_eq_some hf) a ha (of_decide_eq_true (List.find?_some hf :))
  have e : setI (ts.map G) = (setI (ts.map F)).map k := by
    refine ascS_uniq (setI_asc _) ?_ fun x => ?_
    · rw [AscS, List.pairwise_map]
      refine (setI_asc (ts.map F)).imp_of_mem fun {v w} hv hw l => ?_
      obtain ⟨a, ha, rfl⟩ := mem_vals.mp hv
      obtain ⟨b, hb, rfl⟩ := mem_vals.mp hw
      rw [kF a ha, kF b hb]
      exact (h a ha b hb).mp l
    · rw [mem_vals, List.mem_map]
      constructor
      · rintro ⟨a, ha, rfl⟩
        exact ⟨F a, mem_vals.mpr ⟨a, ha, rfl⟩, kF a ha⟩
      · rintro ⟨v, hv, rfl⟩
        obtain ⟨a, ha, rfl⟩ := mem_vals.mp hv
        exact ⟨a, ha, (kF a ha).symm⟩
  unfold rk
  rw [e, ← List.map_reverse, List.map_map]
  refine List.map_congr_left fun v hv => ?_
  obtain ⟨a, ha, rfl⟩ := mem_vals.mp (List.mem_reverse.mp hv)
  show ixs ts F (F a) = ixs ts G (k (F a))
  rw [kF a ha]
  unfold ixs
  congr 1
  refine List.filter_congr fun p hp => ?_
  have hp' : p.1 ∈ ts := by
    rw [List.mem_zipIdx_iff_getElem?] at hp
    exact List.mem_of_getElem? hp
  rw [Bool.eq_iff_iff, decide_eq_true_iff, decide_eq_true_iff]
  exact ⟨heq p.1 hp' a ha, heq' p.1 hp' a ha⟩
/-- i stands before j -/
def above (r : List (List Nat)) (i j : Nat) : Prop := ∃ (k l : Nat) (g m : List Nat), r[k]? = some g ∧ r[l]? = some m ∧ k < l ∧ i ∈ g ∧ j ∈ m
theorem rk_get {α : Type} {ts : List α} {F : α → Int} {k : Nat} {g : List Nat} : (rk ts F)[k]? = some g ↔ ∃ v, (setI (ts.map F)).reverse[k]? = some v ∧ g = ixs ts F v := by
  unfold rk
  rw [List.getElem?_map, Option.map_eq_some_iff]
  exact ⟨fun ⟨v, h, e⟩ => ⟨v, h, e.symm⟩, fun ⟨v, h, e⟩ => ⟨v, h, e.symm⟩⟩
theorem desc_lt {α : Type} {ts : List α} {F : α → Int} {k l : Nat} {v w : Int} (hv : (setI (ts.map F)).reverse[k]? = some v) (hw : (setI (ts.map F)).reverse[l]? = some w) (h : k < l) : w < v := by
  have d : (setI (ts.map F)).reverse.Pairwise (fun a b => b < a) := List.pairwise_reverse.mpr (setI_asc _)
  rw [List.pairwise_iff_getElem] at d
  obtain ⟨h1, e1⟩ := List.getElem?_eq_some_iff.mp hv
  obtain ⟨h2, e2⟩ := List.getElem?_eq_some_iff.mp hw
  have := d k l h1 h2 h
  rw [e1, e2] at this
  exact this
theorem desc_at {α : Type} {ts : List α} {F : α → Int} {a : α} (h : a ∈ ts) : ∃ k : Nat, (setI (ts.map F)).reverse[k]? = some (F a) :=
  List.mem_iff_getElem?.mp (List.mem_reverse.mpr (mem_vals.mpr ⟨a, h, rfl⟩))
theorem rk_above {α : Type} {ts : List α} {F : α → Int} {i j : Nat} {a b : α} (hi : ts[i]? = some a) (hj : ts[j]? = some b) : above (rk ts F) i j ↔ F b < F a := by
  constructor
  · rintro ⟨k, l, g, m, h1, h2, h3, h4, h5⟩
    obtain ⟨v, hv, rfl⟩ := rk_get.mp h1
    obtain ⟨w, hw, rfl⟩ := rk_get.mp h2
    obtain ⟨a', e1, rfl⟩ := mem_ixs.mp h4
    obtain ⟨b', e2, rfl⟩ := mem_ixs.mp h5
    rw [hi] at e1; cases e1
    rw [hj] at e2; cases e2
    exact desc_lt hv hw h3
  · intro h
    obtain ⟨k, hk⟩ := desc_at (F := F) (List.mem_of_getElem? hi)
    obtain ⟨l, hl⟩ := desc_at (F := F) (List.mem_of_getElem? hj)
    refine ⟨k, l, _, _, rk_get.mpr ⟨_, hk, rfl⟩, rk_get.mpr ⟨_, hl, rfl⟩, ?_, mem_ixs.mpr ⟨a, hi, rfl⟩, mem_ixs.mpr ⟨b, hj, rfl⟩⟩
    rcases Nat.lt_trichotomy k l with z | z | z
    · exact z
    · subst z; rw [hk] at hl; have := Option.some.inj hl; omega
    · have := desc_lt hl hk z; omega
theorem rk_iff {α : Type} {ts : List α} {F G : α → Int} : rk ts F = rk ts G ↔ ∀ a ∈ ts, ∀ b ∈ ts, F a < F b ↔ G a < G b := by
  refine ⟨fun h a ha b hb => ?_, rk_mono⟩
  obtain ⟨i, hi⟩ := List.mem_iff_getElem?.mp ha
  obtain ⟨j, hj⟩ := List.mem_iff_getElem?.mp hb
  rw [← rk_above (F := F) hj hi, ← rk_above (F := G) hj hi, h]
theorem mapInt_inj {g m : List Nat} (h : (g.map fun i => D.int (i : Nat)) = m.map fun i => D.int (i : Nat)) : g = m := by
  induction g generalizing m with
  | nil => cases m with
    | nil => rfl
    | cons a m => cases h
  | cons a g ih => cases m with
    | nil => cases h
    | cons b m =>
      simp only [List.map_cons, List.cons.injEq, D.int.injEq] at h
      rw [ih h.2, show a = b by omega]
theorem rkD_inj {r s : List (List Nat)} : rkD r = rkD s ↔ r = s := by
  refine ⟨fun h => ?_, fun h => by rw [h]⟩
  unfold rkD at h
  rw [D.lst.injEq] at h
  induction r generalizing s with
  | nil => cases s with
    | nil => rfl
    | cons a s => cases h
  | cons g r ih => cases s with
    | nil => cases h
    | cons m s =>
      simp only [List.map_cons, List.cons.injEq, D.lst.injEq] at h
      rw [ih h.2, mapInt_inj h.1]
theorem rkD_nice (r : List (List Nat)) : nice 2 (rkD r) := by
  unfold rkD
  intro x hx
  obtain ⟨g, _, rfl⟩ := List.mem_map.mp hx
  intro y hy
  obtain ⟨i, _, rfl⟩ := List.mem_map.mp hy
  trivial
theorem rk_len {α : Type} (ts : List α) (F : α → Int) : (rk ts F).length ≤ ts.length := by
  unfold rk
  rw [List.length_map, List.length_reverse]
  have := setI_len (ts.map F)
  rw [List.length_map] at this
  exact this

/-! ### shares, plain -/
abbrev Fr := Int × Int
abbrev fD (s : Fr) : D := .tup [.int s.1, .int s.2]
structure Frac (s : Fr) : Prop where
  p0 : 0 ≤ s.1
  pq : s.1 ≤ s.2
  q0 : 0 < s.2
structure Sh (s : Fr) : Prop where
  fr : Frac s
  cop : Nat.gcd s.1.natAbs s.2.toNat = 1
def ltF (a b : Fr) : Bool := decide (a.1 * b.2 < b.1 * a.2)
theorem ltF_iff {a b : Fr} : ltF a b = true ↔ a.1 * b.2 < b.1 * a.2 := decide_eq_true_iff
theorem ltF_trans {a b c : Fr} (ha : 0 < a.2) (hb : 0 < b.2) (hc : 0 < c.2) (h1 : ltF a b = true) (h2 : ltF b c = true) : ltF a c = true := by
  rw [ltF_iff] at *
  have k1 : a.1 * b.2 * c.2 < b.1 * a.2 * c.2 := Int.mul_lt_mul_of_pos_right h1 hc
  have k2 : b.1 * c.2 * a.2 < c.1 * b.2 * a.2 := Int.mul_lt_mul_of_pos_right h2 ha
  have e1 : a.1 * b.2 * c.2 = a.1 * c.2 * b.2 := by rw [Int.mul_assoc, Int.mul_comm b.2, ← Int.mul_assoc]
  have e2 : b.1 * a.2 * c.2 = b.1 * c.2 * a.2 := by rw [Int.mul_assoc, Int.mul_comm a.2, ← Int.mul_assoc]
  have e3 : c.1 * b.2 * a.2 = c.1 * a.2 * b.2 := by rw [Int.mul_assoc, Int.mul_comm b.2, ← Int.mul_assoc]
  exact Int.lt_of_mul_lt_mul_right (a := b.2) (by omega) (by omega)
theorem ltF_irr (a : Fr) : ltF a a = false := decide_eq_false (by omega)
theorem Sh_eq {a b : Fr} (ha : Sh a) (hb : Sh b) (h : a.1 * b.2 = b.1 * a.2) : a = b := by
  obtain ⟨⟨a0, a1, a2⟩, ac⟩ := ha
  obtain ⟨⟨b0, b1, b2⟩, bc⟩ := hb
  have e : a.2.toNat * b.1.natAbs = a.1.natAbs * b.2.toNat := by
    have : (a.2.toNat : Int) * (b.1.natAbs : Int) = (a.1.natAbs : Int) * (b.2.toNat : Int) := by
      rw [show (a.2.toNat : Int) = a.2 by omega, show (b.1.natAbs : Int) = b.1 by omega, show (a.1.natAbs : Int) = a.1 by omega, show (b.2.toNat : Int) = b.2 by omega, h, Int.mul_comm]
    exact_mod_cast this
  have := cop_uniq ac bc (by omega) e
  exact Prod.ext (by omega) (by omega)
theorem ltF_total {a b : Fr} (ha : Sh a) (hb : Sh b) : ltF a b = true ∨ a = b ∨ ltF b a = true := by
  rw [ltF_iff, ltF_iff]
  rcases Int.lt_trichotomy (a.1 * b.2) (b.1 * a.2) with h | h | h
  · exact .inl h
  · exact .inr (.inl (Sh_eq ha hb h))
  · exact .inr (.inr h)
abbrev AscF (l : List Fr) : Prop := l.Pairwise fun a b => ltF a b = true
theorem ascF_uniq : ∀ {l m : List Fr}, (∀ s ∈ l, 0 < s.2) → AscF l → AscF m → (∀ x, x ∈ l ↔ x ∈ m) → l = m
  | [], m, _, _, _, h => by
    cases m with
    | nil => rfl
    | cons b m => exact absurd ((h b).mpr (List.mem_cons_self ..)) (by simp)
  | a :: l, [], _, _, _, h => absurd ((h a).mp (List.mem_cons_self ..)) (by simp)
  | a :: l, b :: m, hp, hl, hm, h => by
    obtain ⟨l1, l2⟩ := List.pairwise_cons.mp hl
    obtain ⟨m1, m2⟩ := List.pairwise_cons.mp hm
    have pa : 0 < a.2 := hp a (List.mem_cons_self ..)
    have pb : 0 < b.2 := hp b ((h b).mpr (List.mem_cons_self ..))
    have e : a = b := by
      rcases List.mem_cons.mp ((h a).mp (List.mem_cons_self ..)) with z | z
      · exact z
      · rcases List.mem_cons.mp ((h b).mpr (List.mem_cons_self ..)) with y | y
        · exact y.symm
        · have := ltF_trans pa pb pa (l1 b y) (m1 a z)
          rw [ltF_irr] at this; cases this
    subst e
    have hirr : ∀ x, ltF a x = true → x ≠ a := fun x hx z => by rw [z, ltF_irr] at hx; cases hx
    rw [ascF_uniq (l := l) (m := m) (fun s hs => hp s (List.mem_cons_of_mem _ hs)) l2 m2 fun x => ?_]
    constructor
    · intro hx
      rcases List.mem_cons.mp ((h x).mp (List.mem_cons_of_mem _ hx)) with z | z
      · exact absurd z (hirr x (l1 x hx))
      · exact z
    · intro hx
      rcases List.mem_cons.mp ((h x).mpr (List.mem_cons_of_mem _ hx)) with z | z
      · exact absurd z (hirr x (m1 x hx))
      · exact z
/-- put in at its place -/
def insR (s : Fr) : List Fr → List Fr
  | [] => [s]
  | a :: l => if ltF a s then a :: insR s l else s :: a :: l
theorem mem_insR {s x : Fr} : ∀ {l : List Fr}, x ∈ insR s l ↔ x = s ∨ x ∈ l
  | [] => by simp [insR]
  | a :: l => by
    unfold insR
    split
    · rw [List.mem_cons, mem_insR, List.mem_cons]
      exact ⟨fun z => z.elim (fun y => .inr (.inl y)) fun y => y.elim .inl fun y => .inr (.inr y), fun z => z.elim (fun y => .inr (.inl y)) fun y => y.elim .inl fun y => .inr (.inr y)⟩
    · exact List.mem_cons
theorem insR_asc {s : Fr} (hs : Sh s) : ∀ {l : List Fr}, (∀ a ∈ l, Sh a) → s ∉ l → AscF l → AscF (insR s l)
  | [], _, _, _ => by simp [insR, AscF]
  | a :: l, hl, hn, h => by
    obtain ⟨h1, h2⟩ := List.pairwise_cons.mp h
    have hl2 : ∀ b ∈ l, Sh b := fun b hb => hl b (List.mem_cons_of_mem _ hb)
    have ha := hl a (List.mem_cons_self ..)
    unfold insR
    split
    · rename_i c
      refine List.pairwise_cons.mpr ⟨fun x hx => ?_, insR_asc hs hl2 (fun z => hn (List.mem_cons_of_mem _ z)) h2⟩
      rcases mem_insR.mp hx with rfl | hx
      · exact c
      · exact h1 x hx
    · rename_i c
      have c2 : ltF s a = true := by
        rcases ltF_total hs ha with z | z | z
        · exact z
        · exact absurd (z ▸ List.mem_cons_self ..) hn
        · exact absurd z c
      refine List.pairwise_cons.mpr ⟨fun x hx => ?_, h⟩
      rcases List.mem_cons.mp hx with rfl | hx
      · exact c2
      · exact ltF_trans hs.fr.q0 ha.fr.q0 (hl2 x hx).fr.q0 c2 (h1 x hx)
theorem filt_none {s a : Fr} (hs : 0 < s.2) (c : ¬ ltF a s = true) : ∀ {l : List Fr}, (∀ b ∈ a :: l, 0 < b.2) → (∀ b ∈ l, ltF a b = true) → l.filter (fun b => ltF b s) = [] := fun {l} hl h1 => by
  rw [List.filter_eq_nil_iff]
  intro b hb z
  exact c (ltF_trans (hl a (List.mem_cons_self ..)) (hl b (List.mem_cons_of_mem _ hb)) hs (h1 b hb) z)
theorem insR_at {s : Fr} (hs : 0 < s.2) : ∀ {l : List Fr}, (∀ b ∈ l, 0 < b.2) → AscF l → l.take (l.filter fun b => ltF b s).length ++ s :: l.drop (l.filter fun b => ltF b s).length = insR s l
  | [], _, _ => rfl
  | a :: l, hl, h => by
    obtain ⟨h1, h2⟩ := List.pairwise_cons.mp h
    have ih := insR_at hs (fun b hb => hl b (List.mem_cons_of_mem _ hb)) h2
    unfold insR
    by_cases c : ltF a s = true
    · rw [if_pos c, List.filter_cons_of_pos (p := fun b => ltF b s) c, List.length_cons, List.take_succ_cons, List.drop_succ_cons, List.cons_append, ih]
    · rw [if_neg c, List.filter_cons_of_neg (p := fun b => ltF b s) c, filt_none hs c hl h1] <;> rfl
def putF (l : List Fr) (o : Option Fr) : List Fr := match o with
  | none => l
  | some s => if s ∈ l then l else insR s l
theorem mem_putF {l : List Fr} {o : Option Fr} {x : Fr} : x ∈ putF l o ↔ x ∈ l ∨ o = some x := by
  unfold putF
  cases o with
  | none => simp
  | some s =>
    dsimp only
    split
    · rename_i h
      exact ⟨.inl, fun z => z.elim id fun y => by cases y; exact h⟩
    · rw [mem_insR, Option.some.injEq]
      exact ⟨fun z => z.elim (fun y => .inr y.symm) .inl, fun z => z.elim .inr fun y => .inl y.symm⟩
/-- a list of shares as it should be -/
structure Good (l : List Fr) : Prop where
  asc : AscF l
  sh : ∀ s ∈ l, Sh s
theorem Good.put {l : List Fr} (h : Good l) {o : Option Fr} (ho : ∀ s, o = some s → Sh s) : Good (putF l o) := by
  refine ⟨?_, fun s hs => (mem_putF.mp hs).elim (h.sh s) (ho s)⟩
  unfold putF
  cases o with
  | none => exact h.asc
  | some s =>
    dsimp only
    split
    · exact h.asc
    · rename_i c
      exact insR_asc (ho s rfl) h.sh c h.asc
theorem putF_all {l : List (Option Fr)} : ∀ {s : List Fr}, Good s → (∀ o ∈ l, ∀ x, o = some x → Sh x) → Good (l.foldl putF s) ∧ ∀ x, x ∈ l.foldl putF s ↔ x ∈ s ∨ some x ∈ l := by
  induction l with
  | nil => exact fun h _ => ⟨h, fun x => by simp⟩
  | cons o l ih =>
    intro s h ho
    obtain ⟨g, m⟩ := ih (h.put (ho o (List.mem_cons_self ..))) fun o' ho' => ho o' (List.mem_cons_of_mem _ ho')
    refine ⟨g, fun x => ?_⟩
    rw [List.foldl_cons, m, mem_putF, List.mem_cons, or_assoc]
    exact ⟨fun z => z.elim .inl fun z => z.elim (fun y => .inr (.inl y.symm)) fun y => .inr (.inr y), fun z => z.elim .inl fun z => z.elim (fun y => .inr (.inl y.symm)) fun y => .inr (.inr y)⟩
/-- the share with which a pair of unlike differences tie -/
def tieO (x y : Int) : Option Fr := let w := if y < 0 then -x else x; let d := if y < 0 then -y else y
  if d = 0 ∨ ¬ (0 ≤ -w ∧ -w ≤ d) then none else some (-w / (Nat.gcd (-w).natAbs d.toNat : Nat), d / (Nat.gcd (-w).natAbs d.toNat : Nat))
theorem tieV_O (x y : Int) : tieV x y = match tieO x y with | none => .non | some s => fD s := by
  have z : ∀ (c : Prop) [Decidable c] (u v : Int), (if c then D.non else .tup [.int u, .int v]) = match (if c then none else some ((u, v) : Fr)) with | none => D.non | some s => fD s := fun c _ u v => by
    split <;> rfl
  exact z _ _ _
theorem tieO_mem {x y : Int} (hy : y.natAbs < 1000000) {s : Fr} : tieO x y = some s ↔ ¬ (x = 0 ∧ y = 0) ∧ Sh s ∧ s.2 * x + s.1 * y = 0 := by
  by_cases h0 : x = 0 ∧ y = 0
  · obtain ⟨rfl, rfl⟩ := h0
    simp [tieO]
  · have e := tieV_O x y
    rcases tieV_cases x y h0 hy with ⟨h1, h2⟩ | ⟨T, B, h1, t0, t1, b0, b1, g, r, u⟩
    · rw [h1] at e
      cases ho : tieO x y with
      | none =>
        refine ⟨fun z => (by cases z), fun ⟨_, z, z2⟩ => absurd z2 (h2 s.1 s.2 z.fr.p0 z.fr.pq z.fr.q0)⟩
      | some t => rw [ho] at e; cases e
    · rw [h1] at e
      cases ho : tieO x y with
      | none => rw [ho] at e; cases e
      | some t =>
        rw [ho] at e
        simp only [fD, D.tup.injEq, List.cons.injEq, D.int.injEq, and_true] at e
        obtain ⟨rfl, rfl⟩ := e
        rw [Option.some.injEq]
        constructor
        · rintro rfl
          exact ⟨h0, ⟨⟨t0, t1, b0⟩, g⟩, r⟩
        · rintro ⟨_, z, z2⟩
          obtain ⟨e1, e2⟩ := u s.1 s.2 z.fr.p0 z.fr.pq z.fr.q0 z.cop z2
          exact (Prod.ext e1 e2).symm
theorem tieO_bd {x y : Int} {s : Fr} (h : tieO x y = some s) : s.2 ≤ y.natAbs := by
  have d0 : (if y < 0 then -y else y) = (y.natAbs : Int) := by split <;> omega
  have z : ∀ w d : Int, 0 ≤ d → (if d = 0 ∨ ¬ (0 ≤ -w ∧ -w ≤ d) then none else some ((-w / (Nat.gcd (-w).natAbs d.toNat : Nat), d / (Nat.gcd (-w).natAbs d.toNat : Nat)) : Fr)) = some s → s.2 ≤ d := fun w d hd hh => by
    split at hh
    · cases hh
    · obtain ⟨rfl⟩ := Option.some.inj hh
      exact Int.ediv_le_self _ hd
  rw [← d0]
  exact z _ _ (by rw [d0]; omega) h
/-- how much one is ahead at a share -/
def vl (s : Fr) (t : T3) : Int := t.1 * s.2 + t.2.1 * s.1
theorem vl_sub (s : Fr) (a b : T3) : vl s a - vl s b = s.2 * (a.1 - b.1) + s.1 * (a.2.1 - b.2.1) := by
  unfold vl
  rw [Int.mul_sub, Int.mul_sub, Int.mul_comm a.1, Int.mul_comm a.2.1, Int.mul_comm b.1, Int.mul_comm b.2.1]
  omega
def cm (s t : Fr) : Int := (s.1 * t.2 - t.1 * s.2).sign
theorem cm_neg {s t : Fr} : cm s t = -1 ↔ ltF s t = true := by
  rw [ltF_iff, cm, Int.sign_eq_neg_one_iff_neg]; omega
theorem cm_zero {s t : Fr} : cm s t = 0 ↔ s.1 * t.2 = t.1 * s.2 := by
  rw [cm, Int.sign_eq_zero_iff_zero]; omega
theorem cm_pos {s t : Fr} : cm s t = 1 ↔ ltF t s = true := by
  rw [ltF_iff, cm, Int.sign_eq_one_iff_pos]; omega
theorem cm_cases (s t : Fr) : cm s t = -1 ∨ cm s t = 0 ∨ cm s t = 1 := by
  unfold cm
  rcases Int.lt_trichotomy (s.1 * t.2 - t.1 * s.2) 0 with h | h | h
  · exact .inl (Int.sign_eq_neg_one_of_neg h)
  · exact .inr (.inl (by rw [h]; rfl))
  · exact .inr (.inr (Int.sign_eq_one_of_pos h))
/-- a line that is nought at t -/
theorem line_at {x y : Int} {t : Fr} (h : t.2 * x + t.1 * y = 0) (ht : 0 < t.2) (s : Fr) : (s.2 * x + s.1 * y).sign = y.sign * cm s t := by
  have e : (s.2 * x + s.1 * y) * t.2 = y * (s.1 * t.2 - t.1 * s.2) := by
    have e1 : (s.2 * x + s.1 * y) * t.2 = s.2 * (t.2 * x) + s.1 * y * t.2 := by
      rw [Int.add_mul, Int.mul_assoc s.2, Int.mul_comm x]
    have e2 : t.2 * x = - (t.1 * y) := by omega
    rw [e1, e2, Int.mul_sub, Int.mul_neg, ← Int.mul_assoc, Int.mul_comm s.2 t.1, Int.mul_comm (t.1 * s.2) y, Int.mul_assoc s.1, Int.mul_comm y t.2, ← Int.mul_assoc s.1, Int.mul_comm (s.1 * t.2) y]
    omega
  have := congrArg Int.sign e
  rw [Int.sign_mul, Int.sign_mul, Int.sign_eq_one_of_pos ht, Int.mul_one] at this
  exact this
/-- a line with no nought among the shares -/
theorem line_none {x y : Int} (hy : y.natAbs < 1000000) (h : tieO x y = none) (h0 : ¬ (x = 0 ∧ y = 0)) {s s' : Fr} (hs : Frac s) (hs' : Frac s') : ¬ (s.2 * x + s.1 * y ≤ 0 ∧ 0 ≤ s'.2 * x + s'.1 * y) := by
  have nz : ∀ p q : Int, 0 ≤ p → p ≤ q → 0 < q → ¬ (q * x + p * y = 0) := by
    rcases tieV_cases x y h0 hy with ⟨_, h2⟩ | ⟨T, B, h1, _⟩
    · exact h2
    · rw [tieV_O, h] at h1; cases h1
  obtain ⟨p0, pq, q0⟩ := hs
  obtain ⟨p0', pq', q0'⟩ := hs'
  rintro ⟨a, b⟩
  obtain ⟨m, hm⟩ : ∃ m, s.2 * x + s.1 * y = m := ⟨_, rfl⟩
  obtain ⟨m', hm'⟩ : ∃ m', s'.2 * x + s'.1 * y = m' := ⟨_, rfl⟩
  have n1 := nz s.1 s.2 p0 pq q0
  have n2 := nz s'.1 s'.2 p0' pq' q0'
  rw [hm] at a n1
  rw [hm'] at b n2
  refine nz (s.1 * m' + s'.1 * -m) (s.2 * m' + s'.2 * -m) ?_ ?_ ?_ ?_
  · have := Int.mul_nonneg p0 b
    have := Int.mul_nonneg p0' (show 0 ≤ -m by omega)
    omega
  · have := Int.mul_le_mul_of_nonneg_right pq b
    have := Int.mul_le_mul_of_nonneg_right pq' (show 0 ≤ -m by omega)
    omega
  · have := Int.mul_pos q0 (show 0 < m' by omega)
    have := Int.mul_pos q0' (show 0 < -m by omega)
    omega
  · have e : (s.2 * m' + s'.2 * -m) * x + (s.1 * m' + s'.1 * -m) * y = (s.2 * x + s.1 * y) * m' - (s'.2 * x + s'.1 * y) * m := by
      simp only [Int.add_mul, Int.mul_neg, Int.neg_mul]
      rw [Int.mul_right_comm s.2 m' x, Int.mul_right_comm s'.2 m x, Int.mul_right_comm s.1 m' y, Int.mul_right_comm s'.1 m y]
      omega
    rw [e, hm, hm', Int.mul_comm]
    omega
/-- of records: all shares at which two unlike ones tie -/
def tied (ts : List T3) (s : Fr) : Prop := ∃ a ∈ ts, ∃ b ∈ ts, tieO (a.1 - b.1) (a.2.1 - b.2.1) = some s
structure Turn (ts : List T3) (l : List Fr) : Prop where
  good : Good l
  mem : ∀ s, s ∈ l ↔ tied ts s
theorem Turn.uniq {ts : List T3} {l m : List Fr} (h : Turn ts l) (h' : Turn ts m) : l = m :=
  ascF_uniq (fun s hs => (h.good.sh s hs).fr.q0) h.good.asc h'.good.asc fun x => by rw [h.mem, h'.mem]
theorem sign_lt (a : Int) : a < 0 ↔ a.sign = -1 := by rw [Int.sign_eq_neg_one_iff_neg]
/-- rankings are alike just if both shares stand alike beside all turning shares -/
theorem rk_cm {ts : List T3} {l : List Fr} (h : Turn ts l) (hb : ∀ a ∈ ts, ∀ b ∈ ts, (a.2.1 - b.2.1).natAbs < 1000000) {s s' : Fr} (hs : Frac s) (hs' : Frac s') : rk ts (vl s) = rk ts (vl s') ↔ ∀ t ∈ l, cm s t = cm s' t := by
  rw [rk_iff]
  constructor
  · intro k t ht
    obtain ⟨a, ha, b, hb', e⟩ := (h.mem t).mp ht
    obtain ⟨h0, hsh, hr⟩ := (tieO_mem (hb a ha b hb')).mp e
    have e1 := line_at hr hsh.fr.q0 s
    have e2 := line_at hr hsh.fr.q0 s'
    have y0 : a.2.1 - b.2.1 ≠ 0 := fun z => by
      rw [z, Int.mul_zero, Int.add_zero] at hr
      rcases Int.mul_eq_zero.mp hr with w | w
      · have := hsh.fr.q0; omega
      · exact h0 ⟨w, z⟩
    have k1 := k a ha b hb'
    have k2 := k b hb' a ha
    have d1 := vl_sub s a b
    have d2 := vl_sub s' a b
    rw [← d1] at e1
    rw [← d2] at e2
    have c1 : (vl s a - vl s b).sign = (vl s' a - vl s' b).sign := by
      rcases Int.lt_trichotomy (vl s a) (vl s b) with z | z | z
      · rw [Int.sign_eq_neg_one_of_neg (by omega), Int.sign_eq_neg_one_of_neg (by have := k1.mp z; omega)]
      · have : vl s' a = vl s' b := by omega
        rw [show vl s a - vl s b = 0 by omega, show vl s' a - vl s' b = 0 by omega]
      · rw [Int.sign_eq_one_of_pos (by omega), Int.sign_eq_one_of_pos (by have := k2.mp z; omega)]
    rw [e1, e2] at c1
    rcases Int.lt_trichotomy (a.2.1 - b.2.1) 0 with z | z | z
    · rw [Int.sign_eq_neg_one_of_neg z] at c1; omega
    · exact absurd z y0
    · rw [Int.sign_eq_one_of_pos z] at c1; omega
  · intro k a ha b hb'
    have d1 := vl_sub s a b
    have d2 := vl_sub s' a b
    have hbb := hb a ha b hb'
    cases ho : tieO (a.1 - b.1) (a.2.1 - b.2.1) with
    | some t =>
      obtain ⟨h0, hsh, hr⟩ := (tieO_mem hbb).mp ho
      have c := k t ((h.mem t).mpr ⟨a, ha, b, hb', ho⟩)
      have e1 := line_at hr hsh.fr.q0 s
      have e2 := line_at hr hsh.fr.q0 s'
      rw [← d1] at e1
      rw [← d2, ← c, ← e1] at e2
      have s1 := sign_lt (vl s a - vl s b)
      have s2 := sign_lt (vl s' a - vl s' b)
      rw [e2] at s2
      omega
    | none =>
      by_cases h0 : a.1 - b.1 = 0 ∧ a.2.1 - b.2.1 = 0
      · rw [h0.1, h0.2, Int.mul_zero, Int.mul_zero] at d1 d2
        omega
      · have n1 := line_none hbb ho h0 hs hs'
        have n2 := line_none hbb ho h0 hs' hs
        have n3 := line_none hbb ho h0 hs hs
        have n4 := line_none hbb ho h0 hs' hs'
        omega

structure Lk (g : Int) (ts : List T3) : Prop where
  n0 : 0 < ts.length
  n1 : ts.length ≤ 20
  ok : ∀ t ∈ ts, 0 ≤ t.1 ∧ 0 ≤ t.2.1 ∧ 0 ≤ t.2.2 ∧ t.1 + t.2.1 + t.2.2 = g
  g0 : 0 ≤ g ∧ g ≤ 500
theorem Lk.bd {g : Int} {ts : List T3} (h : Lk g ts) : ∀ a ∈ ts, ∀ b ∈ ts, (a.2.1 - b.2.1).natAbs ≤ 500 := fun a ha b hb => by
  have h1 := h.ok a ha
  have h2 := h.ok b hb
  have := h.g0
  omega
theorem Lk.bd6 {g : Int} {ts : List T3} (h : Lk g ts) : ∀ a ∈ ts, ∀ b ∈ ts, (a.2.1 - b.2.1).natAbs < 1000000 := fun a ha b hb => by
  have := h.bd a ha b hb
  omega
theorem need_like_ok {ts : List T3} (h1 : 0 < ts.length) (h2 : ts.length ≤ 20) : m_need_like [.tup (ts.map rD)] = some (.ok .non false) := by
  have k1 : kLc (gVar 1) bYes c_need_like_1 [1] (ts.map rD) [.val (.tup (ts.map rD)), .un] = some (.ok (.lst (ts.map fun _ => .bl true)) [.val (.tup (ts.map rD)), .un]) :=
    kLc_on (by simp [wipeE]) (by simp [sizeLine_eq]; omega) fun t _ => by simp [c_need_like_1, wipeE]
  have k2 : (1 : Int) ≤ (ts.length : Int) := by omega
  have k3 : (ts.length : Int) ≤ 20 := by omega
  have k4 : oAll [.lst (ts.map fun _ => .bl true)] = some (.bl true) := by simp [oAll]
  simp [m_need_like, b_need_like, k1, k2, k3, k4]
theorem need_alike_ok {g : Int} {ts : List T3} (h : Lk g ts) : m_need_games_alike [.tup (ts.map rD)] = some (.ok .non false) := by
  have k1 : kLc (gVar 1) bYes c_need_games_alike_1 [1] (ts.map rD) [.val (.tup (ts.map rD)), .un] = some (.ok (.lst (ts.map fun _ => .bl true)) [.val (.tup (ts.map rD)), .un]) :=
    kLc_on (by simp [wipeE]) (by have := h.n1; simp [sizeLine_eq]; omega) fun t ht => by
      cases hts : ts with
      | nil => rw [hts] at ht; cases ht
      | cons u r =>
        have a := (h.ok t ht).2.2.2
        have b := (h.ok u (by rw [hts]; exact List.mem_cons_self ..)).2.2.2
        simp [c_need_games_alike_1, wipeE, a, b]
  have k4 : oAll [.lst (ts.map fun _ => .bl true)] = some (.bl true) := by simp [oAll]
  simp [m_need_games_alike, b_need_games_alike, k1, k4]

theorem is_share_ok {s : Fr} (h : Frac s) (h2 : s.2 ≤ 1000) : m_is_share [fD s] = some (.ok (.bl true) false) := by
  obtain ⟨a, b, c⟩ := h
  have c1 : 1 ≤ s.2 := by omega
  simp [m_is_share, b_is_share, a, b, c1, h2]
theorem ranked_ok {g : Int} {ts : List T3} (h : Lk g ts) {s : Fr} (hs : Frac s) (h2 : s.2 ≤ 1000) : m_ranked_at [.tup (ts.map rD), fD s] = some (.ok (rkD (rk ts (vl s))) true) := by
  have n1 := h.n1
  have s0 := hs.p0
  have s1 := hs.pq
  have s2 := hs.q0
  have c1 : s.1.natAbs < 18446744073709551616 := by omega
  have c2 : s.2.natAbs < 18446744073709551616 := by omega
  have k1 : kLc (gVar 5) bYes c_ranked_at_1 [5] (ts.map rD) [.val (.tup (ts.map rD)), .val (fD s), .un, .un, .un, .un, .un, .un] = some (.ok (.lst (ts.map fun t => .int (vl s t))) [.val (.tup (ts.map rD)), .val (fD s), .un, .un, .un, .un, .un, .un]) :=
    kLc_on (by simp [wipeE]) (by simp [sizeLine_eq]; omega) fun t ht => by
      simp [c_ranked_at_1, wipeE, vl, c1, c2]
  obtain ⟨e', g1, x4, x6, x7, rfl⟩ := go_cat (t := gVar 4) (body := l_ranked_at_4) (f := D.int) (g := fun v => [ixs ts (vl s) v]) (N := 20) (l := (setI (ts.map (vl s))).reverse) (s := [])
    (inv := fun r e => ∃ x4 x6 x7, e = [.val (.tup (ts.map rD)), .val (fD s), .val (.lst (ts.map fun t => .int (vl s t))), .own (rkD r), x4, .un, x6, x7])
    (e := [.val (.tup (ts.map rD)), .val (fD s), .val (.lst (ts.map fun t => .int (vl s t))), .own (.lst []), .un, .un, .un, .un])
    (by
      have := setI_len (ts.map (vl s))
      rw [List.length_map] at this
      have e : ∀ l : List Int, (l.flatMap fun v => [ixs ts (vl s) v]).length = l.length := fun l => by induction l <;> simp_all
      rw [List.nil_append, e, List.length_reverse]; omega)
    (fun r v e hv hl hi => by
      obtain ⟨x4, x6, x7, rfl⟩ := hi
      have k2 : ∀ o, kLc (gTupD 2 (gsCons (gVar 6) (gsCons (gVar 7) gsNil))) p_ranked_at_2 c_ranked_at_3 [6, 7] ((ts.zipIdx).map fun p => .tup [.int ((p.2 : Nat) : Int), .int (vl s p.1)]) [.val (.tup (ts.map rD)), .val (fD s), .val (.lst (ts.map fun t => .int (vl s t))), .own o, .val (.int v), .un, x6, x7] =
          some (.ok (.lst (((ts.zipIdx).filter fun p => decide (vl s p.1 = v)).map fun p => .int (p.2 : Nat))) [.val (.tup (ts.map rD)), .val (fD s), .val (.lst (ts.map fun t => .int (vl s t))), .own o, .val (.int v), .un, .un, .un]) := fun o =>
        kLc_onIf (by simp [wipeE]) (by simp [sizeLine_eq]; omega) fun p _ => by
          simp [p_ranked_at_2, c_ranked_at_3, wipeE]
      have hz : r.length < 16777216 := by rw [List.length_append] at hl; omega
      refine ⟨[.val (.tup (ts.map rD)), .val (fD s), .val (.lst (ts.map fun t => .int (vl s t))), .own (rkD (r ++ [ixs ts (vl s) v])), .val (.int v), .un, .un, .un], ?_, _, _, _, rfl⟩
      simp [l_ranked_at_4, enum_map, k2, rkD, ixs, hz, sizeLine_eq]) ⟨_, _, _, rfl⟩
  have kn := need_like_ok h.n0 h.n1
  have ka := need_alike_ok h
  have kz := is_share_ok hs h2
  have e1 : ([] ++ (setI (ts.map (vl s))).reverse.flatMap fun v => [ixs ts (vl s) v]) = rk ts (vl s) := by
    have e : ∀ l : List Int, (l.flatMap fun v => [ixs ts (vl s) v]) = l.map (ixs ts (vl s)) := fun l => by induction l <;> simp_all
    rw [List.nil_append, e]; rfl
  rw [e1, List.map_reverse] at g1
  have l1 : (setI (ts.map (vl s))).length < 64 := by
    have := setI_len (ts.map (vl s)); rw [List.length_map] at this; omega
  have l2 : ts.length ≤ 1000 := by omega
  have e3 : (ts.map fun t => D.int (vl s t)) = (ts.map (vl s)).map D.int := by rw [List.map_map]; rfl
  simp [m_ranked_at, b_ranked_at, kn, ka, kz, k1, g1, l1, l2]

def aheadB (a b : T3) : Bool := decide (b.1 < a.1) && decide (b.1 + b.2.1 < a.1 + a.2.1)
theorem ahead_ok {g : Int} {ts : List T3} (h : Lk g ts) {i j : Nat} {a b : T3} (hi : ts[i]? = some a) (hj : ts[j]? = some b) : m_always_ahead [.tup (ts.map rD), .int (i : Nat), .int (j : Nat)] = some (.ok (.bl (aheadB a b)) false) := by
  have li := (List.getElem?_eq_some_iff.mp hi).1
  have lj := (List.getElem?_eq_some_iff.mp hj).1
  have kn := need_like_ok h.n0 h.n1
  have ka := need_alike_ok h
  have ki : atI (ts.map rD) ((i : Nat) : Int) = some (rD a) := by rw [atI_nt, List.getElem?_map, hi]; rfl
  have kj : atI (ts.map rD) ((j : Nat) : Int) = some (rD b) := by rw [atI_nt, List.getElem?_map, hj]; rfl
  have c1 : (0 : Int) ≤ (i : Int) := by omega
  have c2 : (i : Int) ≤ (ts.length : Int) - 1 := by omega
  have c3 : (0 : Int) ≤ (j : Int) := by omega
  have c4 : (j : Int) ≤ (ts.length : Int) - 1 := by omega
  by_cases z : b.1 < a.1 <;> simp [m_always_ahead, b_always_ahead, l_always_ahead_1, forGo, kn, ka, ki, kj, c1, c2, c3, c4, z, aheadB, sizeLine_eq]

def innB (s : Fr) : Bool := decide (0 < s.1) && decide (s.1 < s.2)
theorem innB_iff {s : Fr} : innB s = true ↔ 0 < s.1 ∧ s.1 < s.2 := by
  unfold innB
  rw [Bool.and_eq_true, decide_eq_true_iff, decide_eq_true_iff]

theorem tieO_neg {x y : Int} (hy : y.natAbs < 1000000) : tieO (-x) (-y) = tieO x y := by
  refine Option.ext fun s => ?_
  rw [tieO_mem hy, tieO_mem (by omega)]
  constructor
  · rintro ⟨a, b, c⟩
    refine ⟨fun z => a ⟨by omega, by omega⟩, b, ?_⟩
    rw [Int.mul_neg, Int.mul_neg] at c; omega
  · rintro ⟨a, b, c⟩
    refine ⟨fun z => a ⟨by omega, by omega⟩, b, ?_⟩
    rw [Int.mul_neg, Int.mul_neg]; omega
theorem tieO_00 : tieO 0 0 = none := by simp [tieO]
def tieT (a b : T3) : Option Fr := tieO (a.1 - b.1) (a.2.1 - b.2.1)
def tn (ts : List T3) : List Fr := (ts.zipIdx).foldl (fun l p => (ts.take p.2).foldl (fun l b => putF l (tieT p.1 b)) l) []
theorem tn_flat (ts : List T3) : tn ts = ((ts.zipIdx).flatMap fun p => (ts.take p.2).map (tieT p.1)).foldl putF [] := by
  unfold tn
  rw [List.foldl_flatMap]
  simp only [List.foldl_map]
theorem some_pair {ts : List T3} (hb : ∀ a ∈ ts, ∀ b ∈ ts, (a.2.1 - b.2.1).natAbs < 1000000) {s : Fr} : (some s ∈ ((ts.zipIdx).flatMap fun p => (ts.take p.2).map (tieT p.1))) ↔ tied ts s := by
  rw [List.mem_flatMap]
  constructor
  · rintro ⟨⟨a, i⟩, h1, h2⟩
    rw [List.mem_zipIdx_iff_getElem?] at h1
    obtain ⟨b, h3, h4⟩ := List.mem_map.mp h2
    exact ⟨a, List.mem_of_getElem? h1, b, List.mem_of_mem_take h3, h4⟩
  · rintro ⟨a, ha, b, hb', h⟩
    obtain ⟨i, hi⟩ := List.mem_iff_getElem?.mp ha
    obtain ⟨j, hj⟩ := List.mem_iff_getElem?.mp hb'
    have tk : ∀ {i j : Nat} {b : T3}, ts[j]? = some b → j < i → b ∈ ts.take i := fun {i j b} h1 h2 => List.mem_of_getElem? (i := j) (by rw [List.getElem?_take_of_lt h2]; exact h1)
    rcases Nat.lt_trichotomy i j with z | z | z
    · refine ⟨(b, j), by rw [List.mem_zipIdx_iff_getElem?]; exact hj, List.mem_map.mpr ⟨a, tk hi z, ?_⟩⟩
      have := tieO_neg (x := a.1 - b.1) (hb a ha b hb')
      rw [h] at this
      rw [← this]
      unfold tieT
      congr 1 <;> (dsimp only; omega)
    · subst z
      rw [hi] at hj; cases hj
      rw [Int.sub_self, Int.sub_self, tieO_00] at h
      cases h
    · exact ⟨(a, i), by rw [List.mem_zipIdx_iff_getElem?]; exact hi, List.mem_map.mpr ⟨b, tk hj z, h⟩⟩
theorem turn_tn {ts : List T3} (hb : ∀ a ∈ ts, ∀ b ∈ ts, (a.2.1 - b.2.1).natAbs < 1000000) : Turn ts (tn ts) := by
  rw [tn_flat]
  have k := putF_all (l := (ts.zipIdx).flatMap fun p => (ts.take p.2).map (tieT p.1)) (s := []) ⟨List.Pairwise.nil, fun s hs => by cases hs⟩ fun o ho x hx => by
    subst hx
    obtain ⟨a, ha, b, hb', h⟩ := (some_pair hb).mp ho
    exact ((tieO_mem (hb a ha b hb')).mp h).2.1
  refine ⟨k.1, fun s => ?_⟩
  rw [k.2, some_pair hb]
  simp
theorem Turn.bd {g : Int} {ts : List T3} (h : Lk g ts) {l : List Fr} (ht : Turn ts l) : ∀ s ∈ l, Sh s ∧ s.2 ≤ 500 := fun s hs => by
  obtain ⟨a, ha, b, hb, e⟩ := (ht.mem s).mp hs
  have := tieO_bd e
  have := h.bd a ha b hb
  exact ⟨ht.good.sh s hs, by omega⟩
theorem putF_len (l : List Fr) (o : Option Fr) : (putF l o).length ≤ l.length + 1 := by
  have z : ∀ (s : Fr) (l : List Fr), (insR s l).length = l.length + 1 := fun s l => by
    induction l with
    | nil => rfl
    | cons a l ih => unfold insR; split <;> simp_all
  unfold putF
  cases o with
  | none => dsimp only; omega
  | some s => dsimp only; split <;> (try rw [z]) <;> omega
theorem is_less_ok {a b : Fr} (ha : a.2.natAbs < 1000000) (hb : b.2.natAbs < 1000000) : m_is_less [fD a, fD b] = some (.ok (.bl (ltF a b)) false) := by
  have k1 : a.2.natAbs < 18446744073709551616 := by omega
  have k2 : b.2.natAbs < 18446744073709551616 := by omega
  simp [m_is_less, b_is_less, k1, k2, ltF]
theorem fD_nice (s : Fr) : nice 1 (fD s) := by simp [nice]
theorem fDs_nice (l : List Fr) : nice 2 (.lst (l.map fD)) := by
  intro x hx
  obtain ⟨s, _, rfl⟩ := List.mem_map.mp hx
  exact fD_nice s
theorem fD_inj {s t : Fr} : fD s = fD t ↔ s = t := by
  obtain ⟨a, b⟩ := s; obtain ⟨c, d⟩ := t
  simp [fD]
theorem fD_mem {s : Fr} {l : List Fr} : fD s ∈ l.map fD ↔ s ∈ l := by
  rw [List.mem_map]
  exact ⟨fun ⟨t, h, e⟩ => by rw [← fD_inj.mp e]; exact h, fun h => ⟨s, h, rfl⟩⟩
theorem fDs_inj {l m : List Fr} : D.lst (l.map fD) = .lst (m.map fD) ↔ l = m := by
  refine ⟨fun h => ?_, fun h => by rw [h]⟩
  rw [D.lst.injEq] at h
  exact List.map_inj_right (fun {a b} e => fD_inj.mp e) |>.mp h
theorem mapTake {α β : Type} (f : α → β) (l : List α) (i : Nat) : (l.map f).take i = (l.take i).map f := List.map_take.symm
theorem shares_in {g : Int} {ts : List T3} (h : Lk g ts) (i : Nat) (a : T3) (ha : a ∈ ts) : ∀ {bs : List T3} {l : List Fr} {e : En}, ((∀ b ∈ bs, b ∈ ts) ∧ Good l ∧ (∀ s ∈ l, s.2 ≤ 500) ∧ l.length + bs.length ≤ 1000) → (∃ x4 x5 x6 x7, e = [.val (.tup (ts.map rD)), .own (.lst (l.map fD)), .val (.int (i : Nat)), .val (rD a), x4, x5, x6, x7]) →
    ∃ e', forGo (gVar 4) l_shares_of_3 (bs.map rD) e = some (.nx e') ∧ ∃ x4 x5 x6 x7, e' = [.val (.tup (ts.map rD)), .own (.lst ((bs.foldl (fun l b => putF l (tieT a b)) l).map fD)), .val (.int (i : Nat)), .val (rD a), x4, x5, x6, x7] := by
  intro bs l e hp hi
  exact go_left (t := gVar 4) (body := l_shares_of_3) (f := rD) (step := fun l b => putF l (tieT a b)) (P := fun l bs => (∀ b ∈ bs, b ∈ ts) ∧ Good l ∧ (∀ s ∈ l, s.2 ≤ 500) ∧ l.length + bs.length ≤ 1000)
    (inv := fun l e => ∃ x4 x5 x6 x7, e = [.val (.tup (ts.map rD)), .own (.lst (l.map fD)), .val (.int (i : Nat)), .val (rD a), x4, x5, x6, x7])
    (fun l b bs e hp hi => by
      obtain ⟨hbs, hg, hq, hl⟩ := hp
      have hb := hbs b (List.mem_cons_self ..)
      have hab := h.bd6 a ha b hb
      have hO : ∀ s, tieT a b = some s → Sh s ∧ s.2 ≤ 500 := fun s e => ⟨((tieO_mem hab).mp e).2.1, by
        have := tieO_bd e; have := h.bd a ha b hb; omega⟩
      refine ⟨⟨fun c hc => hbs c (List.mem_cons_of_mem _ hc), hg.put fun s e => (hO s e).1, fun s hs => (mem_putF.mp hs).elim (hq s) fun e => (hO s e).2, ?_⟩, ?_⟩
      · have := putF_len l (tieT a b)
        rw [List.length_cons] at hl
        omega
      · obtain ⟨x4, x5, x6, x7, rfl⟩ := hi
        have sa := h.ok a ha
        have sb := h.ok b hb
        have kt := tie_ok a.1 a.2.1 a.2.2 b.1 b.2.1 b.2.2 (by omega) (by have := h.bd a ha b hb; omega)
        rw [tieV_O] at kt
        have hO' : ∀ s, tieO (a.1 - b.1) (a.2.1 - b.2.1) = some s → Sh s ∧ s.2 ≤ 500 := hO
        unfold tieT
        cases ho : tieO (a.1 - b.1) (a.2.1 - b.2.1) with
        | none =>
          rw [ho] at kt
          refine ⟨[.val (.tup (ts.map rD)), .own (.lst (l.map fD)), .val (.int (i : Nat)), .val (rD a), .val (rD b), .val .non, x6, x7], ?_, _, _, _, _, rfl⟩
          simp [l_shares_of_3, kt, putF]
        | some s =>
          rw [ho] at kt
          obtain ⟨ss, sq⟩ := hO' s ho
          by_cases hm : s ∈ l
          · have kn : oNotInL (fD s) (.lst (l.map fD)) = some (.bl false) := oNotInL_if (k := 1) (p := true) (nice_up (fD_nice s)) (fDs_nice l) (fun y hy => by
              obtain ⟨u, _, rfl⟩ := List.mem_map.mp hy; exact nice_up (fD_nice u)) (by decide) ⟨fun _ => rfl, fun _ => fD_mem.mpr hm⟩
            refine ⟨[.val (.tup (ts.map rD)), .own (.lst (l.map fD)), .val (.int (i : Nat)), .val (rD a), .val (rD b), .val (fD s), x6, x7], ?_, ?_⟩
            · simp [l_shares_of_3, kt, kn]
            · simp only [putF, if_pos hm]; exact ⟨_, _, _, _, rfl⟩
          · have kn : oNotInL (fD s) (.lst (l.map fD)) = some (.bl true) := oNotInL_if (k := 1) (p := false) (nice_up (fD_nice s)) (fDs_nice l) (fun y hy => by
              obtain ⟨u, _, rfl⟩ := List.mem_map.mp hy; exact nice_up (fD_nice u)) (by decide) ⟨fun z => absurd (fD_mem.mp z) hm, fun z => (nomatch z)⟩
            have kc : kLc (gVar 7) p_shares_of_1 c_shares_of_2 [7] (l.map fD) [.val (.tup (ts.map rD)), .un, .val (.int (i : Nat)), .val (rD a), .val (rD b), .val (fD s), x6, x7] = some (.ok (.lst ((l.filter fun k => ltF k s).map fD)) [.val (.tup (ts.map rD)), .un, .val (.int (i : Nat)), .val (rD a), .val (rD b), .val (fD s), x6, .un]) :=
              kLc_onIf (by simp [wipeE]) (by rw [List.length_cons] at hl; simp [sizeLine_eq]; omega) fun k hk => by
                have h1 := hq k hk
                have h2 := (hg.sh k hk).fr.q0
                have h3 := ss.fr.q0
                have kl := is_less_ok (a := k) (b := s) (by omega) (by omega)
                simp [p_shares_of_1, c_shares_of_2, wipeE, kl]
            have ki := insR_at (s := s) ss.fr.q0 (fun b hb => (hg.sh b hb).fr.q0) hg.asc
            have hz : l.length < 16777216 := by rw [List.length_cons] at hl; omega
            have hf : (l.filter fun k => ltF k s).length ≤ l.length := List.length_filter_le _ _
            refine ⟨[.val (.tup (ts.map rD)), .own (.lst ((insR s l).map fD)), .val (.int (i : Nat)), .val (rD a), .val (rD b), .val (fD s), .val (.int ((l.filter fun k => ltF k s).length : Nat)), .un], ?_, ?_⟩
            · rw [← ki]
              have hf2 : ((l.filter fun k => ltF k s).length : Int) < 1073741824 := by omega
              simp [l_shares_of_3, kt, kn, kc, hz, sizeLine_eq, kIns, hf2]
            · simp only [putF, if_neg hm]; exact ⟨_, _, _, _, rfl⟩) hp hi
theorem shares_of_ok {g : Int} {ts : List T3} (h : Lk g ts) : m_shares_of [.tup (ts.map rD)] = some (.ok (.lst ((tn ts).map fD)) true) := by
  have hn := h.n1
  obtain ⟨e', g1, x2, x3, x4, x5, x6, x7, rfl⟩ := go_left (t := gTupD 2 (gsCons (gVar 2) (gsCons (gVar 3) gsNil))) (body := l_shares_of_4) (f := fun p : T3 × Nat => .tup [.int ((p.2 : Nat) : Int), rD p.1]) (step := fun l p => (ts.take p.2).foldl (fun l b => putF l (tieT p.1 b)) l)
    (P := fun l ps => (∀ p ∈ ps, p.1 ∈ ts) ∧ Good l ∧ (∀ s ∈ l, s.2 ≤ 500) ∧ l.length + 20 * ps.length ≤ 400)
    (inv := fun l e => ∃ x2 x3 x4 x5 x6 x7, e = [.val (.tup (ts.map rD)), .own (.lst (l.map fD)), x2, x3, x4, x5, x6, x7])
    (fun l p ps e hp hi => by
      obtain ⟨hbs, hg, hq, hl⟩ := hp
      obtain ⟨x2, x3, x4, x5, x6, x7, rfl⟩ := hi
      have ha := hbs p (List.mem_cons_self ..)
      rw [List.length_cons] at hl
      have hlen : (ts.take p.2).length ≤ 20 := by rw [List.length_take]; omega
      have pre : ∀ (bs : List T3) (l : List Fr), (∀ b ∈ bs, b ∈ ts) → Good l → (∀ s ∈ l, s.2 ≤ 500) → Good (bs.foldl (fun l b => putF l (tieT p.1 b)) l) ∧ (∀ s ∈ bs.foldl (fun l b => putF l (tieT p.1 b)) l, s.2 ≤ 500) ∧ (bs.foldl (fun l b => putF l (tieT p.1 b)) l).length ≤ l.length + bs.length := fun bs => by
        induction bs with
        | nil => exact fun l _ h1 h2 => ⟨h1, h2, by simp⟩
        | cons b bs ih =>
          intro l h0 h1 h2
          have hb := h0 b (List.mem_cons_self ..)
          have hab := h.bd6 p.1 ha b hb
          have hO : ∀ s, tieT p.1 b = some s → Sh s ∧ s.2 ≤ 500 := fun s e => ⟨((tieO_mem hab).mp e).2.1, by
            have := tieO_bd e; have := h.bd p.1 ha b hb; omega⟩
          have h3 := putF_len l (tieT p.1 b)
          obtain ⟨i1, i2, i3⟩ := ih (putF l (tieT p.1 b)) (fun c hc => h0 c (List.mem_cons_of_mem _ hc)) (h1.put fun s e => (hO s e).1) fun s hs => (mem_putF.mp hs).elim (h2 s) fun e => (hO s e).2
          refine ⟨i1, i2, ?_⟩
          rw [List.foldl_cons, List.length_cons]; omega
      obtain ⟨q1, q2, q3⟩ := pre (ts.take p.2) l (fun b hb => List.mem_of_mem_take hb) hg hq
      refine ⟨⟨fun q hq => hbs q (List.mem_cons_of_mem _ hq), q1, q2, by omega⟩, ?_⟩
      obtain ⟨e', gi, y4, y5, y6, y7, rfl⟩ := shares_in h p.2 p.1 ha (bs := ts.take p.2) (l := l) (e := [.val (.tup (ts.map rD)), .own (.lst (l.map fD)), .val (.int (p.2 : Nat)), .val (rD p.1), x4, x5, x6, x7])
        ⟨fun b hb => List.mem_of_mem_take hb, hg, hq, by omega⟩ ⟨_, _, _, _, rfl⟩
      rw [← mapTake] at gi
      refine ⟨[.val (.tup (ts.map rD)), .own (.lst (((ts.take p.2).foldl (fun l b => putF l (tieT p.1 b)) l).map fD)), .val (.int (p.2 : Nat)), .val (rD p.1), y4, y5, y6, y7], ?_, _, _, _, _, _, _, rfl⟩
      simp [l_shares_of_4, cut_to, gi]) (l := ts.zipIdx) (s := []) (e := [.val (.tup (ts.map rD)), .own (.lst []), .un, .un, .un, .un, .un, .un])
    ⟨fun p hp => by
      rw [List.mem_zipIdx_iff_getElem?] at hp
      exact List.mem_of_getElem? hp, ⟨List.Pairwise.nil, fun s hs => (by cases hs)⟩, fun s hs => (by cases hs), by rw [List.length_zipIdx, List.length_nil]; omega⟩ ⟨_, _, _, _, _, _, rfl⟩
  have g2 : forGo (gTupD 2 (gsCons (gVar 2) (gsCons (gVar 3) gsNil))) l_shares_of_4 ((ts.zipIdx).map fun p => .tup [.int ((p.2 : Nat) : Int), rD p.1]) [.val (.tup (ts.map rD)), .own (.lst []), .un, .un, .un, .un, .un, .un] = some (.nx [.val (.tup (ts.map rD)), .own (.lst ((tn ts).map fD)), x2, x3, x4, x5, x6, x7]) := g1
  simp [m_shares_of, b_shares_of, enum_map, g2]
theorem turning_ok {g : Int} {ts : List T3} (h : Lk g ts) : m_turning_shares [.tup (ts.map rD)] = some (.ok (.lst ((tn ts).map fD)) true) := by
  simp [m_turning_shares, b_turning_shares, need_like_ok h.n0 h.n1, need_alike_ok h, shares_of_ok h]

theorem low_go : ∀ (n a b : Nat) (x y : Sl), a < n → whileGo (sT (sBin oGt (sVar 2) (sC (.int 0)))) l_law_lowest_1 n [x, y, .val (.int a), .val (.int b)] = some (.nx [x, y, .val (.int 0), .val (.int (Nat.gcd a b))])
  | 0, a, b, x, y, h => by omega
  | n + 1, a, b, x, y, h => by
    by_cases hb : a = 0
    · subst hb
      rw [while_stop (e1 := [x, y, .val (.int (0 : Nat)), .val (.int b)]) (by simp)]
      simp
    · have h1 : 0 < a := by omega
      have e : ((b : Int) % (a : Int)) = ((b % a : Nat) : Int) := by omega
      have ih := low_go n (b % a) a x y (by have := Nat.mod_lt b h1; omega)
      have g : Nat.gcd (b % a) a = Nat.gcd a b := (Nat.gcd_rec a b).symm
      rw [g, ← e] at ih
      rw [while_step (e1 := [x, y, .val (.int a), .val (.int b)]) (e2 := [x, y, .val (.int ((b : Int) % (a : Int))), .val (.int a)]) (by simp [h1]) (by simp [l_law_lowest_1, h1])]
      exact ih
theorem law_lowest_ok (t : Int) (b : Nat) (h0 : 0 < b) (h1 : b < 1000000) : m_law_lowest [.int t, .int b] = some (.ok (.tup [.int (t / (Nat.gcd t.natAbs b : Nat)), .int ((b : Int) / (Nat.gcd t.natAbs b : Nat))]) false) := by
  have e : (if t < 0 then -t else t) = (t.natAbs : Int) := by split <;> omega
  have g0 : 0 < Nat.gcd t.natAbs b := Nat.gcd_pos_of_pos_right _ h0
  have g1 : Nat.gcd t.natAbs b ≤ b := Nat.gcd_le_right _ h0
  obtain ⟨T, hT⟩ : ∃ T : Nat, t.natAbs = T := ⟨_, rfl⟩
  rw [hT] at e g0 g1 ⊢
  have k := low_go (T + 1) T b (.val (.int t)) (.val (.int b)) (by omega)
  have hw : sWhile (fuelI 2) (sT (sBin oGt (sVar 2) (sC (.int 0)))) l_law_lowest_1 [.val (.int t), .val (.int b), .val (.int T), .val (.int b)] = some (.nx [.val (.int t), .val (.int b), .val (.int 0), .val (.int (Nat.gcd T b))]) := k
  obtain ⟨G, hG⟩ : ∃ G : Nat, Nat.gcd T b = G := ⟨_, rfl⟩
  rw [hG] at g0 g1 hw ⊢
  have c1 : (G : Int) < 1073741824 := by omega
  generalize hx : sWhile (fuelI 2) (sT (sBin oGt (sVar 2) (sC (.int 0)))) l_law_lowest_1 = W at hw
  simp only [m_law_lowest, b_law_lowest, hx]
  simp [e, hw, g0, c1, sizeLine_eq]
theorem law_lowest_1 (t : Int) (b : Int) (h0 : 0 < b) (h1 : b < 1000000) (hg : Nat.gcd t.natAbs b.toNat = 1) : m_law_lowest [.int t, .int b] = some (.ok (.tup [.int t, .int b]) false) := by
  have k := law_lowest_ok t b.toNat (by omega) (by omega)
  rw [show ((b.toNat : Nat) : Int) = b by omega, hg] at k
  simpa using k

theorem putFs_len : ∀ (os : List (Option Fr)) (l : List Fr), (os.foldl putF l).length ≤ l.length + os.length
  | [], l => by simp
  | o :: os, l => by
    have h1 := putF_len l o
    have h2 := putFs_len os (putF l o)
    rw [List.foldl_cons, List.length_cons]; omega
theorem tn_len {g : Int} {ts : List T3} (h : Lk g ts) : (tn ts).length ≤ 400 := by
  rw [tn_flat]
  have h1 := putFs_len ((ts.zipIdx).flatMap fun p => (ts.take p.2).map (tieT p.1)) []
  have h2 := flat_le (l := ts.zipIdx) (g := fun p => (ts.take p.2).map (tieT p.1)) (k := 20) fun p _ => by
    have := h.n1
    rw [List.length_map, List.length_take]; omega
  have h3 := h.n1
  rw [List.length_zipIdx] at h2
  rw [List.length_nil] at h1
  omega

def cnt (l : List Fr) : Nat := l.length + (l.filter innB).length + 1
theorem count_ok {g : Int} {ts : List T3} (h : Lk g ts) : m_count_rankings [.tup (ts.map rD)] = some (.ok (.int (cnt (tn ts) : Nat)) false) := by
  have tl := tn_len h
  have fl : ((tn ts).filter innB).length ≤ (tn ts).length := List.length_filter_le _ _
  have k6 : ∀ b0 b2 b3, kLc (gVar 3) p_count_rankings_1 c_count_rankings_2 [3] ((tn ts).map fD) [b0, .val (.lst ((tn ts).map fD)), b2, b3] = some (.ok (.lst (((tn ts).filter innB).map fD)) [b0, .val (.lst ((tn ts).map fD)), b2, .un]) := fun _ _ _ =>
    kLc_onIf (by simp [wipeE]) (by simp [sizeLine_eq]; omega) fun t ht => by
      simp [p_count_rankings_1, c_count_rankings_2, wipeE, innB]
      by_cases z : 0 < t.1 <;> simp [z]
  simp [m_count_rankings, b_count_rankings, need_like_ok h.n0 h.n1, need_alike_ok h, shares_of_ok h, k6, cnt]

end RK

theorem rep_s (r : R3) (n : Nat) : (List.replicate n [D.str r.s]).flatten = (List.replicate n r).map fun r => .str r.s := by
  induction n with
  | zero => rfl
  | succ n ih => rw [List.replicate_succ, List.flatten_cons, ih]; rfl
theorem rep_p (n : Nat) : (List.replicate n [D.tup [.int 0, .int 1]]).flatten = (List.replicate n ((0 : Nat), (1 : Nat))).map pD := by
  induction n with
  | zero => rfl
  | succ n ih => rw [List.replicate_succ, List.flatten_cons, ih]; rfl

theorem two_all (d : Int) : ∀ (n : Nat) (x y : Int) (t : List Int), t ∈ tots (2 * d) d 0 [x, y] (List.replicate n (0, 1)) ↔ ∃ k : Nat, k ≤ 2 * n ∧ t = [x + d * k, y + d * (2 * n - k : Int)]
  | 0, x, y, t => by
    rw [List.replicate_zero]
    constructor
    · intro h
      have : t = [x, y] := by simpa [tots, outs] using h
      exact ⟨0, by omega, by rw [this]; simp⟩
    · rintro ⟨k, hk, rfl⟩
      have : k = 0 := by omega
      subst this
      simp [tots, outs]
  | n + 1, x, y, t => by
    rw [List.replicate_succ, mem_tots]
    have step : ∀ r : R3, play (2 * d) d 0 [x, y] (0, 1) r = [x + (gn (2 * d) d 0 r).1, y + (gn (2 * d) d 0 r).2] := fun r => rfl
    constructor
    · rintro ⟨r, hr⟩
      rw [step, two_all d n] at hr
      obtain ⟨k, hk, rfl⟩ := hr
      cases r with
      | d =>
        refine ⟨k + 1, by omega, ?_⟩
        show [x + d + d * (k : Int), y + d + d * (2 * (n : Int) - k)] = _
        congr 1
        · push_cast; rw [Int.mul_add]; omega
        · congr 1; push_cast; rw [show (2 * ((n : Int) + 1) - ((k : Int) + 1)) = (2 * (n : Int) - k) + 1 by omega, Int.mul_add]; omega
      | l =>
        refine ⟨k, by omega, ?_⟩
        show [x + 0 + d * (k : Int), y + 2 * d + d * (2 * (n : Int) - k)] = _
        congr 1
        · omega
        · congr 1; push_cast; rw [show (2 * ((n : Int) + 1) - (k : Int)) = (2 * (n : Int) - k) + 2 by omega, Int.mul_add]; omega
      | w =>
        refine ⟨k + 2, by omega, ?_⟩
        show [x + 2 * d + d * (k : Int), y + 0 + d * (2 * (n : Int) - k)] = _
        congr 1
        · rw [show ((k + 2 : Nat) : Int) = (k : Int) + 2 by omega, Int.mul_add]; omega
        · congr 1; rw [show (2 * ((n + 1 : Nat) : Int) - ((k + 2 : Nat) : Int)) = (2 * (n : Int) - k) by omega]; omega
    · rintro ⟨k, hk, rfl⟩
      by_cases c2 : k ≤ 2 * n
      · refine ⟨.l, ?_⟩
        rw [step, two_all d n]
        refine ⟨k, c2, ?_⟩
        show _ = [x + 0 + d * (k : Int), y + 2 * d + d * (2 * (n : Int) - k)]
        congr 1
        · omega
        · congr 1; push_cast; rw [show (2 * ((n : Int) + 1) - (k : Int)) = (2 * (n : Int) - k) + 2 by omega, Int.mul_add]; omega
      · by_cases c3 : k = 2 * n + 1
        · refine ⟨.d, ?_⟩
          rw [step, two_all d n]
          refine ⟨2 * n, by omega, ?_⟩
          subst c3
          show _ = [x + d + d * ((2 * n : Nat) : Int), y + d + d * (2 * (n : Int) - ((2 * n : Nat) : Int))]
          congr 1
          · push_cast; rw [Int.mul_add]; omega
          · congr 1; push_cast; rw [show (2 * ((n : Int) + 1) - (2 * (n : Int) + 1)) = (2 * (n : Int) - 2 * (n : Int)) + 1 by omega, Int.mul_add]; omega
        · have c4 : k = 2 * n + 2 := by omega
          refine ⟨.w, ?_⟩
          rw [step, two_all d n]
          refine ⟨2 * n, by omega, ?_⟩
          subst c4
          show _ = [x + 2 * d + d * ((2 * n : Nat) : Int), y + 0 + d * (2 * (n : Int) - ((2 * n : Nat) : Int))]
          congr 1
          · rw [show ((2 * n + 2 : Nat) : Int) = ((2 * n : Nat) : Int) + 2 by omega, Int.mul_add]; omega
          · congr 1; rw [show (2 * ((n + 1 : Nat) : Int) - ((2 * n + 2 : Nat) : Int)) = (2 * (n : Int) - ((2 * n : Nat) : Int)) by omega]; omega
theorem eno_two {d : Int} (hd : 0 < d) (L n : Nat) : enoV (2 * d) d 0 [2 * d * L, 0] (List.replicate n (0, 1)) 0 = some (2 * d * L + d * (n - L : Nat)) := by
  have k := eno_spec (2 * d) d 0 [2 * d * L, 0] (List.replicate n (0, 1)) 0
  have mem := two_all d n (2 * d * L) 0
  refine isMin_uniq k (G' := fun m => (∃ t ∈ tots (2 * d) d 0 [2 * d * L, 0] (List.replicate n (0, 1)), t.getD 0 0 = m) ∧ ∀ t ∈ tots (2 * d) d 0 [2 * d * L, 0] (List.replicate n (0, 1)), 1 < plc t 0 → t.getD 0 0 < m) (.inr ⟨2 * d * L + d * (n - L : Nat), rfl, ⟨?_, ?_⟩, ?_⟩) fun v => Iff.rfl
  · exact ⟨_, (mem _).mpr ⟨n - L, by omega, rfl⟩, rfl⟩
  · intro t ht hp
    obtain ⟨k, hk, rfl⟩ := (mem t).mp ht
    rw [plc20] at hp
    show 2 * d * L + d * (k : Int) < _
    have lt : 2 * d * L + d * (k : Int) < 0 + d * (2 * (n : Int) - k) := by
      apply Classical.byContradiction
      intro z
      rw [if_neg z] at hp; omega
    have e1 : d * (2 * (L : Int) + 2 * k) < d * (2 * (n : Int)) := by
      rw [Int.mul_sub] at lt
      rw [Int.mul_add, show d * (2 * (k : Int)) = d * k + d * k by rw [show (2 * (k : Int)) = k + k by omega, Int.mul_add], show d * (2 * (L : Int)) = 2 * d * L by rw [← Int.mul_assoc, Int.mul_comm d 2]]
      omega
    have e2 := Int.lt_of_mul_lt_mul_left e1 (show 0 ≤ d by omega)
    have : d * (k : Int) < d * ((n - L : Nat) : Int) := Int.mul_lt_mul_of_pos_left (by omega) hd
    omega
  · rintro v ⟨⟨t, ht, rfl⟩, hv⟩
    obtain ⟨k, hk, rfl⟩ := (mem t).mp ht
    show _ ≤ 2 * d * L + d * (k : Int)
    rcases Nat.lt_or_ge k (n - L) with z | z
    · exfalso
      have h2 := hv _ ((mem _).mpr ⟨n - L - 1, by omega, rfl⟩) (by
        rw [plc20, if_pos]
        · omega
        · have : d * (2 * (L : Int) + 2 * ((n - L - 1 : Nat) : Int)) < d * (2 * (n : Int)) := Int.mul_lt_mul_of_pos_left (by omega) hd
          rw [Int.mul_sub]
          rw [Int.mul_add, show d * (2 * ((n - L - 1 : Nat) : Int)) = d * ((n - L - 1 : Nat) : Int) + d * ((n - L - 1 : Nat) : Int) by rw [show (2 * ((n - L - 1 : Nat) : Int)) = ((n - L - 1 : Nat) : Int) + ((n - L - 1 : Nat) : Int) by omega, Int.mul_add], show d * (2 * (L : Int)) = 2 * d * L by rw [← Int.mul_assoc, Int.mul_comm d 2]] at this
          omega)
      have h3 : 2 * d * L + d * ((n - L - 1 : Nat) : Int) < 2 * d * L + d * (k : Int) := h2
      have : d * (k : Int) ≤ d * ((n - L - 1 : Nat) : Int) := Int.mul_le_mul_of_nonneg_left (by omega) (by omega)
      omega
    · have : d * ((n - L : Nat) : Int) ≤ d * (k : Int) := Int.mul_le_mul_of_nonneg_left (by omega) (by omega)
      omega
theorem wn_two {d : Int} (hd : 0 < d) : ∀ (m L : Nat), wn (2 * d) m (-(2 * d * L)) = min m L
  | 0, L => by simp [wn]
  | m + 1, 0 => by simp [wn]
  | m + 1, L + 1 => by
    have e : -(2 * d * ((L + 1 : Nat) : Int)) + 2 * d = -(2 * d * (L : Int)) := by push_cast; rw [Int.mul_add]; omega
    have neg : -(2 * d * ((L + 1 : Nat) : Int)) < 0 := by
      have : 0 < 2 * d * ((L + 1 : Nat) : Int) := Int.mul_pos (by omega) (by omega)
      omega
    unfold wn
    rw [if_pos neg, e, wn_two hd m L]
    omega

theorem law_1 {d : Int} (hd : 0 < d) (hd2 : d ≤ 9) {L n : Nat} (hL : L ≤ 3) (hn : n ≤ 4) (a0 a1 a2 x7 x8 x9 a10 a11 a12 a13 : Sl) :
    ∃ e2, (gVar 7 (.int (0 + (n : Nat))) [a0, a1, a2, .val (.int d), .val (.int (L : Nat)), .val (sysD (2 * d) d 0), .val (.tup [recD L 0 0, recD 0 0 L]), x7, x8, x9, a10, a11, a12, a13]).bind l_law_1 = some (.nx e2) ∧ ∃ x7 x8 x9, e2 = [a0, a1, a2, .val (.int d), .val (.int (L : Nat)), .val (sysD (2 * d) d 0), .val (.tup [recD L 0 0, recD 0 0 L]), x7, x8, x9, a10, a11, a12, a13] := by
  rw [Int.zero_add]
  have hp : PtOk (2 * d) d 0 := ⟨by omega, by omega, by omega, by omega, by omega⟩
  have hl : (0 : Int) ≤ 2 * d := by omega
  have e0 : [((L : Int), (0 : Int), (0 : Int)), ((0 : Int), (0 : Int), (L : Int))].map (tot (2 * d) d 0) = [2 * d * L, 0] := by simp [tot]
  have fx : Fix [((L : Int), (0 : Int), (0 : Int)), ((0 : Int), (0 : Int), (L : Int))] (List.replicate n (0, 1)) := ⟨by simp, by simp, by rw [List.length_replicate]; omega, ⟨fun p hm => by
    obtain ⟨_, rfl⟩ := List.mem_replicate.mp hm
    exact ⟨by simp, by simp, by decide⟩⟩⟩
  have r0 := place_range_ok hp fx (ix := 0) (by simp)
  have r1 := place_range_ok hp fx (ix := 1) (by simp)
  have f1 := results_for_ok hp fx (ix := 1) (place := 1) (by simp) (by decide) (by decide)
  have en := enough_ok hp fx (ix := 0) (by simp)
  have m1 : 0 ≤ d * (L : Int) := Int.mul_nonneg (by omega) (by omega)
  have m2 : 0 ≤ d * (n : Int) := Int.mul_nonneg (by omega) (by omega)
  have mL : 2 * d * (L : Int) = d * L + d * L := by rw [show 2 * d = d + d by omega, Int.add_mul]
  have mn : (n : Int) * (2 * d - 0) = d * n + d * n := by rw [show 2 * d - 0 = d + d by omega, Int.mul_add, Int.mul_comm]
  have cmpLn : (d * (L : Int) < d * (n : Int)) ↔ L < n := ⟨fun z => by have := Int.lt_of_mul_lt_mul_left z (show 0 ≤ d by omega); omega, fun z => Int.mul_lt_mul_of_pos_left (by omega) hd⟩
  have cmpnL : (d * (n : Int) < d * (L : Int)) ↔ n < L := ⟨fun z => by have := Int.lt_of_mul_lt_mul_left z (show 0 ≤ d by omega); omega, fun z => Int.mul_lt_mul_of_pos_left (by omega) hd⟩
  have z0 : ¬ (2 * d * (L : Int) - 0 + n * (2 * d - 0) < 0) := by omega
  have z1 : (2 * d * (L : Int) - 0 - n * (2 * d - 0) < 0) ↔ L < n := by rw [← cmpLn]; omega
  have z2 : (0 < 2 * d * (L : Int) - 0 - n * (2 * d - 0)) ↔ n < L := by rw [← cmpnL]; omega
  have z3 : (0 < 2 * d * (L : Int) - 0 + n * (2 * d - 0)) ↔ 0 < L + n := by
    have : 0 < d * ((L + n : Nat) : Int) ↔ 0 < L + n := ⟨fun z => by
      apply Classical.byContradiction
      intro w
      rw [show L + n = 0 by omega] at z; simp at z, fun z => Int.mul_pos hd (by omega)⟩
    rw [← this, show ((L + n : Nat) : Int) = (L : Int) + n by omega, Int.mul_add]
    omega
  rw [e0, lo0 hl, hi0 hl, if_neg z0] at r0
  rw [e0, lo1 hl, hi1 hl] at r1
  have wv := wn_two hd (n + 1) L
  rw [e0, resV_O, res1 hl, show (0 : Int) - 2 * d * L = -(2 * d * L) by omega, show 2 * d - 0 = 2 * d by omega, wv] at f1
  rw [e0, eno_two hd] at en
  simp only [z1] at r0
  simp only [z2, z3] at r1
  have rp : oRep (.tup [.tup [.int 0, .int 1]]) (.int (n : Nat)) = some (.tup ((List.replicate n ((0 : Nat), (1 : Nat))).map pD)) := by
    rw [← rep_p]
    have : (n : Int) ≤ 1000 := by omega
    simp [this]
  have rr : ∀ (r : R3) (j : Nat), j ≤ 7 → oRep (.tup [.str r.s]) (.int (j : Nat)) = some (rsD (List.replicate j r)) := fun r j hj => by
    unfold rsD
    rw [← rep_s]
    have : (j : Int) ≤ 1000 := by omega
    simp [this]
  have rd : ∀ j : Nat, j ≤ 7 → oRep (.tup [.str "draw"]) (.int (j : Nat)) = some (rsD (List.replicate j .d)) := rr .d
  have rl : ∀ j : Nat, j ≤ 7 → oRep (.tup [.str "loss"]) (.int (j : Nat)) = some (rsD (List.replicate j .l)) := rr .l
  have cat : ∀ a b : List R3, a.length ≤ 7 → b.length ≤ 7 → oAdd (rsD a) (rsD b) = some (rsD (a ++ b)) := fun a b ha hb => by
    have : a.length + b.length ≤ 16777216 := by omega
    simp [rsD, this, sizeLine_eq]
  have u2 : ∃ D1 : D, orsD (if min (n + 1) L ≤ n then some (List.replicate (n - min (n + 1) L) .d ++ List.replicate (min (n + 1) L) .l) else none) = D1 ∧ nice 1 D1 ∧ (L ≤ n → ∃ P1 P2, oRep (.tup [.str "draw"]) (.int ((n : Int) - (L : Int))) = some P1 ∧ oRep (.tup [.str "loss"]) (.int (L : Nat)) = some P2 ∧ oAdd P1 P2 = some D1) ∧ (n < L → D1 = .non) := by
    refine ⟨_, rfl, ors_nice _, fun hw => ?_, fun hw => by rw [if_neg (by omega)]; rfl⟩
    rw [if_pos (by omega), show min (n + 1) L = L by omega]
    refine ⟨_, _, ?_, rl L (by omega), cat _ _ (by simp; omega) (by simp; omega)⟩
    rw [show (n : Int) - (L : Int) = ((n - L : Nat) : Int) by omega]
    exact rd (n - L) (by omega)
  obtain ⟨D2, u2, nd2, o2, o2n⟩ := u2
  rw [u2] at f1
  have q2 : oNe D2 D2 = some (.bl false) := oNe_self nd2 (by decide)
  have qt : ∀ a b : Int, oNe (.tup [.int a, .int b]) (.tup [.int a, .int b]) = some (.bl false) := fun a b => oNe_self (k := 1) (by simp [nice]) (by decide)
  obtain ⟨Z, hZ⟩ : ∃ z, (List.replicate n ((0 : Nat), (1 : Nat))).map pD = z := ⟨_, rfl⟩
  rw [hZ] at r0 r1 f1 en rp
  have eR : [((L : Int), (0 : Int), (0 : Int)), ((0 : Int), (0 : Int), (L : Int))].map rD = [recD L 0 0, recD 0 0 L] := rfl
  rw [eR] at r0 r1 f1 en
  have r0' : m_place_range [sysD (2 * d) d 0, .tup [recD L 0 0, recD 0 0 L], .tup Z, .int 0] = _ := r0
  have r1' : m_place_range [sysD (2 * d) d 0, .tup [recD L 0 0, recD 0 0 L], .tup Z, .int 1] = _ := r1
  have f1' : m_results_for [sysD (2 * d) d 0, .tup [recD L 0 0, recD 0 0 L], .tup Z, .int 1, .int 1] = _ := f1
  have en' : m_enough [sysD (2 * d) d 0, .tup [recD L 0 0, recD 0 0 L], .tup Z, .int 0] = some (.ok (.int (2 * d * (L : Int) + d * ((n - L : Nat) : Int))) false) := en
  have b1 : d.natAbs < 18446744073709551616 := by omega
  have b2 : (2 * d).natAbs < 18446744073709551616 := by omega
  refine ⟨[a0, a1, a2, .val (.int d), .val (.int (L : Nat)), .val (sysD (2 * d) d 0), .val (.tup [recD L 0 0, recD 0 0 L]), .val (.int (n : Nat)), .val (.tup Z), .val D2, a10, a11, a12, a13], ?_, _, _, _, rfl⟩
  rcases Nat.lt_trichotomy L n with c | c | c
  · have c1 : (L : Int) < (n : Int) := by omega
    have c2 : ¬ (n : Int) < (L : Int) := by omega
    have c3 : (0 : Int) < (L : Int) + (n : Int) := by omega
    have c4 : ¬ (n : Int) ≤ (L : Int) := by omega
    have c5 : (L : Int) ≤ (n : Int) := by omega
    have c6 : 0 < L + n := by omega
    have c7 : ¬ n < L := by omega
    have c8 : (0 : Int) < (n : Int) - (L : Int) := by omega
    have c9 : ((n - L : Nat) : Int) = (n : Int) - (L : Int) := by omega
    obtain ⟨P1, P2, g1, g2, g3⟩ := o2 (by omega)
    rw [if_pos c] at r0'
    rw [if_neg c7, if_pos c6] at r1'
    rw [c9] at en'
    simp [-oRep, -oAdd, l_law_1, rp, r0', r1', qt, en', f1', g1, g2, g3, q2, b1, b2, c1, c2, c3, c4, c5, c8, sizeLine_eq]
  · subst c
    have c1 : ¬ (L : Int) < (L : Int) := by omega
    have c8 : ¬ (0 : Int) < (L : Int) - (L : Int) := by omega
    have c9 : ((L - L : Nat) : Int) = 0 := by omega
    obtain ⟨P1, P2, g1, g2, g3⟩ := o2 (by omega)
    rw [Int.sub_self] at g1
    rw [if_neg (by omega)] at r0'
    rw [if_neg (by omega)] at r1'
    rw [c9, Int.mul_zero, Int.add_zero] at en'
    by_cases c6 : 0 < L + L
    · have c3 : (0 : Int) < (L : Int) + (L : Int) := by omega
      rw [if_pos c6] at r1'
      simp [-oRep, -oAdd, l_law_1, rp, r0', r1', qt, en', f1', g1, g2, g3, q2, b1, b2, c3, sizeLine_eq]
    · have c3 : ¬ (0 : Int) < (L : Int) + (L : Int) := by omega
      rw [if_neg c6] at r1'
      simp [-oRep, -oAdd, l_law_1, rp, r0', r1', qt, en', f1', g1, g2, g3, q2, b1, b2, c3, sizeLine_eq]
  · have c1 : ¬ (L : Int) < (n : Int) := by omega
    have c2 : (n : Int) < (L : Int) := by omega
    have c3 : (0 : Int) < (L : Int) + (n : Int) := by omega
    have c4 : (n : Int) ≤ (L : Int) := by omega
    have c5 : ¬ (L : Int) ≤ (n : Int) := by omega
    have c8 : ¬ (0 : Int) < (n : Int) - (L : Int) := by omega
    have c9 : ((n - L : Nat) : Int) = 0 := by omega
    have hD := o2n c
    subst hD
    rw [if_neg (by omega)] at r0'
    rw [if_pos c, if_pos (by omega)] at r1'
    rw [c9, Int.mul_zero, Int.add_zero] at en'
    simp [-oRep, -oAdd, l_law_1, rp, r0', r1', qt, en', f1', q2, b1, b2, c1, c2, c3, c4, c5, c8, sizeLine_eq]

def H2w (w : Nat) : List T3 := [((w : Int), 0, 9 - (w : Int)), (0, 9, 0)]
theorem h2_facts : ∀ w ∈ [1, 2, 3, 4, 5, 6, 7, 8], RK.tn (H2w w) = [((w : Int) / ((Nat.gcd w 9 : Nat) : Int), (9 : Int) / ((Nat.gcd w 9 : Nat) : Int))] ∧ RK.cnt (RK.tn (H2w w)) = 3 ∧ RK.rk (H2w w) (RK.vl ((w : Int), 9)) = [[0, 1]] ∧ RK.rk (H2w w) (RK.vl (0, 1)) = [[0], [1]] ∧ RK.rk (H2w w) (RK.vl (1, 1)) = [[1], [0]] ∧ RK.aheadB ((w : Int), 0, 9 - (w : Int)) (0, 9, 0) = false := by decide +kernel
theorem lk2w (w : Nat) (h : w ≤ 9) : RK.Lk 9 (H2w w) := ⟨Nat.succ_pos _, by show 2 ≤ 20; omega, fun t ht => by
  unfold H2w at ht
  simp only [List.mem_cons, List.not_mem_nil, or_false] at ht
  rcases ht with rfl | rfl
  · exact ⟨by show (0 : Int) ≤ (w : Int); omega, by show (0 : Int) ≤ 0; omega, by show 0 ≤ 9 - (w : Int); omega, by show (w : Int) + 0 + (9 - (w : Int)) = 9; omega⟩
  · exact ⟨by decide, by decide, by decide, by decide⟩, by decide, by decide⟩
theorem law_cell (ns : List Int) (k : Int) (hk : 0 ≤ k) (e : En) (he : e.length = 14) (h0 : e[0]? = some (.val (.ro ns))) (h1 : e[1]? = some (.val (.int k))) : ∃ e2, l_law_2 e = some (.nx e2) ∧ e2.length = 14 ∧ e2[0]? = some (.val (.ro ns)) := by
  ((repeat (have hxQ := len_succ he; clear he; obtain ⟨_, _, heQ, he⟩ := hxQ; subst heQ)); (have hzQ := len_zero he; subst hzQ))
  (have hsQ := Option.some.inj h0; subst hsQ)
  (have hsQ := Option.some.inj h1; subst hsQ)
  rename_i a2 a3 a4 a5 a6 a7 a8 a9 a10 a11 a12 a13
  obtain ⟨q0, e0, hs0⟩ := source_ok ns k hk
  obtain ⟨x, s1, k1, hs1, x0, x1⟩ := draw_ok hs0 9 (by omega) (by omega)
  obtain ⟨y, s2, k2, hs2, y0, y1⟩ := draw_ok hs1 4 (by omega) (by omega)
  obtain ⟨z, s3, k3, hs3, z0, z1⟩ := draw_ok hs2 8 (by omega) (by omega)
  obtain ⟨d, hd⟩ : ∃ d, 1 + x = d := ⟨_, rfl⟩
  obtain ⟨L, rfl⟩ : ∃ L : Nat, y = (L : Int) := ⟨y.toNat, by omega⟩
  obtain ⟨w, hw⟩ : ∃ w : Nat, 1 + z = (w : Int) := ⟨(1 + z).toNat, by omega⟩
  have sy := System_ok (2 * d) d 0 (by omega) (by omega) (by omega) (by omega) (by omega)
  have ra := Record_ok (L : Int) 0 0 (by omega) (by omega) (by omega) (by omega)
  have rb := Record_ok 0 0 (L : Int) (by omega) (by omega) (by omega) (by omega)
  have rc := Record_ok (w : Int) 0 (9 - (w : Int)) (by omega) (by omega) (by omega) (by omega)
  have rd := Record_ok 0 9 0 (by omega) (by omega) (by omega) (by omega)
  obtain ⟨e', g1, y7, y8, y9, rfl⟩ := go_inv (t := gVar 7) (body := l_law_1) (f := fun (i : Nat) => .int (0 + (i : Int))) (l := List.range 5)
    (inv := fun e => ∃ x7 x8 x9, e = [.val (.ro ns), .val (.int k), .own s2, .val (.int d), .val (.int (L : Nat)), .val (sysD (2 * d) d 0), .val (.tup [recD L 0 0, recD 0 0 L]), x7, x8, x9, a10, a11, a12, a13])
    (e := [.val (.ro ns), .val (.int k), .own s2, .val (.int d), .val (.int (L : Nat)), .val (sysD (2 * d) d 0), .val (.tup [recD L 0 0, recD 0 0 L]), a7, a8, a9, a10, a11, a12, a13])
    (fun i e hi hinv => by
      obtain ⟨x7, x8, x9, rfl⟩ := hinv
      have hi := List.mem_range.mp hi
      exact law_1 (by omega) (by omega) (by omega) (show i ≤ 4 by omega) _ _ _ _ _ _ _ _ _ _) ⟨_, _, _, rfl⟩
  have g1' : forGo (gVar 7) l_law_1 (rngD 0 5) [.val (.ro ns), .val (.int k), .own s2, .val (.int d), .val (.int (L : Nat)), .val (sysD (2 * d) d 0), .val (.tup [recD L 0 0, recD 0 0 L]), a7, a8, a9, a10, a11, a12, a13] = _ := g1
  have wm : w ∈ [1, 2, 3, 4, 5, 6, 7, 8] := by
    simp only [List.mem_cons, List.not_mem_nil, or_false]; omega
  obtain ⟨f1, f2, f3, f4, f5, f6⟩ := h2_facts w wm
  have lk := lk2w w (by omega)
  have ll := RK.law_lowest_ok (w : Int) 9 (by omega) (by omega)
  rw [Int.natAbs_natCast] at ll
  have t1 := RK.turning_ok lk
  have t2 := RK.count_ok lk
  have t3 := RK.ranked_ok lk (s := ((w : Int), 9)) ⟨by show (0 : Int) ≤ (w : Int); omega, by show (w : Int) ≤ 9; omega, by show (0 : Int) < 9; omega⟩ (by show (9 : Int) ≤ 1000; omega)
  have t4 := RK.ranked_ok lk (s := (0, 1)) ⟨by decide, by decide, by decide⟩ (by decide)
  have t5 := RK.ranked_ok lk (s := (1, 1)) ⟨by decide, by decide, by decide⟩ (by decide)
  have t6 := RK.ahead_ok lk (i := 0) (j := 1) (a := ((w : Int), 0, 9 - (w : Int))) (b := (0, 9, 0)) rfl rfl
  rw [f1] at t1
  rw [f2] at t2
  rw [f3] at t3
  rw [f4] at t4
  rw [f5] at t5
  rw [f6] at t6
  obtain ⟨A, hA⟩ : ∃ A : Int, (w : Int) / (Nat.gcd w 9 : Nat) = A := ⟨_, rfl⟩
  obtain ⟨B, hB⟩ : ∃ B : Int, (9 : Int) / (Nat.gcd w 9 : Nat) = B := ⟨_, rfl⟩
  rw [hA, hB] at t1
  have ll' : m_law_lowest [.int (w : Nat), .int 9] = some (.ok (.tup [.int A, .int B]) false) := by
    rw [← hA, ← hB]; exact ll
  have t1' : m_turning_shares [.tup [recD w 0 (9 - (w : Int)), recD 0 9 0]] = some (.ok (.lst [.tup [.int A, .int B]]) true) := t1
  have t2' : m_count_rankings [.tup [recD w 0 (9 - (w : Int)), recD 0 9 0]] = some (.ok (.int 3) false) := t2
  have t3' : m_ranked_at [.tup [recD w 0 (9 - (w : Int)), recD 0 9 0], .tup [.int (w : Nat), .int 9]] = some (.ok (.lst [.lst [.int 0, .int 1]]) true) := t3
  have t4' : m_ranked_at [.tup [recD w 0 (9 - (w : Int)), recD 0 9 0], .tup [.int 0, .int 1]] = some (.ok (.lst [.lst [.int 0], .lst [.int 1]]) true) := t4
  have t5' : m_ranked_at [.tup [recD w 0 (9 - (w : Int)), recD 0 9 0], .tup [.int 1, .int 1]] = some (.ok (.lst [.lst [.int 1], .lst [.int 0]]) true) := t5
  have t6' : m_always_ahead [.tup [recD w 0 (9 - (w : Int)), recD 0 9 0], .int 0, .int 1] = some (.ok (.bl false) false) := t6
  have n1 : oNe (.lst [.tup [.int A, .int B]]) (.lst [.tup [.int A, .int B]]) = some (.bl false) := oNe_self (k := 2) (by simp [nice]) (by decide)
  have n2 : oNe (.lst [.lst [.int 0, .int 1]]) (.lst [.lst [.int 0, .int 1]]) = some (.bl false) := oNe_self (k := 2) (by simp [nice]) (by decide)
  have n3 : oNe (.lst [.lst [.int 0], .lst [.int 1]]) (.lst [.lst [.int 0], .lst [.int 1]]) = some (.bl false) := oNe_self (k := 2) (by simp [nice]) (by decide)
  have n4 : oNe (.lst [.lst [.int 1], .lst [.int 0]]) (.lst [.lst [.int 1], .lst [.int 0]]) = some (.bl false) := oNe_self (k := 2) (by simp [nice]) (by decide)
  have b2 : d.natAbs < 18446744073709551616 := by omega
  refine ⟨[.val (.ro ns), .val (.int k), .own s3, .val (.int d), .val (.int (L : Nat)), .val (sysD (2 * d) d 0), .val (.tup [recD L 0 0, recD 0 0 L]), y7, y8, y9, .val (.int (w : Nat)), .val (.tup [recD w 0 (9 - (w : Int)), recD 0 9 0]), a12, a13], ?_, rfl, rfl⟩
  simp [l_law_2, e0, k1, k2, hd, b2, sy, ra, rb, g1', k3, hw, rc, rd, t1', ll', n1, t2', t3', n2, t4', n3, t5', n4, t6', sizeLine_eq]

theorem law_top (ns : List Int) (h : ns.length ≤ 63) : ∃ e' : En, sFor (iRange1 (sCons (sBin (dI2 fun i j => .int (i + j)) (sC (.int 1)) (sBlt oMin2 (sCons (sBlt oLen (sCons (sVar 0) sNil)) (sCons (sC (.int 8)) sNil)))) sNil)) (gVar 1) l_law_2 (en0 14 [.ro ns]) = some (.nx e') ∧ e'.length = 14 := by
  obtain ⟨m, hm⟩ : ∃ m : Nat, (1 + (if (8 : Int) < (ns.length : Int) then (8 : Int) else (ns.length : Int))).toNat = m := ⟨_, rfl⟩
  have hb : (1 + (if (8 : Int) < (ns.length : Int) then (8 : Int) else (ns.length : Int))).natAbs < 4611686018427387904 := by split <;> omega
  have hE : en0 14 [.ro ns] = .val (.ro ns) :: List.replicate 13 .un := rfl
  rw [hE]
  obtain ⟨e', g, he, h0⟩ := go_inv (t := gVar 1) (body := l_law_2) (f := fun (i : Nat) => .int (0 + (i : Int))) (l := List.range m)
    (inv := fun e => e.length = 14 ∧ e[0]? = some (.val (.ro ns))) (e := .val (.ro ns) :: List.replicate 13 .un)
    (fun a e ha hi => by
      obtain ⟨e2, k1, k2, k3⟩ := law_cell ns (0 + (a : Int)) (by omega) (e.set 1 (.val (.int (0 + (a : Int))))) (by simp [hi.1]) (by simp [hi.2]) (by simp [hi.1])
      exact ⟨e2, k1, k2, k3⟩) ⟨by simp, rfl⟩
  have g' : forGo (gVar 1) l_law_2 (rngD 0 m) (.val (.ro ns) :: List.replicate 13 .un) = some (.nx e') := g
  refine ⟨e', ?_, he⟩
  rw [← g']
  simp [hm, hb]


def Zc (M1 : List D → Option Ot) : Sem := (sCall M1 (sCons (sVar 12) (sCons (sVar 6) (sCons (sTup (sCons (sTup (sCons (sC (.int 0)) (sCons (sC (.int 1)) sNil))) sNil)) (sCons (sVar 13) sNil)))))
theorem Zc_eq : c_law_3 = Zc m_enough := rfl
def Zr_law (M1 : List D → Option Ot) (M2 : List D → Option Ot) (M3 : List D → Option Ot) : SSem := (sSeq (sAsg (sTup (sCons (sMake 1 m_System___init__ (sCons (sC (.int 3)) (sCons (sC (.int 1)) (sCons (sC (.int 0)) sNil)))) (sCons (sTup (sCons (sMake 0 m_Record___init__ (sCons (sC (.int 2)) (sCons (sC (.int 0)) (sCons (sC (.int 0)) sNil)))) (sCons (sMake 0 m_Record___init__ (sCons (sC (.int 1)) (sCons (sC (.int 1)) (sCons (sC (.int 0)) sNil)))) (sCons (sMake 0 m_Record___init__ (sCons (sC (.int 0)) (sCons (sC (.int 1)) (sCons (sC (.int 2)) sNil)))) sNil)))) sNil))) (gTupD 2 (gsCons (gVar 12) (gsCons (gVar 6) gsNil))))
  (sSeq (sIf (sT (sBin oNe (sF (sLc (iSeq (sF (sLst (sCons (sC (.int 0)) (sCons (sC (.int 1)) (sCons (sC (.int 2)) sNil)))))) (gVar 13) bYes (Zc M1) [13])) (sF (sLst (sCons (sC (.int 7)) (sCons (sC (.int 7)) (sCons (sC .non) sNil))))))) (sRet (sC (.bl false))) sSkip)
  (sSeq (sIf (sT (sBin oNe (sCall M2 (sCons (sVar 12) (sCons (sVar 6) (sCons (sTup (sCons (sTup (sCons (sC (.int 0)) (sCons (sC (.int 1)) sNil))) (sCons (sTup (sCons (sC (.int 1)) (sCons (sC (.int 2)) sNil))) sNil))) (sCons (sC (.int 2)) sNil))))) (sTup (sCons (sC (.int 2)) (sCons (sC (.int 3)) sNil))))) (sRet (sC (.bl false))) sSkip)
  (sRet (sBin oEq (sCall M3 (sCons (sVar 12) (sCons (sVar 6) (sCons (sTup (sCons (sTup (sCons (sC (.int 1)) (sCons (sC (.int 2)) sNil))) (sCons (sTup (sCons (sC (.int 0)) (sCons (sC (.int 1)) sNil))) sNil))) (sCons (sC (.int 2)) (sCons (sC (.int 2)) sNil)))))) (sTup (sCons (sC (.str "loss")) (sCons (sC (.str "win")) sNil))))))))
theorem law_Z : m_law = dSem 14 1 (sSeq (sFor (iRange1 (sCons (sBin (dI2 fun i j => .int (i + j)) (sC (.int 1)) (sBlt oMin2 (sCons (sBlt oLen (sCons (sVar 0) sNil)) (sCons (sC (.int 8)) sNil)))) sNil)) (gVar 1) l_law_2) (Zr_law m_enough m_place_range m_results_for)) := rfl
theorem law_end (h : ∀ e : En, e.length = 14 → ∃ e2, Zr_law m_enough m_place_range m_results_for e = some (.rt (.bl true) false e2)) (ns : List Int) (hn : ns.length ≤ 63) : m_law [.ro ns] = some (.ok (.bl true) false) := by
  obtain ⟨e', g, he⟩ := law_top ns hn
  obtain ⟨e2, q⟩ := h e' he
  rw [law_Z]
  exact dsem_rt rfl ((seq_nx g).trans q)

theorem hp3 : PtOk 3 1 0 := ⟨by omega, by omega, by omega, by omega, by omega⟩
abbrev H3 : List T3 := [(2, 0, 0), (1, 1, 0), (0, 1, 2)]
abbrev rows3 : D := .tup [recD 2 0 0, recD 1 1 0, recD 0 1 2]
theorem ff1 : Fix H3 [(0, 1)] := ⟨by decide, by decide, by decide, ⟨by decide⟩⟩
theorem ff2 : Fix H3 [(0, 1), (1, 2)] := ⟨by decide, by decide, by decide, ⟨by decide⟩⟩
theorem ff3 : Fix H3 [(1, 2), (0, 1)] := ⟨by decide, by decide, by decide, ⟨by decide⟩⟩
abbrev p01 : D := .tup [.int 0, .int 1]
abbrev p12 : D := .tup [.int 1, .int 2]
theorem aa0 : m_enough [sysD 3 1 0, rows3, .tup [p01], .int 0] = some (.ok (.int 7) false) := by
  have e : enoV 3 1 0 (H3.map (tot 3 1 0)) [(0, 1)] 0 = some 7 := by decide +kernel
  have a := enough_ok hp3 ff1 (ix := 0) (by decide)
  rw [e] at a
  exact a
theorem aa1 : m_enough [sysD 3 1 0, rows3, .tup [p01], .int 1] = some (.ok (.int 7) false) := by
  have e : enoV 3 1 0 (H3.map (tot 3 1 0)) [(0, 1)] 1 = some 7 := by decide +kernel
  have a := enough_ok hp3 ff1 (ix := 1) (by decide)
  rw [e] at a
  exact a
theorem aa2 : m_enough [sysD 3 1 0, rows3, .tup [p01], .int 2] = some (.ok .non false) := by
  have e : enoV 3 1 0 (H3.map (tot 3 1 0)) [(0, 1)] 2 = none := by decide +kernel
  have a := enough_ok hp3 ff1 (ix := 2) (by decide)
  rw [e] at a
  exact a
theorem aa3 : m_place_range [sysD 3 1 0, rows3, .tup [p01, p12], .int 2] = some (.ok (.tup [.int 2, .int 3]) false) := by
  have e3 : loP 3 1 0 (H3.map (tot 3 1 0)) [(0, 1), (1, 2)] 2 = 2 := by decide +kernel
  have e4 : hiP 3 1 0 (H3.map (tot 3 1 0)) [(0, 1), (1, 2)] 2 = 3 := by decide +kernel
  have a := place_range_ok hp3 ff2 (ix := 2) (by decide)
  rw [e3, e4] at a
  exact a
theorem aa4 : m_results_for [sysD 3 1 0, rows3, .tup [p12, p01], .int 2, .int 2] = some (.ok (.tup [.str "loss", .str "win"]) false) := by
  have e : resO 3 1 0 (H3.map (tot 3 1 0)) [(1, 2), (0, 1)] 2 2 = some [.l, .w] := by decide +kernel
  have a := results_for_ok hp3 ff3 (ix := 2) (by decide) (place := 2) (by decide) (by decide)
  rw [resV_O, e] at a
  exact a
theorem kc_M (M : List D → Option Ot) (a0 : M [sysD 3 1 0, rows3, .tup [p01], .int 0] = some (.ok (.int 7) false)) (a1 : M [sysD 3 1 0, rows3, .tup [p01], .int 1] = some (.ok (.int 7) false)) (a2 : M [sysD 3 1 0, rows3, .tup [p01], .int 2] = some (.ok .non false)) (b0 b1 b2 b3 b4 b5 b7 b8 b9 b10 b11 b13 : Sl) :
    kLc (gVar 13) bYes (Zc M) [13] [.int 0, .int 1, .int 2] [b0, b1, b2, b3, b4, b5, .val rows3, b7, b8, b9, b10, b11, .val (sysD 3 1 0), b13] = some (.ok (.lst [.int 7, .int 7, .non]) [b0, b1, b2, b3, b4, b5, .val rows3, b7, b8, b9, b10, b11, .val (sysD 3 1 0), .un]) := by
  simp [kLc, lcGo, bYes, Zc, wipeE, a0, a1, a2, sizeLine_eq]
theorem last_M (M1 M2 M3 : List D → Option Ot) (a0 : M1 [sysD 3 1 0, rows3, .tup [p01], .int 0] = some (.ok (.int 7) false)) (a1 : M1 [sysD 3 1 0, rows3, .tup [p01], .int 1] = some (.ok (.int 7) false)) (a2 : M1 [sysD 3 1 0, rows3, .tup [p01], .int 2] = some (.ok .non false))
    (a3 : M2 [sysD 3 1 0, rows3, .tup [p01, p12], .int 2] = some (.ok (.tup [.int 2, .int 3]) false)) (a4 : M3 [sysD 3 1 0, rows3, .tup [p12, p01], .int 2, .int 2] = some (.ok (.tup [.str "loss", .str "win"]) false)) (e : En) (he : e.length = 14) : ∃ e2, Zr_law M1 M2 M3 e = some (.rt (.bl true) false e2) := by
  have R := fun a b c (h1 : 0 ≤ a) (h2 : 0 ≤ b) (h3 : 0 ≤ c) h => Record_ok a b c h1 h2 h3 h
  have r1 := R 2 0 0 (by omega) (by omega) (by omega) (by omega)
  have r2 := R 1 1 0 (by omega) (by omega) (by omega) (by omega)
  have r3 := R 0 1 2 (by omega) (by omega) (by omega) (by omega)
  have sy := System_ok 3 1 0 (by omega) (by omega) (by omega) (by omega) (by omega)
  have q1 : oNe (.lst [.int 7, .int 7, .non]) (.lst [.int 7, .int 7, .non]) = some (.bl false) := oNe_self (k := 1) (by simp [nice]) (by decide)
  have q2 : oNe (.tup [.int 2, .int 3]) (.tup [.int 2, .int 3]) = some (.bl false) := oNe_self (k := 1) (by simp [nice]) (by decide)
  have q3 : oEq (.tup [.str "loss", .str "win"]) (.tup [.str "loss", .str "win"]) = some (.bl true) := oEq_self (k := 1) (rs_nice [.l, .w]) (by decide)
  have kc := kc_M M1 a0 a1 a2
  obtain ⟨C, hC⟩ : ∃ C, Zc M1 = C := ⟨_, rfl⟩
  rw [hC] at kc
  ((repeat (have hxQ := len_succ he; clear he; obtain ⟨_, _, heQ, he⟩ := hxQ; subst heQ)); (have hzQ := len_zero he; subst hzQ))
  rename_i b0 b1 b2 b3 b4 b5 b6 b7 b8 b9 b10 b11 b12 b13
  refine ⟨[b0, b1, b2, b3, b4, b5, .val rows3, b7, b8, b9, b10, b11, .val (sysD 3 1 0), .un], ?_⟩
  unfold Zr_law
  rw [hC]
  simp [r1, r2, r3, sy, kc, a3, a4, q1, q2, q3, List.replicate, sizeLine_eq]
theorem law_holds (ns : List Int) (h : ns.length ≤ 63) : m_law [.ro ns] = some (.ok (.bl true) false) :=
  law_end (fun e he => last_M _ _ _ aa0 aa1 aa2 aa3 aa4 e he) ns h

end Mk29
section
open PySem PySem.Spec PyProof.Rows L2 Mz
namespace Mk29
abbrev R : PySem.W.OpenRow := PySem.W.OpenLaw.row PySem.Challenge.rw_pointsystems_k29_written_fixtures_and_ra
abbrev hk : PySem.W.Hook := hookM 6 bs ds
def ob (s : PySem.W.SharedT) : He.Al := obsMG 6 bs ds (HandSHeadRun.getT s)
theorem ob_eq (s : PySem.W.SharedT) : ob s = hk.obs s.abs := obsMG_eq (HandSHeadRun.getT_eq s)
def names : List PySem.Str := (["_wall", "PointError", "InvalidSystem", "InvalidRecord", "InvalidPair", "InvalidNumber", "InvalidRecords", "InvalidFixtures", "InvalidShare", "InvalidIndex", "TooMany", "MOST_GAMES", "is_between", "Record", "need_record", "need_pair", "need_games", "MOST_POINTS", "greatest_divisor", "lowest", "is_less", "total_of", "System", "need_system", "MOST_TEAMS", "MOST_FIXTURES", "RESULTS", "need_teams", "need_fixtures", "need_team"] : List PySem.Str) ++ (["all_ends", "place_in", "need_ends", "place_range", "results_for", "enough", "tie_share", "MOST_RECORDS", "need_like", "need_games_alike", "is_share", "shares_of", "turning_shares", "ranked_at", "count_rankings", "always_ahead", "_law_source", "_law_draw", "_law_lowest"] : List PySem.Str)
theorem run (w : World) : HandSHeadRun.RunEq R (PySem.W.view R.prog [56]) hk ob 8000 names w := by
  intro os
  kernel_rfl
theorem facts (law : ∀ ns : List Int, ns.length ≤ 63 → m_law [.ro ns] = some (.ok (.bl true) false)) {w : World} {K : PySem.W.Frag} {h : Heap} {mg : Str → Option Value} {f : Addr} (X : K.In h) (G : h.Ns mainGlobals mg) (hfa : mg ("law" : Str) = some (.ref f)) (c : SaysM bs ds K) :
    ∃ fd : FuncData, (∀ (s : Shared) (v : Value), BindsTo s fd ⟨[v], []⟩ [("script", v)]) ∧ ∀ base : Heap, K.In base → base.Ns mainGlobals mg → FnOk (PySem.Challenge.rw_pointsystems_k29_written_fixtures_and_ra).prog w K mg base (L2.CX (PySem.Challenge.rw_pointsystems_k29_written_fixtures_and_ra).prog w) 7 f fd ["script"] (spLaw K 63) := by
  have k : Kn bs ds K mg := ⟨⟨h, X, G⟩, c⟩
  obtain ⟨fd, F⟩ := k.fn 39 (d := dm_law) rfl
  have e := hfa.symm.trans (k.glo 72 (x := "law"))
  cases e
  exact ⟨fd, fun s v => bindsA (ps := ["script"]) F (fun _ _ _ _ _ _ us hl => match us, hl with | [_], _ => rfl) s [v] rfl, fun base _ _ => law_of (fn_law k F) law⟩
end Mk29
end
open PySem PySem.W PySem.Calls PyProof.Rows in
theorem PySem.Challenge.cw_pointsystems_k29_written_fixtures_and_ra_holds : PySem.Challenge.rw_pointsystems_k29_written_fixtures_and_ra.Holds := by
  w_on; o_law
  refine HandSHeadRun.head_any (r := OpenLaw.row PySem.Challenge.rw_pointsystems_k29_written_fixtures_and_ra) (q := view (OpenLaw.row PySem.Challenge.rw_pointsystems_k29_written_fixtures_and_ra).prog [56]) (H := Mk29.hk) (ob := Mk29.ob) (M := 8000) (loose := Mk29.names) (d := HandSHeadRun.topDef (OpenLaw.row PySem.Challenge.rw_pointsystems_k29_written_fixtures_and_ra).prog 56) (kwd := []) Mk29.ob_eq
    (by kernel_rfl) (fun s => by kernel_rfl) Mk29.run (by kernel_rfl) (by kernel_rfl) (by kernel_rfl) (by rfl) (by first | assumption | decide +kernel) (by decide +kernel) ⟨rfl, rfl, rfl, rfl, rfl, by decide +kernel⟩ ?hw ?hc
  case hw => w_witness2
  case hc =>
    refine Mz.walk_M (l := PySem.Challenge.rw_pointsystems_k29_written_fixtures_and_ra) (n := 63) (k := 7) (x := "script") rfl (by decide) (by kernel_rfl) ⟨rfl, by decide, by decide⟩ ?F
    intro w mg fa h Y G hmg0
    obtain ⟨K, KX, c⟩ := Y
    have hmg : mg ("law" : PySem.Str) = some (.ref fa) := by
      have e : (HandSHeadRun.topDef (OpenLaw.row PySem.Challenge.rw_pointsystems_k29_written_fixtures_and_ra).prog 56).name = ("law" : PySem.Str) := by kernel_rfl
      rw [← e]
      exact hmg0
    obtain ⟨fd, hb, hF⟩ := Mk29.facts Mk29.law_holds (w := w) KX G hmg c
    exact ⟨K, fd, KX, hb, hF⟩
