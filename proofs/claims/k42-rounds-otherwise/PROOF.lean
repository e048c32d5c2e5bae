import PyProof.Rows.All
import Wide.All
import OpenK.AllK
import Wide.FinOn
import HandS.ForMost
import HandS.Walk
import HandS.Style
import HandS.TupMul
import HandS.TupAny
import HandS.Conv
import HandS.IsInst
import HandS.Deep
import HandS.Wide
import HandS.Zip
import HandS.TupLe
import PyProof.ReprRoads
import KE.KTupSum
import PyProof.Rows.RuleB_pow
import PyProof.ReprLen
import KE.GoesEnum
import HandS.SortInts
import HandS.RevTup
import HandS.SortOrd
import PyProof.EnumMake
import PySem.Challenge.RW_kerbtruth_k42_whole_rounds_told_otherwis
set_option Elab.async false
set_option linter.all false
set_option maxRecDepth 100000
set_option maxHeartbeats 4000000
/-! L3: data in place of heaps. What a slot holds is told by PyData; lists that a def fills are owned by one slot. -/
namespace L3
open PySem PySem.Spec PyProof.Rows L2

abbrev D := PyData
abbrev MS := Addr → Prop

mutual
/-- v shows the data d in H, by objects that do not stand in M -/
inductive Den (M : MS) (H : Hp) : V → D → Prop
  | non : Den M H .non .none
  | bl (b : Bool) : Den M H (.bl b) (.bool b)
  | int (i : Int) : Den M H (.int i) (.int i)
  | str (x : Str) : Den M H (.str x) (.str x)
  | lst {a : Addr} {xs : List V} {ds : List D} : ¬ M a → H a = some (.lst xs) → DenL M H xs ds → Den M H (.ref a) (.list ds)
  | tup {a : Addr} {xs : List V} {ds : List D} : ¬ M a → H a = some (.tup xs) → DenL M H xs ds → Den M H (.ref a) (.tuple ds)
inductive DenL (M : MS) (H : Hp) : List V → List D → Prop
  | nil : DenL M H [] []
  | cons {v : V} {vs : List V} {d : D} {ds : List D} : Den M H v d → DenL M H vs ds → DenL M H (v :: vs) (d :: ds)
end

section
variable {M M' : MS} {H H' : Hp}
mutual
theorem Den.mono (hM : ∀ b, M' b → M b ∨ H b = none) (hH : ∀ b x, H b = some x → ¬ M b → H' b = some x) : ∀ {v : V} {d : D}, Den M H v d → Den M' H' v d
  | _, _, .non => .non
  | _, _, .bl b => .bl b
  | _, _, .int i => .int i
  | _, _, .str x => .str x
  | _, _, .lst n e r => .lst (fun q => (hM _ q).elim n fun z => by rw [z] at e; cases e) (hH _ _ e n) (DenL.mono hM hH r)
  | _, _, .tup n e r => .tup (fun q => (hM _ q).elim n fun z => by rw [z] at e; cases e) (hH _ _ e n) (DenL.mono hM hH r)
theorem DenL.mono (hM : ∀ b, M' b → M b ∨ H b = none) (hH : ∀ b x, H b = some x → ¬ M b → H' b = some x) : ∀ {vs : List V} {ds : List D}, DenL M H vs ds → DenL M' H' vs ds
  | _, _, .nil => .nil
  | _, _, .cons r t => .cons (Den.mono hM hH r) (DenL.mono hM hH t)
end
theorem Den.same (h : Same H H') {v : V} {d : D} (r : Den M H v d) : Den M H' v d := r.mono (fun _ z => .inl z) fun b x e _ => h b x e
theorem DenL.same (h : Same H H') {vs : List V} {ds : List D} (r : DenL M H vs ds) : DenL M H' vs ds := r.mono (fun _ z => .inl z) fun b x e _ => h b x e
theorem Den.less (h : ∀ b, M' b → M b) {v : V} {d : D} (r : Den M H v d) : Den M' H v d := r.mono (fun b z => .inl (h b z)) fun _ _ e _ => e
theorem DenL.less (h : ∀ b, M' b → M b) {vs : List V} {ds : List D} (r : DenL M H vs ds) : DenL M' H vs ds := r.mono (fun b z => .inl (h b z)) fun _ _ e _ => e
theorem DenL.length : ∀ {vs : List V} {ds : List D}, DenL M H vs ds → vs.length = ds.length
  | _, _, .nil => rfl
  | _, _, .cons _ t => by rw [List.length_cons, List.length_cons, DenL.length t]
theorem DenL.append : ∀ {vs ws : List V} {ds es : List D}, DenL M H vs ds → DenL M H ws es → DenL M H (vs ++ ws) (ds ++ es)
  | _, _, _, _, .nil, q => q
  | _, _, _, _, .cons r t, q => .cons r (DenL.append t q)
theorem DenL.get : ∀ {vs : List V} {ds : List D} {i : Nat} {v : V}, DenL M H vs ds → vs[i]? = some v → ∃ d, ds[i]? = some d ∧ Den M H v d
  | _, _, _, _, .nil, e => by simp at e
  | _, _, 0, _, .cons r _, e => by
    have e' := Option.some.inj e
    subst e'
    exact ⟨_, rfl, r⟩
  | _, _, i + 1, _, .cons _ t, e => by
    obtain ⟨d, e1, r⟩ := DenL.get (i := i) t (by simpa using e)
    exact ⟨d, by simpa using e1, r⟩
theorem DenL.getD : ∀ {vs : List V} {ds : List D} {i : Nat} {d : D}, DenL M H vs ds → ds[i]? = some d → ∃ v, vs[i]? = some v ∧ Den M H v d
  | _, _, _, _, .nil, e => by simp at e
  | _, _, 0, _, .cons r _, e => by
    have e' := Option.some.inj e
    subst e'
    exact ⟨_, rfl, r⟩
  | _, _, i + 1, _, .cons _ t, e => by
    obtain ⟨d, e1, r⟩ := DenL.getD (i := i) t (by simpa using e)
    exact ⟨d, by simpa using e1, r⟩
theorem DenL.drop : ∀ {vs : List V} {ds : List D} (n : Nat), DenL M H vs ds → DenL M H (vs.drop n) (ds.drop n)
  | _, _, 0, r => r
  | _, _, _ + 1, .nil => .nil
  | _, _, n + 1, .cons _ t => DenL.drop n t
theorem DenL.take : ∀ {vs : List V} {ds : List D} (n : Nat), DenL M H vs ds → DenL M H (vs.take n) (ds.take n)
  | _, _, 0, _ => .nil
  | _, _, _ + 1, .nil => .nil
  | _, _, n + 1, .cons r t => .cons r (DenL.take n t)
theorem DenL.rep {vs : List V} {ds : List D} (r : DenL M H vs ds) : ∀ k : Nat, DenL M H (List.replicate k vs).flatten (List.replicate k ds).flatten
  | 0 => .nil
  | k + 1 => by
    rw [List.replicate_succ, List.replicate_succ, List.flatten_cons, List.flatten_cons]
    exact r.append (DenL.rep r k)
theorem DenL.ints : ∀ (ns : List Int), DenL M H (ns.map V.int) (ns.map PyData.int)
  | [] => .nil
  | n :: r => .cons (.int n) (DenL.ints r)
mutual
theorem Den.dp (K : PySem.W.Frag) : ∀ {v : V} {d : D}, Den M H v d → Dp K H v d
  | _, _, .non => .non
  | _, _, .bl b => .bl b
  | _, _, .int i => .int i
  | _, _, .str x => .str x
  | _, _, .lst _ e r => .lst (SqL.of e) (DenL.dp K r)
  | _, _, .tup _ e r => .tup (SqT.of e) (DenL.dp K r)
theorem DenL.dp (K : PySem.W.Frag) : ∀ {vs : List V} {ds : List D}, DenL M H vs ds → DpAll K H vs ds
  | _, _, .nil => .nil
  | _, _, .cons r t => .cons (Den.dp K r) (DenL.dp K t)
end
end

/-- the pot of a law's draws: its great numbers, its seed, how many were drawn -/
structure Pot where
  g : List Int
  seed : Int
  n : Int
/-- what a slot holds: nothing told, data, a list of its own, the pot -/
inductive SD where
  | un | dat (d : D) | own (ds : List D) | pot
structure En where
  sl : List SD
  pot : Pot
/-- where the own lists and the pot's list stand -/
structure OS where
  sl : Nat → Option Addr
  g : Addr
/-- what a body may not touch: Mc; the heap at its entry; the pot and its list at the entry -/
structure Ctx where
  Mc : MS
  H0 : Hp
  pt : Option (Addr × Addr)

def Ctx.M (c : Ctx) (o : OS) : MS := fun b => c.Mc b ∨ (∃ i, o.sl i = some b) ∨ ∃ p, c.pt = some p ∧ (b = p.1 ∨ b = o.g)
def PotAt (H : Hp) (pa g : Addr) (P : Pot) : Prop := pa ≠ g ∧ H pa = some (.lst [.ref g, .int P.seed, .int P.n]) ∧ H g = some (.lst (P.g.map V.int))
def SlotOk (c : Ctx) (o : OS) (H : Hp) (i : Nat) (x : Option (Option V)) : SD → Prop
  | .un => o.sl i = none
  | .dat d => o.sl i = none ∧ ∃ v, x = some (some v) ∧ Den (c.M o) H v d
  | .own ds => ∃ p vs, o.sl i = some p ∧ x = some (some (.ref p)) ∧ H p = some (.lst vs) ∧ DenL (c.M o) H vs ds
  | .pot => o.sl i = none ∧ ∃ p, c.pt = some p ∧ x = some (some (.ref p.1))
structure SOk (c : Ctx) (o : OS) (σ : L2.St) (H : Hp) (e : En) : Prop where
  len : σ.length = e.sl.length
  slot : ∀ i sd, e.sl[i]? = some sd → SlotOk c o H i σ[i]? sd
  out : ∀ i, e.sl.length ≤ i → o.sl i = none
  inj : ∀ i j p, o.sl i = some p → o.sl j = some p → i = j
  fresh : ∀ i p, o.sl i = some p → c.H0 p = none ∧ ¬ c.Mc p
  keep : ∀ b x, c.H0 b = some x → (∀ p, c.pt = some p → b ≠ p.1 ∧ b ≠ p.2) → H b = some x
  mc : ∀ b, c.Mc b → H b ≠ none
  dom : ∀ b, c.H0 b ≠ none → H b ≠ none
  pot : ∀ p, c.pt = some p → PotAt H p.1 o.g e.pot ∧ c.H0 p.1 ≠ none ∧ c.H0 p.2 ≠ none ∧ (o.g = p.2 ∨ c.H0 o.g = none) ∧ ∀ i, o.sl i ≠ some o.g
/-- from one state of a body to a later one -/
def StpM (M : MS) (H : Hp) (M' : MS) (H' : Hp) : Prop := (∀ b x, H b = some x → ¬ M b → H' b = some x) ∧ ∀ b, M' b → M b ∨ H b = none
def Stp (c : Ctx) (o : OS) (H : Hp) (o' : OS) (H' : Hp) : Prop := StpM (c.M o) H (c.M o') H' ∧ ∀ b, H b ≠ none → H' b ≠ none
theorem Same.dom {H H' : Hp} (a : Same H H') : ∀ b, H b ≠ none → H' b ≠ none := fun b h z => by
  cases q : H b with
  | none => exact h q
  | some x => rw [a b x q] at z; cases z

section
variable {c : Ctx} {o o' o'' : OS} {σ σ' : L2.St} {H H' H'' : Hp} {e e' : En}
theorem Stp.refl : Stp c o H o H := ⟨⟨fun _ _ h _ => h, fun _ h => .inl h⟩, fun _ h => h⟩
theorem Stp.trans (a : Stp c o H o' H') (b : Stp c o' H' o'' H'') : Stp c o H o'' H'' := by
  refine ⟨⟨fun p x h n => b.1.1 p x (a.1.1 p x h n) fun z => ?_, fun p z => ?_⟩, fun p h => b.2 p (a.2 p h)⟩
  · rcases a.1.2 p z with q | q
    · exact n q
    · rw [q] at h; cases h
  · rcases b.1.2 p z with q | q
    · exact a.1.2 p q
    · refine .inr ?_
      cases h : H p with
      | none => rfl
      | some x => exact absurd q (a.2 p (by rw [h]; exact fun z => nomatch z))
theorem Stp.same (h : Same H H') : Stp c o H o H' := ⟨⟨fun b x e _ => h b x e, fun _ z => .inl z⟩, Same.dom h⟩
theorem Stp.den (a : Stp c o H o' H') {v : V} {d : D} (r : Den (c.M o) H v d) : Den (c.M o') H' v d := r.mono a.1.2 a.1.1
theorem Stp.denL (a : Stp c o H o' H') {vs : List V} {ds : List D} (r : DenL (c.M o) H vs ds) : DenL (c.M o') H' vs ds := r.mono a.1.2 a.1.1
theorem SOk.alloc (S : SOk c o σ H e) : ∀ b, c.M o b → H b ≠ none := fun b h => by
  rcases h with h | ⟨i, h⟩ | ⟨p, hp, h⟩
  · exact S.mc b h
  · have hi : i < e.sl.length := Nat.lt_of_not_le fun z => by rw [S.out i z] at h; cases h
    have q := S.slot i _ (List.getElem?_eq_getElem hi)
    cases hs : e.sl[i] with
    | un => rw [hs] at q; rw [show o.sl i = none from q] at h; cases h
    | dat d => rw [hs] at q; rw [q.1] at h; cases h
    | pot => rw [hs] at q; rw [q.1] at h; cases h
    | own ds =>
      rw [hs] at q
      obtain ⟨p, vs, h1, _, h3, _⟩ := q
      rw [h1] at h
      cases h
      rw [h3]
      exact fun z => nomatch z
  · obtain ⟨⟨_, h1, h2⟩, _⟩ := S.pot p hp
    rcases h with rfl | rfl
    · rw [h1]; exact fun z => nomatch z
    · rw [h2]; exact fun z => nomatch z
theorem SlotOk.mono {i : Nat} {x : Option (Option V)} {sd : SD} (h : SlotOk c o H i x sd) (a : Same H H') : SlotOk c o H' i x sd := by
  cases sd with
  | un => exact h
  | pot => exact h
  | dat d => exact ⟨h.1, let ⟨v, e1, r⟩ := h.2; ⟨v, e1, r.same a⟩⟩
  | own ds =>
    obtain ⟨p, vs, h1, h2, h3, h4⟩ := h
    exact ⟨p, vs, h1, h2, a _ _ h3, h4.same a⟩
/-- the heap grows -/
theorem SOk.same (S : SOk c o σ H e) (a : Same H H') : SOk c o σ H' e where
  len := S.len
  slot := fun i sd h => (S.slot i sd h).mono a
  out := S.out
  inj := S.inj
  fresh := S.fresh
  keep := fun b x h n => a _ _ (S.keep b x h n)
  mc := fun b h z => by
    cases q : H b with
    | none => exact S.mc b h q
    | some x => rw [a b x q] at z; cases z
  dom := fun b h z => by
    cases q : H b with
    | none => exact S.dom b h q
    | some x => rw [a b x q] at z; cases z
  pot := fun p hp => by
    obtain ⟨⟨h0, h1, h2⟩, r⟩ := S.pot p hp
    exact ⟨⟨h0, a _ _ h1, a _ _ h2⟩, r⟩
/-- a new object stands nowhere in M -/
theorem SOk.new (S : SOk c o σ H e) {p : Addr} (h : H p = none) : ¬ c.M o p := fun z => S.alloc p z h
theorem same_upd {p : Addr} {x : HO} (h : H p = none) : Same H (upd H p x) := fun b y e => by
  rw [upd_ne (ne_of_none e h)]
  exact e

/-- a slot's own list is let go -/
def OS.drop (o : OS) (i : Nat) : OS := { o with sl := fun j => if j = i then none else o.sl j }
def OS.put (o : OS) (i : Nat) (p : Addr) : OS := { o with sl := fun j => if j = i then some p else o.sl j }
theorem OS.drop_some {i j : Nat} {p : Addr} (h : (o.drop i).sl j = some p) : j ≠ i ∧ o.sl j = some p := by
  have h : (if j = i then none else o.sl j) = some p := h
  by_cases e : j = i
  · rw [if_pos e] at h; cases h
  · rw [if_neg e] at h; exact ⟨e, h⟩
theorem OS.drop_ne {i j : Nat} (h : j ≠ i) : (o.drop i).sl j = o.sl j := if_neg h
theorem OS.drop_self {i : Nat} : (o.drop i).sl i = none := if_pos rfl
theorem OS.put_ne {i j : Nat} {p : Addr} (h : j ≠ i) : (o.put i p).sl j = o.sl j := if_neg h
theorem OS.put_self {i : Nat} {p : Addr} : (o.put i p).sl i = some p := if_pos rfl
theorem M_drop {i : Nat} {b : Addr} (h : c.M (o.drop i) b) : c.M o b := by
  rcases h with h | ⟨j, h⟩ | h
  · exact .inl h
  · exact .inr (.inl ⟨j, (OS.drop_some h).2⟩)
  · exact .inr (.inr h)
theorem Stp.drop {i : Nat} : Stp c o H (o.drop i) H := ⟨⟨fun _ _ h _ => h, fun _ h => .inl (M_drop h)⟩, fun _ h => h⟩
theorem SlotOk.less {i : Nat} {x : Option (Option V)} {sd : SD} (h : SlotOk c o H i x sd) (hM : ∀ b, c.M o' b → c.M o b ∨ H b = none) (hs : o'.sl i = o.sl i) : SlotOk c o' H i x sd := by
  cases sd with
  | un => exact hs.trans h
  | pot => exact ⟨hs.trans h.1, h.2⟩
  | dat d => exact ⟨hs.trans h.1, let ⟨v, e1, r⟩ := h.2; ⟨v, e1, r.mono hM fun _ _ z _ => z⟩⟩
  | own ds =>
    obtain ⟨p, vs, h1, h2, h3, h4⟩ := h
    exact ⟨p, vs, hs.trans h1, h2, h3, h4.mono hM fun _ _ z _ => z⟩

def En.put (e : En) (i : Nat) (sd : SD) : En := { e with sl := e.sl.set i sd }
theorem En.put_len {i : Nat} {sd : SD} : (e.put i sd).sl.length = e.sl.length := List.length_set ..
theorem En.put_ne {i j : Nat} {sd : SD} (h : j ≠ i) : (e.put i sd).sl[j]? = e.sl[j]? := List.getElem?_set_ne (Ne.symm h)
theorem En.put_at {i : Nat} {sd x : SD} (h : (e.put i sd).sl[i]? = some x) : x = sd ∧ i < e.sl.length := by
  have h1 : i < e.sl.length := by
    have := (List.getElem?_eq_some_iff.mp h).1
    rw [En.put_len] at this
    exact this
  unfold En.put at h
  rw [List.getElem?_set_self h1] at h
  exact ⟨(Option.some.inj h).symm, h1⟩

/-- data is stored in a slot -/
theorem SOk.put (S : SOk c o σ H e) {i : Nat} {v : V} {d : D} (r : Den (c.M o) H v d) : SOk c (o.drop i) (σ.set i (some v)) H (e.put i (.dat d)) where
  len := by rw [List.length_set, En.put_len, S.len]
  slot := fun j sd h => by
    by_cases e1 : j = i
    · subst e1
      obtain ⟨rfl, hl⟩ := En.put_at h
      exact ⟨OS.drop_self, v, List.getElem?_set_self (by rw [S.len]; exact hl), r.less fun b => M_drop⟩
    · rw [En.put_ne e1] at h
      rw [List.getElem?_set_ne (Ne.symm e1)]
      exact (S.slot j sd h).less (fun b z => .inl (M_drop z)) (OS.drop_ne e1)
  out := fun j h => by
    rw [En.put_len] at h
    by_cases e1 : j = i
    · subst e1; exact OS.drop_self
    · rw [OS.drop_ne e1]; exact S.out j h
  inj := fun j k p h1 h2 => S.inj j k p (OS.drop_some h1).2 (OS.drop_some h2).2
  fresh := fun j p h => S.fresh j p (OS.drop_some h).2
  keep := S.keep
  mc := S.mc
  dom := S.dom
  pot := fun p hp => by
    obtain ⟨h1, h2, h3, h4, h5⟩ := S.pot p hp
    exact ⟨h1, h2, h3, h4, fun j z => h5 j (OS.drop_some z).2⟩
/-- a slot's own list is read: from now on it is data -/
theorem SOk.froze (S : SOk c o σ H e) {i : Nat} {ds : List D} (hs : e.sl[i]? = some (.own ds)) :
    ∃ p, σ[i]? = some (some (.ref p)) ∧ SOk c (o.drop i) σ H (e.put i (.dat (.list ds))) ∧ Den (c.M (o.drop i)) H (.ref p) (.list ds) := by
  obtain ⟨p, vs, h1, h2, h3, h4⟩ := S.slot i _ hs
  have hd : Den (c.M (o.drop i)) H (.ref p) (.list ds) := by
    refine .lst (fun z => ?_) h3 (h4.less fun b => M_drop)
    rcases z with z | ⟨j, z⟩ | ⟨q, hq, z⟩
    · exact (S.fresh i p h1).2 z
    · obtain ⟨n, z⟩ := OS.drop_some z
      exact n (S.inj j i p z h1)
    · obtain ⟨_, g2, _, _, g5⟩ := S.pot q hq
      rcases z with rfl | rfl
      · exact g2 (S.fresh i _ h1).1
      · exact g5 i h1
  have hi : i < e.sl.length := (List.getElem?_eq_some_iff.mp hs).1
  refine ⟨p, h2, ⟨by rw [En.put_len, S.len], fun j sd h => ?_, fun j h => ?_, fun j k q a b => S.inj j k q (OS.drop_some a).2 (OS.drop_some b).2, fun j q a => S.fresh j q (OS.drop_some a).2, S.keep, S.mc, S.dom, fun q hq => ?_⟩, hd⟩
  · by_cases e1 : j = i
    · subst e1
      obtain ⟨rfl, _⟩ := En.put_at h
      exact ⟨OS.drop_self, _, h2, hd⟩
    · rw [En.put_ne e1] at h
      exact (S.slot j sd h).less (fun b z => .inl (M_drop z)) (OS.drop_ne e1)
  · rw [En.put_len] at h
    by_cases e1 : j = i
    · subst e1; exact OS.drop_self
    · rw [OS.drop_ne e1]; exact S.out j h
  · obtain ⟨g1, g2, g3, g4, g5⟩ := S.pot q hq
    exact ⟨g1, g2, g3, g4, fun j z => g5 j (OS.drop_some z).2⟩
/-- a new list becomes a slot's own -/
theorem SOk.own (S : SOk c o σ H e) {i : Nat} {p : Addr} {vs : List V} {ds : List D} (hp : H p = none) (r : DenL (c.M o) H vs ds) (hi : i < e.sl.length) :
    SOk c ((o.drop i).put i p) (σ.set i (some (.ref p))) (upd H p (.lst vs)) (e.put i (.own ds)) ∧ Stp c o H ((o.drop i).put i p) (upd H p (.lst vs)) := by
  have sm : Same H (upd H p (.lst vs)) := same_upd hp
  have hM : ∀ b, c.M ((o.drop i).put i p) b → c.M o b ∨ H b = none := fun b z => by
    rcases z with z | ⟨j, z⟩ | z
    · exact .inl (.inl z)
    · by_cases e1 : j = i
      · subst e1
        rw [OS.put_self] at z
        cases z
        exact .inr hp
      · rw [OS.put_ne e1, OS.drop_ne e1] at z
        exact .inl (.inr (.inl ⟨j, z⟩))
    · exact .inl (.inr (.inr z))
  have hst : Stp c o H ((o.drop i).put i p) (upd H p (.lst vs)) := ⟨⟨fun b x h _ => sm b x h, hM⟩, Same.dom sm⟩
  have hH0 : c.H0 p = none := by
    cases q : c.H0 p with
    | none => rfl
    | some x => exact absurd hp (S.dom p (by rw [q]; exact fun z => nomatch z))
  have hne : ∀ j q, o.sl j = some q → q ≠ p := fun j q h z => by
    subst z
    exact S.alloc q (.inr (.inl ⟨j, h⟩)) hp
  refine ⟨⟨by rw [List.length_set, En.put_len, S.len], fun j sd h => ?_, fun j h => ?_, fun j k q a b => ?_, fun j q a => ?_, fun b x h n => sm _ _ (S.keep b x h n), (S.same sm).mc, (S.same sm).dom, fun q hq => ?_⟩, hst⟩
  · by_cases e1 : j = i
    · subst e1
      obtain ⟨rfl, hl⟩ := En.put_at h
      exact ⟨p, vs, OS.put_self, List.getElem?_set_self (by rw [S.len]; exact hl), upd_same, hst.denL r⟩
    · rw [En.put_ne e1] at h
      rw [List.getElem?_set_ne (Ne.symm e1)]
      have q := S.slot j sd h
      cases sd with
      | un => exact (OS.put_ne e1).trans ((OS.drop_ne e1).trans q)
      | pot => exact ⟨(OS.put_ne e1).trans ((OS.drop_ne e1).trans q.1), q.2⟩
      | dat d => exact ⟨(OS.put_ne e1).trans ((OS.drop_ne e1).trans q.1), let ⟨v, e2, t⟩ := q.2; ⟨v, e2, hst.den t⟩⟩
      | own es =>
        obtain ⟨q0, ws, h1, h2, h3, h4⟩ := q
        exact ⟨q0, ws, (OS.put_ne e1).trans ((OS.drop_ne e1).trans h1), h2, sm _ _ h3, hst.denL h4⟩
  · rw [En.put_len] at h
    have e1 : j ≠ i := fun z => by subst z; omega
    rw [OS.put_ne e1, OS.drop_ne e1]
    exact S.out j h
  · by_cases e1 : j = i
    · subst e1
      rw [OS.put_self] at a
      cases a
      by_cases e2 : k = j
      · exact e2.symm
      · rw [OS.put_ne e2, OS.drop_ne e2] at b
        exact absurd rfl (hne k _ b)
    · rw [OS.put_ne e1, OS.drop_ne e1] at a
      by_cases e2 : k = i
      · subst e2
        rw [OS.put_self] at b
        cases b
        exact absurd rfl (hne j _ a)
      · rw [OS.put_ne e2, OS.drop_ne e2] at b
        exact S.inj j k q a b
  · by_cases e1 : j = i
    · subst e1
      rw [OS.put_self] at a
      cases a
      exact ⟨hH0, fun z => S.mc _ z hp⟩
    · rw [OS.put_ne e1, OS.drop_ne e1] at a
      exact S.fresh j q a
  · obtain ⟨⟨g0, g1, g2⟩, g3, g4, g5, g6⟩ := S.pot q hq
    refine ⟨⟨g0, sm _ _ g1, sm _ _ g2⟩, g3, g4, g5, fun j z => ?_⟩
    by_cases e1 : j = i
    · subst e1
      rw [OS.put_self] at z
      have z' : p = o.g := Option.some.inj z
      rw [z', g2] at hp
      cases hp
    · rw [OS.put_ne e1, OS.drop_ne e1] at z
      exact g6 j z
/-- a slot's own list is changed -/
theorem SOk.grow (S : SOk c o σ H e) {i : Nat} {p : Addr} {ws : List V} {ds es : List D} (hs : e.sl[i]? = some (.own ds)) (ho : o.sl i = some p) (r : DenL (c.M o) H ws es) :
    SOk c o σ (upd H p (.lst ws)) (e.put i (.own es)) ∧ Stp c o H o (upd H p (.lst ws)) := by
  have hM : c.M o p := .inr (.inl ⟨i, ho⟩)
  have hst : Stp c o H o (upd H p (.lst ws)) := by
    refine ⟨⟨fun b x h n => ?_, fun _ h => .inl h⟩, fun b h => ?_⟩
    · rw [upd_ne (show b ≠ p from fun z => n (z ▸ hM))]
      exact h
    · by_cases z : b = p
      · rw [z, upd_same]; exact fun q => nomatch q
      · rw [upd_ne z]; exact h
  have hi : i < e.sl.length := (List.getElem?_eq_some_iff.mp hs).1
  obtain ⟨p', vs, h1, h2, h3, h4⟩ := S.slot i _ hs
  have hpp : p' = p := by rw [h1] at ho; exact Option.some.inj ho
  subst hpp
  refine ⟨⟨by rw [En.put_len, S.len], fun j sd h => ?_, fun j h => S.out j (by rw [En.put_len] at h; exact h), S.inj, S.fresh, fun b x h n => ?_, fun b h => ?_, fun b h => ?_, fun q hq => ?_⟩, hst⟩
  · by_cases e1 : j = i
    · subst e1
      obtain ⟨rfl, _⟩ := En.put_at h
      exact ⟨p', ws, h1, h2, upd_same, hst.denL r⟩
    · rw [En.put_ne e1] at h
      have q := S.slot j sd h
      cases sd with
      | un => exact q
      | pot => exact q
      | dat d => exact ⟨q.1, let ⟨v, e2, t⟩ := q.2; ⟨v, e2, hst.den t⟩⟩
      | own es' =>
        obtain ⟨q0, us, k1, k2, k3, k4⟩ := q
        refine ⟨q0, us, k1, k2, ?_, hst.denL k4⟩
        rw [upd_ne (show q0 ≠ p' from fun z => e1 (S.inj j i q0 k1 (z ▸ h1)))]
        exact k3
  · rw [upd_ne (show b ≠ p' from fun z => by subst z; rw [(S.fresh i _ h1).1] at h; cases h)]
    exact S.keep b x h n
  · by_cases z : b = p'
    · subst z; rw [upd_same]; exact fun q => nomatch q
    · rw [upd_ne z]; exact S.mc b h
  · by_cases z : b = p'
    · subst z; rw [upd_same]; exact fun q => nomatch q
    · rw [upd_ne z]; exact S.dom b h
  · obtain ⟨⟨g0, g1, g2⟩, g3, g4, g5, g6⟩ := S.pot q hq
    refine ⟨⟨g0, ?_, ?_⟩, g3, g4, g5, g6⟩
    · rw [upd_ne (show q.1 ≠ p' from fun z => g3 (by rw [z]; exact (S.fresh i _ h1).1))]
      exact g1
    · rw [upd_ne (show o.g ≠ p' from fun z => g6 i (by rw [z]; exact h1))]
      exact g2
end
end L3

/-! L3: the judgements. An expression is read as a function of what the slots hold. -/
namespace L3
open PySem PySem.Spec PyProof.Rows L2

/-! ### weaker readings -/
theorem weakE {X : Cx} {e : Expr} {t u : TE} (h : PE X e t) (w : ∀ σ H Q, u σ H Q → t σ H Q) : PE X e u := ⟨fun pins s σ H Q I q => h.run pins s σ H Q I (w σ H Q q)⟩
theorem weakT {X : Cx} {e : Expr} {t u : TT} (h : PT X e t) (w : ∀ σ H Q, u σ H Q → t σ H Q) : PT X e u := ⟨fun pins s σ H Q I q => h.run pins s σ H Q I (w σ H Q q)⟩
theorem weakW {X : Cx} {e : Expr} {t u : TT} (h : PW X e t) (w : ∀ σ H Q, u σ H Q → t σ H Q) : PW X e u := ⟨fun wh pins s σ H Q I q => h.run wh pins s σ H Q I (w σ H Q q)⟩
theorem weakA {X : Cx} {es : List Expr} {t u : TA} (h : PA X es t) (w : ∀ σ H Q, u σ H Q → t σ H Q) : PA X es u := ⟨fun pos pins s σ H Q I q => h.run pos pins s σ H Q I (w σ H Q q)⟩
theorem weakS {X : Cx} {st : Stmt} {t u : TS} (h : PS X st t) (w : ∀ D σ H, u D σ H → t D σ H) : PS X st u := ⟨fun pins s σ H D I q => h.run pins s σ H D I (w D σ H q)⟩
theorem weakB {X : Cx} {st : List Stmt} {t u : TS} (h : PSs X st t) (w : ∀ D σ H, u D σ H → t D σ H) : PSs X st u := ⟨fun pins s σ H D I q => h.run pins s σ H D I (w D σ H q)⟩
theorem weakG {X : Cx} {e : Expr} {t u : TG} (h : PG X e t) (w : ∀ v σ H Q, u v σ H Q → t v σ H Q) : PG X e u := ⟨fun pins s σ H v uv Q I r q => h.run pins s σ H v uv Q I r (w v σ H Q q)⟩
theorem weakGs {X : Cx} {e : List Expr} {t u : TGs} (h : PGs X e t) (w : ∀ v σ H Q, u v σ H Q → t v σ H Q) : PGs X e u := ⟨fun pins s σ H v uv Q I r q => h.run pins s σ H v uv Q I r (w v σ H Q q)⟩
theorem weakI {X : Cx} {tg it : Expr} {t u : TI} (h : PI X tg it t) (w : ∀ σ H R, u σ H R → t σ H R) : PI X tg it u := ⟨fun pins s σ H R I q => h.run pins s σ H R I (w σ H R q)⟩
theorem weakX {X : Cx} {ifs : List Expr} {t u : TT} (h : PTs X ifs t) (w : ∀ σ H Q, u σ H Q → t σ H Q) : PTs X ifs u := ⟨fun pins s σ H Q I q => h.run pins s σ H Q I (w σ H Q q)⟩

/-! ### the readings -/
abbrev F := En → Option (D × En)
abbrev FT := En → Option (Bool × En)
abbrev FA := En → Option (List D × En)
inductive Out where
  | nx (e : En) | rt (d : D) (e : En) | bk (e : En) | ct (e : En)
abbrev FS := En → Option Out

def canE (f : F) : TE := fun σ H Q => ∃ c o e, SOk c o σ H e ∧ ∃ d e', f e = some (d, e') ∧ ∀ v H' o', SOk c o' σ H' e' → Stp c o H o' H' → Den (c.M o') H' v d → Q v H'
def canT (f : FT) : TT := fun σ H Q => ∃ c o e, SOk c o σ H e ∧ ∃ b e', f e = some (b, e') ∧ ∀ H' o', SOk c o' σ H' e' → Stp c o H o' H' → Q b H'
def canA (f : FA) : TA := fun σ H Q => ∃ c o e, SOk c o σ H e ∧ ∃ ds e', f e = some (ds, e') ∧ ∀ vs H' o', SOk c o' σ H' e' → Stp c o H o' H' → DenL (c.M o') H' vs ds → Q vs H'
def Wish (c : Ctx) (o : OS) (H : Hp) (D : Ends) : Out → Prop
  | .nx e => ∀ σ' H' o', SOk c o' σ' H' e → Stp c o H o' H' → D.nx σ' H'
  | .rt d e => ∀ v σ' H' o', SOk c o' σ' H' e → Stp c o H o' H' → Den (c.M o') H' v d → D.rt v H'
  | .bk e => ∀ σ' H' o', SOk c o' σ' H' e → Stp c o H o' H' → D.bk σ' H'
  | .ct e => ∀ σ' H' o', SOk c o' σ' H' e → Stp c o H o' H' → D.ct σ' H'
def canS (f : FS) : TS := fun D σ H => ∃ c o e, SOk c o σ H e ∧ ∃ r, f e = some r ∧ Wish c o H D r
theorem Wish.from {c : Ctx} {o o' : OS} {H H' : Hp} {D : Ends} {r : Out} (h : Wish c o H D r) (a : Stp c o H o' H') : Wish c o' H' D r := by
  cases r with
  | nx e => exact fun σ1 H1 o1 S b => h σ1 H1 o1 S (a.trans b)
  | rt d e => exact fun v σ1 H1 o1 S b => h v σ1 H1 o1 S (a.trans b)
  | bk e => exact fun σ1 H1 o1 S b => h σ1 H1 o1 S (a.trans b)
  | ct e => exact fun σ1 H1 o1 S b => h σ1 H1 o1 S (a.trans b)

abbrev LE (X : Cx) (e : Expr) (f : F) : Prop := PE X e (canE f)
abbrev LT (X : Cx) (e : Expr) (f : FT) : Prop := PT X e (canT f)
abbrev LW (X : Cx) (e : Expr) (f : FT) : Prop := PW X e (canT f)
abbrev LA (X : Cx) (es : List Expr) (f : FA) : Prop := PA X es (canA f)
abbrev LS (X : Cx) (s : Stmt) (f : FS) : Prop := PS X s (canS f)
abbrev LB (X : Cx) (s : List Stmt) (f : FS) : Prop := PSs X s (canS f)

theorem bind_some {α β : Type} {x : Option α} {f : α → Option β} {b : β} (h : x.bind f = some b) : ∃ a, x = some a ∧ f a = some b := by
  cases x with
  | none => cases h
  | some a => exact ⟨a, rfl, h⟩

section
variable {X : Cx}
/-! ### names, constants -/
def fC (d : D) : F := fun e => some (d, e)
def fV (i : Nat) : F := fun e => match e.sl[i]? with
  | some (.dat d) => some (d, e)
  | some (.own ds) => some (.list ds, e.put i (.dat (.list ds)))
  | _ => none
theorem le_c {e : Expr} {v : V} {d : D} (h : PE X e (tC v)) (r : ∀ M H, Den M H v d) : LE X e (fC d) :=
  weakE h fun σ H Q ⟨c, o, en, S, d', e', hf, k⟩ => by
    cases hf
    exact k v H o S .refl (r _ _)
theorem le_int {i j pos} : LE X (.Constant (.int i) j pos) (fC (.int i)) := le_c pe_int fun _ _ => .int i
theorem le_bl {b j pos} : LE X (.Constant (.bool b) j pos) (fC (.bool b)) := le_c pe_bl fun _ _ => .bl b
theorem le_non {j pos} : LE X (.Constant .none j pos) (fC .none) := le_c pe_non fun _ _ => .non
theorem le_str {x j pos} : LE X (.Constant (.str x) j pos) (fC (.str x)) := le_c pe_str fun _ _ => .str x
theorem le_glob_int {x : Str} {i : Int} {t : Tok} {pos : Pos} (hg : Gl X x) (hm : X.mg x = some (.int i t)) (hd : (x == ("__debug__" : Str)) = false := by decide) : LE X (.Name x pos) (fC (.int i)) :=
  le_c (pe_glob (v := .int i) hg hm ⟨t, rfl⟩ hd) fun _ _ => .int i
theorem le_glob_str {x : Str} {z : Str} {t : Tok} {pos : Pos} (hg : Gl X x) (hm : X.mg x = some (.str z t)) (hd : (x == ("__debug__" : Str)) = false := by decide) : LE X (.Name x pos) (fC (.str z)) :=
  le_c (pe_glob (v := .str z) hg hm ⟨t, rfl⟩ hd) fun _ _ => .str z
theorem le_v {i : Nat} {e : Expr} (h : PE X e (tVar i)) : LE X e (fV i) :=
  weakE h fun σ H Q ⟨c, o, en, S, d, e', hf, k⟩ => by
    unfold fV at hf
    cases hs : en.sl[i]? with
    | none => rw [hs] at hf; cases hf
    | some sd =>
      rw [hs] at hf
      cases sd with
      | un => cases hf
      | pot => cases hf
      | dat d' =>
        cases hf
        obtain ⟨_, v, h1, r⟩ := S.slot i _ hs
        exact ⟨v, h1, k v H o S .refl r⟩
      | own ds =>
        cases hf
        obtain ⟨p, h1, S', r⟩ := S.froze hs
        exact ⟨_, h1, k _ H _ S' .drop r⟩

/-! ### operators -/
def Op2 (X : Cx) (fv : Value → Value → Sem Value) (op : D → D → Option D) : Prop :=
  ∃ r : R2, OpR X fv r ∧ ∀ (M : MS) (H : Hp) (x y : V) (dx dy z : D), (∀ b, M b → H b ≠ none) → Den M H x dx → Den M H y dy → op dx dy = some z →
    ∀ Q : VK, (∀ v H', Same H H' → Den M H' v z → Q v H') → r x y H Q
def fBin (op : D → D → Option D) (fa fb : F) : F := fun e => (fa e).bind fun p => (fb p.2).bind fun q => (op p.1 q.1).map fun z => (z, q.2)
variable {a b cc : Expr} {fa fb fc : F} {pos : Pos}
theorem bin_can {r : R2} {op : D → D → Option D} (hq : ∀ (M : MS) (H : Hp) (x y : V) (dx dy z : D), (∀ b, M b → H b ≠ none) → Den M H x dx → Den M H y dy → op dx dy = some z →
    ∀ Q : VK, (∀ v H', Same H H' → Den M H' v z → Q v H') → r x y H Q) {σ : L2.St} {H : Hp} {Q : VK} (h : canE (fBin op fa fb) σ H Q) : tOp r (canE fa) (canE fb) σ H Q := by
  obtain ⟨c, o, e, S, d, e', hf, k⟩ := h
  obtain ⟨⟨dx, e1⟩, h1, hf⟩ := bind_some hf
  obtain ⟨⟨dy, e2⟩, h2, hf⟩ := bind_some hf
  obtain ⟨z, h3, hf⟩ := Option.map_eq_some_iff.mp hf
  obtain ⟨rfl, rfl⟩ := Prod.mk.inj hf
  refine ⟨c, o, e, S, dx, e1, h1, fun x H1 o1 S1 a1 r1 => ?_⟩
  refine ⟨c, o1, e1, S1, dy, e2, h2, fun y H2 o2 S2 a2 r2 => ?_⟩
  exact hq _ _ x y dx dy z S2.alloc (a2.den r1) r2 h3 _ fun v H' sm rv => k v H' o2 (S2.same sm) ((a1.trans a2).trans (.same sm)) rv
theorem le_bin {op : Operator} {q : D → D → Option D} (ho : Op2 X (binaryOp op) q) (ha : LE X a fa) (hb : LE X b fb) : LE X (.BinOp a op b pos) (fBin q fa fb) := by
  obtain ⟨r, hr, hq⟩ := ho
  exact weakE (pe_op hr ha hb) fun σ H Q h => bin_can hq h
theorem le_cmp {op : CmpOp} {q : D → D → Option D} (ho : Op2 X (compareOp op) q) (ha : LE X a fa) (hb : LE X b fb) (hm : behindInMarks op b = false) : LE X (.Compare a [op] [b] pos) (fBin q fa fb) := by
  obtain ⟨r, hr, hq⟩ := ho
  exact weakE (pe_cmpR hr ha hb hm) fun σ H Q h => bin_can hq h
/-- as a test -/
def fT (f : F) : FT := fun e => match f e with
  | some (.bool b, e') => some (b, e')
  | _ => none
theorem fT_some {f : F} {e : En} {b : Bool} {e' : En} (h : fT f e = some (b, e')) : f e = some (.bool b, e') := by
  unfold fT at h
  split at h
  · rename_i h1
    cases h
    exact h1
  · cases h
theorem Den.bl_inv {M : MS} {H : Hp} {v : V} {b : Bool} (h : Den M H v (.bool b)) : v = .bl b := by cases h; rfl
theorem Den.int_inv {M : MS} {H : Hp} {v : V} {i : Int} (h : Den M H v (.int i)) : v = .int i := by cases h; rfl
theorem Den.str_inv {M : MS} {H : Hp} {v : V} {x : Str} (h : Den M H v (.str x)) : v = .str x := by cases h; rfl
theorem Den.non_inv {M : MS} {H : Hp} {v : V} (h : Den M H v .none) : v = .non := by cases h; rfl
theorem Den.tup_inv {M : MS} {H : Hp} {v : V} {ds : List D} (h : Den M H v (.tuple ds)) : ∃ p xs, v = .ref p ∧ ¬ M p ∧ H p = some (.tup xs) ∧ DenL M H xs ds := by
  cases h with
  | tup n e r => exact ⟨_, _, rfl, n, e, r⟩
theorem Den.lst_inv {M : MS} {H : Hp} {v : V} {ds : List D} (h : Den M H v (.list ds)) : ∃ p xs, v = .ref p ∧ ¬ M p ∧ H p = some (.lst xs) ∧ DenL M H xs ds := by
  cases h with
  | lst n e r => exact ⟨_, _, rfl, n, e, r⟩
/-- from an expression's function to a test's -/
theorem canE_T {f : F} {σ : L2.St} {H : Hp} {Q : Bool → Hp → Prop} (h : canT (fT f) σ H Q) : canE f σ H fun x H' => ∃ k, x = .bl k ∧ Q k H' := by
  obtain ⟨c, o, e, S, b, e', hf, k⟩ := h
  exact ⟨c, o, e, S, _, e', fT_some hf, fun v H' o' S' a r => ⟨b, r.bl_inv, k H' o' S' a⟩⟩
theorem lt_cmp {op : CmpOp} {q : D → D → Option D} (ho : Op2 X (compareOp op) q) (ha : LE X a fa) (hb : LE X b fb) (hm : behindInMarks op b = false) : LT X (.Compare a [op] [b] pos) (fT (fBin q fa fb)) := by
  obtain ⟨r, hr, hq⟩ := ho
  exact weakT (pt_cmpR hr ha hb hm) fun σ H Q h => bin_can hq (canE_T h)
theorem lt_val (h : LE X a fa) (he : ∀ whole, isTrue a X.env whole = (do let v ← whole; standAt a.pos; holding [v] (truthy v)) := by intro _; rfl) : LT X a (fT fa) :=
  weakT (pt_val h he) fun σ H Q h => canE_T h
/-- the operators one place -/
def Op1 (X : Cx) (fv : Value → Sem Value) (op : D → Option D) : Prop :=
  ∃ r : V → Hp → VK → Prop, UnR X fv r ∧ ∀ (M : MS) (H : Hp) (x : V) (dx z : D), (∀ b, M b → H b ≠ none) → Den M H x dx → op dx = some z → ∀ Q : VK, (∀ v H', Same H H' → Den M H' v z → Q v H') → r x H Q
def fUn (op : D → Option D) (fa : F) : F := fun e => (fa e).bind fun p => (op p.1).map fun z => (z, p.2)
theorem le_un {op : UnaryOp} {q : D → Option D} (ho : Op1 X (unaryOp op) q) (ha : LE X a fa) : LE X (.UnaryOp op a pos) (fUn q fa) := by
  obtain ⟨r, hr, hq⟩ := ho
  refine weakE (pe_un hr ha) fun σ H Q h => ?_
  obtain ⟨c, o, e, S, d, e', hf, k⟩ := h
  obtain ⟨⟨dx, e1⟩, h1, hf⟩ := bind_some hf
  obtain ⟨z, h3, hf⟩ := Option.map_eq_some_iff.mp hf
  obtain ⟨rfl, rfl⟩ := Prod.mk.inj hf
  refine ⟨c, o, e, S, dx, e1, h1, fun x H1 o1 S1 a1 r1 => ?_⟩
  exact hq _ _ x dx z S1.alloc r1 h3 _ fun v H' sm rv => k v H' o1 (S1.same sm) (a1.trans (.same sm)) rv

/-! ### a op b op c -/
def fChain (op op' : D → D → Option D) (fa fb fc : F) : F := fun e => (fa e).bind fun p => (fb p.2).bind fun q => (op p.1 q.1).bind fun z => match z with
  | .bool true => (fc q.2).bind fun r => (op' q.1 r.1).map fun z => (z, r.2)
  | .bool false => some (.bool false, q.2)
  | _ => none

/-! ### and, or, not, if -/
def fNot (f : FT) : FT := fun e => (f e).map fun p => (!p.1, p.2)
def fAnd (f g : FT) : FT := fun e => (f e).bind fun p => if p.1 = true then g p.2 else some (false, p.2)
def fOr (f g : FT) : FT := fun e => (f e).bind fun p => if p.1 = true then some (true, p.2) else g p.2
variable {ta tb : FT} {rest : List Expr}
theorem lt_not (h : LT X a ta) : LT X (.UnaryOp .Not a pos) (fNot ta) := weakT (pt_not h) fun σ H Q h => by
  obtain ⟨c, o, e, S, b, e', hf, k⟩ := h
  obtain ⟨⟨x, e1⟩, h1, hf⟩ := Option.map_eq_some_iff.mp hf
  cases hf
  exact ⟨c, o, e, S, x, e1, h1, fun H' o' S' a => k H' o' S' a⟩
theorem lw_and1 (h : LT X a ta) : LW X (.BoolOp .And [a] pos) ta := pw_and1 h
theorem lw_or1 (h : LT X a ta) : LW X (.BoolOp .Or [a] pos) ta := pw_or1 h
theorem and_can {σ : L2.St} {H : Hp} {Q : Bool → Hp → Prop} (h : canT (fAnd ta tb) σ H Q) : tAnd (canT ta) (canT tb) σ H Q := by
  obtain ⟨c, o, e, S, b, e', hf, k⟩ := h
  obtain ⟨⟨x, e1⟩, h1, hf⟩ := bind_some hf
  refine ⟨c, o, e, S, x, e1, h1, fun H1 o1 S1 a1 => ?_⟩
  cases x with
  | true =>
    simp only [if_true] at hf ⊢
    exact ⟨c, o1, e1, S1, b, e', hf, fun H2 o2 S2 a2 => k H2 o2 S2 (a1.trans a2)⟩
  | false =>
    simp only [Bool.false_eq_true, if_false] at hf ⊢
    cases hf
    exact k H1 o1 S1 a1
theorem or_can {σ : L2.St} {H : Hp} {Q : Bool → Hp → Prop} (h : canT (fOr ta tb) σ H Q) : tOr (canT ta) (canT tb) σ H Q := by
  obtain ⟨c, o, e, S, b, e', hf, k⟩ := h
  obtain ⟨⟨x, e1⟩, h1, hf⟩ := bind_some hf
  refine ⟨c, o, e, S, x, e1, h1, fun H1 o1 S1 a1 => ?_⟩
  cases x with
  | true =>
    simp only [if_true] at hf ⊢
    cases hf
    exact k H1 o1 S1 a1
  | false =>
    simp only [Bool.false_eq_true, if_false] at hf ⊢
    exact ⟨c, o1, e1, S1, b, e', hf, fun H2 o2 S2 a2 => k H2 o2 S2 (a1.trans a2)⟩
theorem lw_and (ha : LT X a ta) (hb : LW X (.BoolOp .And (b :: rest) pos) tb) : LW X (.BoolOp .And (a :: b :: rest) pos) (fAnd ta tb) := weakW (pw_and ha hb) fun σ H Q h => and_can h
theorem lw_or (ha : LT X a ta) (hb : LW X (.BoolOp .Or (b :: rest) pos) tb) : LW X (.BoolOp .Or (a :: b :: rest) pos) (fOr ta tb) := weakW (pw_or ha hb) fun σ H Q h => or_can h
/-- as values: all but the last are True or False -/
def fAndV (f g : F) : F := fun e => (f e).bind fun p => match p.1 with
  | .bool true => g p.2
  | .bool false => some (.bool false, p.2)
  | _ => none
def fOrV (f g : F) : F := fun e => (f e).bind fun p => match p.1 with
  | .bool true => some (.bool true, p.2)
  | .bool false => g p.2
  | _ => none
def fNotV (f : F) : F := fun e => (f e).bind fun p => match p.1 with
  | .bool b => some (.bool (!b), p.2)
  | _ => none
theorem le_one {op} (h : LE X a fa) : LE X (.BoolOp op [a] pos) fa := pe_one h
theorem le_and (ha : LE X a fa) (hb : LE X (.BoolOp .And (b :: rest) pos) fb) : LE X (.BoolOp .And (a :: b :: rest) pos) (fAndV fa fb) := weakE (pe_and ha hb) fun σ H Q h => by
  obtain ⟨c, o, e, S, d, e', hf, k⟩ := h
  obtain ⟨⟨x, e1⟩, h1, hf⟩ := bind_some hf
  refine ⟨c, o, e, S, x, e1, h1, fun v H1 o1 S1 a1 r1 => ?_⟩
  cases x with
  | bool t =>
    refine ⟨t, r1.bl_inv, ?_⟩
    cases t with
    | true =>
      simp only [if_true]
      exact ⟨c, o1, e1, S1, d, e', hf, fun u H2 o2 S2 a2 r2 => k u H2 o2 S2 (a1.trans a2) r2⟩
    | false =>
      simp only [Bool.false_eq_true, if_false]
      cases hf
      exact k _ H1 o1 S1 a1 (.bl false)
  | _ => cases hf
theorem le_or (ha : LE X a fa) (hb : LE X (.BoolOp .Or (b :: rest) pos) fb) : LE X (.BoolOp .Or (a :: b :: rest) pos) (fOrV fa fb) := weakE (pe_or ha hb) fun σ H Q h => by
  obtain ⟨c, o, e, S, d, e', hf, k⟩ := h
  obtain ⟨⟨x, e1⟩, h1, hf⟩ := bind_some hf
  refine ⟨c, o, e, S, x, e1, h1, fun v H1 o1 S1 a1 r1 => ?_⟩
  cases x with
  | bool t =>
    refine ⟨t, r1.bl_inv, ?_⟩
    cases t with
    | true =>
      simp only [if_true]
      cases hf
      exact k _ H1 o1 S1 a1 (.bl true)
    | false =>
      simp only [Bool.false_eq_true, if_false]
      exact ⟨c, o1, e1, S1, d, e', hf, fun u H2 o2 S2 a2 r2 => k u H2 o2 S2 (a1.trans a2) r2⟩
  | _ => cases hf
theorem le_not (ha : LE X a fa) : LE X (.UnaryOp .Not a pos) (fNotV fa) := weakE (pe_not ha) fun σ H Q h => by
  obtain ⟨c, o, e, S, d, e', hf, k⟩ := h
  obtain ⟨⟨x, e1⟩, h1, hf⟩ := bind_some hf
  refine ⟨c, o, e, S, x, e1, h1, fun v H1 o1 S1 a1 r1 => ?_⟩
  cases x with
  | bool t =>
    cases hf
    exact ⟨t, r1.bl_inv, k _ H1 o1 S1 a1 (.bl _)⟩
  | _ => cases hf
def fIf (t : FT) (f g : F) : F := fun e => (t e).bind fun p => if p.1 = true then f p.2 else g p.2
theorem le_if {cnd : Expr} (hc : LT X cnd ta) (ha : LE X a fa) (hb : LE X b fb) : LE X (.IfExp cnd a b pos) (fIf ta fa fb) := weakE (pe_ifExp hc ha hb) fun σ H Q h => by
  obtain ⟨c, o, e, S, d, e', hf, k⟩ := h
  obtain ⟨⟨x, e1⟩, h1, hf⟩ := bind_some hf
  refine ⟨c, o, e, S, x, e1, h1, fun H1 o1 S1 a1 => ?_⟩
  cases x with
  | true =>
    simp only [if_true] at hf ⊢
    exact ⟨c, o1, e1, S1, d, e', hf, fun u H2 o2 S2 a2 r2 => k u H2 o2 S2 (a1.trans a2) r2⟩
  | false =>
    simp only [Bool.false_eq_true, if_false] at hf ⊢
    exact ⟨c, o1, e1, S1, d, e', hf, fun u H2 o2 S2 a2 r2 => k u H2 o2 S2 (a1.trans a2) r2⟩
/-! ### chains -/
theorem chain_can {r r' : R2} {op op' : D → D → Option D} (hq : ∀ (M : MS) (H : Hp) (x y : V) (dx dy z : D), (∀ b, M b → H b ≠ none) → Den M H x dx → Den M H y dy → op dx dy = some z →
    ∀ Q : VK, (∀ v H', Same H H' → Den M H' v z → Q v H') → r x y H Q) (hq' : ∀ (M : MS) (H : Hp) (x y : V) (dx dy z : D), (∀ b, M b → H b ≠ none) → Den M H x dx → Den M H y dy → op' dx dy = some z →
    ∀ Q : VK, (∀ v H', Same H H' → Den M H' v z → Q v H') → r' x y H Q) {σ : L2.St} {H : Hp} {Q : VK} (h : canE (fChain op op' fa fb fc) σ H Q) :
    tChain r r' (canE fa) (canE fb) (canE fc) σ H Q := by
  obtain ⟨c, o, e, S, d, e', hf, k⟩ := h
  obtain ⟨⟨dx, e1⟩, h1, hf⟩ := bind_some hf
  obtain ⟨⟨dy, e2⟩, h2, hf⟩ := bind_some hf
  obtain ⟨z, h3, hf⟩ := bind_some hf
  refine ⟨c, o, e, S, dx, e1, h1, fun x H1 o1 S1 a1 r1 => ?_⟩
  refine ⟨c, o1, e1, S1, dy, e2, h2, fun y H2 o2 S2 a2 r2 => ?_⟩
  refine hq _ _ x y dx dy z S2.alloc (a2.den r1) r2 h3 _ fun v H3 sm rv => ?_
  have S3 := S2.same sm
  have a3 : Stp c o2 H2 o2 H3 := .same sm
  cases z with
  | bool t =>
    refine ⟨t, rv.bl_inv, ?_⟩
    cases t with
    | true =>
      simp only [if_true]
      obtain ⟨⟨dw, e3⟩, h4, hf⟩ := bind_some hf
      obtain ⟨zz, h5, hf⟩ := Option.map_eq_some_iff.mp hf
      obtain ⟨rfl, rfl⟩ := Prod.mk.inj hf
      refine ⟨c, o2, e2, S3, dw, e3, h4, fun u H4 o4 S4 a4 r4 => ?_⟩
      exact hq' _ _ y u dy dw _ S4.alloc ((a3.trans a4).den r2) r4 h5 _ fun u' H5 sm' ru => k u' H5 o4 (S4.same sm') ((((a1.trans a2).trans a3).trans a4).trans (.same sm')) ru
    | false =>
      simp only [Bool.false_eq_true, if_false]
      obtain ⟨rfl, rfl⟩ := Prod.mk.inj (Option.some.inj hf)
      exact k _ H3 o2 S3 ((a1.trans a2).trans a3) (.bl false)
  | _ => cases hf
theorem le_chain {op op' : CmpOp} {q q' : D → D → Option D} (ho : Op2 X (compareOp op) q) (ho' : Op2 X (compareOp op') q') (ha : LE X a fa) (hb : LE X b fb) (hc : LE X cc fc)
    (hm : lastMarks [op, op'] [b, cc] = false := by with_unfolding_all rfl) : LE X (.Compare a [op, op'] [b, cc] pos) (fChain q q' fa fb fc) := by
  obtain ⟨r, hr, hq⟩ := ho
  obtain ⟨r', hr', hq'⟩ := ho'
  exact weakE (pe_chain hr hr' ha hb hc hm) fun σ H Q h => chain_can hq hq' h
theorem lt_chain {op op' : CmpOp} {q q' : D → D → Option D} (ho : Op2 X (compareOp op) q) (ho' : Op2 X (compareOp op') q') (ha : LE X a fa) (hb : LE X b fb) (hc : LE X cc fc)
    (hm : lastMarks [op, op'] [b, cc] = false := by with_unfolding_all rfl) : LT X (.Compare a [op, op'] [b, cc] pos) (fT (fChain q q' fa fb fc)) := by
  obtain ⟨r, hr, hq⟩ := ho
  obtain ⟨r', hr', hq'⟩ := ho'
  exact weakT (pt_chain hr hr' ha hb hc hm) fun σ H Q h => chain_can hq hq' (canE_T h)
end
end L3

/-! L3: arguments, displays, calls, targets, statements, loops. -/
namespace L3
open PySem PySem.Spec PyProof.Rows L2
abbrev big : Nat := 10000000
theorem big_line {n : Nat} (h : n ≤ big) : n < sizeLine := Nat.lt_of_le_of_lt h (by decide)

section
variable {X : Cx} {e : Expr} {es : List Expr} {fe : F} {fr : FA} {pos : Pos}
/-! ### arguments, displays -/
def fNil : FA := fun e => some ([], e)
def fCons (f : F) (r : FA) : FA := fun e => (f e).bind fun p => (r p.2).bind fun q => some (p.1 :: q.1, q.2)
theorem la_nil : LA X [] fNil := weakA pa_nil fun σ H Q ⟨c, o, en, S, ds, e', hf, k⟩ => by
  obtain ⟨rfl, rfl⟩ := Prod.mk.inj (Option.some.inj hf)
  exact k [] H o S .refl .nil
theorem cons_can {σ : L2.St} {H : Hp} {Q : List V → Hp → Prop} (h : canA (fCons fe fr) σ H Q) : tCons (canE fe) (canA fr) σ H Q := by
  obtain ⟨c, o, en, S, ds, e', hf, k⟩ := h
  obtain ⟨⟨d, e1⟩, h1, hf⟩ := bind_some hf
  obtain ⟨⟨rs, e2⟩, h2, hf⟩ := bind_some hf
  obtain ⟨rfl, rfl⟩ := Prod.mk.inj (Option.some.inj hf)
  refine ⟨c, o, en, S, d, e1, h1, fun v H1 o1 S1 a1 r1 => ?_⟩
  refine ⟨c, o1, e1, S1, rs, e2, h2, fun vs H2 o2 S2 a2 r2 => ?_⟩
  exact k (v :: vs) H2 o2 S2 (a1.trans a2) (.cons (a2.den r1) r2)
theorem la_cons (ha : LE X e fe) (hr : LA X es fr) (hs : starEach (e :: es) X.env = (false, eval e X.env) :: starEach es X.env := by rfl) : LA X (e :: es) (fCons fe fr) :=
  weakA (pa_cons ha hr hs) fun σ H Q h => cons_can h
def fTup (f : FA) : F := fun e => (f e).bind fun p => if p.1.length ≤ big then some (.tuple p.1, p.2) else none
def fLst (f : FA) : F := fun e => (f e).bind fun p => if p.1.length ≤ big then some (.list p.1, p.2) else none
theorem if_some {α : Type} {c : Prop} [Decidable c] {x y : α} (h : (if c then some x else none) = some y) : c ∧ x = y := by
  by_cases hc : c
  · rw [if_pos hc] at h; exact ⟨hc, Option.some.inj h⟩
  · rw [if_neg hc] at h; cases h
theorem if_someB {α : Type} {c : Prop} [Decidable c] {x : Option α} {y : α} (h : (if c then x else none) = some y) : c ∧ x = some y := by
  by_cases hc : c
  · rw [if_pos hc] at h; exact ⟨hc, h⟩
  · rw [if_neg hc] at h; cases h
theorem Den.newT {M : MS} {H : Hp} {p : Addr} {vs : List V} {ds : List D} (hM : ∀ b, M b → H b ≠ none) (hp : H p = none) (r : DenL M H vs ds) : Den M (upd H p (.tup vs)) (.ref p) (.tuple ds) :=
  .tup (fun z => hM p z hp) upd_same (r.same (same_upd hp))
theorem Den.newL {M : MS} {H : Hp} {p : Addr} {vs : List V} {ds : List D} (hM : ∀ b, M b → H b ≠ none) (hp : H p = none) (r : DenL M H vs ds) : Den M (upd H p (.lst vs)) (.ref p) (.list ds) :=
  .lst (fun z => hM p z hp) upd_same (r.same (same_upd hp))
theorem le_tup {x1} (h : LA X es fr) : LE X (.Tuple es x1 pos) (fTup fr) := weakE (pe_tup h) fun σ H Q ⟨c, o, en, S, d, e', hf, k⟩ => by
  obtain ⟨⟨ds, e1⟩, h1, hf⟩ := bind_some hf
  obtain ⟨hz, hf⟩ := if_some hf
  obtain ⟨rfl, rfl⟩ := Prod.mk.inj hf
  refine ⟨c, o, en, S, ds, e1, h1, fun vs H1 o1 S1 a1 r1 => ⟨by rw [r1.length]; exact Nat.le_of_lt (big_line hz), fun p hp => ?_⟩⟩
  exact k _ _ o1 (S1.same (same_upd hp)) (a1.trans (.same (same_upd hp))) (.newT S1.alloc hp r1)
theorem le_lst (h : LA X es fr) : LE X (.List es pos) (fLst fr) := weakE (pe_lst h) fun σ H Q ⟨c, o, en, S, d, e', hf, k⟩ => by
  obtain ⟨⟨ds, e1⟩, h1, hf⟩ := bind_some hf
  obtain ⟨hz, hf⟩ := if_some hf
  obtain ⟨rfl, rfl⟩ := Prod.mk.inj hf
  refine ⟨c, o, en, S, ds, e1, h1, fun vs H1 o1 S1 a1 r1 => ⟨by rw [r1.length]; exact Nat.le_of_lt (big_line hz), fun p hp => ?_⟩⟩
  exact k _ _ o1 (S1.same (same_upd hp)) (a1.trans (.same (same_upd hp))) (.newL S1.alloc hp r1)

/-! ### calls of built-ins -/
def CallD (X : Cx) (fv : Value) (fn : List D → Option D) : Prop :=
  ∃ r : List V → Hp → VK → Prop, CallR X fv r ∧ ∀ (M : MS) (H : Hp) (xs : List V) (ds : List D) (z : D), (∀ b, M b → H b ≠ none) → DenL M H xs ds → fn ds = some z → ∀ Q : VK, (∀ v H', Same H H' → Den M H' v z → Q v H') → r xs H Q
def fCall (fn : List D → Option D) (fa : FA) : F := fun e => (fa e).bind fun p => (fn p.1).map fun z => (z, p.2)
theorem call_can {r : List V → Hp → VK → Prop} {fn : List D → Option D} (hq : ∀ (M : MS) (H : Hp) (xs : List V) (ds : List D) (z : D), (∀ b, M b → H b ≠ none) → DenL M H xs ds → fn ds = some z → ∀ Q : VK, (∀ v H', Same H H' → Den M H' v z → Q v H') → r xs H Q)
    {σ : L2.St} {H : Hp} {Q : VK} (h : canE (fCall fn fr) σ H Q) : canA fr σ H fun vs H1 => r vs H1 Q := by
  obtain ⟨c, o, en, S, d, e', hf, k⟩ := h
  obtain ⟨⟨ds, e1⟩, h1, hf⟩ := bind_some hf
  obtain ⟨z, h3, hf⟩ := Option.map_eq_some_iff.mp hf
  obtain ⟨rfl, rfl⟩ := Prod.mk.inj hf
  exact ⟨c, o, en, S, ds, e1, h1, fun vs H1 o1 S1 a1 r1 => hq _ _ vs ds z S1.alloc r1 h3 _ fun v H' sm rv => k v H' o1 (S1.same sm) (a1.trans (.same sm)) rv⟩
variable {x : Str} {p : Pos} {id T : String} {fn : List D → Option D}
theorem le_callB (hc : CallD X (.builtin id) fn) (hg : Gl X x) (hm : X.mg x = none) (hv : bootBuiltins x = some (.builtin id)) (ha : LA X (e :: es) fr) (hn : x ≠ "__name__" := by decide) (hdb : (x == ("__debug__" : Str)) = false := by decide)
    (he : starEach (e :: es) X.env = (false, eval e X.env) :: starEach es X.env := by rfl) (hpl : (backTo pos (starEach es X.env)).any (·.1) = false := by rfl) : LE X (.Call (.Name x p) (e :: es) [] pos) (fCall fn fr) := by
  obtain ⟨r, hr, hq⟩ := hc
  exact weakE (pe_callB hr hg hm hv ha hn hdb he hpl) fun σ H Q h => call_can hq h
theorem le_callTy (hc : CallD X (.type T) fn) (hg : Gl X x) (hm : X.mg x = none) (hv : bootBuiltins x = some (.type T)) (ha : LA X (e :: es) fr) (hn : x ≠ "__name__" := by decide) (hdb : (x == ("__debug__" : Str)) = false := by decide)
    (he : starEach (e :: es) X.env = (false, eval e X.env) :: starEach es X.env := by rfl) (hpl : (backTo pos (starEach es X.env)).any (·.1) = false := by rfl) : LE X (.Call (.Name x p) (e :: es) [] pos) (fCall fn fr) := by
  obtain ⟨r, hr, hq⟩ := hc
  exact weakE (pe_callTy hr hg hm hv ha hn hdb he hpl) fun σ H Q h => call_can hq h

/-! ### own defs: what a call promises, guards told -/
structure FnG (P : Program) (w : World) (K : PySem.W.Frag) (mg : Str → Option Value) (base : Heap) (k : Nat) (f : Addr) (fd : FuncData) (ps : List Str) (sp : Sp) : Prop where
  len : ∀ vs H Q E, sp vs H Q E → vs.length = ps.length
  run : ∀ (A : Around) (outer : List Env) (s : Shared) (H : Hp) (args : Args) (us : List Value) (vs : List V) (Q : VK), A.guards = some [] → Room k A → Env0 P w K mg base A outer s H → BindsTo s fd args (ps.zip us) → Vals vs us → sp vs H Q E0 →
    codeAny (model P w) A (.call (.ref f) args) (CR CX0 outer P w H s Q E0) s
theorem FnG.of {P : Program} {w : World} {K : PySem.W.Frag} {mg : Str → Option Value} {base : Heap} {k : Nat} {f : Addr} {fd : FuncData} {ps : List Str} {sp : Sp} (G : FnOk P w K mg base CX0 k f fd ps sp) : FnG P w K mg base k f fd ps sp :=
  ⟨G.len, fun A outer s H args us vs Q _ hr e0 hb rv hs => G.run A outer s H args us vs Q E0 hr e0 hb rv hs⟩
theorem FnG.mono {P : Program} {w : World} {K : PySem.W.Frag} {mg : Str → Option Value} {base : Heap} {j k : Nat} {f : Addr} {fd : FuncData} {ps : List Str} {sp : Sp} (G : FnG P w K mg base j f fd ps sp) (h : j ≤ k) : FnG P w K mg base k f fd ps sp :=
  ⟨G.len, fun A outer s H args us vs Q hg hr => G.run A outer s H args us vs Q hg (hr.mono h)⟩
theorem pe_callG {k : Nat} {f : Addr} {fd : FuncData} {ps : List Str} {sp : Sp} {t : TA} (G : FnG X.prog X.w X.K X.mg X.base k f fd ps sp) (hgd : X.A.guards = some []) (hr : Room k X.A) (hg : Gl X x) (hm : X.mg x = some (.ref f)) (hk : PySem.W.keepIn X.K (.ref f) = true) (hb : Binds X.K fd ps [])
    (ha : PA X (e :: es) t) (hdb : (x == ("__debug__" : Str)) = false := by decide) (he : starEach (e :: es) X.env = (false, eval e X.env) :: starEach es X.env := by rfl) (hpl : (backTo pos (starEach es X.env)).any (·.1) = false := by rfl) :
    PE X (.Call (.Name x p) (e :: es) [] pos) (fun σ H Q => t σ H fun vs H1 => sp vs H1 Q E0) := by
  constructor
  intro pins s σ H Q I h
  refine wpAny_Call_Name_kw (ld_glob I hg hm (PySem.W.callWith_K (h₀ := X.base) I.ok.mod.kin hk ?_ he hpl) hdb)
  refine thn (ha.run pos pins s σ H _ I h) fun us s1 ⟨vs, H1, I1, rv, q⟩ => ⟨I1.kIn, ?_⟩
  have hl : (us ++ []).length = ps.length := by rw [List.append_nil, ← rv.length]; exact G.len _ _ _ _ q
  have hbd := hb s1 us I1.kIn hl
  rw [List.append_nil] at hbd
  refine wpAny_call (codeAny_mono (G.run X.A X.stack s1 H1 ⟨us, []⟩ us vs Q hgd hr I1.env0 hbd rv q) fun r s2 hq => ?_)
  match r, hq with
  | .ok (.ret u), hq => exact I1.after hq
  | .ok .next, hq => exact hq.elim
  | .ok .brk, hq => exact hq.elim
  | .ok .cont, hq => exact hq.elim
  | .error _, hq => exact hq.elim
theorem pe_callG0 {k : Nat} {f : Addr} {fd : FuncData} {ps : List Str} {sp : Sp} (G : FnG X.prog X.w X.K X.mg X.base k f fd ps sp) (hgd : X.A.guards = some []) (hr : Room k X.A) (hg : Gl X x) (hm : X.mg x = some (.ref f)) (hk : PySem.W.keepIn X.K (.ref f) = true) (hb : Binds X.K fd ps [])
    (hdb : (x == ("__debug__" : Str)) = false := by decide) : PE X (.Call (.Name x p) [] [] pos) (fun σ H Q => sp [] H Q E0) := by
  constructor
  intro pins s σ H Q I q
  refine wpAny_Call_Name_kw (ld_glob I hg hm (PySem.W.callWith_K0 I.kIn hk ?_) hdb)
  have hl : (([] : List Value) ++ []).length = ps.length := (G.len _ _ _ _ q).symm ▸ rfl
  have hbd := hb s [] I.kIn hl
  refine wpAny_call (codeAny_mono (G.run X.A X.stack s H ⟨[], []⟩ [] [] Q hgd hr I.env0 hbd .nil q) fun r s2 hq => ?_)
  match r, hq with
  | .ok (.ret u), hq => exact I.after hq
  | .ok .next, hq => exact hq.elim
  | .ok .brk, hq => exact hq.elim
  | .ok .cont, hq => exact hq.elim
  | .error _, hq => exact hq.elim
/-- a def that reads data and gives data -/
def spP (n : Nat) (fn : List D → Option D) : Sp := fun vs H Q _ => ∃ (M : MS) (ds : List D) (z : D), (∀ b, M b → H b ≠ none) ∧ vs.length = n ∧ DenL M H vs ds ∧ fn ds = some z ∧ ∀ v H', Same H H' → Den M H' v z → Q v H'
theorem le_call {n k : Nat} {f : Addr} {fd : FuncData} {ps : List Str} (G : FnG X.prog X.w X.K X.mg X.base k f fd ps (spP n fn)) (hgd : X.A.guards = some []) (hr : Room k X.A) (hg : Gl X x) (hm : X.mg x = some (.ref f)) (hk : PySem.W.keepIn X.K (.ref f) = true) (hb : Binds X.K fd ps [])
    (ha : LA X (e :: es) fr) (hn : ∀ en ds e', fr en = some (ds, e') → ds.length = n) (hdb : (x == ("__debug__" : Str)) = false := by decide) (he : starEach (e :: es) X.env = (false, eval e X.env) :: starEach es X.env := by rfl) (hpl : (backTo pos (starEach es X.env)).any (·.1) = false := by rfl) :
    LE X (.Call (.Name x p) (e :: es) [] pos) (fCall fn fr) := by
  refine weakE (pe_callG G hgd hr hg hm hk hb ha hdb he hpl) fun σ H Q h => ?_
  obtain ⟨c, o, en, S, d, e', hf, q⟩ := h
  obtain ⟨⟨ds, e1⟩, h1, hf⟩ := bind_some hf
  obtain ⟨z, h3, hf⟩ := Option.map_eq_some_iff.mp hf
  obtain ⟨rfl, rfl⟩ := Prod.mk.inj hf
  exact ⟨c, o, en, S, ds, e1, h1, fun vs H1 o1 S1 a1 r1 => ⟨c.M o1, ds, z, S1.alloc, r1.length.trans (hn _ _ _ h1), r1, h3, fun v H' sm rv => q v H' o1 (S1.same sm) (a1.trans (.same sm)) rv⟩⟩
theorem len_nil {en : En} {ds : List D} {e' : En} (h : fNil en = some (ds, e')) : ds.length = 0 := by
  obtain ⟨rfl, rfl⟩ := Prod.mk.inj (Option.some.inj h)
  rfl
theorem len_cons {n : Nat} (hr : ∀ en ds e', fr en = some (ds, e') → ds.length = n) : ∀ en ds e', fCons fe fr en = some (ds, e') → ds.length = n + 1 := fun en ds e' h => by
  obtain ⟨⟨d, e1⟩, h1, h⟩ := bind_some h
  obtain ⟨⟨rs, e2⟩, h2, h⟩ := bind_some h
  obtain ⟨rfl, rfl⟩ := Prod.mk.inj (Option.some.inj h)
  rw [List.length_cons, hr _ _ _ h2]
end

/-! ### targets -/
abbrev FG := D → En → Option En
abbrev FGs := List D → En → Option En
def canG (g : FG) (ix : List Nat) : TG := fun v σ H Q => ∃ c o e d, SOk c o σ H e ∧ Den (c.M o) H v d ∧ ∃ e', g d e = some e' ∧ ∀ σ' o', SOk c o' σ' H e' → Stp c o H o' H → σ'.length = σ.length → (∀ j, j ∉ ix → σ'[j]? = σ[j]?) → Q σ' H
def canGs (g : FGs) (ix : List Nat) : TGs := fun vs σ H Q => ∃ c o e ds, SOk c o σ H e ∧ DenL (c.M o) H vs ds ∧ ∃ e', g ds e = some e' ∧ ∀ σ' o', SOk c o' σ' H e' → Stp c o H o' H → σ'.length = σ.length → (∀ j, j ∉ ix → σ'[j]? = σ[j]?) → Q σ' H
abbrev LG (X : Cx) (e : Expr) (g : FG) (ix : List Nat) : Prop := PG X e (canG g ix)
abbrev LGs (X : Cx) (e : List Expr) (g : FGs) (ix : List Nat) : Prop := PGs X e (canGs g ix)
def gN (i : Nat) : FG := fun d e => some (e.put i (.dat d))
def gsNil : FGs := fun ds e => match ds with
  | [] => some e
  | _ => none
def gsCons (g : FG) (gs : FGs) : FGs := fun ds e => match ds with
  | d :: r => (g d e).bind fun e1 => gs r e1
  | [] => none
def gT (n : Nat) (gs : FGs) : FG := fun d e => match d with
  | .tuple ds => if ds.length = n then gs ds e else none
  | _ => none
section
variable {X : Cx} {e : Expr} {es : List Expr} {g : FG} {gs : FGs} {ix jx : List Nat} {pos : Pos}
theorem lg_n {i : Nat} (h : PG X e (gName i)) : LG X e (gN i) [i] := weakG h fun v σ H Q ⟨c, o, en, d, S, r, e', hg, k⟩ => by
  cases hg
  refine k _ (o.drop i) (S.put r) .drop (List.length_set ..) fun j hj => ?_
  rw [List.getElem?_set_ne]
  exact fun z => hj (z ▸ List.mem_singleton.mpr rfl)
theorem lgs_nil : LGs X [] gsNil [] := weakGs pgs_nil fun vs σ H Q ⟨c, o, en, ds, S, r, e', hg, k⟩ => by
  cases r with
  | nil =>
    cases hg
    exact ⟨rfl, k σ o S .refl rfl fun _ _ => rfl⟩
  | cons _ _ => cases hg
theorem lgs_cons (h1 : LG X e g ix) (h2 : LGs X es gs jx) (hs : (assignEach (e :: es) X.env).map (·.2) = assign e X.env :: (assignEach es X.env).map (·.2) := by rfl) : LGs X (e :: es) (gsCons g gs) (ix ++ jx) :=
  weakGs (pgs_cons h1 h2 hs) fun vs σ H Q ⟨c, o, en, ds, S, r, e', hg, k⟩ => by
    cases r with
    | nil => cases hg
    | cons rv rr =>
      obtain ⟨e1, h3, hg⟩ := bind_some hg
      refine ⟨_, _, rfl, c, o, en, _, S, rv, e1, h3, fun σ1 o1 S1 a1 l1 n1 => ?_⟩
      refine ⟨c, o1, e1, _, S1, a1.denL rr, e', hg, fun σ2 o2 S2 a2 l2 n2 => k σ2 o2 S2 (a1.trans a2) (l2.trans l1) fun j hj => ?_⟩
      rw [n2 j fun z => hj (List.mem_append_right _ z), n1 j fun z => hj (List.mem_append_left _ z)]
theorem lg_t {k n : Nat} (hc : X.calm = true) (h : LGs X es gs ix) (hn : (assignEach es X.env).length = n := by rfl) (hst : (assignEach es X.env).findIdx? (·.1) = none := by rfl) : LG X (.Tuple es k pos) (gT n gs) ix :=
  weakG (pg_tup hc h hn hst) fun v σ H Q ⟨c, o, en, d, S, r, e', hg, q⟩ => by
    cases d with
    | tuple ds =>
      obtain ⟨hl, hg⟩ := if_someB hg
      obtain ⟨p, xs, rfl, _, h1, h2⟩ := r.tup_inv
      exact ⟨p, xs, rfl, SqT.of h1, h2.length.trans hl, c, o, en, ds, S, h2, e', hg, q⟩
    | _ => cases hg
end

/-! ### statements -/
def sNext : FS := fun e => some (.nx e)
def sSeq (f g : FS) : FS := fun e => (f e).bind fun r => match r with
  | .nx e1 => g e1
  | r => some r
section
variable {X : Cx} {st : Stmt} {rest : List Stmt} {f g : FS} {e : Expr} {fe : F} {pos : Pos}
theorem lb_nil : LB X [] sNext := weakB pss_nil fun D σ H ⟨c, o, en, S, r, hf, k⟩ => by
  cases hf
  exact k σ H o S .refl
theorem lb_one (h : LS X st f) : LB X [st] f := pss_one h
theorem lb_cons (h1 : LS X st f) (h2 : LB X rest g) : LB X (st :: rest) (sSeq f g) := weakB (pss_cons h1 h2) fun D σ H ⟨c, o, en, S, r, hf, k⟩ => by
  obtain ⟨r1, hr1, hf⟩ := bind_some hf
  refine ⟨c, o, en, S, r1, hr1, ?_⟩
  cases r1 with
  | nx e1 => exact fun σ1 H1 o1 S1 a1 => ⟨c, o1, e1, S1, r, hf, k.from a1⟩
  | rt d e1 => cases hf; exact k
  | bk e1 => cases hf; exact k
  | ct e1 => cases hf; exact k
/-- never come to -/
def sNo : FS := fun _ => none
theorem ls_no : LS X st sNo := weakS ps_never fun D σ H ⟨c, o, en, S, r, hf, k⟩ => by cases hf
theorem lb_no : LB X rest sNo := weakB pss_never fun D σ H ⟨c, o, en, S, r, hf, k⟩ => by cases hf
theorem ls_pass : LS X (.Pass pos) sNext := weakS ps_pass fun D σ H ⟨c, o, en, S, r, hf, k⟩ => by
  cases hf
  exact k σ H o S .refl
theorem ls_doc {x j pos pos'} : LS X (.Expr (.Constant (.str x) j pos) pos') sNext := weakS ps_doc fun D σ H ⟨c, o, en, S, r, hf, k⟩ => by
  cases hf
  exact k σ H o S .refl
def sBk : FS := fun e => some (.bk e)
def sCt : FS := fun e => some (.ct e)
theorem ls_break : LS X (.Break pos) sBk := weakS ps_break fun D σ H ⟨c, o, en, S, r, hf, k⟩ => by
  cases hf
  exact k σ H o S .refl
theorem ls_cont : LS X (.Continue pos) sCt := weakS ps_continue fun D σ H ⟨c, o, en, S, r, hf, k⟩ => by
  cases hf
  exact k σ H o S .refl
def sExpr (f : F) : FS := fun e => (f e).map fun p => .nx p.2
theorem ls_expr (he : LE X e fe) (hs : swapsWith e none pos.line X.env = pure false := by rfl) : LS X (.Expr e pos) (sExpr fe) := weakS (ps_expr he hs) fun D σ H ⟨c, o, en, S, r, hf, k⟩ => by
  obtain ⟨⟨d, e1⟩, h1, hf⟩ := Option.map_eq_some_iff.mp hf
  cases hf
  exact ⟨c, o, en, S, d, e1, h1, fun v H1 o1 S1 a1 _ => k σ H1 o1 S1 a1⟩
def sRet (f : F) : FS := fun e => (f e).map fun p => .rt p.1 p.2
theorem ls_ret (he : LE X e fe) : LS X (.Return (some e) pos) (sRet fe) := weakS (ps_ret he) fun D σ H ⟨c, o, en, S, r, hf, k⟩ => by
  obtain ⟨⟨d, e1⟩, h1, hf⟩ := Option.map_eq_some_iff.mp hf
  cases hf
  exact ⟨c, o, en, S, d, e1, h1, fun v H1 o1 S1 a1 r1 => k v σ H1 o1 S1 a1 r1⟩
def sRetN : FS := fun e => some (.rt .none e)
theorem ls_retN : LS X (.Return none pos) sRetN := weakS ps_retN fun D σ H ⟨c, o, en, S, r, hf, k⟩ => by
  cases hf
  exact k _ σ H o S .refl .non
def sIf (t : FT) (f g : FS) : FS := fun e => (t e).bind fun p => if p.1 = true then f p.2 else g p.2
theorem ls_if {cnd : Expr} {a b : List Stmt} {t : FT} (hc : LT X cnd t) (ha : LB X a f) (hb : LB X b g) : LS X (.If cnd a b pos) (sIf t f g) := weakS (ps_if hc ha hb) fun D σ H ⟨c, o, en, S, r, hf, k⟩ => by
  obtain ⟨⟨x, e1⟩, h1, hf⟩ := bind_some hf
  refine ⟨c, o, en, S, x, e1, h1, fun H1 o1 S1 a1 => ?_⟩
  cases x with
  | true =>
    simp only [if_true] at hf ⊢
    exact ⟨c, o1, e1, S1, r, hf, k.from a1⟩
  | false =>
    simp only [Bool.false_eq_true, if_false] at hf ⊢
    exact ⟨c, o1, e1, S1, r, hf, k.from a1⟩
/-- x = e -/
def sSet (i : Nat) (f : F) : FS := fun e => (f e).map fun p => .nx (p.2.put i (.dat p.1))
theorem set_can {i : Nat} {D : Ends} {σ : L2.St} {H : Hp} (h : canS (sSet i fe) D σ H) : tAsg (canE fe) (gName i) D σ H := by
  obtain ⟨c, o, en, S, r, hf, k⟩ := h
  obtain ⟨⟨d, e1⟩, h1, hf⟩ := Option.map_eq_some_iff.mp hf
  cases hf
  exact ⟨c, o, en, S, d, e1, h1, fun v H1 o1 S1 a1 r1 => k _ H1 _ (S1.put r1) (a1.trans .drop)⟩
theorem ls_set {i : Nat} {x : Str} {pos' : Pos} (hN : X.N.Nodup) (hi : X.N[i]? = some x) (hx : Loc X.env.scope x) (he : LE X e fe) (hs : swapsWith e (some (.Name x pos')) pos.line X.env = pure false := by rfl) (hf : X.fn x = true ∨ X.env.scope.names.lookup x = some .local := by first | exact .inl rfl | exact .inr rfl | assumption) :
    LS X (.Assign [.Name x pos'] e pos) (sSet i fe) := weakS (ps_set hN hi hx he hs hf) fun D σ H h => set_can h
/-- target = e -/
def sAsg (f : F) (g : FG) : FS := fun e => (f e).bind fun p => (g p.1 p.2).map Out.nx
theorem ls_asg {tg : Expr} {g : FG} {ix : List Nat} (he : LE X e fe) (hg : LG X tg g ix) (hs : swapsWithSole [tg] e pos.line X.env = pure false := by rfl) (hw : swappedStores [tg] e X.env = pure none := by rfl)
    (h1 : (assignEach [tg] X.env).map (·.2) = [assign tg X.env] := by rfl) : LS X (.Assign [tg] e pos) (sAsg fe g) := weakS (ps_asg he hg hs hw h1) fun D σ H ⟨c, o, en, S, r, hf, k⟩ => by
  obtain ⟨⟨d, e1⟩, h2, hf⟩ := bind_some hf
  obtain ⟨e2, h3, hf⟩ := Option.map_eq_some_iff.mp hf
  cases hf
  exact ⟨c, o, en, S, d, e1, h2, fun v H1 o1 S1 a1 r1 => ⟨c, o1, e1, d, S1, r1, e2, h3, fun σ2 o2 S2 a2 _ _ => k σ2 H1 o2 S2 (a1.trans a2)⟩⟩
/-- x = [..]: a list of x's own -/
def sOwn (i : Nat) (f : FA) : FS := fun e => (f e).bind fun p => if p.1.length ≤ big ∧ i < p.2.sl.length then some (.nx (p.2.put i (.own p.1))) else none
theorem ls_own {i : Nat} {x : Str} {es : List Expr} {fr : FA} {pos' lpos : Pos} (hN : X.N.Nodup) (hi : X.N[i]? = some x) (hx : Loc X.env.scope x) (he : LA X es fr) (hs : swapsWith (.List es lpos) (some (.Name x pos')) pos.line X.env = pure false := by rfl) (hf : X.fn x = true ∨ X.env.scope.names.lookup x = some .local := by first | exact .inl rfl | exact .inr rfl | assumption) :
    LS X (.Assign [.Name x pos'] (.List es lpos) pos) (sOwn i fr) := weakS (ps_set hN hi hx (pe_lst he) hs hf) fun D σ H ⟨c, o, en, S, r, hf, k⟩ => by
  obtain ⟨⟨ds, e1⟩, h1, hf⟩ := bind_some hf
  obtain ⟨⟨hz, hl⟩, hf⟩ := if_some hf
  cases hf
  refine ⟨c, o, en, S, ds, e1, h1, fun vs H1 o1 S1 a1 r1 => ⟨by rw [r1.length]; exact Nat.le_of_lt (big_line hz), fun p hp => ?_⟩⟩
  obtain ⟨S2, a2⟩ := S1.own hp r1 hl
  exact k _ _ _ S2 (a1.trans a2)
/-- x.append(e) -/
def sApp (i : Nat) (f : F) : FS := fun e => match e.sl[i]? with
  | some (.own _) => (f e).bind fun p => match p.2.sl[i]? with
    | some (.own ds) => if ds.length < big then some (.nx (p.2.put i (.own (ds ++ [p.1])))) else none
    | _ => none
  | _ => none
theorem ls_append {i : Nat} {x e : Expr} {fe : F} {apos cpos : Pos} (hx : PE X x (tVar i)) (he : LE X e fe) (hbase : attributeBase x "append" X.env (eval x X.env) = eval x X.env := by rfl)
    (hfew : ((backTo cpos (starEach [e] X.env)).all (fun x => !x.1) && (backToKw cpos (keywordEach [] X.env)).all (fun x => x.1.isSome)
      && decide ([e].length + ([] : List Keyword).length + (if ([] : List Keyword).isEmpty then 0 else 1) < 30)) = true := by rfl)
    (hline : (apos.endLine == cpos.line) = true := by rfl) (hs : starEach [e] X.env = (false, eval e X.env) :: starEach [] X.env := by rfl)
    (hsw : swapsWith (.Call (.Attribute x "append" apos) [e] [] cpos) none pos.line X.env = pure false := by rfl) :
    LS X (.Expr (.Call (.Attribute x "append" apos) [e] [] cpos) pos) (sApp i fe) :=
  weakS (ps_expr (pe_bm PySem.F.plainAttrs_list PySem.F.slot_list_append PySem.F.type_list_append mt_append hx (pa_cons he pa_nil hs) hbase hfew hline hs (by rfl)) hsw) fun D σ H ⟨c, o, en, S, r, hf, k⟩ => by
    unfold sApp at hf
    cases h0 : en.sl[i]? with
    | none => rw [h0] at hf; cases hf
    | some sd =>
      rw [h0] at hf
      cases sd with
      | own ds0 =>
        obtain ⟨p, vs, g1, g2, g3, g4⟩ := S.slot i _ h0
        refine ⟨_, g2, .inl ⟨rfl, vs, SqL.of g3⟩, ?_⟩
        obtain ⟨⟨d, e1⟩, h1, hf⟩ := bind_some hf
        refine ⟨c, o, en, S, d, e1, h1, fun v H1 o1 S1 a1 r1 => ?_⟩
        cases h2 : e1.sl[i]? with
        | none => simp only [h2] at hf; cases hf
        | some sd1 =>
          simp only [h2] at hf
          cases sd1 with
          | own ds =>
            obtain ⟨hz, hf⟩ := if_some hf
            cases hf
            obtain ⟨p1, ws, k1, k2, k3, k4⟩ := S1.slot i _ h2
            have ep : p1 = p := by rw [g2] at k2; cases k2; rfl
            subst ep
            obtain ⟨S2, a2⟩ := S1.grow h2 k1 (k4.append (.cons r1 .nil))
            exact ⟨p1, ws, v, rfl, rfl, k3, by rw [k4.length]; exact big_line (Nat.le_of_lt hz), k σ _ _ S2 (a1.trans a2)⟩
          | _ => cases hf
      | _ => cases hf
/-- x.extend(e) -/
def sExt (i : Nat) (f : F) : FS := fun e => match e.sl[i]? with
  | some (.own _) => (f e).bind fun p => match p.2.sl[i]?, p.1 with
    | some (.own ds), .list es => if ds.length + es.length ≤ big then some (.nx (p.2.put i (.own (ds ++ es)))) else none
    | _, _ => none
  | _ => none
theorem ls_extend {i : Nat} {x e : Expr} {fe : F} {apos cpos : Pos} (hx : PE X x (tVar i)) (he : LE X e fe) (hbase : attributeBase x "extend" X.env (eval x X.env) = eval x X.env := by rfl)
    (hfew : ((backTo cpos (starEach [e] X.env)).all (fun x => !x.1) && (backToKw cpos (keywordEach [] X.env)).all (fun x => x.1.isSome)
      && decide ([e].length + ([] : List Keyword).length + (if ([] : List Keyword).isEmpty then 0 else 1) < 30)) = true := by rfl)
    (hline : (apos.endLine == cpos.line) = true := by rfl) (hs : starEach [e] X.env = (false, eval e X.env) :: starEach [] X.env := by rfl)
    (hsw : swapsWith (.Call (.Attribute x "extend" apos) [e] [] cpos) none pos.line X.env = pure false := by rfl) :
    LS X (.Expr (.Call (.Attribute x "extend" apos) [e] [] cpos) pos) (sExt i fe) :=
  weakS (ps_expr (pe_bm PySem.F.plainAttrs_list PySem.F.slot_list_extend PySem.F.type_list_extend mt_extend hx (pa_cons he pa_nil hs) hbase hfew hline hs (by rfl)) hsw) fun D σ H ⟨c, o, en, S, r, hf, k⟩ => by
    unfold sExt at hf
    cases h0 : en.sl[i]? with
    | none => rw [h0] at hf; cases hf
    | some sd =>
      rw [h0] at hf
      cases sd with
      | own ds0 =>
        obtain ⟨p, vs, g1, g2, g3, g4⟩ := S.slot i _ h0
        refine ⟨_, g2, .inl ⟨rfl, vs, SqL.of g3⟩, ?_⟩
        obtain ⟨⟨d, e1⟩, h1, hf⟩ := bind_some hf
        refine ⟨c, o, en, S, d, e1, h1, fun v H1 o1 S1 a1 r1 => ?_⟩
        cases h2 : e1.sl[i]? with
        | none => simp only [h2] at hf; cases hf
        | some sd1 =>
          simp only [h2] at hf
          cases sd1 with
          | own ds =>
            cases d with
            | list es =>
              obtain ⟨hz, hf⟩ := if_some hf
              cases hf
              obtain ⟨p1, ws, k1, k2, k3, k4⟩ := S1.slot i _ h2
              have ep : p1 = p := by rw [g2] at k2; cases k2; rfl
              subst ep
              obtain ⟨b, zs, rfl, _, m1, m2⟩ := r1.lst_inv
              obtain ⟨S2, a2⟩ := S1.grow h2 k1 (k4.append m2)
              exact ⟨p1, b, ws, zs, rfl, rfl, k3, m1, by rw [k4.length, m2.length]; exact Nat.le_of_lt (big_line hz), k σ _ _ S2 (a1.trans a2)⟩
            | _ => cases hf
          | _ => cases hf
      | _ => cases hf
end
end L3

/-! L3: what is walked, loops, comprehensions, the pot's calls, several targets at once, a def's entry. -/
namespace L3
open PySem PySem.Spec PyProof.Rows L2

/-! ### what is walked -/
abbrev FI := En → Option (List D × En)
theorem StpM.den {M M' : MS} {H H' : Hp} (a : StpM M H M' H') {v : V} {d : D} (r : Den M H v d) : Den M' H' v d := r.mono a.2 a.1
theorem StpM.denL {M M' : MS} {H H' : Hp} (a : StpM M H M' H') {vs : List V} {ds : List D} (r : DenL M H vs ds) : DenL M' H' vs ds := r.mono a.2 a.1
def Walks (M : MS) (H : Hp) (J : It) (ds : List D) : Prop :=
  ∃ (G : Hp → Prop) (Y : Nat → Hp → V → Hp → Prop), Walk J ds.length G Y ∧ (∀ M2 H2, StpM M H M2 H2 → G H2) ∧
    ∀ M2 H2 i v H3, i < ds.length → StpM M H M2 H2 → (∀ b, M2 b → H2 b ≠ none) → Y i H2 v H3 → ∃ d, ds[i]? = some d ∧ Same H2 H3 ∧ Den M2 H3 v d
def canI (f : FI) : TI := fun σ H R => ∃ c o e, SOk c o σ H e ∧ ∃ ds e', f e = some (ds, e') ∧ ∀ J H' o', SOk c o' σ H' e' → Stp c o H o' H' → Walks (c.M o') H' J ds → R J H'
abbrev LI (X : Cx) (tg it : Expr) (f : FI) : Prop := PI X tg it (canI f)
theorem walks_list {M : MS} {H : Hp} {K : PySem.W.Frag} {a : Addr} {xs : List V} {ds : List D} (n : ¬ M a) (h : H a = some (.lst xs)) (r : DenL M H xs ds) : Walks M H (Itl K a) ds := by
  refine ⟨_, _, by rw [← r.length]; exact walk_list (K := K) (a := a) (xs := xs), fun M2 H2 st => SqL.of (st.1 _ _ h n), fun o2 H2 i v H3 hi st _ y => ?_⟩
  obtain ⟨rfl, y⟩ := y
  obtain ⟨d, h1, h2⟩ := (st.denL r).get y
  exact ⟨d, h1, Same.refl _, h2⟩
theorem walks_tup {M : MS} {H : Hp} {K : PySem.W.Frag} {a : Addr} {xs : List V} {ds : List D} (n : ¬ M a) (h : H a = some (.tup xs)) (r : DenL M H xs ds) : Walks M H (Itt K a) ds := by
  refine ⟨_, _, by rw [← r.length]; exact walk_tup (K := K) (a := a) (xs := xs), fun M2 H2 st => SqT.of (st.1 _ _ h n), fun o2 H2 i v H3 hi st _ y => ?_⟩
  obtain ⟨rfl, y⟩ := y
  obtain ⟨d, h1, h2⟩ := (st.denL r).get y
  exact ⟨d, h1, Same.refl _, h2⟩
def rng (lo c : Int) (n : Nat) : List D := (List.range n).map fun (i : Nat) => .int (lo + (i : Int) * c)
theorem rng_len {lo c : Int} {n : Nat} : (rng lo c n).length = n := by unfold rng; rw [List.length_map, List.length_range]
theorem rng_get {lo c : Int} {n i : Nat} (h : i < n) : (rng lo c n)[i]? = some (.int (lo + (i : Int) * c)) := by
  unfold rng
  rw [List.getElem?_map, List.getElem?_range h]
  rfl
theorem walks_rangeC {M : MS} {H : Hp} {lo s : Int} {n : Nat} : Walks M H (Itc lo s n) (rng lo s n) := by
  refine ⟨_, _, by rw [rng_len]; exact walk_rangeC (lo := lo) (c := s) (n := n), fun _ _ _ => trivial, fun o2 H2 i v H3 hi st _ y => ?_⟩
  obtain ⟨rfl, rfl⟩ := y
  rw [rng_len] at hi
  exact ⟨_, rng_get hi, Same.refl _, .int _⟩
theorem walks_range {M : MS} {H : Hp} {lo : Int} {n : Nat} : Walks M H (Itr lo n) (rng lo 1 n) := by
  refine ⟨_, _, by rw [rng_len]; exact walk_range (lo := lo) (n := n), fun _ _ _ => trivial, fun o2 H2 i v H3 hi st _ y => ?_⟩
  obtain ⟨rfl, rfl⟩ := y
  rw [rng_len] at hi
  refine ⟨_, rng_get hi, Same.refl _, ?_⟩
  rw [Int.mul_one]
  exact .int _
theorem pair_new {M : MS} {H H' : Hp} {v : V} {xs ys : Nat → Option V} {i : Nat} {d e : D} (hM : ∀ b, M b → H b ≠ none) (h : YPair xs ys i H v H') (hx : ∀ x, xs i = some x → Den M H x d) (hy : ∀ y, ys i = some y → Den M H y e) :
    Same H H' ∧ Den M H' v (.tuple [d, e]) := by
  obtain ⟨T, x, y, rfl, nT, rfl, h1, h2⟩ := h
  exact ⟨same_upd nT, .newT hM nT (.cons (hx _ h1) (.cons (hy _ h2) .nil))⟩
def enumD : Nat → List D → List D
  | _, [] => []
  | k, d :: r => .tuple [.int k, d] :: enumD (k + 1) r
theorem enum_len : ∀ (k : Nat) (ds : List D), (enumD k ds).length = ds.length
  | _, [] => rfl
  | k, _ :: r => by
    show (enumD (k + 1) r).length + 1 = r.length + 1
    rw [enum_len]
theorem enum_get : ∀ (k : Nat) (ds : List D) (i : Nat) (d : D), ds[i]? = some d → (enumD k ds)[i]? = some (.tuple [.int ((k + i : Nat) : Int), d])
  | _, [], _, _, h => by simp at h
  | k, x :: r, 0, d, h => by
    have e := Option.some.inj h
    subst e
    rfl
  | k, x :: r, i + 1, d, h => by
    have q := enum_get (k + 1) r i d (by simpa using h)
    rw [show k + 1 + i = k + (i + 1) by omega] at q
    exact q
theorem walks_enum {M : MS} {H : Hp} {K : PySem.W.Frag} {a : Addr} {xs : List V} {ds : List D} (n : ¬ M a) (h : H a = some (.lst xs)) (r : DenL M H xs ds) : Walks M H (Ite K a) (enumD 0 ds) := by
  refine ⟨_, _, by rw [enum_len, ← r.length]; exact walk_enum (K := K) (a := a) (xs := xs), fun M2 H2 st => SqL.of (st.1 _ _ h n), fun o2 H2 i v H3 hi st hM y => ?_⟩
  rw [enum_len] at hi
  have hd := List.getElem?_eq_getElem hi
  refine ⟨_, enum_get 0 ds i _ hd, ?_⟩
  refine pair_new hM y (fun x e => ?_) fun x e => ?_
  · cases e
    rw [Nat.zero_add]
    exact .int _
  · obtain ⟨d, h1, h2⟩ := (st.denL r).get e
    rw [hd] at h1
    cases h1
    exact h2
def zipD : List D → List D → List D
  | d :: r, e :: s => .tuple [d, e] :: zipD r s
  | _, _ => []
theorem zip_len : ∀ (ds es : List D), (zipD ds es).length = min ds.length es.length
  | [], _ => by simp [zipD]
  | _ :: _, [] => by simp [zipD]
  | _ :: r, _ :: s => by
    show (zipD r s).length + 1 = min (r.length + 1) (s.length + 1)
    rw [zip_len]
    omega
theorem zip_get : ∀ (ds es : List D) (i : Nat) (d e : D), ds[i]? = some d → es[i]? = some e → (zipD ds es)[i]? = some (.tuple [d, e])
  | [], _, _, _, _, h, _ => by simp at h
  | _ :: _, [], _, _, _, _, h => by simp at h
  | x :: r, y :: s, 0, d, e, h, h2 => by
    have e1 := Option.some.inj h
    have e2 := Option.some.inj h2
    subst e1 e2
    rfl
  | x :: r, y :: s, i + 1, d, e, h, h2 => zip_get r s i d e (by simpa using h) (by simpa using h2)
/-- a walk that gives new pairs of two rows that stand -/
theorem walks_pairs {M : MS} {H : Hp} {J : It} {G : Hp → Prop} {xs ys : List V} {ds es : List D} (r1 : DenL M H xs ds) (r2 : DenL M H ys es)
    (w : Walk J (min xs.length ys.length) G (YPair (fun i => xs[i]?) (fun i => ys[i]?))) (hG : ∀ M2 H2, StpM M H M2 H2 → G H2) : Walks M H J (zipD ds es) := by
  refine ⟨_, _, by rw [zip_len, ← r1.length, ← r2.length]; exact w, hG, fun o2 H2 i v H3 hi st hM y => ?_⟩
  rw [zip_len] at hi
  have h1 : i < ds.length := by omega
  have h2 : i < es.length := by omega
  have e1 := List.getElem?_eq_getElem h1
  have e2 := List.getElem?_eq_getElem h2
  refine ⟨_, zip_get ds es i _ _ e1 e2, pair_new hM y (fun x e => ?_) fun x e => ?_⟩
  · obtain ⟨d, k1, k2⟩ := (st.denL r1).get e
    rw [e1] at k1
    cases k1
    exact k2
  · obtain ⟨d, k1, k2⟩ := (st.denL r2).get e
    rw [e2] at k1
    cases k1
    exact k2

section
variable {X : Cx} {tg e : Expr} {fe : F} {pos : Pos}
/-- over a list or a tuple -/
def fItS (f : F) : FI := fun e => match f e with
  | some (.list ds, e') => some (ds, e')
  | some (.tuple ds, e') => some (ds, e')
  | _ => none
theorem PI.or {u t : TI} (h1 : PI X tg e t) (h2 : PI X tg e u) : PI X tg e (fun σ H R => t σ H R ∨ u σ H R) := ⟨fun pins s σ H R I q => q.elim (h1.run pins s σ H R I) (h2.run pins s σ H R I)⟩
theorem li_seq (h : LE X e fe) : LI X tg e (fItS fe) := weakI (PI.or (pi_list h) (pi_tup h)) fun σ H R ⟨c, o, en, S, ds, e', hf, k⟩ => by
  unfold fItS at hf
  split at hf
  · rename_i es e1 hf1
    cases hf
    refine .inl ⟨c, o, en, S, _, _, hf1, fun v H1 o1 S1 a1 r1 => ?_⟩
    obtain ⟨p, xs, rfl, n, h1, h2⟩ := r1.lst_inv
    exact ⟨p, rfl, ⟨xs, SqL.of h1⟩, k _ H1 o1 S1 a1 (walks_list n h1 h2)⟩
  · rename_i es e1 hf1
    cases hf
    refine .inr ⟨c, o, en, S, _, _, hf1, fun v H1 o1 S1 a1 r1 => ?_⟩
    obtain ⟨p, xs, rfl, n, h1, h2⟩ := r1.tup_inv
    exact ⟨p, rfl, ⟨xs, SqT.of h1⟩, k _ H1 o1 S1 a1 (walks_tup n h1 h2)⟩
  · cases hf
def okR (i : Int) : Prop := -(2 ^ 62) ≤ i ∧ i < 2 ^ 62
instance (i : Int) : Decidable (okR i) := inferInstanceAs (Decidable (_ ∧ _))
def fRng1 (f : FA) : FI := fun e => (f e).bind fun p => match p.1 with
  | [.int j] => if okR j then some (rng 0 1 j.toNat, p.2) else none
  | _ => none
def fRng2 (f : FA) : FI := fun e => (f e).bind fun p => match p.1 with
  | [.int i, .int j] => if okR i ∧ okR j then some (rng i 1 (j - i).toNat, p.2) else none
  | _ => none
/-- range(i, j, -1) -/
def fRngD (f : FA) : FI := fun e => (f e).bind fun p => match p.1 with
  | [.int i, .int j, .int (-1)] => if okR i ∧ okR j then some (rng i (-1) (i - j).toNat, p.2) else none
  | _ => none
theorem li_rng1 {a : Expr} {fa : FA} {p : Pos} (hg : Gl X "range") (hm : X.mg "range" = none) (ha : LA X [a] fa) (hs : starEach [a] X.env = [(false, eval a X.env)] := by rfl) : LI X tg (.Call (.Name "range" p) [a] [] pos) (fRng1 fa) :=
  weakI (pi_range1 hg hm ha hs) fun σ H R ⟨c, o, en, S, ds, e', hf, k⟩ => by
    obtain ⟨⟨as, e1⟩, h1, hf⟩ := bind_some hf
    refine ⟨c, o, en, S, as, e1, h1, fun vs H1 o1 S1 a1 r1 => ?_⟩
    simp only at hf
    split at hf
    · rename_i j
      obtain ⟨hj, hf⟩ := if_some hf
      cases hf
      cases r1 with
      | cons x y =>
        cases y
        cases x
        exact ⟨j, rfl, hj.1, hj.2, k _ H1 o1 S1 a1 walks_range⟩
    · cases hf
theorem li_rng2 {a b : Expr} {fa : FA} {p : Pos} (hg : Gl X "range") (hm : X.mg "range" = none) (ha : LA X [a, b] fa) (hs : starEach [a, b] X.env = [(false, eval a X.env), (false, eval b X.env)] := by rfl) (hs2 : starEach [b] X.env = [(false, eval b X.env)] := by rfl) :
    LI X tg (.Call (.Name "range" p) [a, b] [] pos) (fRng2 fa) :=
  weakI (pi_range2 hg hm ha hs hs2) fun σ H R ⟨c, o, en, S, ds, e', hf, k⟩ => by
    obtain ⟨⟨as, e1⟩, h1, hf⟩ := bind_some hf
    refine ⟨c, o, en, S, as, e1, h1, fun vs H1 o1 S1 a1 r1 => ?_⟩
    simp only at hf
    split at hf
    · rename_i i j
      obtain ⟨⟨hi, hj⟩, hf⟩ := if_some hf
      cases hf
      cases r1 with
      | cons x y =>
        cases y with
        | cons y z =>
          cases z
          cases x
          cases y
          exact ⟨i, j, rfl, ⟨hi.1, hi.2, hj.1, hj.2⟩, k _ H1 o1 S1 a1 walks_range⟩
    · cases hf
end

section
variable {X : Cx}
/-! ### for -/
def sForL (g : FG) (b : FS) : List D → FS
  | [], e => some (.nx e)
  | d :: ds, e => (g d e).bind fun e1 => (b e1).bind fun r => match r with
    | .nx e2 => sForL g b ds e2
    | .ct e2 => sForL g b ds e2
    | .bk e2 => some (.nx e2)
    | .rt v e2 => some (.rt v e2)
def sFor (fi : FI) (g : FG) (b : FS) : FS := fun e => (fi e).bind fun p => sForL g b p.1 p.2
theorem ls_for {tg iter : Expr} {body : List Stmt} {fi : FI} {g : FG} {ix : List Nat} {b : FS} {pos : Pos} (hp : PassesOwn (model X.prog X.w) X.A X.env X.xe) (hc : X.calm = true) (hi : LI X tg iter fi) (hg : LG X tg g ix) (hb : LB X body b)
    (hs : ∀ x, foldedSetIterable iter X.env x = pure x := by intro _; rfl) : LS X (.For tg iter body [] pos) (sFor fi g b) := weakS (ps_for hp hc hi hg hb hs) fun D σ H ⟨c, o, en, S, r, hf, k⟩ => by
  obtain ⟨⟨ds, e1⟩, h1, hf⟩ := bind_some hf
  refine ⟨c, o, en, S, ds, e1, h1, fun J H1 o1 S1 a1 W => ?_⟩
  obtain ⟨G, Y, wk, hG, hY⟩ := W
  refine for_it wk (fun i σ2 H2 => ∃ o2 e2, SOk c o2 σ2 H2 e2 ∧ Stp c o1 H1 o2 H2 ∧ ∃ r2, sForL g b (ds.drop i) e2 = some r2 ∧ Wish c o2 H2 D r2)
    ⟨o1, e1, S1, .refl, r, hf, k.from a1⟩ (fun i σ2 H2 hi ⟨o2, e2, S2, a2, _⟩ => hG _ H2 a2.1) (fun i x σ2 H2 H3 hi ⟨o2, e2, S2, a2, r2, hf2, k2⟩ y => ?_) fun σ2 H2 ⟨o2, e2, S2, a2, r2, hf2, k2⟩ => ?_
  · obtain ⟨d, hd, sm, rd⟩ := hY _ H2 i x H3 hi a2.1 S2.alloc y
    have a3 : Stp c o2 H2 o2 H3 := .same sm
    rw [List.drop_eq_getElem_cons hi] at hf2
    have ed : ds[i] = d := by rw [List.getElem?_eq_getElem hi] at hd; exact Option.some.inj hd
    rw [ed] at hf2
    obtain ⟨e3, h3, hf2⟩ := bind_some hf2
    obtain ⟨r3, h4, hf2⟩ := bind_some hf2
    refine ⟨c, o2, e2, d, S2.same sm, rd, e3, h3, fun σ4 o4 S4 a4 _ _ => ⟨c, o4, e3, S4, r3, h4, ?_⟩⟩
    cases r3 with
    | nx e5 => exact fun σ5 H5 o5 S5 a5 => ⟨o5, e5, S5, ((a2.trans a3).trans a4).trans a5, r2, hf2, k2.from ((a3.trans a4).trans a5)⟩
    | ct e5 => exact fun σ5 H5 o5 S5 a5 => ⟨o5, e5, S5, ((a2.trans a3).trans a4).trans a5, r2, hf2, k2.from ((a3.trans a4).trans a5)⟩
    | bk e5 => cases hf2; exact k2.from (a3.trans a4)
    | rt v e5 => cases hf2; exact k2.from (a3.trans a4)
  · rw [List.drop_length] at hf2
    cases hf2
    exact k2 σ2 H2 o2 S2 .refl
/-! ### while -/
def sWhile (t : FT) (b : FS) : Nat → FS
  | 0, _ => none
  | n + 1, e => (t e).bind fun p => if p.1 = true then (b p.2).bind fun r => match r with
      | .nx e2 => sWhile t b n e2
      | .ct e2 => sWhile t b n e2
      | .bk e2 => some (.nx e2)
      | .rt v e2 => some (.rt v e2)
    else some (.nx p.2)
theorem ls_while {cnd : Expr} {body : List Stmt} {t : FT} {b : FS} {pos : Pos} (n : Nat) (hp : PassesOwn (model X.prog X.w) X.A X.env X.xe) (hc : LT X cnd t) (hb : LB X body b) : LS X (.While cnd body [] pos) (sWhile t b n) := weakS (ps_while hp hc hb) fun D σ H ⟨c, o, en, S, r, hf, k⟩ => by
  refine ⟨fun m σ2 H2 => ∃ o2 e2, SOk c o2 σ2 H2 e2 ∧ ∃ r2, sWhile t b m e2 = some r2 ∧ Wish c o2 H2 D r2, ⟨n, o, en, S, r, hf, k⟩, fun m σ2 H2 h => ?_⟩
  obtain ⟨o2, e2, S2, r2, hf2, k2⟩ := h
  cases m with
  | zero => cases hf2
  | succ m =>
    obtain ⟨⟨x, e3⟩, h1, hf2⟩ := bind_some hf2
    refine ⟨c, o2, e2, S2, x, e3, h1, fun H3 o3 S3 a3 => ?_⟩
    cases x with
    | true =>
      simp only [if_true] at hf2 ⊢
      obtain ⟨r4, h4, hf2⟩ := bind_some hf2
      refine ⟨fun σ5 H5 => ∃ o5 e5, SOk c o5 σ5 H5 e5 ∧ ∃ r5, sWhile t b m e5 = some r5 ∧ Wish c o5 H5 D r5, fun σ5 H5 q => ⟨m, Nat.lt_succ_self m, q⟩, c, o3, e3, S3, r4, h4, ?_⟩
      cases r4 with
      | nx e5 => exact fun σ5 H5 o5 S5 a5 => ⟨o5, e5, S5, r2, hf2, k2.from (a3.trans a5)⟩
      | ct e5 => exact fun σ5 H5 o5 S5 a5 => ⟨o5, e5, S5, r2, hf2, k2.from (a3.trans a5)⟩
      | bk e5 => cases hf2; exact k2.from a3
      | rt v e5 => cases hf2; exact k2.from a3
    | false =>
      simp only [Bool.false_eq_true, if_false] at hf2 ⊢
      cases hf2
      exact k2 σ2 H3 o3 S3 a3
end

/-! ### a block with an entry of its own -/
/-- what a call, or a block, leaves: all that stood but the pot -/
structure Jmp (c : Ctx) (o : OS) (H H' : Hp) (g : Addr) (P : Pot) : Prop where
  keep : ∀ b x, H b = some x → (∀ p, c.pt = some p → b ≠ p.1 ∧ b ≠ o.g) → H' b = some x
  dom : ∀ b, H b ≠ none → H' b ≠ none
  pot : ∀ p, c.pt = some p → PotAt H' p.1 g P ∧ (g = o.g ∨ H g = none)
def OS.gs (o : OS) (g : Addr) : OS := { o with g := g }
def En.po (e : En) (P : Pot) : En := { e with pot := P }
def Ctx.add (c : Ctx) (E : MS) : Ctx := { c with Mc := fun b => c.Mc b ∨ E b }
section
variable {c : Ctx} {o : OS} {σ : L2.St} {H H' H'' : Hp} {e : En} {g : Addr} {P : Pot} {E : MS}
theorem Jmp.refl (S : SOk c o σ H e) : Jmp c o H H o.g e.pot := ⟨fun _ _ h _ => h, fun _ h => h, fun p hp => ⟨(S.pot p hp).1, .inl rfl⟩⟩
theorem Jmp.same (J : Jmp c o H H' g P) (a : Same H' H'') : Jmp c o H H'' g P where
  keep := fun b x h n => a _ _ (J.keep b x h n)
  dom := fun b h z => by
    cases q : H' b with
    | none => exact J.dom b h q
    | some x => rw [a b x q] at z; cases z
  pot := fun p hp => by
    obtain ⟨⟨h0, h1, h2⟩, r⟩ := J.pot p hp
    exact ⟨⟨h0, a _ _ h1, a _ _ h2⟩, r⟩
theorem M_add {b : Addr} : (c.add E).M o b ↔ c.M o b ∨ E b := by
  constructor
  · rintro ((h | h) | h | h)
    · exact .inl (.inl h)
    · exact .inr h
    · exact .inl (.inr (.inl h))
    · exact .inl (.inr (.inr h))
  · rintro ((h | h | h) | h)
    · exact .inl (.inl h)
    · exact .inr (.inl h)
    · exact .inr (.inr h)
    · exact .inl (.inr h)
theorem Jmp.mem (S : SOk c o σ H e) (J : Jmp c o H H' g P) : ∀ b, c.M (o.gs g) b → c.M o b ∨ H b = none := fun b h => by
  rcases h with h | h | ⟨p, hp, h⟩
  · exact .inl (.inl h)
  · exact .inl (.inr (.inl h))
  · rcases h with h | h
    · exact .inl (.inr (.inr ⟨p, hp, .inl h⟩))
    · have h' : b = g := h
      rcases (J.pot p hp).2 with z | z
      · exact .inl (.inr (.inr ⟨p, hp, .inr (h'.trans z)⟩))
      · exact .inr (h'.symm ▸ z)
theorem Jmp.stp (S : SOk c o σ H e) (J : Jmp c o H H' g P) : Stp c o H (o.gs g) H' :=
  ⟨⟨fun b x h n => J.keep b x h fun p hp => ⟨fun z => n (.inr (.inr ⟨p, hp, .inl z⟩)), fun z => n (.inr (.inr ⟨p, hp, .inr z⟩))⟩, J.mem S⟩, J.dom⟩
/-- back in the body; E: new objects that are not to be touched -/
theorem Jmp.back (S : SOk c o σ H e) (J : Jmp c o H H' g P) (hE : ∀ b, E b → H b = none) (hE' : ∀ b, E b → H' b ≠ none) : SOk (c.add E) (o.gs g) σ H' (e.po P) := by
  have a := J.stp S
  have hM : ∀ b, (c.add E).M (o.gs g) b → c.M o b ∨ H b = none := fun b h => (M_add.mp h).elim (a.1.2 b) fun z => .inr (hE b z)
  refine ⟨S.len, fun i sd h => ?_, S.out, S.inj, fun i p h => ?_, fun b x h n => ?_, fun b h => ?_, fun b h => J.dom b (S.dom b h), fun p hp => ?_⟩
  · have q := S.slot i sd h
    cases sd with
    | un => exact q
    | pot => exact q
    | dat d => exact ⟨q.1, let ⟨v, e1, r⟩ := q.2; ⟨v, e1, r.mono hM a.1.1⟩⟩
    | own ds =>
      obtain ⟨p, vs, h1, h2, h3, h4⟩ := q
      refine ⟨p, vs, h1, h2, J.keep _ _ h3 fun q hq => ?_, h4.mono hM a.1.1⟩
      obtain ⟨_, g2, _, _, g5⟩ := S.pot q hq
      exact ⟨fun z => g2 (by rw [← z]; exact (S.fresh i p h1).1), fun z => g5 i (by rw [← z]; exact h1)⟩
  · obtain ⟨h1, h2⟩ := S.fresh i p h
    exact ⟨h1, fun z => z.elim h2 fun z => S.alloc p (.inr (.inl ⟨i, h⟩)) (hE p z)⟩
  · refine J.keep b x (S.keep b x h n) fun p hp => ⟨(n p hp).1, fun z => ?_⟩
    obtain ⟨_, _, _, g4, _⟩ := S.pot p hp
    rcases g4 with g4 | g4
    · exact (n p hp).2 (z.trans g4)
    · have h' : c.H0 b = some x := h
      rw [z, g4] at h'; cases h'
  · exact h.elim (fun z => J.dom b (S.mc b z)) (hE' b)
  · obtain ⟨_, g2, g3, g4, g5⟩ := S.pot p hp
    obtain ⟨k1, k2⟩ := J.pot p hp
    refine ⟨k1, g2, g3, ?_, fun i z => ?_⟩
    · rcases k2 with rfl | k2
      · exact g4
      · refine .inr ?_
        cases q : c.H0 g with
        | none => exact q
        | some x => exact absurd k2 (S.dom g (by rw [q]; exact fun z => nomatch z))
    · rcases k2 with rfl | k2
      · exact g5 i z
      · exact S.alloc g (.inr (.inl ⟨i, z⟩)) k2
theorem Jmp.here (S : SOk c o σ H e) (J : Jmp c o H H' g P) : SOk c (o.gs g) σ H' (e.po P) := by
  have q := J.back (E := fun _ => False) S (fun _ z => z.elim) fun _ z => z.elim
  have e1 : c.add (fun _ => False) = c := by
    obtain ⟨m, h, p⟩ := c
    unfold Ctx.add
    simp only [or_false]
  rw [e1] at q
  exact q

def wipeS : SD → SD
  | .own _ => .un
  | s => s
def wipeSD (vs : List Nat) : Nat → List SD → List SD
  | _, [] => []
  | k, s :: r => (if k ∈ vs then .un else wipeS s) :: wipeSD vs (k + 1) r
theorem wipeSD_len (vs : List Nat) : ∀ (k : Nat) (l : List SD), (wipeSD vs k l).length = l.length
  | _, [] => rfl
  | k, _ :: r => by
    show (wipeSD vs (k + 1) r).length + 1 = r.length + 1
    rw [wipeSD_len]
theorem wipeSD_get (vs : List Nat) : ∀ (k : Nat) (l : List SD) (i : Nat) (sd : SD), (wipeSD vs k l)[i]? = some sd → sd = .un ∨ (k + i ∉ vs ∧ l[i]? = some sd ∧ ∀ ds, sd ≠ .own ds)
  | _, [], _, _, h => by simp [wipeSD] at h
  | k, s :: r, 0, sd, h => by
    have h' : some (if k ∈ vs then SD.un else wipeS s) = some sd := h
    have e := Option.some.inj h'
    clear h h'
    by_cases hk : k ∈ vs
    · rw [if_pos hk] at e
      exact .inl e.symm
    · rw [if_neg hk] at e
      cases s with
      | own ds => exact .inl e.symm
      | un => exact .inl e.symm
      | dat d => exact .inr ⟨hk, congrArg some e, fun ds z => by rw [← e] at z; cases z⟩
      | pot => exact .inr ⟨hk, congrArg some e, fun ds z => by rw [← e] at z; cases z⟩
  | k, s :: r, i + 1, sd, h => by
    have h' : (wipeSD vs (k + 1) r)[i]? = some sd := by simpa [wipeSD] using h
    rcases wipeSD_get vs (k + 1) r i sd h' with q | ⟨q1, q2, q3⟩
    · exact .inl q
    · exact .inr ⟨by rw [show k + (i + 1) = k + 1 + i by omega]; exact q1, by simpa using q2, q3⟩
def En.inner (e : En) (vs : List Nat) : En := { e with sl := wipeSD vs 0 e.sl }
theorem wipe_get {σ : L2.St} : ∀ (vs : List Nat) (j : Nat), (wipe σ vs)[j]? = if j ∈ vs ∧ j < σ.length then some none else σ[j]?
  | [], j => by simp [wipe]
  | v :: vs, j => by
    have ih := wipe_get (σ := σ) vs j
    show ((wipe σ vs).set v none)[j]? = _
    by_cases e : v = j
    · subst e
      by_cases hl : v < σ.length
      · rw [List.getElem?_set_self (by rw [wipe_length]; exact hl), if_pos ⟨List.mem_cons_self, hl⟩]
      · rw [List.getElem?_eq_none (by rw [List.length_set, wipe_length]; omega), if_neg fun z => hl z.2, List.getElem?_eq_none (by omega)]
    · rw [List.getElem?_set_ne e, ih]
      have : j ∈ v :: vs ↔ j ∈ vs := by
        rw [List.mem_cons]
        exact ⟨fun z => z.resolve_left fun q => e q.symm, .inr⟩
      simp only [this]
theorem wipe_eq {σ σ2 : L2.St} {vs ix : List Nat} (hl : σ2.length = σ.length) (hn : ∀ j, j ∉ ix → σ2[j]? = (wipe σ vs)[j]?) (hs : ∀ j ∈ ix, j ∈ vs) : wipe σ2 vs = wipe σ vs := by
  apply List.ext_getElem?
  intro j
  rw [wipe_get, wipe_get, hl]
  by_cases h : j ∈ vs ∧ j < σ.length
  · rw [if_pos h, if_pos h]
  · rw [if_neg h, if_neg h]
    by_cases hv : j ∈ vs
    · have : σ.length ≤ j := Nat.le_of_not_lt fun z => h ⟨hv, z⟩
      rw [List.getElem?_eq_none (by omega), List.getElem?_eq_none this]
    · rw [hn j fun z => hv (hs j z), wipe_get, if_neg h]
/-- the context of a block or a call that begins at H', its E not to be touched -/
def Ctx.sub (c : Ctx) (o : OS) (E : MS) (H : Hp) : Ctx := ⟨fun b => c.M o b ∨ E b, H, c.pt.map fun p => (p.1, o.g)⟩
def OS.bare (o : OS) : OS := ⟨fun _ => none, o.g⟩
theorem sub_M {b : Addr} {o' : OS} : (c.sub o E H).M o' b ↔ (c.M o b ∨ E b) ∨ (∃ i, o'.sl i = some b) ∨ ∃ p, c.pt = some p ∧ (b = p.1 ∨ b = o'.g) := by
  unfold Ctx.sub Ctx.M
  constructor
  · rintro (h | h | ⟨p, hp, h⟩)
    · exact .inl h
    · exact .inr (.inl h)
    · obtain ⟨q, hq, rfl⟩ := Option.map_eq_some_iff.mp hp
      exact .inr (.inr ⟨q, hq, h⟩)
  · rintro (h | h | ⟨p, hp, h⟩)
    · exact .inl h
    · exact .inr (.inl h)
    · exact .inr (.inr ⟨(p.1, o.g), by rw [hp]; rfl, h⟩)
theorem sub_M0 {b : Addr} (h : (c.sub o E H).M o.bare b) : c.M o b ∨ E b := by
  rcases sub_M.mp h with h | ⟨i, h⟩ | ⟨p, hp, h⟩
  · exact h
  · cases h
  · exact .inl (.inr (.inr ⟨p, hp, h⟩))
theorem Jmp.enter (S : SOk c o σ H e) (J : Jmp c o H H' g P) (vs : List Nat) (hE : ∀ b, E b → H b = none) (hE' : ∀ b, E b → H' b ≠ none) :
    SOk (c.sub (o.gs g) E H') (o.gs g).bare (wipe σ vs) H' ((e.po P).inner vs) := by
  have a := J.stp S
  have S' := J.here S
  have hM : ∀ b, (c.sub (o.gs g) E H').M (o.gs g).bare b → c.M o b ∨ H b = none := fun b h => (sub_M0 h).elim (a.1.2 b) fun z => .inr (hE b z)
  constructor
  · rw [wipe_length, S.len]
    exact (wipeSD_len vs 0 e.sl).symm
  · intro i sd h
    rcases wipeSD_get vs 0 e.sl i sd h with rfl | ⟨h1, h2, h3⟩
    · rfl
    · rw [Nat.zero_add] at h1
      have q := S.slot i sd h2
      rw [wipe_get, if_neg fun z => h1 z.1]
      cases sd with
      | un => rfl
      | own ds => exact absurd rfl (h3 ds)
      | pot =>
        obtain ⟨_, p, hp, r⟩ := q
        refine ⟨rfl, (p.1, g), ?_, r⟩
        show c.pt.map _ = _
        rw [hp]
        rfl
      | dat d =>
        obtain ⟨_, v, e1, r⟩ := q
        exact ⟨rfl, v, e1, r.mono hM a.1.1⟩
  · exact fun _ _ => rfl
  · exact fun i j p h _ => nomatch h
  · exact fun i p h => nomatch h
  · exact fun b x h _ => h
  · exact fun b h => h.elim (fun z => S'.alloc b z) (hE' b)
  · exact fun b h => h
  · intro p hp
    obtain ⟨q, hq, rfl⟩ := Option.map_eq_some_iff.mp (show c.pt.map _ = some p from hp)
    obtain ⟨⟨k0, k1, k2⟩, _⟩ := J.pot q hq
    refine ⟨⟨k0, k1, k2⟩, ?_, ?_, .inl rfl, fun i z => nomatch z⟩
    · show H' q.1 ≠ none
      rw [k1]
      exact fun z => nomatch z
    · show H' g ≠ none
      rw [k2]
      exact fun z => nomatch z
/-- behind such a block -/
theorem Jmp.leave {o2 : OS} {σ2 : L2.St} {H2 : Hp} {e2 : En} (S : SOk c o σ H e) (J : Jmp c o H H' g P) (S2 : SOk (c.sub (o.gs g) E H') o2 σ2 H2 e2) : Jmp c o H H2 o2.g e2.pot := by
  have ptq : ∀ p, c.pt = some p → (c.sub (o.gs g) E H').pt = some (p.1, g) := fun p hp => by
    show c.pt.map _ = _
    rw [hp]
    rfl
  refine ⟨fun b x h n => S2.keep b x (J.keep b x h n) fun p hp => ?_, fun b h => S2.dom b (J.dom b h), fun p hp => ?_⟩
  · obtain ⟨q, hq, rfl⟩ := Option.map_eq_some_iff.mp (show c.pt.map _ = some p from hp)
    refine ⟨(n q hq).1, fun z => ?_⟩
    have z' : b = g := z
    rcases (J.pot q hq).2 with k | k
    · exact (n q hq).2 (z'.trans k)
    · rw [z', k] at h; cases h
  · obtain ⟨k1, _, _, k4, _⟩ := S2.pot _ (ptq p hp)
    refine ⟨k1, ?_⟩
    rcases k4 with k4 | k4
    · have k4' : o2.g = g := k4
      rcases (J.pot p hp).2 with k | k
      · exact .inl (k4'.trans k)
      · exact .inr (by rw [k4']; exact k)
    · refine .inr ?_
      cases q : H o2.g with
      | none => rfl
      | some x => exact absurd k4 (J.dom _ (by rw [q]; exact fun z => nomatch z))
end
end L3

/-! L3: comprehensions, calls with the pot, several targets at once, a def's entry. -/
namespace L3
open PySem PySem.Spec PyProof.Rows L2

/-! ### comprehensions -/
abbrev LX (X : Cx) (ifs : List Expr) (t : FT) : Prop := PTs X ifs (canT t)
def fYes : FT := fun e => some (true, e)
theorem lx_nil {X : Cx} : LX X [] fYes := weakX pts_nil fun σ H Q ⟨c, o, e, S, b, e', hf, k⟩ => by
  cases hf
  exact k H o S .refl
theorem lx_one {X : Cx} {a : Expr} {t : FT} (h : LT X a t) : LX X [a] t := pts_one h
def lcL (g : FG) (t : FT) (f : F) (vs : List Nat) (e : En) : List D → Pot → Option (List D × Pot)
  | [], P => some ([], P)
  | d :: ds, P => (g d ((e.po P).inner vs)).bind fun e2 => (t e2).bind fun p => if p.1 = true
    then (f p.2).bind fun q => (lcL g t f vs e ds q.2.pot).map fun r => (q.1 :: r.1, r.2)
    else lcL g t f vs e ds p.2.pot
def fLC (fi : FI) (g : FG) (t : FT) (f : F) (vs : List Nat) : F := fun e => (fi e).bind fun p => if p.1.length ≤ big then (lcL g t f vs p.2 p.1 p.2.pot).map fun r => (.list r.1, p.2.po r.2) else none
theorem lc_can {fi : FI} {g : FG} {t : FT} {f : F} {ix vs : List Nat} (hs : ∀ j ∈ ix, j ∈ vs) {σ : L2.St} {H : Hp} {Q : VK} (h : canE (fLC fi g t f vs) σ H Q) : tLc (canI fi) (canG g ix) (canT t) (canE f) vs σ H Q := by
  obtain ⟨c, o, e, S, z, e', hf, k⟩ := h
  obtain ⟨⟨ds, e1⟩, h1, hf⟩ := bind_some hf
  obtain ⟨hz, hf⟩ := if_someB hf
  obtain ⟨⟨ys, P'⟩, h2, hf⟩ := Option.map_eq_some_iff.mp hf
  obtain ⟨rfl, rfl⟩ := Prod.mk.inj hf
  refine ⟨c, o, e, S, ds, e1, h1, fun J H1 o1 S1 a1 W A hA => ?_⟩
  obtain ⟨G, Y, wk, hG, hY⟩ := W
  have nA : ∀ b x, H1 b = some x → b ≠ A := fun b x h z => by rw [z, hA] at h; cases h
  refine lc_it wk (fun i H2 => ∃ g2 P2 acc dn, Jmp c o1 H1 H2 g2 P2 ∧ H2 A = some (.lst acc) ∧ DenL (fun b => c.M (o1.gs g2) b ∨ b = A) H2 acc dn ∧ dn.length ≤ i ∧ (∀ p, c.pt = some p → g2 ≠ A) ∧
      ∃ rs, lcL g t f vs e1 (ds.drop i) P2 = some (rs, P') ∧ dn ++ rs = ys)
    ⟨o1.g, e1.pot, [], [], (Jmp.refl S1).same (same_upd hA), upd_same, .nil, Nat.le_refl _, fun p hp z => nA _ _ (S1.pot p hp).1.2.2 z, ys, h2, rfl⟩
    (fun i H2 hi ⟨g2, P2, acc, dn, J2, _⟩ => hG _ _ (J2.stp S1).1) (fun i x H2 H3 hi ⟨g2, P2, acc, dn, J2, hD, rD, hl, gA, rs, h3, e3⟩ y => ?_) fun H2 ⟨g2, P2, acc, dn, J2, hD, rD, hl, gA, rs, h3, e3⟩ => ?_
  · -- one turn
    have S2 := J2.here S1
    have hM2 : ∀ b, (c.sub (o1.gs g2) (fun b => b = A) H3).M (o1.gs g2).bare b → c.M o1 b ∨ H1 b = none := fun b h => (sub_M0 h).elim (J2.mem S1 b) fun z => .inr (by rw [z]; exact hA)
    obtain ⟨d, hd, sm, rd⟩ := hY ((c.sub (o1.gs g2) (fun b => b = A) H3).M (o1.gs g2).bare) H2 i x H3 hi ⟨(J2.stp S1).1.1, hM2⟩ (fun b h => (sub_M0 h).elim (S2.alloc b) fun z => by rw [z, hD]; exact fun q => nomatch q) y
    have J3 : Jmp c o1 H1 H3 g2 P2 := J2.same sm
    have hD3 : H3 A = some (.lst acc) := sm _ _ hD
    have S3 := J3.enter S1 vs (E := fun b => b = A) (fun b z => by rw [z]; exact hA) fun b z => by rw [z, hD3]; exact fun q => nomatch q
    rw [List.drop_eq_getElem_cons hi] at h3
    have ed : ds[i] = d := by rw [List.getElem?_eq_getElem hi] at hd; exact Option.some.inj hd
    rw [ed] at h3
    obtain ⟨e4, h4, h3⟩ := bind_some h3
    obtain ⟨⟨b5, e5⟩, h5, h3⟩ := bind_some h3
    refine ⟨_, _, _, d, S3, rd, e4, h4, fun σ4 o4 S4 a4 l4 n4 => ⟨wipe_eq (ix := ix) (by rw [l4, wipe_length]) n4 hs, ?_⟩⟩
    refine ⟨_, o4, e4, S4, b5, e5, h5, fun H5 o5 S5 a5 => ?_⟩
    -- from a state of the turn: what stands of the list so far
    have fin : ∀ {o6 : OS} {H6 : Hp} {e6 : En}, SOk (c.sub (o1.gs g2) (fun b => b = A) H3) o6 σ4 H6 e6 →
        Jmp c o1 H1 H6 o6.g e6.pot ∧ H6 A = some (.lst acc) ∧ DenL (fun b => c.M (o1.gs o6.g) b ∨ b = A) H6 acc dn ∧ (∀ p, c.pt = some p → o6.g ≠ A) := fun {o6 H6 e6} S6 => by
      have J6 := J3.leave S1 S6
      have g6 : ∀ p, c.pt = some p → o6.g = g2 ∨ H3 o6.g = none := fun p hp => by
        have q := (S6.pot (p.1, g2) (by show c.pt.map _ = _; rw [hp]; rfl)).2.2.2.1
        exact q
      refine ⟨J6, S6.keep A _ hD3 fun p hp => ?_, rD.mono (fun b h => ?_) fun b x hb n => ?_, fun p hp z => ?_⟩
      · obtain ⟨q, hq, rfl⟩ := Option.map_eq_some_iff.mp (show c.pt.map _ = some p from hp)
        exact ⟨fun z => nA q.1 _ (S1.pot q hq).1.2.1 z.symm, fun z => gA q hq z.symm⟩
      · rcases h with (h | h | ⟨p, hp, h | h⟩) | h
        · exact .inl (.inl (.inl h))
        · exact .inl (.inl (.inr (.inl h)))
        · exact .inl (.inl (.inr (.inr ⟨p, hp, .inl h⟩)))
        · have h' : b = o6.g := h
          rcases g6 p hp with q | q
          · exact .inl (.inl (.inr (.inr ⟨p, hp, .inr (h'.trans q)⟩)))
          · refine .inr ?_
            rw [h']
            exact sm.free q
        · exact .inl (.inr h)
      · refine S6.keep b x (sm _ _ hb) fun p hp => ?_
        obtain ⟨q, hq, rfl⟩ := Option.map_eq_some_iff.mp (show c.pt.map _ = some p from hp)
        exact ⟨fun z => n (.inl (.inr (.inr ⟨q, hq, .inl z⟩))), fun z => n (.inl (.inr (.inr ⟨q, hq, .inr z⟩)))⟩
      · rcases g6 p hp with q | q
        · exact gA p hp (q.symm.trans z)
        · rw [z, hD3] at q; cases q
    cases b5 with
    | false =>
      simp only [Bool.false_eq_true, if_false] at h3 ⊢
      obtain ⟨J5, hD5, rD5, gA5⟩ := fin S5
      exact ⟨_, _, acc, dn, J5, hD5, rD5, Nat.le_succ_of_le hl, gA5, rs, h3, e3⟩
    | true =>
      simp only [if_true] at h3 ⊢
      obtain ⟨⟨d6, e6⟩, h6, h3⟩ := bind_some h3
      obtain ⟨⟨rs', P7⟩, h7, h3⟩ := Option.map_eq_some_iff.mp h3
      obtain ⟨rfl, rfl⟩ := Prod.mk.inj h3
      refine ⟨_, o5, e5, S5, d6, e6, h6, fun v6 H6 o6 S6 a6 r6 => ?_⟩
      obtain ⟨J6, hD6, rD6, gA6⟩ := fin S6
      have hA6 : ∀ b x, H1 b = some x → (upd H6 A (.lst (acc ++ [v6]))) b = H6 b := fun b x h => upd_ne (nA b x h)
      refine ⟨acc, hD6, ?_, _, _, acc ++ [v6], dn ++ [d6], ⟨fun b x h n => (hA6 b x h).trans (J6.keep b x h n), fun b h => ?_, fun p hp => ?_⟩, upd_same, ?_, ?_, gA6, rs', h7, ?_⟩
      · have hz2 : ds.length ≤ big := hz
        rw [rD6.length]
        exact big_line (Nat.le_trans hl (Nat.le_trans (Nat.le_of_lt hi) hz2))
      · by_cases z : b = A
        · rw [z, upd_same]; exact fun q => nomatch q
        · rw [upd_ne z]; exact J6.dom b h
      · obtain ⟨⟨k0, k1, k2⟩, k3⟩ := J6.pot p hp
        exact ⟨⟨k0, (hA6 _ _ (S1.pot p hp).1.2.1).trans k1, by rw [upd_ne (gA6 p hp)]; exact k2⟩, k3⟩
      · have hup : ∀ b x, H6 b = some x → ¬ (c.M (o1.gs o6.g) b ∨ b = A) → (upd H6 A (.lst (acc ++ [v6]))) b = some x := fun b x h n => by
          rw [upd_ne (show b ≠ A from fun z => n (.inr z))]
          exact h
        refine (rD6.mono (fun _ h => .inl h) hup).append (.cons ((r6.less fun b h => ?_).mono (fun _ h => .inl h) hup) .nil)
        rcases h with (h | h | ⟨p, hp, h | h⟩) | h
        · exact sub_M.mpr (.inl (.inl (.inl h)))
        · exact sub_M.mpr (.inl (.inl (.inr (.inl h))))
        · exact sub_M.mpr (.inl (.inl (.inr (.inr ⟨p, hp, .inl h⟩))))
        · exact sub_M.mpr (.inr (.inr ⟨p, hp, .inr h⟩))
        · exact sub_M.mpr (.inl (.inr h))
      · rw [List.length_append, List.length_singleton]
        omega
      · rw [List.append_assoc]
        exact e3
  · -- the end
    rw [List.drop_length] at h3
    cases h3
    rw [List.append_nil] at e3
    subst e3
    refine k _ H2 (o1.gs g2) (J2.here S1) (a1.trans (J2.stp S1)) (.lst (fun z => ?_) hD (rD.less fun b h => .inl h))
    rcases z with z | ⟨i, z⟩ | ⟨p, hp, z | z⟩
    · exact S1.mc A z hA
    · exact S1.alloc A (.inr (.inl ⟨i, z⟩)) hA
    · exact nA _ _ (S1.pot p hp).1.2.1 z.symm
    · exact gA p hp z.symm
section
variable {X : Cx}
theorem le_lc {elt tg iter : Expr} {ifs : List Expr} {scope : Scope} {own : List (Str × Nat)} {pos : Pos} {fi : FI} {g : FG} {t : FT} {f : F} {ix : List Nat} (hc : X.calm = true) (hN : X.N.Nodup) (hi : LI X tg iter fi) (ok : BlkOk X.N X.env.scope scope own)
    (hg : ∀ (s : Shared) (H : Hp) (C : Addr) (cl : List (Str × Addr)) (fp : List Addr), LG (X.blk s H scope (compEnvC scope cl C X.env) fp) tg g ix) (ht : ∀ (s : Shared) (H : Hp) (C : Addr) (cl : List (Str × Addr)) (fp : List Addr), LX (X.blk s H scope (compEnvC scope cl C X.env) fp) ifs t)
    (he : ∀ (s : Shared) (H : Hp) (C : Addr) (cl : List (Str × Addr)) (fp : List Addr), LE (X.blk s H scope (compEnvC scope cl C X.env) fp) elt f) (hix : ∀ j ∈ ix, j ∈ own.map (·.2) := by decide) (hs : ∀ x, foldedSetIterable iter X.env x = pure x := by intro _; rfl) :
    LE X (.ListComp elt [⟨tg, iter, ifs, 0⟩] scope pos) (fLC fi g t f (own.map (·.2))) :=
  weakE (pe_lc hc hN hi ok hg ht he hs) fun σ H Q h => lc_can hix h
theorem ls_setLc {i : Nat} {y : Str} {py : Pos} {elt tg iter : Expr} {ifs : List Expr} {scope : Scope} {own : List (Str × Nat)} {pos spos : Pos} {fi : FI} {g : FG} {t : FT} {f : F} {ix : List Nat} (hc : X.calm = true) (hN : X.N.Nodup) (hy : X.N[i]? = some y) (hyl : X.env.scope.names.lookup y = some .local)
    (hsw : swapsWith (.ListComp elt [⟨tg, iter, ifs, 0⟩] scope pos) (some (.Name y py)) spos.line X.env = pure true) (hi : LI X tg iter fi) (ok : BlkOk X.N X.env.scope scope own)
    (hg : ∀ (s : Shared) (H : Hp) (C : Addr) (cl : List (Str × Addr)) (fp : List Addr), LG (X.blk s H scope (compEnvC scope cl C X.env) fp) tg g ix) (ht : ∀ (s : Shared) (H : Hp) (C : Addr) (cl : List (Str × Addr)) (fp : List Addr), LX (X.blk s H scope (compEnvC scope cl C X.env) fp) ifs t)
    (he : ∀ (s : Shared) (H : Hp) (C : Addr) (cl : List (Str × Addr)) (fp : List Addr), LE (X.blk s H scope (compEnvC scope cl C X.env) fp) elt f) (hix : ∀ j ∈ ix, j ∈ own.map (·.2) := by decide) (hs : ∀ x, foldedSetIterable iter X.env x = pure x := by intro _; rfl) :
    LS X (.Assign [.Name y py] (.ListComp elt [⟨tg, iter, ifs, 0⟩] scope pos) spos) (sSet i (fLC fi g t f (own.map (·.2)))) :=
  weakS (ps_setLc hc hN hy hyl hsw hi ok hg ht he hs) fun D σ H h => by
    obtain ⟨c, o, en, S, r, hf, k⟩ := h
    obtain ⟨⟨d, e1⟩, h1, hf⟩ := Option.map_eq_some_iff.mp hf
    cases hf
    exact lc_can hix ⟨c, o, en, S, d, e1, h1, fun v H1 o1 S1 a1 r1 => k _ H1 _ (S1.put r1) (a1.trans .drop)⟩
end

/-! ### the pot's calls -/
/-- a def whose first parameter is the pot -/
def spQ (n : Nat) (fn : List D → Pot → Option (D × Pot)) : Sp := fun vs H Q _ => ∃ (M : MS) (pa g : Addr) (P : Pot) (ws : List V) (ds : List D) (z : D) (P' : Pot), (∀ b, M b → H b ≠ none) ∧ vs = .ref pa :: ws ∧ vs.length = n ∧ PotAt H pa g P ∧
  DenL (fun b => M b ∨ b = pa ∨ b = g) H ws ds ∧ fn ds P = some (z, P') ∧
  ∀ v H' g', (∀ b x, H b = some x → b ≠ pa → b ≠ g → H' b = some x) → (∀ b, H b ≠ none → H' b ≠ none) → PotAt H' pa g' P' → (g' = g ∨ H g' = none) → Den (fun b => M b ∨ b = pa ∨ b = g') H' v z → Q v H'
def fCallQ (i : Nat) (fn : List D → Pot → Option (D × Pot)) (fa : FA) : F := fun e => match e.sl[i]? with
  | some .pot => (fa e).bind fun p => (fn p.1 p.2.pot).map fun z => (z.1, p.2.po z.2)
  | _ => none
section
variable {X : Cx} {x : Str} {p pos : Pos} {e0 : Expr} {es : List Expr} {fr : FA}
theorem le_callQ {i n k : Nat} {fn : List D → Pot → Option (D × Pot)} {f : Addr} {fd : FuncData} {ps : List Str} (G : FnG X.prog X.w X.K X.mg X.base k f fd ps (spQ n fn)) (hgd : X.A.guards = some []) (hr : Room k X.A) (hg : Gl X x) (hm : X.mg x = some (.ref f)) (hk : PySem.W.keepIn X.K (.ref f) = true) (hb : Binds X.K fd ps [])
    (h0 : PE X e0 (tVar i)) (ha : LA X es fr) (hn : ∀ en ds e', fr en = some (ds, e') → ds.length + 1 = n) (hdb : (x == ("__debug__" : Str)) = false := by decide) (hs : starEach (e0 :: es) X.env = (false, eval e0 X.env) :: starEach es X.env := by rfl) (hpl : (backTo pos (starEach es X.env)).any (·.1) = false := by rfl) :
    LE X (.Call (.Name x p) (e0 :: es) [] pos) (fCallQ i fn fr) := by
  refine weakE (pe_callG G hgd hr hg hm hk hb (pa_cons h0 ha hs) hdb hs hpl) fun σ H Q h => ?_
  obtain ⟨c, o, en, S, d, e', hf, q⟩ := h
  unfold fCallQ at hf
  cases hsl : en.sl[i]? with
  | none => rw [hsl] at hf; cases hf
  | some sd =>
    rw [hsl] at hf
    cases sd with
    | pot =>
      obtain ⟨_, pq, hpt, hx⟩ := S.slot i _ hsl
      obtain ⟨⟨ds, e1⟩, h1, hf⟩ := bind_some hf
      obtain ⟨⟨z, P'⟩, h3, hf⟩ := Option.map_eq_some_iff.mp hf
      obtain ⟨rfl, rfl⟩ := Prod.mk.inj hf
      refine ⟨_, hx, c, o, en, S, ds, e1, h1, fun vs H1 o1 S1 a1 r1 => ?_⟩
      obtain ⟨k1, k2, k3, k4, k5⟩ := S1.pot pq hpt
      refine ⟨c.M o1, pq.1, o1.g, e1.pot, vs, ds, z, P', S1.alloc, rfl, by rw [List.length_cons, r1.length]; exact hn _ _ _ h1, k1, r1.less fun b h => ?_, h3, fun v H' g' kp dm pt ng rv => ?_⟩
      · rcases h with h | h | h
        · exact h
        · exact .inr (.inr ⟨pq, hpt, .inl h⟩)
        · exact .inr (.inr ⟨pq, hpt, .inr h⟩)
      · have J : Jmp c o1 H1 H' g' P' := ⟨fun b y h n => kp b y h (n pq hpt).1 (n pq hpt).2, dm, fun p' hp' => by
          rw [hpt] at hp'
          cases hp'
          exact ⟨pt, ng⟩⟩
        refine q v H' (o1.gs g') (J.here S1) (a1.trans (J.stp S1)) (rv.less fun b h => ?_)
        rcases h with h | h | ⟨p', hp', h | h⟩
        · exact .inl (.inl h)
        · exact .inl (.inr (.inl h))
        · rw [hpt] at hp'
          cases hp'
          exact .inr (.inl h)
        · exact .inr (.inr h)
    | _ => cases hf
end

/-! ### a def's entry -/
def pot0 : Pot := ⟨[], 0, 0⟩
def entry (n : Nat) (ds : List D) : List SD := ds.map SD.dat ++ List.replicate (n - ds.length) .un
def endF : Option Out → Option D
  | some (.rt d _) => some d
  | some (.nx _) => some .none
  | _ => none
def runF (fb : FS) (n : Nat) (ds : List D) : Option D := endF (fb ⟨entry n ds, pot0⟩)
def endQ : Option Out → Option (D × Pot)
  | some (.rt d e) => some (d, e.pot)
  | some (.nx e) => some (.none, e.pot)
  | _ => none
def runQ (fb : FS) (n : Nat) (ds : List D) (P : Pot) : Option (D × Pot) := endQ (fb ⟨.pot :: entry (n - 1) ds, P⟩)
section
variable {P : Program} {w : World} {K : PySem.W.Frag} {mg : Str → Option Value} {base : Heap}
theorem fnG_of {qual name : Str} {params : Arguments} {body : List Stmt} {scope : Scope} {dV kV doc pm cdv ct oc : Value} {an od : Option Addr} {osl : Array (Option Value)} {N ps : List Str} {sp : Sp} {k : Nat} {f : Addr}
    (lk : K.lookup f = some ⟨oc, od, .func (PySem.W.fnOf name qual params body scope dV kV doc pm an cdv ct), osl⟩) (hcd : PySem.W.codeIn K cdv qual = true) (S : FnScope N ps scope) (len : ∀ vs H Q E, sp vs H Q E → vs.length = ps.length)
    (hbody : ∀ (A : Around) (outer : List Env) (s : Shared) (H : Hp) (vs : List V) (Q : VK), A.guards = some [] → Room k (A.deeper (envOfC qual scope s.heap.objs.size f cdv)) → sp vs H Q E0 →
      ∃ t, PSs (cxOf CX0 P w K mg base N qual scope f cdv A outer s H E0) body t ∧ t { nx := fun _ H' => Q .non H', rt := Q } (start N vs) H) :
    FnG P w K mg base (k + 1) f (PySem.W.fnOf name qual params body scope dV kV doc pm an cdv ct) ps sp := by
  refine ⟨len, fun A outer s H args us vs Q hgd hr e0 hb rv hsp => ?_⟩
  have KX : K.In s.heap := e0.mod.kin.keeps fun b ob e => (e0.bs b ob e).1
  have nl : s.heap.NoLimit := e0.mod.nolimit.keeps fun b ob e => (e0.bs b ob e).1
  refine codeAny_call_function hr.depth (KX _ _ lk) rfl S.co S.gen rfl (PySem.W.codeRec_of KX hcd) (hb _ _ _ _ ?_)
  refine wpAny_newFunctionEnv_cells S.kind (fun ⟨nm, u⟩ hy => ?_) fun env he s1 ic => ?_
  · exact (S.par nm (List.of_mem_zip hy).1).elim .inl fun q => .inr ⟨q, PySem.W.cellsFrom_some _ _ _ (.inl q)⟩
  subst he
  obtain ⟨t, ht, hq⟩ := hbody A outer s H vs Q hgd (hr.deeper _) hsp
  have I : Inv (cxOf CX0 P w K mg base N qual scope f cdv A outer s H E0) [] (start N vs) H s1 := inv_start S hr.hd e0 (len _ _ _ _ hsp) rv ic
  refine ⟨nl.keeps ic.toInCall.keep, codeAny_func (wpAny_mono (ht.run [] s1 (start N vs) H _ I hq) (fun fl s2 hs => ?_) fun _ _ z => z)⟩
  match fl, hs with
  | .ret u, ⟨v, σ2, H2, J, r, q⟩ => exact ⟨v, H2, J.os, J.bare, J.base, J.hok, r, q⟩
  | .next, ⟨σ2, H2, J, q⟩ => exact ⟨.non, H2, J.os, J.bare, J.base, J.hok, rfl, q⟩
  | .brk, ⟨_, _, _, q⟩ => exact q.elim
  | .cont, ⟨_, _, _, q⟩ => exact q.elim
theorem entry_len {n : Nat} {ds : List D} (h : ds.length ≤ n) : (entry n ds).length = n := by
  unfold entry
  rw [List.length_append, List.length_map, List.length_replicate]
  omega
theorem entry_slot {c : Ctx} {o : OS} {H : Hp} {n : Nat} {vs : List V} {ds : List D} (ho : ∀ i, o.sl i = none) (r : DenL (c.M o) H vs ds) (hl : ds.length ≤ n) : ∀ (i : Nat) (sd : SD) (j : Nat), (entry n ds)[i]? = some sd → SlotOk c o H j ((vs.map some ++ List.replicate (n - vs.length) none)[i]?) sd := fun i sd j h => by
  unfold entry at h
  by_cases hi : i < ds.length
  · rw [List.getElem?_append_left (by rw [List.length_map]; exact hi), List.getElem?_map, List.getElem?_eq_getElem hi] at h
    cases h
    obtain ⟨v, h1, h2⟩ := r.getD (List.getElem?_eq_getElem hi)
    refine ⟨ho j, v, ?_, h2⟩
    rw [List.getElem?_append_left (by rw [List.length_map, r.length]; exact hi), List.getElem?_map, h1]
    rfl
  · rw [List.getElem?_append_right (by rw [List.length_map]; omega)] at h
    obtain ⟨_, h⟩ := List.getElem?_eq_some_iff.mp h
    rw [List.getElem_replicate] at h
    subst h
    exact ho j
theorem start_ok {M : MS} {H : Hp} {N : List Str} {vs : List V} {ds : List D} (hM : ∀ b, M b → H b ≠ none) (r : DenL M H vs ds) (hl : ds.length ≤ N.length) : SOk ⟨M, H, none⟩ ⟨fun _ => none, 0⟩ (start N vs) H ⟨entry N.length ds, pot0⟩ := by
  have hMM : ∀ b, (Ctx.mk M H none).M ⟨fun _ => none, 0⟩ b → M b := fun b h => by
    rcases h with h | ⟨_, h⟩ | ⟨_, h, _⟩
    · exact h
    · cases h
    · cases h
  refine ⟨?_, fun i sd h => entry_slot (fun _ => rfl) (r.less hMM) hl i sd i h, fun _ _ => rfl, fun i j p h _ => (nomatch h), fun i p h => (nomatch h), fun b x h _ => h, hM, fun b h => h, fun p h => (nomatch h)⟩
  show (vs.map some ++ List.replicate (N.length - vs.length) none).length = _
  rw [entry_len hl, List.length_append, List.length_map, List.length_replicate, r.length]
  omega
/-- THE RULE for a def of data -/
theorem fun_P {x qual : Str} {st : Stmt} {f : Addr} {fd : FuncData} {N ps : List Str} {k : Nat} {fb : FS} (Fn : Fun K x qual st f fd) (S : FnScope N ps (defScope st)) (hps : ps.length ≤ N.length)
    (hbody : ∀ (cdv : Value) (A : Around) (outer : List Env) (s : Shared) (H : Hp), (A.deeper (envOfC qual (defScope st) s.heap.objs.size f cdv)).guards = some [] → Room k (A.deeper (envOfC qual (defScope st) s.heap.objs.size f cdv)) →
      LB (cxOf CX0 P w K mg base N qual (defScope st) f cdv A outer s H E0).nox (defBody st) fb) : FnG P w K mg base (k + 1) f fd ps (spP ps.length (runF fb N.length)) := by
  obtain ⟨oc, od, kV, doc, pm, an, cdv, ct, osl, rfl, lk, hcd⟩ := Fn.ex
  refine fnG_of lk hcd S (fun vs H Q E h => ?_) fun A outer s H vs Q hgd hr hsp => ?_
  · obtain ⟨M, ds, z, _, h, _⟩ := h
    exact h
  · obtain ⟨M, ds, z, hM, hl, r, hz, q⟩ := hsp
    refine ⟨_, (hbody cdv A outer s H hgd hr).nox, ?_⟩
    have hl' : ds.length ≤ N.length := by rw [← r.length, hl]; exact hps
    have S0 := start_ok (N := N) hM r hl'
    unfold runF at hz
    have hMM : ∀ o' b, M b → (Ctx.mk M H none).M o' b := fun o' b h => .inl h
    cases hr2 : fb ⟨entry N.length ds, pot0⟩ with
    | none => rw [hr2] at hz; cases hz
    | some out =>
      rw [hr2] at hz
      refine ⟨_, _, _, S0, out, hr2, ?_⟩
      cases out with
      | rt d e =>
        cases hz
        exact fun v σ' H' o' S' a rv => q v H' (fun b y h => S'.keep b y h fun p hp => nomatch hp) (rv.less (hMM o'))
      | nx e =>
        cases hz
        exact fun σ' H' o' S' a => q .non H' (fun b y h => S'.keep b y h fun p hp => nomatch hp) .non
      | bk e => cases hz
      | ct e => cases hz
/-- .. whose first parameter is the pot -/
theorem fun_Q {x qual : Str} {st : Stmt} {f : Addr} {fd : FuncData} {N ps : List Str} {k : Nat} {fb : FS} (Fn : Fun K x qual st f fd) (S : FnScope N ps (defScope st)) (hps : ps.length ≤ N.length)
    (hbody : ∀ (cdv : Value) (A : Around) (outer : List Env) (s : Shared) (H : Hp), (A.deeper (envOfC qual (defScope st) s.heap.objs.size f cdv)).guards = some [] → Room k (A.deeper (envOfC qual (defScope st) s.heap.objs.size f cdv)) →
      LB (cxOf CX0 P w K mg base N qual (defScope st) f cdv A outer s H E0).nox (defBody st) fb) : FnG P w K mg base (k + 1) f fd ps (spQ ps.length (runQ fb N.length)) := by
  obtain ⟨oc, od, kV, doc, pm, an, cdv, ct, osl, rfl, lk, hcd⟩ := Fn.ex
  refine fnG_of lk hcd S (fun vs H Q E h => ?_) fun A outer s H vs Q hgd hr hsp => ?_
  · obtain ⟨M, pa, g, P, ws, ds, z, P', _, _, h, _⟩ := h
    exact h
  · obtain ⟨M, pa, g, P, ws, ds, z, P', hM, rfl, hl, pt, r, hz, q⟩ := hsp
    refine ⟨_, (hbody cdv A outer s H hgd hr).nox, ?_⟩
    have hl' : ds.length ≤ N.length - 1 := by
      have e1 := r.length
      rw [List.length_cons] at hl
      omega
    have hN : 1 ≤ N.length := by
      rw [List.length_cons] at hl
      omega
    obtain ⟨g0, g1, g2⟩ := id pt
    have hMM : ∀ b, (Ctx.mk M H (some (pa, g))).M ⟨fun _ => none, g⟩ b → M b ∨ b = pa ∨ b = g := fun b h => by
      rcases h with h | ⟨_, h⟩ | ⟨p', h, h'⟩
      · exact .inl h
      · cases h
      · cases h
        exact .inr h'
    have S0 : SOk ⟨M, H, some (pa, g)⟩ ⟨fun _ => none, g⟩ (start N (.ref pa :: ws)) H ⟨.pot :: entry (N.length - 1) ds, P⟩ := by
      refine ⟨?_, fun i sd h => ?_, fun _ _ => rfl, fun i j p h _ => (nomatch h), fun i p h => (nomatch h), fun b x h _ => h, hM, fun b h => h, fun p h => ?_⟩
      · show ((V.ref pa :: ws).map some ++ List.replicate (N.length - (V.ref pa :: ws).length) none).length = (entry (N.length - 1) ds).length + 1
        rw [entry_len hl', List.length_append, List.length_map, List.length_replicate, List.length_cons, r.length]
        omega
      · cases i with
        | zero =>
          cases h
          exact ⟨rfl, (pa, g), rfl, rfl⟩
        | succ i =>
          have h' : (entry (N.length - 1) ds)[i]? = some sd := by simpa using h
          have q := entry_slot (c := ⟨M, H, some (pa, g)⟩) (o := ⟨fun _ => none, g⟩) (fun _ => rfl) (r.less hMM) hl' i sd (i + 1) h'
          have ex : (start N (V.ref pa :: ws))[i + 1]? = (ws.map some ++ List.replicate (N.length - 1 - ws.length) none)[i]? := by
            show (some (V.ref pa) :: (ws.map some ++ List.replicate (N.length - (ws.length + 1)) none))[i + 1]? = _
            rw [List.getElem?_cons_succ, show N.length - (ws.length + 1) = N.length - 1 - ws.length by omega]
          rw [ex]
          exact q
      · cases h
        refine ⟨pt, ?_, ?_, .inl rfl, fun i z => nomatch z⟩
        · show H pa ≠ none
          rw [g1]; exact fun z => nomatch z
        · show H g ≠ none
          rw [g2]; exact fun z => nomatch z
    have fin : ∀ {v : V} {σ' : L2.St} {H' : Hp} {o' : OS} {e' : En}, e'.pot = P' → SOk ⟨M, H, some (pa, g)⟩ o' σ' H' e' → Den ((Ctx.mk M H (some (pa, g))).M o') H' v z → Q v H' := fun {v σ' H' o' e'} ep S' rv => by
      obtain ⟨k1, _, _, k4, _⟩ := S'.pot _ rfl
      rw [ep] at k1
      refine q v H' o'.g (fun b y h n1 n2 => S'.keep b y h fun p' hp' => ?_) S'.dom k1 k4 (rv.less fun b h => ?_)
      · cases hp'
        exact ⟨n1, n2⟩
      · exact h.elim .inl fun h => .inr (.inr ⟨_, rfl, h⟩)
    unfold runQ at hz
    cases hr2 : fb ⟨.pot :: entry (N.length - 1) ds, P⟩ with
    | none => rw [hr2] at hz; cases hz
    | some out =>
      rw [hr2] at hz
      refine ⟨_, _, _, S0, out, hr2, ?_⟩
      cases out with
      | rt d e =>
        obtain ⟨rfl, ep⟩ := Prod.mk.inj (Option.some.inj hz)
        exact fun v σ' H' o' S' a rv => fin ep S' rv
      | nx e =>
        obtain ⟨rfl, ep⟩ := Prod.mk.inj (Option.some.inj hz)
        exact fun σ' H' o' S' a => fin ep S' .non
      | bk e => cases hz
      | ct e => cases hz
end
end L3

/-! L3: the operators and built-ins on data. -/
namespace L3
open PySem PySem.Spec PyProof.Rows L2

section
variable {X : Cx}
/-- an operator's rule that gives no object -/
theorem op2_of {fv : Value → Value → Sem Value} {r : R2} {op : D → D → Option D} (h : OpR X fv r)
    (hq : ∀ (M : MS) (H : Hp) (x y : V) (dx dy z : D), (∀ b, M b → H b ≠ none) → Den M H x dx → Den M H y dy → op dx dy = some z → ∀ Q : VK, (∀ v H', Same H H' → Den M H' v z → Q v H') → r x y H Q) : Op2 X fv op := ⟨r, h, hq⟩
def iOp (g : Int → Int → D) : D → D → Option D
  | .int i, .int j => some (g i j)
  | _, _ => none
theorem op2_int {fv : Value → Value → Sem Value} {g : Int → Int → V} {g' : Int → Int → D} (h : OpR X fv (rI0 g)) (hg : ∀ i j M H, Den M H (g i j) (g' i j)) : Op2 X fv (iOp g') := by
  refine op2_of h fun M H x y dx dy z hM r1 r2 e Q k => ?_
  unfold iOp at e
  split at e
  · cases e
    exact ⟨_, _, r1.int_inv, r2.int_inv, k _ H (Same.refl _) (hg _ _ _ _)⟩
  · cases e
abbrev opSub : D → D → Option D := iOp fun i j => .int (i - j)
abbrev opLt : D → D → Option D := iOp fun i j => .bool (decide (i < j))
abbrev opLe : D → D → Option D := iOp fun i j => .bool (decide (i ≤ j))
abbrev opGt : D → D → Option D := iOp fun i j => .bool (decide (j < i))
abbrev opGe : D → D → Option D := iOp fun i j => .bool (decide (j ≤ i))
theorem o_sub : Op2 X (binaryOp .Sub) opSub := op2_int op_sub fun _ _ _ _ => .int _
theorem o_lt : Op2 X (compareOp .Lt) opLt := op2_int op_lt fun _ _ _ _ => .bl _
theorem o_le : Op2 X (compareOp .LtE) opLe := op2_int op_le fun _ _ _ _ => .bl _
theorem o_gt : Op2 X (compareOp .Gt) opGt := op2_int op_gt fun _ _ _ _ => .bl _
theorem o_ge : Op2 X (compareOp .GtE) opGe := op2_int op_ge fun _ _ _ _ => .bl _
def iOpC (C : Int → Int → Bool) (g : Int → Int → D) : D → D → Option D
  | .int i, .int j => if C i j = true then some (g i j) else none
  | _, _ => none
theorem op2_intC {fv : Value → Value → Sem Value} {C : Int → Int → Prop} {c : Int → Int → Bool} {g : Int → Int → V} {g' : Int → Int → D} (h : OpR X fv (rI C g)) (hc : ∀ i j, c i j = true → C i j) (hg : ∀ i j M H, Den M H (g i j) (g' i j)) : Op2 X fv (iOpC c g') := by
  refine op2_of h fun M H x y dx dy z hM r1 r2 e Q k => ?_
  unfold iOpC at e
  split at e
  · obtain ⟨h1, e⟩ := if_some e
    cases e
    exact ⟨_, _, r1.int_inv, r2.int_inv, hc _ _ h1, k _ H (Same.refl _) (hg _ _ _ _)⟩
  · cases e
abbrev opDiv : D → D → Option D := iOpC (fun _ j => decide (0 < j) && decide (j < 1073741824)) fun i j => .int (i / j)
abbrev opMod : D → D → Option D := iOpC (fun _ j => decide (0 < j)) fun i j => .int (i % j)
abbrev opPow : D → D → Option D := iOpC (fun i j => decide (0 ≤ j) && decide (((i.natAbs.log2 + 1 : Nat) : Int) * j ≤ 100000000)) fun i j => .int (i ^ j.toNat)
theorem o_div : Op2 X (binaryOp .FloorDiv) opDiv := op2_intC op_fdiv (fun i j h => by
  rw [Bool.and_eq_true, decide_eq_true_eq, decide_eq_true_eq] at h
  exact h) fun _ _ _ _ => .int _
theorem o_mod : Op2 X (binaryOp .Mod) opMod := op2_intC op_mod (fun i j h => of_decide_eq_true h) fun _ _ _ _ => .int _
theorem op_powG : OpR X (binaryOp .Pow) (rI (fun i j => 0 ≤ j ∧ (Builtin.Int.intBits i : Int) * j ≤ 2 ^ 27) fun i j => .int (i ^ j.toNat)) := opI fun _ _ _ _ _ _ _ hc q => PyProof.Rows.pow_int hc.1 hc.2 q
theorem o_pow : Op2 X (binaryOp .Pow) opPow := op2_intC op_powG (fun i j h => by
  rw [Bool.and_eq_true, decide_eq_true_eq, decide_eq_true_eq] at h
  obtain ⟨h1, h2⟩ := h
  have b : Builtin.Int.intBits i ≤ i.natAbs.log2 + 1 := by
    unfold Builtin.Int.intBits
    split <;> omega
  refine ⟨h1, ?_⟩
  have q : (Builtin.Int.intBits i : Int) * j ≤ ((i.natAbs.log2 + 1 : Nat) : Int) * j := Int.mul_le_mul_of_nonneg_right (by omega) h1
  have e : (2 : Int) ^ 27 = 134217728 := by decide
  omega) fun _ _ _ _ => .int _
/-! ### + -/
def opAdd : D → D → Option D
  | .int i, .int j => some (.int (i + j))
  | .tuple xs, .tuple ys => if xs.length + ys.length ≤ big then some (.tuple (xs ++ ys)) else none
  | .list xs, .list ys => if xs.length + ys.length ≤ big then some (.list (xs ++ ys)) else none
  | .str x, .str y => if x.length + y.length ≤ big then some (.str (x ++ y)) else none
  | _, _ => none
theorem o_add : Op2 X (binaryOp .Add) opAdd := by
  refine op2_of (op_add.or (op_catA.or (op_cat.or op_add_str))) fun M H x y dx dy z hM r1 r2 e Q k => ?_
  unfold opAdd at e
  split at e
  · cases e
    exact .inl ⟨_, _, r1.int_inv, r2.int_inv, k _ H (Same.refl _) (.int _)⟩
  · rename_i xs ys
    obtain ⟨h1, e⟩ := if_some e
    cases e
    obtain ⟨p, vs, rfl, n1, p1, d1⟩ := r1.tup_inv
    obtain ⟨q, ws, rfl, n2, p2, d2⟩ := r2.tup_inv
    refine .inr (.inl ⟨p, q, vs, ws, rfl, rfl, SqT.of p1, SqT.of p2, by rw [d1.length, d2.length]; exact Nat.le_of_lt (big_line h1), fun z => ?_, fun _ z => ?_, fun _ _ a ha => k _ _ (same_upd ha) (.newT hM ha (d1.append d2))⟩)
    · subst z
      cases d1
      exact k _ H (Same.refl _) (.tup n2 p2 d2)
    · subst z
      cases d2
      rw [List.append_nil] at k
      exact k _ H (Same.refl _) (.tup n1 p1 d1)
  · rename_i xs ys
    obtain ⟨h1, e⟩ := if_some e
    cases e
    obtain ⟨p, vs, rfl, n1, p1, d1⟩ := r1.lst_inv
    obtain ⟨q, ws, rfl, n2, p2, d2⟩ := r2.lst_inv
    exact .inr (.inr (.inl ⟨p, q, vs, ws, rfl, rfl, p1, p2, by rw [d1.length, d2.length]; exact Nat.le_of_lt (big_line h1), fun a ha => k _ _ (same_upd ha) (.newL hM ha (d1.append d2))⟩))
  · obtain ⟨h1, e⟩ := if_some e
    cases e
    exact .inr (.inr (.inr ⟨_, _, r1.str_inv, r2.str_inv, Nat.le_of_lt (big_line h1), k _ H (Same.refl _) (.str _)⟩))
  · cases e
/-! ### * -/
def small64 (i : Int) : Bool := decide (-18446744073709551616 < i) && decide (i < 18446744073709551616)
def opMul : D → D → Option D
  | .int i, .int j => if (small64 i || small64 j) = true then some (.int (i * j)) else none
  | .tuple xs, .int k => if xs ≠ [] ∧ 2 ≤ k ∧ k ≤ 1000 ∧ xs.length ≤ 1000 then some (.tuple (List.replicate k.toNat xs).flatten) else none
  | _, _ => none
theorem small64_ok {i : Int} (h : small64 i = true) : -(2 ^ 64) < i ∧ i < 2 ^ 64 := by
  unfold small64 at h
  rw [Bool.and_eq_true, decide_eq_true_eq, decide_eq_true_eq] at h
  have e : (2 : Int) ^ 64 = 18446744073709551616 := by decide
  omega
theorem o_mul : Op2 X (binaryOp .Mult) opMul := by
  refine op2_of (op_mul.or op_repT) fun M H x y dx dy z hM r1 r2 e Q k => ?_
  unfold opMul at e
  split at e
  · obtain ⟨h1, e⟩ := if_some e
    cases e
    refine .inl ⟨_, _, r1.int_inv, r2.int_inv, ?_, k _ H (Same.refl _) (.int _)⟩
    rw [Bool.or_eq_true] at h1
    exact h1.imp small64_ok small64_ok
  · rename_i xs j
    obtain ⟨⟨h1, h2, h3, h4⟩, e⟩ := if_some e
    cases e
    obtain ⟨p, vs, rfl, n1, p1, d1⟩ := r1.tup_inv
    refine .inr ⟨p, j, vs, rfl, r2.int_inv, SqT.of p1, fun z => h1 ?_, h2, h3, by rw [d1.length]; exact h4, fun a ha => k _ _ (same_upd ha) (.newT hM ha (d1.rep _))⟩
    subst z
    cases d1
    rfl
  · cases e
/-! ### ==, !=, is -/
def sameS : D → D → Option Bool
  | .int i, .int j => some (decide (i = j))
  | .str x, .str y => some (decide (x = y))
  | .bool a, .bool b => some (decide (a = b))
  | .none, .none => some true
  | .none, .int _ => some false
  | .int _, .none => some false
  | .none, .str _ => some false
  | .str _, .none => some false
  | .none, .bool _ => some false
  | .bool _, .none => some false
  | .int _, .str _ => some false
  | .str _, .int _ => some false
  | _, _ => none
def sameD (x y : D) : Option Bool := match sameS x y with
  | some b => some b
  | none => if (SeqAt.shaped x && SeqAt.shaped y) = true then some (PyData.eqv x y) else none
def opEq (x y : D) : Option D := (sameD x y).map .bool
def opNe (x y : D) : Option D := (sameD x y).map fun b => .bool (!b)
theorem sameS_ok {M : MS} {H : Hp} {x y : V} {dx dy : D} {b : Bool} (r1 : Den M H x dx) (r2 : Den M H y dy) (e : sameS dx dy = some b) : scal x y = true ∧ decide (x = y) = b := by
  cases r1 <;> cases r2 <;> first
    | (cases e; exact ⟨rfl, rfl⟩)
    | (cases e; refine ⟨rfl, ?_⟩; simp)
    | (have e' : (none : Option Bool) = some b := e; cases e')
theorem o_eq (hu : X.A.units + 64 < cLine) : Op2 X (compareOp .Eq) opEq := by
  refine op2_of (op_eq.or (op_eqD hu)) fun M H x y dx dy z hM r1 r2 e Q k => ?_
  obtain ⟨b, e1, rfl⟩ := Option.map_eq_some_iff.mp e
  unfold sameD at e1
  split at e1
  · rename_i b' h
    cases e1
    obtain ⟨s1, s2⟩ := sameS_ok r1 r2 h
    refine .inl ⟨s1, ?_⟩
    rw [s2]
    exact k _ H (Same.refl _) (.bl _)
  · obtain ⟨h1, e1⟩ := if_some e1
    rw [Bool.and_eq_true] at h1
    subst e1
    exact .inr ⟨dx, dy, r1.dp _, r2.dp _, h1.1, h1.2, k _ H (Same.refl _) (.bl _)⟩
theorem o_ne (hu : X.A.units + 64 < cLine) : Op2 X (compareOp .NotEq) opNe := by
  refine op2_of (op_ne.or (op_neD hu)) fun M H x y dx dy z hM r1 r2 e Q k => ?_
  obtain ⟨b, e1, rfl⟩ := Option.map_eq_some_iff.mp e
  unfold sameD at e1
  split at e1
  · rename_i b' h
    cases e1
    obtain ⟨s1, s2⟩ := sameS_ok r1 r2 h
    refine .inl ⟨s1, ?_⟩
    rw [s2]
    exact k _ H (Same.refl _) (.bl _)
  · obtain ⟨h1, e1⟩ := if_some e1
    rw [Bool.and_eq_true] at h1
    subst e1
    exact .inr ⟨dx, dy, r1.dp _, r2.dp _, h1.1, h1.2, k _ H (Same.refl _) (.bl _)⟩
/-- x is None, x is True -/
def isN : D → Bool
  | .none => true
  | _ => false
def opIs : D → D → Option D
  | x, .none => some (.bool (isN x))
  | .bool a, .bool b => some (.bool (decide (a = b)))
  | _, _ => none
def opIsNot : D → D → Option D
  | x, .none => some (.bool (!isN x))
  | .bool a, .bool b => some (.bool (!decide (a = b)))
  | _, _ => none
theorem isN_ok {M : MS} {H : Hp} {x : V} {dx : D} (r : Den M H x dx) : decide (x = .non) = isN dx := by cases r <;> first | rfl | simp [isN]
theorem o_is : Op2 X (compareOp .Is) opIs := by
  refine op2_of (op_isN.or L2.op_isBl) fun M H x y dx dy z hM r1 r2 e Q k => ?_
  unfold opIs at e
  split at e
  · cases e
    refine .inl ⟨r2.non_inv, ?_⟩
    rw [isN_ok r1]
    exact k _ H (Same.refl _) (.bl _)
  · cases e
    exact .inr ⟨_, _, r1.bl_inv, r2.bl_inv, k _ H (Same.refl _) (.bl _)⟩
  · cases e
theorem o_isNot : Op2 X (compareOp .IsNot) opIsNot := by
  refine op2_of (op_notN.or L2.op_notBl) fun M H x y dx dy z hM r1 r2 e Q k => ?_
  unfold opIsNot at e
  split at e
  · cases e
    refine .inl ⟨r2.non_inv, ?_⟩
    rw [isN_ok r1]
    exact k _ H (Same.refl _) (.bl _)
  · cases e
    exact .inr ⟨_, _, r1.bl_inv, r2.bl_inv, k _ H (Same.refl _) (.bl _)⟩
  · cases e
/-! ### in, not in: flat things -/
def flatD : D → Bool
  | .none => true
  | .bool _ => true
  | .int _ => true
  | .str _ => true
  | _ => false
def itemsD : D → Option (List D)
  | .list ds => some ds
  | .tuple ds => some ds
  | _ => none
def inD (x : D) (ds : List D) : Bool := ds.any fun y => PyData.eqv y x
def opIn (x y : D) : Option D := match itemsD y with
  | some ds => if (flatD x && ds.all flatD) = true then some (.bool (inD x ds)) else none
  | none => none
def opNotIn (x y : D) : Option D := match itemsD y with
  | some ds => if (flatD x && ds.all flatD) = true then some (.bool (!inD x ds)) else none
  | none => none
theorem flat_ok {M : MS} {H : Hp} {x : V} {dx : D} (r : Den M H x dx) (h : flatD dx = true) : flatV x = true := by cases r <;> first | rfl | cases h
theorem flat_all {M : MS} {H : Hp} : ∀ {xs : List V} {ds : List D}, DenL M H xs ds → ds.all flatD = true → xs.all flatV = true
  | _, _, .nil, _ => rfl
  | _, _, .cons r t, h => by
    rw [List.all_cons, Bool.and_eq_true] at h ⊢
    exact ⟨flat_ok r h.1, flat_all t h.2⟩
theorem eqV_ok {M : MS} {H : Hp} {x y : V} {dx dy : D} (r1 : Den M H x dx) (r2 : Den M H y dy) (h1 : flatD dx = true) (h2 : flatD dy = true) : eqV x y = PyData.eqv dx dy := by
  cases r1 <;> cases r2 <;> first | rfl | cases h1 | cases h2 | simp [eqV, PyData.eqv]
theorem inV_ok {M : MS} {H : Hp} {x : V} {dx : D} (r1 : Den M H x dx) (h1 : flatD dx = true) : ∀ {xs : List V} {ds : List D}, DenL M H xs ds → ds.all flatD = true → inV x xs = inD dx ds
  | _, _, .nil, _ => rfl
  | _, _, .cons r t, h => by
    rw [List.all_cons, Bool.and_eq_true] at h
    have ih := inV_ok r1 h1 t h.2
    unfold inV inD at ih ⊢
    rw [List.any_cons, List.any_cons, eqV_ok r r1 h.1 h1, ih]
theorem o_in : Op2 X (compareOp .In) opIn := by
  refine op2_of op_in_seq fun M H x y dx dy z hM r1 r2 e Q k => ?_
  unfold opIn at e
  split at e
  · rename_i ds hi
    obtain ⟨h1, e⟩ := if_some e
    cases e
    rw [Bool.and_eq_true] at h1
    obtain ⟨p, xs, rfl, d, hp⟩ : ∃ p xs, y = .ref p ∧ DenL M H xs ds ∧ (SqL X.K H p xs ∨ SqT X.K H p xs) := by
      cases r2 with
      | lst n e r => cases hi; exact ⟨_, _, rfl, r, .inl (SqL.of e)⟩
      | tup n e r => cases hi; exact ⟨_, _, rfl, r, .inr (SqT.of e)⟩
      | _ => cases hi
    refine ⟨p, xs, rfl, hp, flat_ok r1 h1.1, flat_all d h1.2, ?_⟩
    rw [inV_ok r1 h1.1 d h1.2]
    exact k _ H (Same.refl _) (.bl _)
  · cases e
theorem o_notIn : Op2 X (compareOp .NotIn) opNotIn := by
  refine op2_of op_notIn_seq fun M H x y dx dy z hM r1 r2 e Q k => ?_
  unfold opNotIn at e
  split at e
  · rename_i ds hi
    obtain ⟨h1, e⟩ := if_some e
    cases e
    rw [Bool.and_eq_true] at h1
    obtain ⟨p, xs, rfl, d, hp⟩ : ∃ p xs, y = .ref p ∧ DenL M H xs ds ∧ (SqL X.K H p xs ∨ SqT X.K H p xs) := by
      cases r2 with
      | lst n e r => cases hi; exact ⟨_, _, rfl, r, .inl (SqL.of e)⟩
      | tup n e r => cases hi; exact ⟨_, _, rfl, r, .inr (SqT.of e)⟩
      | _ => cases hi
    refine ⟨p, xs, rfl, hp, flat_ok r1 h1.1, flat_all d h1.2, ?_⟩
    rw [inV_ok r1 h1.1 d h1.2]
    exact k _ H (Same.refl _) (.bl _)
  · cases e
/-! ### signs -/
def opNeg : D → Option D
  | .int i => some (.int (-i))
  | _ => none
theorem o_neg : Op1 X (unaryOp .USub) opNeg := ⟨_, un_neg, fun M H x dx z hM r e Q k => by
  unfold opNeg at e
  split at e
  · cases e
    exact ⟨_, r.int_inv, k _ H (Same.refl _) (.int _)⟩
  · cases e⟩
/-! ### subscripts, slices -/
def opIx (x y : D) : Option D := match itemsD x, y with
  | some ds, .int i => atI ds i
  | _, _ => none
theorem denL_at {M : MS} {H : Hp} {xs : List V} {ds : List D} (r : DenL M H xs ds) {i : Int} {d : D} (h : atI ds i = some d) : ∃ v, atI xs i = some v ∧ Den M H v d := by
  unfold atI at h ⊢
  rw [r.length]
  cases hx : ixN ds.length i with
  | none => rw [hx] at h; cases h
  | some j =>
    rw [hx] at h
    exact r.getD h
variable {a b : Expr} {fa fb : F} {pos : Pos}
theorem le_ix (ha : LE X a fa) (hb : LE X b fb) (hs : PlainIx b := by exact fun _ _ => rfl) : LE X (.Subscript a b pos) (fBin opIx fa fb) := by
  refine weakE (pe_ix ix_seq ha hb hs) fun σ H Q h => bin_can (r := rIx X.K) (fun M H x y dx dy z hM r1 r2 e Q k => ?_) h
  unfold opIx at e
  split at e
  · rename_i ds i hi
    cases r1 with
    | lst n e1 r =>
      cases hi
      obtain ⟨v, h1, h2⟩ := denL_at r e
      exact .inl ⟨_, _, i, v, rfl, r2.int_inv, SqL.of e1, h1, k _ H (Same.refl _) h2⟩
    | tup n e1 r =>
      cases hi
      obtain ⟨v, h1, h2⟩ := denL_at r e
      exact .inr (.inl ⟨_, _, i, v, rfl, r2.int_inv, SqT.of e1, h1, k _ H (Same.refl _) h2⟩)
    | _ => cases hi
  · cases e
abbrev FO := En → Option (Option Int × En)
def canO (f : FO) : TO := fun σ H Q => ∃ c o e, SOk c o σ H e ∧ ∃ i e', f e = some (i, e') ∧ ∀ H' o', SOk c o' σ H' e' → Stp c o H o' H' → Q i H'
abbrev LO (X : Cx) (e : Option Expr) (f : FO) : Prop := PO X e (canO f)
def fNoPart : FO := fun e => some (none, e)
def fPart (f : F) : FO := fun e => match f e with
  | some (.int i, e') => some (some i, e')
  | _ => none
theorem weakO {e : Option Expr} {t u : TO} (h : PO X e t) (w : ∀ σ H Q, u σ H Q → t σ H Q) : PO X e u := ⟨fun pins s σ H Q I q => h.run pins s σ H Q I (w σ H Q q)⟩
theorem lo_none : LO X none fNoPart := weakO po_none fun σ H Q ⟨c, o, e, S, i, e', hf, k⟩ => by
  cases hf
  exact k H o S .refl
theorem lo_some (h : LE X a fa) : LO X (some a) (fPart fa) := weakO (po_some h) fun σ H Q ⟨c, o, e, S, i, e', hf, k⟩ => by
  unfold fPart at hf
  split at hf
  · rename_i j e1 h1
    cases hf
    exact ⟨c, o, e, S, _, _, h1, fun v H1 o1 S1 a1 r1 => ⟨j, r1.int_inv, k H1 o1 S1 a1⟩⟩
  · cases hf
def cutD (ds : List D) (lo hi : Option Int) : List D := (ds.drop (HT.sIx ds.length 0 lo)).take (HT.sIx ds.length ds.length hi - HT.sIx ds.length 0 lo)
theorem denL_cut {M : MS} {H : Hp} {xs : List V} {ds : List D} (r : DenL M H xs ds) (lo hi : Option Int) : DenL M H (cutV xs lo hi) (cutD ds lo hi) := by
  unfold cutV cutD
  rw [r.length]
  exact (r.drop _).take _
def opCut : D → Option Int → Option Int → Option D
  | .list ds, lo, hi => some (.list (cutD ds lo hi))
  | .tuple ds, lo, hi => some (.tuple (cutD ds lo hi))
  | _, _, _ => none
def fSlice (f : F) (l h : FO) : F := fun e => (f e).bind fun p => (l p.2).bind fun q => (h q.2).bind fun r => (opCut p.1 q.1 r.1).map fun z => (z, r.2)
theorem cut_whole {xs : List D} {lo hi : Option Int} (h : HT.sIx xs.length 0 lo = 0 ∧ HT.sIx xs.length xs.length hi = xs.length) : cutD xs lo hi = xs := by
  unfold cutD
  rw [h.1, h.2]
  simp
theorem le_slice {lo hi : Option Expr} {fl fh : FO} {p2} (ha : LE X a fa) (hl : LO X lo fl) (hh : LO X hi fh) : LE X (.Subscript a (.Slice lo hi none p2) pos) (fSlice fa fl fh) := by
  refine weakE (pe_slice (sl_list.or sl_tupA) ha hl hh) fun σ H Q ⟨c, o, e, S, d, e', hf, k⟩ => ?_
  obtain ⟨⟨dx, e1⟩, h1, hf⟩ := bind_some hf
  obtain ⟨⟨i, e2⟩, h2, hf⟩ := bind_some hf
  obtain ⟨⟨j, e3⟩, h3, hf⟩ := bind_some hf
  obtain ⟨z, h4, hf⟩ := Option.map_eq_some_iff.mp hf
  obtain ⟨rfl, rfl⟩ := Prod.mk.inj hf
  refine ⟨c, o, e, S, dx, e1, h1, fun v H1 o1 S1 a1 r1 => ⟨c, o1, e1, S1, i, e2, h2, fun H2 o2 S2 a2 => ⟨c, o2, e2, S2, j, e3, h3, fun H3 o3 S3 a3 => ?_⟩⟩⟩
  have r3 := a3.den (a2.den r1)
  have a123 := (a1.trans a2).trans a3
  cases dx with
  | list ds =>
    cases h4
    obtain ⟨p, xs, rfl, n, g1, g2⟩ := r3.lst_inv
    exact .inl ⟨p, xs, rfl, SqL.of g1, fun q hq => k _ _ o3 (S3.same (same_upd hq)) (a123.trans (.same (same_upd hq))) (.newL S3.alloc hq (denL_cut g2 _ _))⟩
  | tuple ds =>
    cases h4
    obtain ⟨p, xs, rfl, n, g1, g2⟩ := r3.tup_inv
    refine .inr ⟨p, xs, rfl, SqT.of g1, fun w => ?_, fun _ q hq => k _ _ o3 (S3.same (same_upd hq)) (a123.trans (.same (same_upd hq))) (.newT S3.alloc hq (denL_cut g2 _ _))⟩
    rw [g2.length] at w
    rw [cut_whole w] at k
    exact k _ H3 o3 S3 a123 (.tup n g1 g2)
  | _ => cases h4
end

section
variable {X : Cx}
/-! ### built-ins -/
def bLen : List D → Option D
  | [.list ds] => some (.int (ds.length : Nat))
  | [.tuple ds] => some (.int (ds.length : Nat))
  | _ => none
theorem den1 {M : MS} {H : Hp} {xs : List V} {d : D} (r : DenL M H xs [d]) : ∃ v, xs = [v] ∧ Den M H v d := by
  cases r with
  | cons r t => cases t; exact ⟨_, rfl, r⟩
theorem den2 {M : MS} {H : Hp} {xs : List V} {d e : D} (r : DenL M H xs [d, e]) : ∃ v u, xs = [v, u] ∧ Den M H v d ∧ Den M H u e := by
  cases r with
  | cons r t =>
    cases t with
    | cons r' t' => cases t'; exact ⟨_, _, rfl, r, r'⟩
theorem c_len : CallD X (.builtin "len") bLen := ⟨_, call_len_seq, fun M H xs ds z hM r e Q k => by
  unfold bLen at e
  split at e
  · cases e
    obtain ⟨v, rfl, q1⟩ := den1 r
    obtain ⟨p, vs, rfl, n, h1, h2⟩ := q1.lst_inv
    refine ⟨p, vs, rfl, .inl (SqL.of h1), ?_⟩
    rw [h2.length]
    exact k _ H (Same.refl _) (.int _)
  · cases e
    obtain ⟨v, rfl, q1⟩ := den1 r
    obtain ⟨p, vs, rfl, n, h1, h2⟩ := q1.tup_inv
    refine ⟨p, vs, rfl, .inr (SqT.of h1), ?_⟩
    rw [h2.length]
    exact k _ H (Same.refl _) (.int _)
  · cases e⟩
def bAbs : List D → Option D
  | [.int i] => some (.int (if i < 0 then -i else i))
  | _ => none
theorem c_abs : CallD X (.builtin "abs") bAbs := ⟨_, call_abs, fun M H xs ds z hM r e Q k => by
  unfold bAbs at e
  split at e
  · cases e
    obtain ⟨v, rfl, q1⟩ := den1 r
    exact ⟨_, by rw [q1.int_inv], k _ H (Same.refl _) (.int _)⟩
  · cases e⟩
def bInt : List D → Option D
  | [.int i] => some (.int i)
  | [.bool b] => some (.int (if b then 1 else 0))
  | _ => none
theorem c_int : CallD X (.type "int") bInt := ⟨_, call_int1, fun M H xs ds z hM r e Q k => by
  unfold bInt at e
  split at e
  · cases e
    obtain ⟨v, rfl, q1⟩ := den1 r
    exact .inl ⟨_, by rw [q1.int_inv], k _ H (Same.refl _) (.int _)⟩
  · cases e
    obtain ⟨v, rfl, q1⟩ := den1 r
    exact .inr ⟨_, by rw [q1.bl_inv], k _ H (Same.refl _) (.int _)⟩
  · cases e⟩
/-- lists of ints, of bools -/
def intsD : List D → Option (List Int)
  | [] => some []
  | .int i :: r => (intsD r).map (i :: ·)
  | _ => none
def boolsD : List D → Option (List Bool)
  | [] => some []
  | .bool i :: r => (boolsD r).map (i :: ·)
  | _ => none
theorem intsD_ok {M : MS} {H : Hp} : ∀ {xs : List V} {ds : List D} {ns : List Int}, DenL M H xs ds → intsD ds = some ns → xs = ns.map V.int
  | _, _, _, .nil, e => by cases e; rfl
  | _, _, _, .cons (d := d) r t, e => by
    cases d with
    | int i =>
      obtain ⟨ms, h1, rfl⟩ := Option.map_eq_some_iff.mp e
      rw [r.int_inv, intsD_ok t h1]
      rfl
    | _ => cases e
theorem boolsD_ok {M : MS} {H : Hp} : ∀ {xs : List V} {ds : List D} {ns : List Bool}, DenL M H xs ds → boolsD ds = some ns → xs = ns.map V.bl
  | _, _, _, .nil, e => by cases e; rfl
  | _, _, _, .cons (d := d) r t, e => by
    cases d with
    | bool i =>
      obtain ⟨ms, h1, rfl⟩ := Option.map_eq_some_iff.mp e
      rw [r.bl_inv, boolsD_ok t h1]
      rfl
    | _ => cases e
theorem intsD_map : ∀ ns : List Int, intsD (ns.map PyData.int) = some ns
  | [] => rfl
  | n :: r => by
    show (intsD (r.map PyData.int)).map (n :: ·) = _
    rw [intsD_map r]
    rfl
theorem boolsD_map : ∀ ns : List Bool, boolsD (ns.map PyData.bool) = some ns
  | [] => rfl
  | n :: r => by
    show (boolsD (r.map PyData.bool)).map (n :: ·) = _
    rw [boolsD_map r]
    rfl
def bAll : List D → Option D
  | [.list ds] => (boolsD ds).map fun bs => .bool (bs.all id)
  | _ => none
def bAny : List D → Option D
  | [.list ds] => (boolsD ds).map fun bs => .bool (bs.any id)
  | _ => none
theorem c_all (hc : X.calm = true) : CallD X (.builtin "all") bAll := ⟨_, cr_all hc, fun M H xs ds z hM r e Q k => by
  unfold bAll at e
  split at e
  · obtain ⟨bs, h1, rfl⟩ := Option.map_eq_some_iff.mp e
    obtain ⟨v, rfl, q1⟩ := den1 r
    obtain ⟨p, vs, rfl, n, g1, g2⟩ := q1.lst_inv
    rw [boolsD_ok g2 h1] at g1
    exact ⟨p, bs, rfl, SqL.of g1, k _ H (Same.refl _) (.bl _)⟩
  · cases e⟩
theorem c_any (hc : X.calm = true) : CallD X (.builtin "any") bAny := ⟨_, cr_any hc, fun M H xs ds z hM r e Q k => by
  unfold bAny at e
  split at e
  · obtain ⟨bs, h1, rfl⟩ := Option.map_eq_some_iff.mp e
    obtain ⟨v, rfl, q1⟩ := den1 r
    obtain ⟨p, vs, rfl, n, g1, g2⟩ := q1.lst_inv
    rw [boolsD_ok g2 h1] at g1
    exact ⟨p, bs, rfl, SqL.of g1, k _ H (Same.refl _) (.bl _)⟩
  · cases e⟩
def maxL : List Int → Option Int
  | [] => none
  | x :: r => some (r.foldl max x)
def minL : List Int → Option Int
  | [] => none
  | x :: r => some (r.foldl min x)
theorem foldl_max (r : List Int) : ∀ x : Int, (r.foldl max x ∈ x :: r) ∧ ∀ y ∈ x :: r, y ≤ r.foldl max x := by
  induction r with
  | nil => intro x; simp
  | cons z r ih =>
    intro x
    obtain ⟨h1, h2⟩ := ih (max x z)
    show (r.foldl max (max x z) ∈ _) ∧ ∀ y ∈ _, y ≤ r.foldl max (max x z)
    have hb := h2 _ List.mem_cons_self
    refine ⟨?_, fun y hy => ?_⟩
    · rcases List.mem_cons.mp h1 with q | q
      · rw [q]
        rcases Int.le_total x z with h | h
        · rw [Int.max_eq_right h]; simp
        · rw [Int.max_eq_left h]; simp
      · exact List.mem_cons_of_mem _ (List.mem_cons_of_mem _ q)
    · rcases List.mem_cons.mp hy with q | hy
      · omega
      · rcases List.mem_cons.mp hy with q | q
        · omega
        · exact h2 y (List.mem_cons_of_mem _ q)
theorem foldl_min (r : List Int) : ∀ x : Int, (r.foldl min x ∈ x :: r) ∧ ∀ y ∈ x :: r, r.foldl min x ≤ y := by
  induction r with
  | nil => intro x; simp
  | cons z r ih =>
    intro x
    obtain ⟨h1, h2⟩ := ih (min x z)
    show (r.foldl min (min x z) ∈ _) ∧ ∀ y ∈ _, r.foldl min (min x z) ≤ y
    have hb := h2 _ List.mem_cons_self
    refine ⟨?_, fun y hy => ?_⟩
    · rcases List.mem_cons.mp h1 with q | q
      · rw [q]
        rcases Int.le_total x z with h | h
        · rw [Int.min_eq_left h]; simp
        · rw [Int.min_eq_right h]; simp
      · exact List.mem_cons_of_mem _ (List.mem_cons_of_mem _ q)
    · rcases List.mem_cons.mp hy with q | hy
      · omega
      · rcases List.mem_cons.mp hy with q | q
        · omega
        · exact h2 y (List.mem_cons_of_mem _ q)
theorem maxL_iff {ns : List Int} {m : Int} : maxL ns = some m ↔ m ∈ ns ∧ ∀ y ∈ ns, y ≤ m := by
  cases ns with
  | nil => simp [maxL]
  | cons x r =>
    obtain ⟨h1, h2⟩ := foldl_max r x
    constructor
    · intro h
      cases h
      exact ⟨h1, h2⟩
    · rintro ⟨g1, g2⟩
      have a := g2 _ h1
      have b := h2 _ g1
      show some _ = some _
      congr 1
      omega
theorem minL_iff {ns : List Int} {m : Int} : minL ns = some m ↔ m ∈ ns ∧ ∀ y ∈ ns, m ≤ y := by
  cases ns with
  | nil => simp [minL]
  | cons x r =>
    obtain ⟨h1, h2⟩ := foldl_min r x
    constructor
    · intro h
      cases h
      exact ⟨h1, h2⟩
    · rintro ⟨g1, g2⟩
      have a := g2 _ h1
      have b := h2 _ g1
      show some _ = some _
      congr 1
      omega
def bMax : List D → Option D
  | [.int i, .int j] => some (.int (if j > i then j else i))
  | [.list ds] => (intsD ds).bind fun ns => (maxL ns).map .int
  | _ => none
def bMin : List D → Option D
  | [.int i, .int j] => some (.int (if j < i then j else i))
  | [.list ds] => (intsD ds).bind fun ns => (minL ns).map .int
  | _ => none
theorem c_max (hc : X.calm = true) : CallD X (.builtin "max") bMax := ⟨_, (call_max2 hc).or (cr_max hc), fun M H xs ds z hM r e Q k => by
  unfold bMax at e
  split at e
  · cases e
    obtain ⟨v, u, rfl, r1, r2⟩ := den2 r
    exact .inl ⟨_, _, by rw [r1.int_inv, r2.int_inv], k _ H (Same.refl _) (.int _)⟩
  · obtain ⟨ns, h1, e⟩ := bind_some e
    obtain ⟨m, h2, rfl⟩ := Option.map_eq_some_iff.mp e
    obtain ⟨v, rfl, q1⟩ := den1 r
    obtain ⟨p, vs, rfl, n, g1, g2⟩ := q1.lst_inv
    rw [intsD_ok g2 h1] at g1
    refine .inr ⟨p, ns, rfl, SqL.of g1, ?_, fun m' k1 k2 => ?_⟩
    · cases ns with
      | nil => cases h2
      | cons _ _ => exact Nat.succ_pos _
    · have : maxL ns = some m' := maxL_iff.mpr ⟨k1, k2⟩
      rw [h2] at this
      cases this
      exact k _ H (Same.refl _) (.int _)
  · cases e⟩
theorem c_min (hc : X.calm = true) : CallD X (.builtin "min") bMin := ⟨_, (call_min2 hc).or (cr_min hc), fun M H xs ds z hM r e Q k => by
  unfold bMin at e
  split at e
  · cases e
    obtain ⟨v, u, rfl, r1, r2⟩ := den2 r
    exact .inl ⟨_, _, by rw [r1.int_inv, r2.int_inv], k _ H (Same.refl _) (.int _)⟩
  · obtain ⟨ns, h1, e⟩ := bind_some e
    obtain ⟨m, h2, rfl⟩ := Option.map_eq_some_iff.mp e
    obtain ⟨v, rfl, q1⟩ := den1 r
    obtain ⟨p, vs, rfl, n, g1, g2⟩ := q1.lst_inv
    rw [intsD_ok g2 h1] at g1
    refine .inr ⟨p, ns, rfl, SqL.of g1, ?_, fun m' k1 k2 => ?_⟩
    · cases ns with
      | nil => cases h2
      | cons _ _ => exact Nat.succ_pos _
    · have : minL ns = some m' := minL_iff.mpr ⟨k1, k2⟩
      rw [h2] at this
      cases this
      exact k _ H (Same.refl _) (.int _)
  · cases e⟩
def bSum : List D → Option D
  | [x] => (itemsD x).bind fun ds => (intsD ds).map fun ns => .int ns.sum
  | _ => none
def rSumT (K : PySem.W.Frag) : List V → Hp → VK → Prop := fun vs H Q => ∃ (a : Addr) (ns : List Int), vs = [V.ref a] ∧ SqT K H a (ns.map V.int) ∧ Q (.int ns.sum) H
theorem cr_sumT (hc : X.calm = true) : CallR X (.builtin "sum") (rSumT X.K) := by
  intro pins s σ H vs us Q I r h
  obtain ⟨a, ns, rfl, hs, q⟩ := h
  obtain ⟨its, rv, hl, _⟩ := I.tuple hs
  rw [Vals.ref1 r]
  obtain ⟨xs, hx⟩ := rv.ints.allInts.items
  have hl2 : s.heap.IsTuple a its.toArray := hl
  have hn : numsOf its.toArray.toList = ns := by rw [show its.toArray.toList = its from rfl, rv.ints.numsOf]
  rw [hx] at hl2 hn
  rw [nums_intItems] at hn
  refine PySem.W.ktm_sumG (I.ok.hd hc) hl2 fun h' tk t' hk => ⟨.int ns.sum, H, I.kept hk, ⟨t', ?_⟩, q⟩
  rw [preSum_eq, List.take_of_length_le (by simp), hn]
theorem c_sum (hc : X.calm = true) : CallD X (.builtin "sum") bSum := ⟨_, (cr_sum hc).or (cr_sumT hc), fun M H xs ds z hM r e Q k => by
  unfold bSum at e
  split at e
  · obtain ⟨es, h1, e⟩ := bind_some e
    obtain ⟨ns, h2, rfl⟩ := Option.map_eq_some_iff.mp e
    obtain ⟨v, rfl, q1⟩ := den1 r
    cases q1 with
    | lst n e1 q2 =>
      cases h1
      rw [intsD_ok q2 h2] at e1
      exact .inl ⟨_, ns, rfl, SqL.of e1, k _ H (Same.refl _) (.int _)⟩
    | tup n e1 q2 =>
      cases h1
      rw [intsD_ok q2 h2] at e1
      exact .inr ⟨_, ns, rfl, SqT.of e1, k _ H (Same.refl _) (.int _)⟩
    | _ => cases h1
  · cases e⟩
def bTuple : List D → Option D
  | [x] => (itemsD x).map .tuple
  | _ => none
theorem c_tuple : CallD X (.type "tuple") bTuple := ⟨_, call_tuple_of, fun M H xs ds z hM r e Q k => by
  unfold bTuple at e
  split at e
  · obtain ⟨es, h1, rfl⟩ := Option.map_eq_some_iff.mp e
    obtain ⟨v, rfl, q1⟩ := den1 r
    cases q1 with
    | lst n e1 q2 =>
      cases h1
      exact ⟨_, _, rfl, .inl ⟨SqL.of e1, fun l hl => k _ _ (same_upd hl) (.newT hM hl q2)⟩⟩
    | tup n e1 q2 =>
      cases h1
      exact ⟨_, _, rfl, .inr ⟨SqT.of e1, k _ H (Same.refl _) (.tup n e1 q2)⟩⟩
    | _ => cases h1
  · cases e⟩
def bList : List D → Option D
  | [x] => (itemsD x).map .list
  | _ => none
theorem c_list : CallD X (.type "list") bList := ⟨_, call_list_of, fun M H xs ds z hM r e Q k => by
  unfold bList at e
  split at e
  · obtain ⟨es, h1, rfl⟩ := Option.map_eq_some_iff.mp e
    obtain ⟨v, rfl, q1⟩ := den1 r
    cases q1 with
    | lst n e1 q2 =>
      cases h1
      exact ⟨_, _, rfl, .inl (SqL.of e1), fun l hl => k _ _ (same_upd hl) (.newL hM hl q2)⟩
    | tup n e1 q2 =>
      cases h1
      exact ⟨_, _, rfl, .inr (SqT.of e1), fun l hl => k _ _ (same_upd hl) (.newL hM hl q2)⟩
    | _ => cases h1
  · cases e⟩
end
end L3

/-! L3: isinstance, repr, zip of any mix, enumerate, several names at once, the pot's own statements. -/
namespace L3
open PySem PySem.Spec PyProof.Rows L2

section
variable {X : Cx} {a : Expr} {fa : F} {pos : Pos}
/-! ### isinstance -/
def kindD : D → String
  | .none => "NoneType"
  | .bool _ => "bool"
  | .int _ => "int"
  | .str _ => "str"
  | .list _ => "list"
  | .tuple _ => "tuple"
  | .dict _ => "dict"
def isiD (T : String) (d : D) : Option Bool := kitB (kindD d) T
def fIsi (T : String) (fa : F) : F := fun e => (fa e).bind fun p => (isiD T p.1).map fun b => (.bool b, p.2)
theorem den_ty {K : PySem.W.Frag} {M : MS} {H : Hp} {v : V} {d : D} (r : Den M H v d) : TyX K H v (.type (kindD d)) := by
  cases r with
  | non => exact .base .non
  | bl b => exact .base (.bl b)
  | int i => exact .base (.int i)
  | str x => exact .base (.str x)
  | lst n e _ => exact .base (.lst e)
  | tup n e _ => exact .base (.tup e)
theorem le_isi {T : String} {t : Str} {p q : Pos} (hg : Gl X "isinstance") (hm : X.mg "isinstance" = none) (hg2 : Gl X t) (hm2 : X.mg t = none) (hv2 : bootBuiltins t = some (.type T)) (ha : LE X a fa)
    (hn : t ≠ "__name__" := by decide) (hd : (t == ("__debug__" : Str)) = false := by decide) (hs : starEach [a, .Name t q] X.env = (false, eval a X.env) :: starEach [.Name t q] X.env := by rfl) (hs2 : starEach [.Name t q] X.env = (false, eval (.Name t q) X.env) :: starEach [] X.env := by rfl)
    (hpl : (backTo pos (starEach [.Name t q] X.env)).any (·.1) = false := by rfl) : LE X (.Call (.Name "isinstance" p) [a, .Name t q] [] pos) (fIsi T fa) := by
  refine weakE (pe_callB call_isi hg hm (by decide +kernel) (pa_cons ha (pa_cons (pe_bltn (v := .ty T) hg2 hm2 hv2 rfl hn hd) pa_nil hs2) hs) (by decide) (by decide) hs hpl) fun σ H Q h => ?_
  obtain ⟨c, o, e, S, d, e', hf, k⟩ := h
  obtain ⟨⟨dx, e1⟩, h1, hf⟩ := bind_some hf
  obtain ⟨b, h2, hf⟩ := Option.map_eq_some_iff.mp hf
  obtain ⟨rfl, rfl⟩ := Prod.mk.inj hf
  exact ⟨c, o, e, S, dx, e1, h1, fun v H1 o1 S1 a1 r1 => ⟨v, .ty T, _, _, b, rfl, .ty T, den_ty r1, kit_ty h2, k _ H1 o1 S1 a1 (.bl b)⟩⟩
/-! ### repr -/
def okRepr (d : D) : Bool := d.showable && !d.hasDict && decide (d.depth ≤ 60) && decide (d.shown.length ≤ big)
def bRepr : List D → Option D
  | [d] => if okRepr d = true then some (.str d.shown) else none
  | _ => none
theorem call_reprD (hgd : X.A.guards = some []) (hu : X.A.units + 64 < cLine) : CallR X (.builtin "repr") (fun xs H Q => ∃ x d, xs = [x] ∧ Dp X.K H x d ∧ okRepr d = true ∧ Q (.str d.shown) H) := by
  intro pins s σ H xs us Q I r h
  obtain ⟨x, d, rfl, hd, hok, q⟩ := h
  obtain ⟨u, rfl, ru⟩ := vals1 r
  unfold okRepr at hok
  simp only [Bool.and_eq_true, Bool.not_eq_true', decide_eq_true_eq] at hok
  obtain ⟨⟨⟨h1, h2⟩, h3⟩, h4⟩ := hok
  have hz : d.shown.length ≤ sizeLine := Nat.le_of_lt (big_line h4)
  obtain ⟨as, rr⟩ := Dp.reads I d x u hd ru
  have fin : ∀ h' k tk, (∀ b o, s.heap.get? b = some o → h'.get? b = some o) → EP X pins σ Q (.str d.shown k) { s with heap := h', toks := tk } := fun h' k tk hk => ⟨.str _, H, I.kept hk, ⟨_, rfl⟩, q⟩
  cases hd with
  | non => cases ru; exact PySem.P.repr_of_none (fin s.heap _ _ fun _ _ e => e)
  | bl b => cases ru; exact PySem.P.repr_of_bool (fin s.heap _ _ fun _ _ e => e)
  | int i =>
    obtain ⟨t, rfl⟩ := ru
    exact PySem.P.repr_of_int (by simpa [PyData.showable] using h1) (fin s.heap _ _ fun _ _ e => e)
  | str z =>
    obtain ⟨t, rfl⟩ := ru
    exact PySem.P.repr_of_str (fin s.heap _ _ fun _ _ e => e) hz
  | lst _ _ =>
    cases ru
    exact repr_of_reads' rr h1 (PyData.noDict_hsm h2) hgd (by omega) (fun _ _ e => e) (fun h' k tk hk => fin h' k tk hk) hz
  | tup _ _ =>
    cases ru
    exact repr_of_reads' rr h1 (PyData.noDict_hsm h2) hgd (by omega) (fun _ _ e => e) (fun h' k tk hk => fin h' k tk hk) hz
theorem c_repr (hgd : X.A.guards = some []) (hu : X.A.units + 64 < cLine) : CallD X (.builtin "repr") bRepr := ⟨_, call_reprD hgd hu, fun M H xs ds z hM r e Q k => by
  unfold bRepr at e
  split at e
  · obtain ⟨h1, e⟩ := if_some e
    cases e
    obtain ⟨v, rfl, q1⟩ := den1 r
    exact ⟨v, _, rfl, q1.dp _, h1, k _ H (Same.refl _) (.str _)⟩
  · cases e⟩
end

/-! ### zip of a tuple and a list -/
def ItzM (K : PySem.W.Frag) (a b : Addr) : It :=
  ⟨fun i H => ∃ (xs ys : List V) (x y : V), SqT K H a xs ∧ SqL K H b ys ∧ xs[i]? = some x ∧ ys[i]? = some y,
    fun i H v H' => ∃ T x y, v = .ref T ∧ H T = none ∧ H' = upd H T (.tup [x, y]) ∧ (∀ xs, SqT K H a xs → xs[i]? = some x) ∧ ∀ ys, SqL K H b ys → ys[i]? = some y,
    fun i H => ∃ xs ys : List V, SqT K H a xs ∧ SqL K H b ys ∧ i ≤ xs.length ∧ i ≤ ys.length ∧ (i = xs.length ∨ i = ys.length)⟩
theorem turn_zipM {P : Program} {w : World} {K : PySem.W.Frag} {elts : List Expr} {kk : Nat} {tpos : Pos} {a b z TI TO i1 i2 : Addr} (Z : ZipSep2 z TI TO i1 i2 [i1, a] [i2, b]) (ha : a ≠ i1) (hb : b ≠ i2) :
    Turn P w K (.Tuple elts kk tpos) (ItzM K a b) [z, TI, TO, i1, i2] z (fun i h => IsZip h z TI TO .none ∧ IsTupOf2 h TI (.ref i1) (.ref i2) ∧ (∃ x y, IsTupOf2 h TO x y) ∧ h.IsTupleIter i1 a i ∧ h.IsListIter i2 b i) where
  mem := List.mem_cons_self
  obj := fun i h st cc hc => by
    obtain ⟨hz, hTI, ⟨x, y, hTO⟩, ⟨o1, e1, _, d1⟩, ⟨o2, e2, _, d2⟩⟩ := st
    have e' : cc = z ∨ cc = TI ∨ cc = TO ∨ cc = i1 ∨ cc = i2 := by simpa using hc
    rcases e' with rfl | rfl | rfl | rfl | rfl
    · exact ⟨_, hz, fun v q => nomatch q⟩
    · exact ⟨_, hTI, fun v q => nomatch q⟩
    · exact ⟨_, hTO, fun v q => nomatch q⟩
    · exact ⟨o1, e1, fun v q => by rw [d1] at q; cases q⟩
    · exact ⟨o2, e2, fun v q => by rw [d2] at q; cases q⟩
  keep := fun i h h' st k => by
    obtain ⟨hz, hTI, ⟨x, y, hTO⟩, h1, h2⟩ := st
    exact ⟨k z (by simp) _ hz, k TI (by simp) _ hTI, ⟨x, y, k TO (by simp) _ hTO⟩, h1.at fun o q => k i1 (by simp) o q, h2.at fun o q => k i2 (by simp) o q⟩
  item := by
    intro X hP hw hK hc i pins s σ H E I hf st hg
    subst hP hw hK
    obtain ⟨hz, hTI, ⟨x0, y0, hTO⟩, h1, h2⟩ := st
    obtain ⟨xs, ys, x, y, hqx, hqy, hx, hy⟩ := hg
    obtain ⟨its, rv, p, _⟩ := I.tuple hqx
    obtain ⟨its2, rv2, p2, _⟩ := I.list hqy
    obtain ⟨u, hu, ru⟩ := rv.get hx
    obtain ⟨u2, hu2, ru2⟩ := rv2.get hy
    have hzl : z < s.heap.objs.size := Heap.lt_size hz
    have hh : X.A.in1.handled = none := I.ok.hd hc
    have l1 : i < its.toArray.size := by simpa using (List.getElem?_eq_some_iff.mp hu).1
    have l2 : i < its2.toArray.size := by simpa using (List.getElem?_eq_some_iff.mp hu2).1
    refine wpAny_pyNext_zipD2_item Z (Draws.tuple hh i1 a ha its.toArray) (Draws.list hh i2 b hb its2.toArray) hz hTI hTO ⟨h1, p⟩ ⟨h2, p2.isList⟩ l1 l2 fun y1 y2 h' tk q1 q2 z' TO' s1' s2' hT hsz hk => ?_
    have e1 : y1 = u := by
      have q1' : its[i]? = some y1 := by simpa using q1
      rw [hu] at q1'
      exact (Option.some.inj q1').symm
    have e2 : y2 = u2 := by
      have q2' : its2[i]? = some y2 := by simpa using q2
      rw [hu2] at q2'
      exact (Option.some.inj q2').symm
    subst e1 e2
    refine ⟨_, rfl, wpAny_letOwnedTupleGo_zip (s := { s with heap := h', toks := tk }) z' fun h'' z'' sb => ?_⟩
    have hT2 : h''.get? s.heap.objs.size = some { cls := .type "tuple", data := .seq #[y1, y2] } := (sb.2 _ (Nat.ne_of_gt hzl)).trans hT
    have new : ObjOk X.prog X.w (upd H s.heap.objs.size (.tup [x, y])) h'' s.heap.objs.size (.tup [x, y]) :=
      ⟨by show 2 ≤ sizeLine; decide, [y1, y2], .cons ru (.cons ru2 .nil), ⟨_, hT2, rfl, _, rfl⟩⟩
    have I1 : Inv X pins σ (upd H s.heap.objs.size (.tup [x, y])) { s with heap := h'', toks := tk } :=
      I.turnedNew (t' := tk) (ch := [z, TI, TO, i1, i2]) (fun cc o hb q => (sb.2 cc (fun q' => hb (by simp [q']))).trans (hk cc o (fun q' => hb (by simp [q'])) (fun q' => hb (by simp [q'])) (fun q' => hb (by simp [q'])) (fun q' => hb (by simp [q'])) q)) hf (Nat.le_refl _) new
    refine ⟨.ref s.heap.objs.size, _, I1, rfl, ⟨_, x, y, rfl, I.hok.fresh (Nat.le_refl _), rfl, fun l hl => by rw [I.tuple_inj hl hqx]; exact hx, fun l hl => by rw [I.list_inj hl hqy]; exact hy⟩, ⟨z'', ?_, ⟨y1, y2, ?_⟩, ?_, ?_⟩, fun cc hcm => ?_⟩
    · exact (sb.2 _ Z.TIz).trans (hk _ _ Z.TIz Z.TITO Z.TIi1 Z.TIi2 hTI)
    · exact (sb.2 _ Z.TOz).trans TO'
    · exact s1'.1.at fun o q => (sb.2 _ (Ne.symm Z.zi1)).trans q
    · exact s2'.1.at fun o q => (sb.2 _ (Ne.symm Z.zi2)).trans q
    · have hlt : cc < s.heap.objs.size := by
        have e' : cc = z ∨ cc = TI ∨ cc = TO ∨ cc = i1 ∨ cc = i2 := by simpa using hcm
        rcases e' with rfl | rfl | rfl | rfl | rfl
        · exact hzl
        · exact Heap.lt_size hTI
        · exact Heap.lt_size hTO
        · obtain ⟨_, e1, _⟩ := h1; exact Heap.lt_size e1
        · obtain ⟨_, e2, _⟩ := h2; exact Heap.lt_size e2
      rw [upd_ne (Nat.ne_of_lt hlt)]
      exact (hf cc hcm).1
  done := by
    intro X hP hw hK hc i pins s σ H E I hf st hg
    subst hP hw hK
    obtain ⟨hz, hTI, ⟨x0, y0, hTO⟩, h1, h2⟩ := st
    obtain ⟨xs, ys, hqx, hqy, hl1, hl2, hend⟩ := hg
    obtain ⟨its, rv, p, _⟩ := I.tuple hqx
    obtain ⟨its2, rv2, p2, _⟩ := I.list hqy
    have hh : X.A.in1.handled = none := I.ok.hd hc
    have e1 : its.toArray.size = xs.length := by rw [List.size_toArray, rv.length]
    have e2 : its2.toArray.size = ys.length := by rw [List.size_toArray, rv2.length]
    exact wpAny_pyNext_zipD2_end Z (Draws.tuple hh i1 a ha its.toArray) (Draws.list hh i2 b hb its2.toArray) hz hTI hTO ⟨h1, p⟩ ⟨h2, p2.isList⟩ (by omega) (by omega) (by omega) fun h' tk hk => ⟨rfl, I.turnedL (t' := tk) (ch := [z, TI, TO, i1, i2]) (fun cc o hb q =>
      hk cc o (fun q' => hb (by simp [q'])) (fun q' => hb (by simp [q'])) (fun q' => hb (by simp [q'])) (fun q' => hb (by simp [q'])) q) hf⟩
  self := fun A i s Q E st h => wpAny_pyIter_zip st.1 h
def iZipM (K : PySem.W.Frag) (ta : TA) : TI := fun σ H R => ta σ H fun vs H1 => ∃ a b xs ys, vs = [.ref a, .ref b] ∧ SqT K H1 a xs ∧ SqL K H1 b ys ∧ R (ItzM K a b) H1
theorem pi_zipM {X : Cx} {e e2 : Expr} {ta : TA} {p pos tpos : Pos} {elts : List Expr} {kk : Nat} (hg : Gl X "zip") (hm : X.mg "zip" = none) (ha : PA X [e, e2] ta)
    (hs : starEach [e, e2] X.env = (false, eval e X.env) :: starEach [e2] X.env := by rfl) (hpl : (backTo pos (starEach [e2] X.env)).any (·.1) = false := by rfl) :
    PI X (.Tuple elts kk tpos) (.Call (.Name "zip" p) [e, e2] [] pos) (iZipM X.K ta) := by
  constructor
  intro pins s σ H R I h
  refine Call_ (ld_blt I hg hm PyProof.Rows.boot_zip (PyProof.Rows.callWith_type1 (thn (ha.run pos pins s σ H _ I h) fun us s1 ⟨vs, H1, I1, r1, q1⟩ => ?_) hs hpl))
  obtain ⟨a, b, xs, ys, rfl, hqx, hqy, q⟩ := q1
  obtain ⟨u1, u2, rfl, r1, r2⟩ := vals2 r1
  cases r1
  cases r2
  obtain ⟨its, rv, p1, _⟩ := I1.tuple hqx
  obtain ⟨its2, rv2, p2, _⟩ := I1.list hqy
  obtain ⟨o1, ho1, _⟩ := id p1
  obtain ⟨o2, ho2, _⟩ := id p2.isList
  have la := Heap.lt_size ho1
  have lb := Heap.lt_size ho2
  have fresh5 : ∀ cc, cc ∈ [s1.heap.objs.size + 4, s1.heap.objs.size + 2, s1.heap.objs.size + 3, s1.heap.objs.size, s1.heap.objs.size + 1] → FpOk X pins H1 cc := fun cc hcm => by
    have hle : s1.heap.objs.size ≤ cc := by
      simp only [List.mem_cons, List.not_mem_nil, or_false] at hcm
      rcases hcm with rfl | rfl | rfl | rfl | rfl
      · exact Nat.le_add_right _ _
      · exact Nat.le_add_right _ _
      · exact Nat.le_add_right _ _
      · exact Nat.le_refl _
      · exact Nat.le_add_right _ _
    exact I1.fpOk hle (I1.hok.fresh hle)
  refine zip_begins2 (begins_tuple a its.toArray) (begins_list b its2.toArray) p1 p2.isList fun h' hz hTI hTO g1 g2 hsz hk => wpAny_pyIter_zip hz ?_
  have I2 : Inv X pins σ H1 { s1 with heap := h' } := I1.kept (t' := s1.toks) hk
  refine ⟨s1.heap.objs.size + 4, [s1.heap.objs.size + 4, s1.heap.objs.size + 2, s1.heap.objs.size + 3, s1.heap.objs.size, s1.heap.objs.size + 1], _, _, H1, rfl, I2,
    turn_zipM (zip_sep2 (N := s1.heap.objs.size) (fp1 := [a]) (fp2 := [b]) (fun c hc => by rw [List.mem_singleton.mp hc]; exact la) fun c hc => by rw [List.mem_singleton.mp hc]; exact lb) (Nat.ne_of_lt la) (Nat.ne_of_lt (Nat.lt_succ_of_lt lb)),
    ⟨hz, hTI, ⟨_, _, hTO⟩, ⟨_, g1, rfl, rfl⟩, ⟨_, g2, rfl, rfl⟩⟩, fresh5, q⟩
section
variable {X : Cx} {e e2 : Expr} {p pos tpos : Pos} {elts : List Expr} {kk : Nat} {fa : FA}
def fZip (fa : FA) : FI := fun e => (fa e).bind fun p => match p.1 with
  | [.list xs, .list ys] => some (zipD xs ys, p.2)
  | [.tuple xs, .tuple ys] => some (zipD xs ys, p.2)
  | [.tuple xs, .list ys] => some (zipD xs ys, p.2)
  | _ => none
theorem li_zip (hg : Gl X "zip") (hm : X.mg "zip" = none) (ha : LA X [e, e2] fa)
    (hs : starEach [e, e2] X.env = (false, eval e X.env) :: starEach [e2] X.env := by rfl) (hpl : (backTo pos (starEach [e2] X.env)).any (·.1) = false := by rfl) :
    LI X (.Tuple elts kk tpos) (.Call (.Name "zip" p) [e, e2] [] pos) (fZip fa) :=
  weakI (PI.or (RZ.pi_zipA hg hm ha hs hpl) (pi_zipM hg hm ha hs hpl)) fun σ H R ⟨c, o, en, S, ds, e', hf, k⟩ => by
    obtain ⟨⟨as, e1⟩, h1, hf⟩ := bind_some hf
    simp only at hf
    split at hf
    · rename_i xs ys
      cases hf
      refine .inl ⟨c, o, en, S, _, _, h1, fun vs H1 o1 S1 a1 r1 => ?_⟩
      obtain ⟨v, u, rfl, r1, r2⟩ := den2 r1
      obtain ⟨a, vs, rfl, n1, g1, d1⟩ := r1.lst_inv
      obtain ⟨b, us, rfl, n2, g2, d2⟩ := r2.lst_inv
      exact ⟨a, b, vs, us, rfl, .inl ⟨SqL.of g1, SqL.of g2, k _ H1 o1 S1 a1 (walks_pairs d1 d2 (walk_zip rfl) fun M2 H2 st => ⟨SqL.of (st.1 _ _ g1 n1), SqL.of (st.1 _ _ g2 n2)⟩)⟩⟩
    · rename_i xs ys
      cases hf
      refine .inl ⟨c, o, en, S, _, _, h1, fun vs H1 o1 S1 a1 r1 => ?_⟩
      obtain ⟨v, u, rfl, r1, r2⟩ := den2 r1
      obtain ⟨a, vs, rfl, n1, g1, d1⟩ := r1.tup_inv
      obtain ⟨b, us, rfl, n2, g2, d2⟩ := r2.tup_inv
      refine ⟨a, b, vs, us, rfl, .inr ⟨SqT.of g1, SqT.of g2, k _ H1 o1 S1 a1 (walks_pairs (G := fun H => SqT X.K H a vs ∧ SqT X.K H b us) d1 d2 ⟨fun i H hi q => ?_, fun H q => ?_, fun i H x H' hi q y => ?_⟩ fun M2 H2 st => ⟨SqT.of (st.1 _ _ g1 n1), SqT.of (st.1 _ _ g2 n2)⟩)⟩⟩
      · have l1 : i < vs.length := by omega
        have l2 : i < us.length := by omega
        exact ⟨vs, us, _, _, q.1, q.2, List.getElem?_eq_getElem l1, List.getElem?_eq_getElem l2⟩
      · exact ⟨vs, us, q.1, q.2, by omega⟩
      · obtain ⟨T, x1, y1, y2, y3, y4, y5, y6⟩ := y
        exact ⟨T, x1, y1, y2, y3, y4, y5 _ q.1, y6 _ q.2⟩
    · rename_i xs ys
      cases hf
      refine .inr ⟨c, o, en, S, _, _, h1, fun vs H1 o1 S1 a1 r1 => ?_⟩
      obtain ⟨v, u, rfl, r1, r2⟩ := den2 r1
      obtain ⟨a, vs, rfl, n1, g1, d1⟩ := r1.tup_inv
      obtain ⟨b, us, rfl, n2, g2, d2⟩ := r2.lst_inv
      refine ⟨a, b, vs, us, rfl, SqT.of g1, SqL.of g2, k _ H1 o1 S1 a1 (walks_pairs (G := fun H => SqT X.K H a vs ∧ SqL X.K H b us) d1 d2 ⟨fun i H hi q => ?_, fun H q => ?_, fun i H x H' hi q y => ?_⟩ fun M2 H2 st => ⟨SqT.of (st.1 _ _ g1 n1), SqL.of (st.1 _ _ g2 n2)⟩)⟩
      · have l1 : i < vs.length := by omega
        have l2 : i < us.length := by omega
        exact ⟨vs, us, _, _, q.1, q.2, List.getElem?_eq_getElem l1, List.getElem?_eq_getElem l2⟩
      · exact ⟨vs, us, q.1, q.2, by omega, by omega, by omega⟩
      · obtain ⟨T, x1, y1, y2, y3, y4, y5, y6⟩ := y
        exact ⟨T, x1, y1, y2, y3, y4, y5 _ q.1, y6 _ q.2⟩
    · cases hf
def fEnum (fa : FA) : FI := fun e => (fa e).bind fun p => match p.1 with
  | [.list xs] => some (enumD 0 xs, p.2)
  | _ => none
theorem li_enum (hg : Gl X "enumerate") (hm : X.mg "enumerate" = none) (ha : LA X [e] fa) (hs : starEach [e] X.env = [(false, eval e X.env)] := by rfl) :
    LI X (.Tuple elts kk tpos) (.Call (.Name "enumerate" p) [e] [] pos) (fEnum fa) :=
  weakI (pi_enum hg hm ha hs) fun σ H R ⟨c, o, en, S, ds, e', hf, k⟩ => by
    obtain ⟨⟨as, e1⟩, h1, hf⟩ := bind_some hf
    simp only at hf
    split at hf
    · rename_i xs
      cases hf
      refine ⟨c, o, en, S, _, _, h1, fun vs H1 o1 S1 a1 r1 => ?_⟩
      obtain ⟨v, rfl, q1⟩ := den1 r1
      obtain ⟨a, vs, rfl, n1, g1, d1⟩ := q1.lst_inv
      exact ⟨a, vs, rfl, SqL.of g1, k _ H1 o1 S1 a1 (walks_enum n1 g1 d1)⟩
    · cases hf
end
end L3

/-! L3: several names at once (with lists of their own), the pot's own words. -/
namespace L3
open PySem PySem.Spec PyProof.Rows L2

/-! ### x, y = .., with new lists -/
inductive RV where
  | dat (d : D) | new (ds : List D)
abbrev FR := En → Option (List RV × En)
def RVOk (M : MS) (H : Hp) (v : V) : RV → Option Addr → Prop
  | .dat d, none => Den M H v d
  | .new ds, some p => v = .ref p ∧ ∃ ws, H p = some (.lst ws) ∧ DenL M H ws ds
  | _, _ => False
inductive R3 (M : MS) (H : Hp) : List V → List RV → List (Option Addr) → Prop
  | nil : R3 M H [] [] []
  | cons {v : V} {r : RV} {p : Option Addr} {vs : List V} {rs : List RV} {ps : List (Option Addr)} : RVOk M H v r p → R3 M H vs rs ps → (∀ q, p = some q → some q ∉ ps) → R3 M H (v :: vs) (r :: rs) (p :: ps)
def newOf (ps : List (Option Addr)) : MS := fun b => some b ∈ ps
def canR (f : FR) : TA := fun σ H Q => ∃ c o e, SOk c o σ H e ∧ ∃ rs e', f e = some (rs, e') ∧ ∀ vs H' o' ps, SOk (c.add (newOf ps)) o' σ H' e' → Stp c o H o' H' → R3 ((c.add (newOf ps)).M o') H' vs rs ps →
  (∀ b, newOf ps b → H b = none ∧ ¬ c.M o' b) → Q vs H'
abbrev LR (X : Cx) (es : List Expr) (f : FR) : Prop := PA X es (canR f)
def fRNil : FR := fun e => some ([], e)
def fRDat (f : F) (r : FR) : FR := fun e => (f e).bind fun p => (r p.2).bind fun q => some (.dat p.1 :: q.1, q.2)
def fRNew (f : FA) (r : FR) : FR := fun e => (f e).bind fun p => if p.1.length ≤ big then (r (p.2.inner [])).bind fun q => some (.new p.1 :: q.1, p.2.po q.2.pot) else none
section
variable {M M' : MS} {H H' : Hp}
theorem RVOk.less (hM : ∀ b, M' b → M b) {v : V} {r : RV} {p : Option Addr} (h : RVOk M H v r p) : RVOk M' H v r p := by
  cases r with
  | dat d =>
    cases p with
    | none => exact Den.less hM h
    | some q => exact h.elim
  | new ds =>
    cases p with
    | none => exact h.elim
    | some q =>
      obtain ⟨rfl, ws, h1, h2⟩ := h
      exact ⟨rfl, ws, h1, h2.less hM⟩
theorem R3.less (hM : ∀ b, M' b → M b) : ∀ {vs : List V} {rs : List RV} {ps : List (Option Addr)}, R3 M H vs rs ps → R3 M' H vs rs ps
  | _, _, _, .nil => .nil
  | _, _, _, .cons h t n => .cons (h.less hM) (R3.less hM t) n
end
section
variable {X : Cx} {e : Expr} {es fs : List Expr} {fe : F} {fa : FA} {fr : FR} {pos : Pos}
theorem add_nil {c : Ctx} : c.add (newOf []) = c := by
  obtain ⟨m, h, p⟩ := c
  have : (fun b => m b ∨ newOf [] b) = m := by
    funext b
    simp [newOf]
  unfold Ctx.add
  rw [this]
theorem add_none {c : Ctx} {ps : List (Option Addr)} : c.add (newOf (none :: ps)) = c.add (newOf ps) := by
  unfold Ctx.add newOf
  simp
theorem SOk.unadd {c : Ctx} {E : MS} {o : OS} {σ : L2.St} {H : Hp} {e : En} (S : SOk (c.add E) o σ H e) : SOk c o σ H e where
  len := S.len
  slot := fun i sd h => by
    have q := S.slot i sd h
    have hM : ∀ b, c.M o b → (c.add E).M o b := fun b h => M_add.mpr (.inl h)
    cases sd with
    | un => exact q
    | pot => exact q
    | dat d => exact ⟨q.1, let ⟨v, e1, r⟩ := q.2; ⟨v, e1, r.less hM⟩⟩
    | own ds =>
      obtain ⟨p, vs, h1, h2, h3, h4⟩ := q
      exact ⟨p, vs, h1, h2, h3, h4.less hM⟩
  out := S.out
  inj := S.inj
  fresh := fun i p h => ⟨(S.fresh i p h).1, fun z => (S.fresh i p h).2 (.inl z)⟩
  keep := S.keep
  mc := fun b h => S.mc b (.inl h)
  dom := S.dom
  pot := S.pot
theorem lr_nil : LR X [] fRNil := weakA pa_nil fun σ H Q ⟨c, o, en, S, rs, e', hf, k⟩ => by
  obtain ⟨rfl, rfl⟩ := Prod.mk.inj (Option.some.inj hf)
  exact k [] H o [] (by rw [add_nil]; exact S) .refl .nil fun b h => by simp [newOf] at h
theorem lr_dat (ha : LE X e fe) (hr : LR X es fr) (hs : starEach (e :: es) X.env = (false, eval e X.env) :: starEach es X.env := by rfl) : LR X (e :: es) (fRDat fe fr) :=
  weakA (pa_cons ha hr hs) fun σ H Q ⟨c, o, en, S, rs, e', hf, k⟩ => by
    obtain ⟨⟨d, e1⟩, h1, hf⟩ := bind_some hf
    obtain ⟨⟨rs2, e2⟩, h2, hf⟩ := bind_some hf
    obtain ⟨rfl, rfl⟩ := Prod.mk.inj (Option.some.inj hf)
    refine ⟨c, o, en, S, d, e1, h1, fun v H1 o1 S1 a1 r1 => ⟨c, o1, e1, S1, rs2, e2, h2, fun vs H2 o2 ps S2 a2 r2 n2 => ?_⟩⟩
    refine k (v :: vs) H2 o2 (none :: ps) (by rw [add_none]; exact S2) (a1.trans a2) (.cons ?_ (by rw [add_none]; exact r2) fun q hq => nomatch hq) fun b hb => ?_
    · rw [add_none]
      exact Den.mono (fun b h => (M_add.mp h).elim (a2.1.2 b) fun z => .inr (n2 b z).1) a2.1.1 r1
    · have hb' : newOf ps b := by simpa [newOf] using hb
      obtain ⟨m1, m2⟩ := n2 b hb'
      refine ⟨?_, m2⟩
      cases hH : H b with
      | none => rfl
      | some x => exact absurd m1 (a1.2 b (by rw [hH]; exact fun z => nomatch z))
theorem lr_new {lpos : Pos} (ha : LA X fs fa) (hr : LR X es fr) (hs : starEach (.List fs lpos :: es) X.env = (false, eval (.List fs lpos) X.env) :: starEach es X.env := by rfl) : LR X (.List fs lpos :: es) (fRNew fa fr) :=
  weakA (pa_cons (pe_lst ha) hr hs) fun σ H Q ⟨c, o, en, S, rs, e', hf, k⟩ => by
    obtain ⟨⟨ds, e1⟩, h1, hf⟩ := bind_some hf
    obtain ⟨hz, hf⟩ := if_someB hf
    obtain ⟨⟨rs2, e2⟩, h2, hf⟩ := bind_some hf
    obtain ⟨rfl, rfl⟩ := Prod.mk.inj (Option.some.inj hf)
    refine ⟨c, o, en, S, ds, e1, h1, fun ws H1 o1 S1 a1 r1 => ⟨by rw [r1.length]; exact Nat.le_of_lt (big_line hz), fun p hp => ?_⟩⟩
    have J1 : Jmp c o1 H1 (upd H1 p (.lst ws)) o1.g e1.pot := (Jmp.refl S1).same (same_upd hp)
    have S2 := J1.enter S1 [] (E := fun b => b = p) (fun b z => by rw [z]; exact hp) fun b z => by rw [z, upd_same]; exact fun q => nomatch q
    refine ⟨_, _, _, S2, rs2, e2, h2, fun vs H3 o3 ps S3 a3 r3 n3 => ?_⟩
    have J3 : Jmp c o1 H1 H3 o3.g e2.pot := by
      have q := J1.leave S1 (S2 := (S3 : SOk ((c.sub (o1.gs o1.g) (fun b => b = p) (upd H1 p (.lst ws))).add (newOf ps)) o3 σ H3 e2).unadd)
      exact q
    have hp3 : H3 p = some (.lst ws) := by
      refine S3.keep p _ upd_same fun q hq => ?_
      obtain ⟨q', hq', rfl⟩ := Option.map_eq_some_iff.mp (show c.pt.map _ = some q from hq)
      have t := S1.pot q' hq'
      refine ⟨fun z => ?_, fun z => ?_⟩
      · rw [z, t.1.2.1] at hp; cases hp
      · have z' : p = o1.g := z
        rw [z', t.1.2.2] at hp; cases hp
    have fr1 : ∀ b, newOf ps b → H1 b = none ∧ b ≠ p := fun b hb => by
      have q := (n3 b hb).1
      have bp : b ≠ p := fun z => by rw [z, upd_same] at q; cases q
      rw [upd_ne bp] at q
      exact ⟨q, bp⟩
    have nw : ∀ b, newOf (some p :: ps) b → H1 b = none := fun b hb => by
      rcases List.mem_cons.mp hb with z | z
      · cases z; exact hp
      · exact (fr1 b z).1
    have nw3 : ∀ b, newOf (some p :: ps) b → H3 b ≠ none := fun b hb => by
      rcases List.mem_cons.mp hb with z | z
      · cases z; rw [hp3]; exact fun q => nomatch q
      · exact S3.mc b (.inr z)
    have B := J3.back S1 nw nw3
    have a13 := a1.trans (J3.stp S1)
    -- M of the outer state is within M of the inner one
    have hM : ∀ b, (c.add (newOf (some p :: ps))).M (o1.gs o3.g) b → ((c.sub (o1.gs o1.g) (fun b => b = p) (upd H1 p (.lst ws))).add (newOf ps)).M o3 b := fun b h => by
      refine M_add.mpr ?_
      rcases M_add.mp h with (h | h | ⟨q, hq, h | h⟩) | h
      · exact .inl (sub_M.mpr (.inl (.inl (.inl h))))
      · exact .inl (sub_M.mpr (.inl (.inl (.inr (.inl h)))))
      · exact .inl (sub_M.mpr (.inl (.inl (.inr (.inr ⟨q, hq, .inl h⟩)))))
      · exact .inl (sub_M.mpr (.inr (.inr ⟨q, hq, .inr h⟩)))
      · rcases List.mem_cons.mp h with z | z
        · cases z; exact .inl (sub_M.mpr (.inl (.inr rfl)))
        · exact .inr z
    refine k (.ref p :: vs) H3 (o1.gs o3.g) (some p :: ps) B a13 (.cons ⟨rfl, ws, hp3, ?_⟩ (r3.less hM) fun q hq => ?_) fun b hb => ?_
    · exact r1.mono (fun b h => (M_add.mp h).elim (J3.mem S1 b) fun z => .inr (nw b z)) (J3.stp S1).1.1
    · cases hq
      intro z
      exact (fr1 _ z).2 rfl
    · have hH : H b = none := by
        cases q : H b with
        | none => rfl
        | some x => exact absurd (nw b hb) (a1.2 b (by rw [q]; exact fun z => nomatch z))
      refine ⟨hH, fun z => ?_⟩
      rcases z with z | ⟨i, z⟩ | ⟨q, hq, z | z⟩
      · exact S1.mc b z (nw b hb)
      · exact S1.alloc b (.inr (.inl ⟨i, z⟩)) (nw b hb)
      · exact S1.alloc b (.inr (.inr ⟨q, hq, .inl z⟩)) (nw b hb)
      · have z' : b = o3.g := z
        have q3 := (S3.pot (q.1, o1.g) (by show c.pt.map _ = _; rw [hq]; rfl)).2.2.2.1
        have q3' : o3.g = o1.g ∨ (upd H1 p (.lst ws)) o3.g = none := q3
        rcases List.mem_cons.mp hb with w | w
        · cases w
          rcases q3' with t | t
          · exact S1.alloc _ (.inr (.inr ⟨q, hq, .inr (z'.trans t)⟩)) hp
          · rw [← z', upd_same] at t; cases t
        · exact (n3 b w).2 (sub_M.mpr (.inr (.inr ⟨q, hq, .inr z'⟩)))

/-! storing them, one behind the other -/
def stRV (i : Nat) : RV → En → Option En
  | .dat d, e => some (e.put i (.dat d))
  | .new ds, e => if i < e.sl.length then some (e.put i (.own ds)) else none
/-- one value is stored: from the new lists not yet stored, p is taken -/
theorem SOk.stow {c : Ctx} {o : OS} {σ : L2.St} {H : Hp} {en en' : En} {i : Nat} {v : V} {r : RV} {p : Option Addr} {ps : List (Option Addr)} (S : SOk (c.add (newOf (p :: ps))) o σ H en) (hr : RVOk ((c.add (newOf (p :: ps))).M o) H v r p)
    (hp : ∀ q, p = some q → some q ∉ ps) (hf : ∀ b, newOf (p :: ps) b → c.H0 b = none ∧ ¬ c.M o b) (h : stRV i r en = some en') :
    ∃ o', SOk (c.add (newOf ps)) o' (σ.set i (some v)) H en' ∧ (∀ b, (c.add (newOf ps)).M o' b ↔ ((c.add (newOf (p :: ps))).M (o.drop i) b)) ∧ (∀ b, newOf ps b → ¬ c.M o' b) := by
  cases r with
  | dat d =>
    cases p with
    | some q => exact hr.elim
    | none =>
      cases h
      rw [add_none] at S hr ⊢
      exact ⟨o.drop i, S.put hr, fun b => Iff.rfl, fun b h z => (hf b (by simpa [newOf] using h)).2 (M_drop z)⟩
  | new ds =>
    cases p with
    | none => exact hr.elim
    | some p =>
      obtain ⟨hi, h⟩ := if_some h
      subst h
      obtain ⟨rfl, ws, h1, h2⟩ := hr
      have pm : newOf (some p :: ps) p := List.mem_cons_self
      obtain ⟨fp, np⟩ := hf p pm
      have hM : ∀ b, (c.add (newOf ps)).M ((o.drop i).put i p) b ↔ (c.add (newOf (some p :: ps))).M (o.drop i) b := fun b => by
        rw [M_add, M_add]
        constructor
        · rintro ((z | ⟨j, z⟩ | z) | z)
          · exact .inl (.inl z)
          · by_cases e1 : j = i
            · subst e1
              rw [OS.put_self] at z
              cases z
              exact .inr pm
            · rw [OS.put_ne e1] at z
              exact .inl (.inr (.inl ⟨j, z⟩))
          · exact .inl (.inr (.inr z))
          · exact .inr (List.mem_cons_of_mem _ z)
        · rintro ((z | ⟨j, z⟩ | z) | z)
          · exact .inl (.inl z)
          · exact .inl (.inr (.inl ⟨j, by rw [OS.put_ne (OS.drop_some z).1]; exact z⟩))
          · exact .inl (.inr (.inr z))
          · rcases List.mem_cons.mp z with w | w
            · cases w
              exact .inl (.inr (.inl ⟨i, OS.put_self⟩))
            · exact .inr w
      have hM' : ∀ b, (c.add (newOf ps)).M ((o.drop i).put i p) b → (c.add (newOf (some p :: ps))).M o b := fun b h => M_drop ((hM b).mp h)
      have nop : ∀ j, o.sl j ≠ some p := fun j z => (S.fresh j p z).2 (.inr pm)
      refine ⟨(o.drop i).put i p, ⟨by rw [List.length_set, En.put_len, S.len], fun j sd h => ?_, fun j h => ?_, fun j k q a b => ?_, fun j q a => ?_, S.keep, fun b h => S.mc b (h.elim .inl fun z => .inr (List.mem_cons_of_mem _ z)), S.dom, fun q hq => ?_⟩, hM, fun b h z => ?_⟩
      · by_cases e1 : j = i
        · subst e1
          obtain ⟨rfl, hl⟩ := En.put_at h
          exact ⟨p, ws, OS.put_self, List.getElem?_set_self (by rw [S.len]; exact hl), h1, h2.less hM'⟩
        · rw [En.put_ne e1] at h
          rw [List.getElem?_set_ne (Ne.symm e1)]
          have q := S.slot j sd h
          have eo : ((o.drop i).put i p).sl j = o.sl j := (OS.put_ne e1).trans (OS.drop_ne e1)
          cases sd with
          | un => exact eo.trans q
          | pot => exact ⟨eo.trans q.1, q.2⟩
          | dat d => exact ⟨eo.trans q.1, let ⟨v, e2, t⟩ := q.2; ⟨v, e2, t.less hM'⟩⟩
          | own es =>
            obtain ⟨q0, us, k1, k2, k3, k4⟩ := q
            exact ⟨q0, us, eo.trans k1, k2, k3, k4.less hM'⟩
      · rw [En.put_len] at h
        have e1 : j ≠ i := fun z => by subst z; omega
        rw [OS.put_ne e1, OS.drop_ne e1]
        exact S.out j h
      · by_cases e1 : j = i
        · subst e1
          rw [OS.put_self] at a
          cases a
          by_cases e2 : k = j
          · exact e2.symm
          · rw [OS.put_ne e2, OS.drop_ne e2] at b
            exact absurd b (nop k)
        · rw [OS.put_ne e1, OS.drop_ne e1] at a
          by_cases e2 : k = i
          · subst e2
            rw [OS.put_self] at b
            cases b
            exact absurd a (nop j)
          · rw [OS.put_ne e2, OS.drop_ne e2] at b
            exact S.inj j k q a b
      · by_cases e1 : j = i
        · subst e1
          rw [OS.put_self] at a
          cases a
          exact ⟨fp, fun z => z.elim (fun z => np (.inl z)) (hp p rfl)⟩
        · rw [OS.put_ne e1, OS.drop_ne e1] at a
          obtain ⟨f1, f2⟩ := S.fresh j q a
          exact ⟨f1, fun z => f2 (z.elim .inl fun z => .inr (List.mem_cons_of_mem _ z))⟩
      · obtain ⟨g1, g3, g4, g5, g6⟩ := S.pot q hq
        refine ⟨g1, g3, g4, g5, fun j z => ?_⟩
        by_cases e1 : j = i
        · subst e1
          rw [OS.put_self] at z
          exact np (.inr (.inr ⟨q, hq, .inr (Option.some.inj z)⟩))
        · rw [OS.put_ne e1, OS.drop_ne e1] at z
          exact g6 j z
      · have nb : b ≠ p := fun z => hp p rfl (z ▸ h)
        rcases z with z | ⟨j, z⟩ | z
        · exact (hf b (List.mem_cons_of_mem _ h)).2 (.inl z)
        · by_cases e1 : j = i
          · subst e1
            rw [OS.put_self] at z
            exact nb (Option.some.inj z).symm
          · rw [OS.put_ne e1] at z
            exact (hf b (List.mem_cons_of_mem _ h)).2 (.inr (.inl ⟨j, (OS.drop_some z).2⟩))
        · exact (hf b (List.mem_cons_of_mem _ h)).2 (.inr (.inr z))
def stAll : List Nat → List RV → En → Option En
  | i :: ix, r :: rs, e => (stRV i r e).bind (stAll ix rs)
  | [], [], e => some e
  | _, _, _ => none
def setAll (σ : L2.St) : List Nat → List V → L2.St
  | i :: ix, v :: vs => setAll (σ.set i (some v)) ix vs
  | _, _ => σ
theorem RVOk.mono {M M' : MS} {H : Hp} (hM : ∀ b, M' b → M b) {v : V} {r : RV} {p : Option Addr} (h : RVOk M H v r p) : RVOk M' H v r p := h.less hM
theorem stow_all {c : Ctx} {H : Hp} : ∀ {ix : List Nat} {vs : List V} {rs : List RV} {ps : List (Option Addr)} {o : OS} {σ : L2.St} {en en' : En}, SOk (c.add (newOf ps)) o σ H en → R3 ((c.add (newOf ps)).M o) H vs rs ps →
    (∀ b, newOf ps b → c.H0 b = none ∧ ¬ c.M o b) → stAll ix rs en = some en' → ∃ o', SOk c o' (setAll σ ix vs) H en' ∧ ∀ b, c.M o' b → (c.add (newOf ps)).M o b
  | [], _, _, _, o, σ, en, en', S, .nil, hf, h => by
    cases h
    rw [add_nil] at S
    exact ⟨o, S, fun b z => M_add.mpr (.inl z)⟩
  | [], _, _, _, _, _, _, _, _, .cons _ _ _, _, h => by cases h
  | _ :: _, _, _, _, _, _, _, _, _, .nil, _, h => by cases h
  | i :: ix, _, _, _, o, σ, en, en', S, .cons h1 t n, hf, h => by
    obtain ⟨en1, h2, h⟩ := bind_some h
    obtain ⟨o1, S1, hM, hn⟩ := S.stow h1 n hf h2
    obtain ⟨o2, S2, hM2⟩ := stow_all S1 (t.less fun b z => M_drop ((hM b).mp z)) (fun b hb => ⟨(hf b (List.mem_cons_of_mem _ hb)).1, hn b hb⟩) h
    exact ⟨o2, S2, fun b z => M_drop ((hM b).mp (hM2 b z))⟩
def sPar (ix : List Nat) (f : FR) : FS := fun e => (f e).bind fun p => (stAll ix p.1 p.2).map Out.nx
theorem par_can {ix : List Nat} {D : Ends} {σ : L2.St} {H : Hp} (h : canS (sPar ix fr) D σ H) : canR fr σ H fun vs H1 => D.nx (setAll σ ix vs) H1 := by
  obtain ⟨c, o, en, S, r, hf, k⟩ := h
  obtain ⟨⟨rs, e1⟩, h1, hf⟩ := bind_some hf
  obtain ⟨e2, h2, hf⟩ := Option.map_eq_some_iff.mp hf
  cases hf
  refine ⟨c, o, en, S, rs, e1, h1, fun vs H1 o1 ps S1 a1 r1 n1 => ?_⟩
  have fr0 : ∀ b, newOf ps b → c.H0 b = none := fun b hb => by
    cases q : c.H0 b with
    | none => rfl
    | some x => exact absurd (n1 b hb).1 (S.dom b (by rw [q]; exact fun z => nomatch z))
  obtain ⟨o2, S2, hM⟩ := stow_all S1 r1 (fun b hb => ⟨fr0 b hb, (n1 b hb).2⟩) h2
  refine k _ _ o2 S2 ⟨⟨a1.1.1, fun b z => ?_⟩, a1.2⟩
  exact (M_add.mp (hM b z)).elim (a1.1.2 b) fun z => .inr (n1 b z).1
theorem R3.length {M : MS} {H : Hp} : ∀ {vs : List V} {rs : List RV} {ps : List (Option Addr)}, R3 M H vs rs ps → vs.length = rs.length
  | _, _, _, .nil => rfl
  | _, _, _, .cons _ t _ => by rw [List.length_cons, List.length_cons, R3.length t]
theorem canR_len {ix : List Nat} {D : Ends} {σ : L2.St} {H : Hp} (n : Nat) (hn : ∀ e rs e', fr e = some (rs, e') → rs.length = n) (h : canS (sPar ix fr) D σ H) : canR fr σ H fun vs H1 => vs.length = n ∧ D.nx (setAll σ ix vs) H1 := by
  obtain ⟨c, o, en, S, rs, e1, h1, k⟩ := par_can h
  refine ⟨c, o, en, S, rs, e1, h1, fun vs H1 o1 ps S1 a1 r1 n1 => ⟨?_, k vs H1 o1 ps S1 a1 r1 n1⟩⟩
  rw [← hn _ _ _ h1]
  exact r1.length
theorem rlen_nil : ∀ e rs e', fRNil e = some (rs, e') → rs.length = 0 := fun e rs e' h => by cases h; rfl
theorem rlen_dat {n : Nat} (h : ∀ e rs e', fr e = some (rs, e') → rs.length = n) : ∀ e rs e', fRDat fe fr e = some (rs, e') → rs.length = n + 1 := fun e rs e' hf => by
  obtain ⟨⟨d, e1⟩, h1, hf⟩ := bind_some hf
  obtain ⟨⟨rs2, e2⟩, h2, hf⟩ := bind_some hf
  cases hf
  rw [List.length_cons, h _ _ _ h2]
theorem rlen_new {n : Nat} (h : ∀ e rs e', fr e = some (rs, e') → rs.length = n) : ∀ e rs e', fRNew fa fr e = some (rs, e') → rs.length = n + 1 := fun e rs e' hf => by
  obtain ⟨⟨ds, e1⟩, h1, hf⟩ := bind_some hf
  obtain ⟨hz, hf⟩ := if_someB hf
  obtain ⟨⟨rs2, e2⟩, h2, hf⟩ := bind_some hf
  cases hf
  rw [List.length_cons, h _ _ _ h2]
theorem ls_par2 {i j : Nat} {x y : Str} {a b : Expr} {px py pt : Pos} {kt k2 pt2} (hc : X.calm = true) (hN : X.N.Nodup) (hi : X.N[i]? = some x) (hj : X.N[j]? = some y) (hij : i ≠ j)
    (hx : X.env.scope.names.lookup x = some .local) (hy : X.env.scope.names.lookup y = some .local) (ha : LR X [a, b] fr) (hn : ∀ e rs e', fr e = some (rs, e') → rs.length = 2)
    (hw : swappedStores [.Tuple [.Name x px, .Name y py] kt pt] (.Tuple [a, b] k2 pt2) X.env = pure (some [x, y]))
    (hs : swapsWithSole [.Tuple [.Name x px, .Name y py] kt pt] (.Tuple [a, b] k2 pt2) pos.line X.env = pure false := by rfl) :
    LS X (.Assign [.Tuple [.Name x px, .Name y py] kt pt] (.Tuple [a, b] k2 pt2) pos) (sPar [i, j] fr) := weakS (ps_par hc hN hi hj hij hx hy ha hw hs) fun D σ H h => by
  obtain ⟨c, o, en, S, rs, e1, h1, k⟩ := canR_len 2 hn h
  refine ⟨c, o, en, S, rs, e1, h1, fun vs H1 o1 ps S1 a1 r1 n1 => ?_⟩
  obtain ⟨hl, q⟩ := k vs H1 o1 ps S1 a1 r1 n1
  match vs, hl with
  | [v, w], _ => exact ⟨v, w, rfl, q⟩
theorem ls_par3 {i j l : Nat} {x y z : Str} {a b c : Expr} {px py pz pt pos : Pos} {kt k2 pt2} (hc : X.calm = true) (hN : X.N.Nodup) (hi : X.N[i]? = some x) (hj : X.N[j]? = some y) (hl : X.N[l]? = some z) (hij : i ≠ j) (hil : i ≠ l) (hjl : j ≠ l)
    (hx : X.env.scope.names.lookup x = some .local) (hy : X.env.scope.names.lookup y = some .local) (hz : X.env.scope.names.lookup z = some .local) (ha : LR X [a, b, c] fr) (hn : ∀ e rs e', fr e = some (rs, e') → rs.length = 3)
    (hw : swappedStores [.Tuple [.Name x px, .Name y py, .Name z pz] kt pt] (.Tuple [a, b, c] k2 pt2) X.env = pure (some [x, y, z]))
    (hs : swapsWithSole [.Tuple [.Name x px, .Name y py, .Name z pz] kt pt] (.Tuple [a, b, c] k2 pt2) pos.line X.env = pure false := by rfl) :
    LS X (.Assign [.Tuple [.Name x px, .Name y py, .Name z pz] kt pt] (.Tuple [a, b, c] k2 pt2) pos) (sPar [i, j, l] fr) := weakS (ps_par3 hc hN hi hj hl hij hil hjl hx hy hz ha hw hs) fun D σ H h => by
  obtain ⟨c, o, en, S, rs, e1, h1, k⟩ := canR_len 3 hn h
  refine ⟨c, o, en, S, rs, e1, h1, fun vs H1 o1 ps S1 a1 r1 n1 => ?_⟩
  obtain ⟨hl, q⟩ := k vs H1 o1 ps S1 a1 r1 n1
  match vs, hl with
  | [u, v, w], _ => exact ⟨u, v, w, rfl, q⟩
end
end L3

/-! L3: the pot's own words, ranges downward, tuple(range(..)). -/
namespace L3
open PySem PySem.Spec PyProof.Rows L2
section
variable {X : Cx} {e : Expr} {fe : F} {pos p1 p2 p3 : Pos}
/-! ### the pot's words -/
theorem SOk.potS {c : Ctx} {o : OS} {σ : L2.St} {H : Hp} {e : En} {i : Nat} (S : SOk c o σ H e) (h : e.sl[i]? = some .pot) : ∃ p, c.pt = some p ∧ σ[i]? = some (some (.ref p.1)) ∧ PotAt H p.1 o.g e.pot := by
  obtain ⟨_, p, hp, hx⟩ := S.slot i _ h
  exact ⟨p, hp, hx, (S.pot p hp).1⟩
theorem atI_0 {α : Type} {a : α} {r : List α} : atI (a :: r) 0 = some a := by
  have h : ixN (a :: r).length 0 = some 0 := by simp [ixN]
  unfold atI
  rw [h]
  rfl
def potIs (i : Nat) (f : Pot → Option D) : F := fun e => match e.sl[i]? with
  | some .pot => (f e.pot).map fun d => (d, e)
  | _ => none
theorem potIs_some {i : Nat} {f : Pot → Option D} {e : En} {d : D} {e' : En} (h : potIs i f e = some (d, e')) : e.sl[i]? = some .pot ∧ f e.pot = some d ∧ e' = e := by
  unfold potIs at h
  split at h
  · rename_i h1
    obtain ⟨z, h2, h3⟩ := Option.map_eq_some_iff.mp h
    cases h3
    exact ⟨h1, h2, rfl⟩
  · cases h
abbrev fPot1 (i : Nat) : F := potIs i fun P => some (.int P.seed)
abbrev fPot2 (i : Nat) : F := potIs i fun P => some (.int P.n)
abbrev fPot00 (i : Nat) : F := potIs i fun P => P.g.head?.map .int
theorem le_pot1 {i : Nat} {a : Expr} {j} (h : PE X a (tVar i)) : LE X (.Subscript a (.Constant (.int 1) j p1) pos) (fPot1 i) :=
  weakE (pe_ix ix_seq h pe_int fun _ _ => rfl) fun σ H Q ⟨c, o, en, S, d, e', hf, k⟩ => by
    obtain ⟨h1, h2, rfl⟩ := potIs_some hf
    cases h2
    obtain ⟨p, hp, hx, g0, g1, g2⟩ := S.potS h1
    exact ⟨_, hx, .inl ⟨_, _, 1, .int _, rfl, rfl, SqL.of g1, rfl, k _ H o S .refl (.int _)⟩⟩
theorem le_pot2 {i : Nat} {a : Expr} {j} (h : PE X a (tVar i)) : LE X (.Subscript a (.Constant (.int 2) j p1) pos) (fPot2 i) :=
  weakE (pe_ix ix_seq h pe_int fun _ _ => rfl) fun σ H Q ⟨c, o, en, S, d, e', hf, k⟩ => by
    obtain ⟨h1, h2, rfl⟩ := potIs_some hf
    cases h2
    obtain ⟨p, hp, hx, g0, g1, g2⟩ := S.potS h1
    exact ⟨_, hx, .inl ⟨_, _, 2, .int _, rfl, rfl, SqL.of g1, rfl, k _ H o S .refl (.int _)⟩⟩
theorem le_pot00 {i : Nat} {a : Expr} {j j2} (h : PE X a (tVar i)) : LE X (.Subscript (.Subscript a (.Constant (.int 0) j p1) p2) (.Constant (.int 0) j2 p3) pos) (fPot00 i) :=
  weakE (pe_ix ix_seq (pe_ix ix_seq h pe_int fun _ _ => rfl) pe_int fun _ _ => rfl) fun σ H Q ⟨c, o, en, S, d, e', hf, k⟩ => by
    obtain ⟨h1, h2, rfl⟩ := potIs_some hf
    obtain ⟨p, hp, hx, g0, g1, g2⟩ := S.potS h1
    cases hg : e'.pot.g with
    | nil => rw [hg] at h2; cases h2
    | cons x r =>
      rw [hg] at h2 g2
      cases h2
      exact ⟨_, hx, .inl ⟨_, _, 0, .ref o.g, rfl, rfl, SqL.of g1, rfl, .inl ⟨_, _, 0, .int x, rfl, rfl, SqL.of g2, atI_0, k _ H o S .refl (.int _)⟩⟩⟩
/-- pot[0] != [] -/
def fPotFull (i : Nat) : FT := fun e => match e.sl[i]? with
  | some .pot => some (!e.pot.g.isEmpty, e)
  | _ => none
theorem canLayAll0_ints : ∀ g : List Int, PyData.canLayAll0 (g.map PyData.int) = true
  | [] => by simp [PyData.canLayAll0]
  | x :: r => by
    rw [List.map_cons]
    simp [PyData.canLayAll0, PyData.canLay0, canLayAll0_ints r]
theorem depthAll_ints : ∀ g : List Int, PyData.depthAll (g.map PyData.int) = 0
  | [] => by simp [PyData.depthAll]
  | x :: r => by
    rw [List.map_cons]
    simp [PyData.depthAll, PyData.depth, depthAll_ints r]
theorem shaped_ints (g : List Int) : SeqAt.shaped (.list (g.map PyData.int)) = true := by
  unfold SeqAt.shaped
  simp [PyData.canLay0, PyData.depth, canLayAll0_ints, depthAll_ints]
theorem eqv_ints_nil (g : List Int) : PyData.eqv (.list (g.map PyData.int)) (.list []) = g.isEmpty := by
  cases g <;> simp [PyData.eqv, PyData.eqvAll]
theorem lt_potFull {i : Nat} {a : Expr} {j} (hu : X.A.units + 64 < cLine) (h : PE X a (tVar i)) : LT X (.Compare (.Subscript a (.Constant (.int 0) j p1) p2) [.NotEq] [.List [] p3] pos) (fPotFull i) :=
  weakT (pt_cmpR (op_neD hu) (pe_ix ix_seq h pe_int fun _ _ => rfl) (pe_lst pa_nil) (by rfl)) fun σ H Q ⟨c, o, en, S, b, e', hf, k⟩ => by
    unfold fPotFull at hf
    split at hf
    · rename_i h1
      cases hf
      obtain ⟨p, hp, hx, g0, g1, g2⟩ := S.potS h1
      refine ⟨_, hx, .inl ⟨_, _, 0, .ref o.g, rfl, rfl, SqL.of g1, rfl, Nat.zero_le _, fun q hq => ?_⟩⟩
      have dd : Den (fun _ => False) H (.ref o.g) (.list (en.pot.g.map PyData.int)) := .lst (fun z => z) g2 (.ints _)
      refine ⟨_, _, (dd.same (same_upd hq)).dp _, (Den.newL (M := fun _ => False) (fun _ z => z.elim) hq .nil).dp _, shaped_ints _, by decide, _, rfl, ?_⟩
      rw [eqv_ints_nil]
      exact k _ o (S.same (same_upd hq)) (.same (same_upd hq))
    · cases hf
/-! stores -/
def sPot (i : Nat) (f : F) (g : D → Pot → Option Pot) : FS := fun e => (f e).bind fun p => match p.2.sl[i]? with
  | some .pot => (g p.1 p.2.pot).map fun P => .nx (p.2.po P)
  | _ => none
def setN (d : D) (P : Pot) : Option Pot := match d with
  | .int n => some ⟨P.g, P.seed, n⟩
  | _ => none
def setG0 (d : D) (P : Pot) : Option Pot := match d, P.g with
  | .int n, _ :: r => some ⟨n :: r, P.seed, P.n⟩
  | _, _ => none
theorem sPot_some {i : Nat} {f : F} {g : D → Pot → Option Pot} {e : En} {r : Out} (h : sPot i f g e = some r) : ∃ d e' P, f e = some (d, e') ∧ e'.sl[i]? = some .pot ∧ g d e'.pot = some P ∧ r = .nx (e'.po P) := by
  obtain ⟨⟨d, e1⟩, h1, h⟩ := bind_some h
  simp only at h
  split at h
  · rename_i h2
    obtain ⟨P, h3, rfl⟩ := Option.map_eq_some_iff.mp h
    exact ⟨d, e1, P, h1, h2, h3, rfl⟩
  · cases h
theorem ls_potN {i : Nat} {a : Expr} {j} (h : PE X a (tVar i)) (he : LE X e fe) (hs : swapsWithSole [.Subscript a (.Constant (.int 2) j p1) p2] e pos.line X.env = pure false := by rfl) (hw : swappedStores [.Subscript a (.Constant (.int 2) j p1) p2] e X.env = pure none := by rfl)
    (h1 : (assignEach [.Subscript a (.Constant (.int 2) j p1) p2] X.env).map (·.2) = [assign (.Subscript a (.Constant (.int 2) j p1) p2) X.env] := by rfl) : LS X (.Assign [.Subscript a (.Constant (.int 2) j p1) p2] e pos) (sPot i fe setN) :=
  weakS (ps_asg he (pg_sub h pe_int set_list) hs hw h1) fun D σ H ⟨c, o, en, S, r, hf, k⟩ => by
    obtain ⟨d, e1, P, h1, h2, h3, rfl⟩ := sPot_some hf
    unfold setN at h3
    split at h3
    · rename_i n
      cases h3
      refine ⟨c, o, en, S, _, e1, h1, fun v H1 o1 S1 a1 r1 => ?_⟩
      rw [r1.int_inv]
      obtain ⟨p, hp, hx, g0, g1, g2⟩ := S1.potS h2
      refine ⟨_, hx, p.1, _, 2, 2, rfl, rfl, g1, rfl, ?_⟩
      have J : Jmp c o1 H1 (upd H1 p.1 (.lst [.ref o1.g, .int e1.pot.seed, .int n])) o1.g ⟨e1.pot.g, e1.pot.seed, n⟩ := by
        refine ⟨fun b x h m => by rw [upd_ne (m p hp).1]; exact h, fun b h => ?_, fun q hq => ?_⟩
        · by_cases z : b = p.1
          · rw [z, upd_same]; exact fun q => nomatch q
          · rw [upd_ne z]; exact h
        · rw [hp] at hq
          cases hq
          exact ⟨⟨g0, upd_same, by rw [upd_ne (Ne.symm g0)]; exact g2⟩, .inl rfl⟩
      exact k _ _ _ (J.here S1) (a1.trans (J.stp S1))
    · cases h3
theorem ls_potG0 {i : Nat} {a : Expr} {j j2} {p4 : Pos} (h : PE X a (tVar i)) (he : LE X e fe) (hs : swapsWithSole [.Subscript (.Subscript a (.Constant (.int 0) j p1) p2) (.Constant (.int 0) j2 p3) p4] e pos.line X.env = pure false := by rfl)
    (hw : swappedStores [.Subscript (.Subscript a (.Constant (.int 0) j p1) p2) (.Constant (.int 0) j2 p3) p4] e X.env = pure none := by rfl)
    (h1 : (assignEach [.Subscript (.Subscript a (.Constant (.int 0) j p1) p2) (.Constant (.int 0) j2 p3) p4] X.env).map (·.2) = [assign (.Subscript (.Subscript a (.Constant (.int 0) j p1) p2) (.Constant (.int 0) j2 p3) p4) X.env] := by rfl) :
    LS X (.Assign [.Subscript (.Subscript a (.Constant (.int 0) j p1) p2) (.Constant (.int 0) j2 p3) p4] e pos) (sPot i fe setG0) :=
  weakS (ps_asg he (pg_sub (pe_ix ix_seq h pe_int fun _ _ => rfl) pe_int set_list) hs hw h1) fun D σ H ⟨c, o, en, S, r, hf, k⟩ => by
    obtain ⟨d, e1, P, h1, h2, h3, rfl⟩ := sPot_some hf
    unfold setG0 at h3
    split at h3
    · rename_i n x r hg
      cases h3
      refine ⟨c, o, en, S, _, e1, h1, fun v H1 o1 S1 a1 r1 => ?_⟩
      rw [r1.int_inv]
      obtain ⟨p, hp, hx, g0, g1, g2⟩ := S1.potS h2
      rw [hg] at g2
      refine ⟨_, hx, .inl ⟨_, _, 0, .ref o1.g, rfl, rfl, SqL.of g1, rfl, o1.g, _, 0, 0, rfl, rfl, g2, by simp [ixN], ?_⟩⟩
      have J : Jmp c o1 H1 (upd H1 o1.g (.lst ((n :: r).map V.int))) o1.g ⟨n :: r, e1.pot.seed, e1.pot.n⟩ := by
        refine ⟨fun b x h m => by rw [upd_ne (m p hp).2]; exact h, fun b h => ?_, fun q hq => ?_⟩
        · by_cases z : b = o1.g
          · rw [z, upd_same]; exact fun q => nomatch q
          · rw [upd_ne z]; exact h
        · rw [hp] at hq
          cases hq
          exact ⟨⟨g0, by rw [upd_ne g0]; exact g1, upd_same⟩, .inl rfl⟩
      exact k _ _ _ (J.here S1) (a1.trans (J.stp S1))
    · cases h3
/-- pot[0] = pot[0][1:] -/
def sPotCut (i : Nat) : FS := fun e => match e.sl[i]? with
  | some .pot => if e.pot.g.length ≤ big then some (.nx (e.po ⟨e.pot.g.drop 1, e.pot.seed, e.pot.n⟩)) else none
  | _ => none
theorem ls_potCut {i : Nat} {a b : Expr} {j j2 j3} {p4 p5 p6 p7 : Pos} (h : PE X a (tVar i)) (hb : PE X b (tVar i)) (hs : swapsWithSole [.Subscript a (.Constant (.int 0) j p1) p2] (.Subscript (.Subscript b (.Constant (.int 0) j2 p3) p4) (.Slice (some (.Constant (.int 1) j3 p5)) none none p6) p7) pos.line X.env = pure false := by rfl)
    (hw : swappedStores [.Subscript a (.Constant (.int 0) j p1) p2] (.Subscript (.Subscript b (.Constant (.int 0) j2 p3) p4) (.Slice (some (.Constant (.int 1) j3 p5)) none none p6) p7) X.env = pure none := by rfl)
    (h1 : (assignEach [.Subscript a (.Constant (.int 0) j p1) p2] X.env).map (·.2) = [assign (.Subscript a (.Constant (.int 0) j p1) p2) X.env] := by rfl) :
    LS X (.Assign [.Subscript a (.Constant (.int 0) j p1) p2] (.Subscript (.Subscript b (.Constant (.int 0) j2 p3) p4) (.Slice (some (.Constant (.int 1) j3 p5)) none none p6) p7) pos) (sPotCut i) :=
  weakS (ps_asg (pe_slice sl_list (pe_ix ix_seq hb pe_int fun _ _ => rfl) (po_some pe_int) po_none) (pg_sub h pe_int set_list) hs hw h1) fun D σ H ⟨c, o, en, S, r, hf, k⟩ => by
    unfold sPotCut at hf
    split at hf
    · rename_i h1
      obtain ⟨hz, hf⟩ := if_some hf
      cases hf
      obtain ⟨p, hp, hx, g0, g1, g2⟩ := S.potS h1
      refine ⟨_, hx, .inl ⟨_, _, 0, .ref o.g, rfl, rfl, SqL.of g1, rfl, 1, rfl, _, _, rfl, SqL.of g2, fun q hq => ?_⟩⟩
      have n1 : p.1 ≠ q := ne_of_none g1 hq
      have n2 : o.g ≠ q := ne_of_none g2 hq
      refine ⟨_, hx, p.1, _, 0, 0, rfl, rfl, by rw [upd_ne n1]; exact g1, rfl, ?_⟩
      have hc : cutV (en.pot.g.map V.int) (some 1) none = (en.pot.g.drop 1).map V.int := by
        unfold cutV
        rw [List.length_map]
        cases en.pot.g with
        | nil => rfl
        | cons x r =>
          have h1 : HT.sIx (x :: r).length 0 (some 1) = 1 := by simp [HT.sIx]
          have h2 : HT.sIx (x :: r).length (x :: r).length none = r.length + 1 := by simp [HT.sIx]
          rw [h1, h2]
          show List.take _ (r.map V.int) = r.map V.int
          exact List.take_of_length_le (by rw [List.length_map]; omega)
      have J : Jmp c o H (upd (upd H q (.lst (cutV (en.pot.g.map V.int) (some 1) none))) p.1 (.lst [.ref q, .int en.pot.seed, .int en.pot.n])) q ⟨en.pot.g.drop 1, en.pot.seed, en.pot.n⟩ := by
        refine ⟨fun b x h m => by rw [upd_ne (m p hp).1, upd_ne (ne_of_none h hq)]; exact h, fun b h => ?_, fun q' hq' => ?_⟩
        · by_cases z : b = p.1
          · rw [z, upd_same]; exact fun q => nomatch q
          · rw [upd_ne z]
            by_cases z : b = q
            · rw [z, upd_same]; exact fun q => nomatch q
            · rw [upd_ne z]; exact h
        · rw [hp] at hq'
          cases hq'
          exact ⟨⟨n1, upd_same, by rw [upd_ne (Ne.symm n1), upd_same, hc]⟩, .inr hq⟩
      exact k _ _ _ (J.here S) (J.stp S)
    · cases hf
/-! ### range(i, j, -1), tuple(range(..)) -/
theorem li_rngD {tg a b cc : Expr} {fa : FA} {p : Pos} (hg : Gl X "range") (hm : X.mg "range" = none) (ha : LA X [a, b, cc] fa) (hs : starEach [a, b, cc] X.env = (false, eval a X.env) :: starEach [b, cc] X.env := by rfl) (hpl : (backTo pos (starEach [b, cc] X.env)).any (·.1) = false := by rfl) :
    LI X tg (.Call (.Name "range" p) [a, b, cc] [] pos) (fRngD fa) :=
  weakI (pi_range3 hg hm ha hs hpl) fun σ H R ⟨c, o, en, S, ds, e', hf, k⟩ => by
    obtain ⟨⟨as, e1⟩, h1, hf⟩ := bind_some hf
    refine ⟨c, o, en, S, as, e1, h1, fun vs H1 o1 S1 a1 r1 => ?_⟩
    simp only at hf
    split at hf
    · rename_i i j
      obtain ⟨⟨hi, hj⟩, hf⟩ := if_some hf
      cases hf
      cases r1 with
      | cons x y =>
        cases y with
        | cons y z =>
          cases z with
          | cons z w =>
            cases w
            cases x
            cases y
            cases z
            exact ⟨i, j, -1, _, rfl, RgC.neg hi.1 hi.2 hj.1 hj.2, k _ H1 o1 S1 a1 walks_rangeC⟩
    · cases hf
def okSpan (i j : Int) : Prop := okR i ∧ okR j ∧ j - i ≤ 10000000
instance (i j : Int) : Decidable (okSpan i j) := inferInstanceAs (Decidable (_ ∧ _))
def fTupR1 (f : F) : F := fun e => (f e).bind fun p => match p.1 with
  | .int j => if okSpan 0 j then some (.tuple (rng 0 1 j.toNat), p.2) else none
  | _ => none
def fTupR2 (f g : F) : F := fun e => (f e).bind fun p => (g p.2).bind fun q => match p.1, q.1 with
  | .int i, .int j => if okSpan i j then some (.tuple (rng i 1 (j - i).toNat), q.2) else none
  | _, _ => none
theorem den_rg {M : MS} {H : Hp} (a b : Int) : DenL M H (rgV a b) (rng a 1 (b - a).toNat) := by
  unfold rgV rng
  generalize List.range (b - a).toNat = l
  induction l with
  | nil => exact .nil
  | cons x r ih =>
    rw [List.map_cons, List.map_cons, Int.mul_one]
    exact .cons (.int _) ih
theorem okSpan.ok {i j : Int} (h : okSpan i j) : RgOk i j := ⟨h.1.1, h.1.2, h.2.1.1, h.2.1.2, by have := h.2.2; omega⟩
theorem le_tupR1 {a : Expr} {fa : F} {p q : Pos} (hc : X.calm = true) (hgt : Gl X "tuple") (hmt : X.mg "tuple" = none) (hg : Gl X "range") (hm : X.mg "range" = none) (ha : LE X a fa) (na : starEach [a] X.env = (false, eval a X.env) :: starEach [] X.env := by rfl)
    (na2 : starEach [.Call (.Name "range" p) [a] [] p1] X.env = (false, eval (.Call (.Name "range" p) [a] [] p1) X.env) :: starEach [] X.env := by rfl) : LE X (.Call (.Name "tuple" q) [.Call (.Name "range" p) [a] [] p1] [] pos) (fTupR1 fa) :=
  weakE (pe_tupRg hc hgt hmt (prg_1 hg hm ha na) na2) fun σ H Q ⟨c, o, en, S, d, e', hf, k⟩ => by
    obtain ⟨⟨x, e1⟩, h1, hf⟩ := bind_some hf
    simp only at hf
    split at hf
    · obtain ⟨hj, hf⟩ := if_some hf
      cases hf
      refine ⟨c, o, en, S, _, _, h1, fun v H1 o1 S1 a1 r1 => ⟨_, r1.int_inv, hj.ok, fun q hq => k _ _ o1 (S1.same (same_upd hq)) (a1.trans (.same (same_upd hq))) (.newT S1.alloc hq ?_)⟩⟩
      have := den_rg (M := c.M o1) (H := H1) 0 (by assumption)
      rw [Int.sub_zero] at this
      exact this
    · cases hf
theorem le_tupR2 {a b : Expr} {fa fb : F} {p q : Pos} (hc : X.calm = true) (hgt : Gl X "tuple") (hmt : X.mg "tuple" = none) (hg : Gl X "range") (hm : X.mg "range" = none) (ha : LE X a fa) (hb : LE X b fb) (na : starEach [a, b] X.env = (false, eval a X.env) :: starEach [b] X.env := by rfl)
    (nb : starEach [b] X.env = (false, eval b X.env) :: starEach [] X.env := by rfl) (hp : (backTo p1 (starEach [b] X.env)).any (·.1) = false := by rfl)
    (na2 : starEach [.Call (.Name "range" p) [a, b] [] p1] X.env = (false, eval (.Call (.Name "range" p) [a, b] [] p1) X.env) :: starEach [] X.env := by rfl) : LE X (.Call (.Name "tuple" q) [.Call (.Name "range" p) [a, b] [] p1] [] pos) (fTupR2 fa fb) :=
  weakE (pe_tupRg hc hgt hmt (prg_2 hg hm ha hb na nb hp) na2) fun σ H Q ⟨c, o, en, S, d, e', hf, k⟩ => by
    obtain ⟨⟨x, e1⟩, h1, hf⟩ := bind_some hf
    obtain ⟨⟨y, e2⟩, h2, hf⟩ := bind_some hf
    simp only at hf
    split at hf
    · rename_i i j
      obtain ⟨hj, hf⟩ := if_some hf
      cases hf
      refine ⟨c, o, en, S, _, _, h1, fun v H1 o1 S1 a1 r1 => ⟨c, o1, _, S1, _, _, h2, fun u H2 o2 S2 a2 r2 => ⟨_, _, r1.int_inv, r2.int_inv, hj.ok, fun q hq => k _ _ o2 (S2.same (same_upd hq)) ((a1.trans a2).trans (.same (same_upd hq))) (.newT S2.alloc hq (den_rg _ _))⟩⟩⟩
    · cases hf
end
/-! ### (a,) * k, whatever k -/
section
variable {X : Cx}
theorem tuple_mul1 (l : Addr) (items : Array Value) (n : Nat) (dd : Option Addr) (sl : Array (Option Value)) (u : Tok) :
    Meets (Builtin.«tuple.__mul__» ⟨[.ref l, .int 1 u], []⟩) (fun _ R s => s.heap.get? l = some { cls := .type "tuple", dict := dd, data := .seq items n, slots := sl } ∧ R (.ok (.ret (Value.ref l))) s) :=
  .of_wp fun prog w A R s h => by
    obtain ⟨hp, g, d, tk, os⟩ := s
    obtain ⟨hl, h⟩ := h
    have f1 := AutoSeq1.idx_int
    wp_walk using wpAny_loadPart' hl
    exact ⟨_, rfl, h⟩
theorem tuple_mul0 (l : Addr) (items : Array Value) (n : Nat) (dd : Option Addr) (sl : Array (Option Value)) (u : Tok) (c1 : items.isEmpty = false) :
    Meets (Builtin.«tuple.__mul__» ⟨[.ref l, .int 0 u], []⟩) (fun _ R s => s.heap.get? l = some { cls := .type "tuple", dict := dd, data := .seq items n, slots := sl } ∧
      R (.ok (.ret (Value.ref s.heap.objs.size))) { s with heap := s.heap.push { cls := Value.type "tuple", data := Data.seq #[] }, toks := s.toks }) :=
  .of_wp fun prog w A R s h => by
    obtain ⟨hp, g, d, tk, os⟩ := s
    obtain ⟨hl, h⟩ := h
    have f1 := AutoSeq1.idx_int
    wp_walk using wpAny_loadPart' hl
    repeat (first
      | (refine wpAny_ite_false (decide_eq_false (by rw [c1]; decide)) ?_; wp_walk using wpAny_loadPart' hl))
    exact ⟨_, rfl, h⟩
def rRep1 (K : PySem.W.Frag) : R2 := fun x y H Q => ∃ l xs, x = .ref l ∧ y = .int 1 ∧ SqT K H l xs ∧ Q (.ref l) H
def rRep0 (K : PySem.W.Frag) : R2 := fun x y H Q => ∃ l xs, x = .ref l ∧ y = .int 0 ∧ SqT K H l xs ∧ xs ≠ [] ∧ ∀ p, H p = none → Q (.ref p) (upd H p (.tup []))
theorem op_rep1 : OpR X (binaryOp .Mult) (rRep1 X.K) := by
  intro pins s σ H x y v u Q I rx ry h
  obtain ⟨l, xs, rfl, rfl, hT, q⟩ := h
  cases rx
  obtain ⟨t, rfl⟩ := ry
  obtain ⟨its, r, ⟨⟨cls, dd, data, sl⟩, ho, hc, n, hd⟩, hs⟩ := I.tuple hT
  simp only at hc hd
  subst hc hd
  refine wpAny_binaryOp_repeat_ref (T := "tuple") (U := "int") (by decide) ⟨_, ho, rfl⟩ (fun s' => typeIs_int s' 1 t) noFill_tuple_mul F.fills_int_mul F.slot_int_rmul repeat_tuple F.slot_int_index.lookup
    (call_meets F.slot_int_rmul (typeIs_int s 1 t) F.entry_int_rmul (F.args_int_rmul_2 _ _) (int_rmul_tuple 1 t l its.toArray n dd sl)
      ⟨ho, rfl, ⟨_, ho, rfl⟩, call_meets F.slot_tuple_mul ⟨_, ho, rfl⟩ F.entry_tuple_mul (F.args_tuple_mul_2 _ _) (tuple_mul1 l its.toArray n dd sl t) ⟨ho, ?_⟩⟩)
  exact ⟨.ref l, H, I, rfl, q⟩
theorem op_rep0 : OpR X (binaryOp .Mult) (rRep0 X.K) := by
  intro pins s σ H x y v u Q I rx ry h
  obtain ⟨l, xs, rfl, rfl, hT, hne, q⟩ := h
  cases rx
  obtain ⟨t, rfl⟩ := ry
  obtain ⟨its, r, ⟨⟨cls, dd, data, sl⟩, ho, hc, n, hd⟩, hs⟩ := I.tuple hT
  simp only at hc hd
  subst hc hd
  have hi : its.toArray.isEmpty = false := by
    cases r with
    | nil => exact absurd rfl hne
    | cons _ _ => rfl
  refine wpAny_binaryOp_repeat_ref (T := "tuple") (U := "int") (by decide) ⟨_, ho, rfl⟩ (fun s' => typeIs_int s' 0 t) noFill_tuple_mul F.fills_int_mul F.slot_int_rmul repeat_tuple F.slot_int_index.lookup
    (call_meets F.slot_int_rmul (typeIs_int s 0 t) F.entry_int_rmul (F.args_int_rmul_2 _ _) (int_rmul_tuple 0 t l its.toArray n dd sl)
      ⟨ho, rfl, ⟨_, ho, rfl⟩, call_meets F.slot_tuple_mul ⟨_, ho, rfl⟩ F.entry_tuple_mul (F.args_tuple_mul_2 _ _) (tuple_mul0 l its.toArray n dd sl t hi) ⟨ho, ?_⟩⟩)
  refine ⟨.ref s.heap.objs.size, _, I.laid (t' := s.toks) (o := .tup []) (fun b ob q => Heap.get?_push_of_some _ q) (Nat.le_refl _) ?_, rfl, q _ (I.hok.fresh (Nat.le_refl _))⟩
  exact ⟨Nat.zero_le _, [], .nil, IsTup.new _ _⟩
/-- int * int, tuple * int -/
def opMulT : D → D → Option D
  | .int i, .int j => if (small64 i || small64 j) = true then some (.int (i * j)) else none
  | .tuple xs, .int k => if xs ≠ [] ∧ 0 ≤ k ∧ k ≤ 1000 ∧ xs.length ≤ 1000 then some (.tuple (List.replicate k.toNat xs).flatten) else none
  | _, _ => none
theorem o_mulT : Op2 X (binaryOp .Mult) opMulT := by
  refine op2_of (op_mul.or (op_repT.or (op_rep1.or op_rep0))) fun M H x y dx dy z hM r1 r2 e Q k => ?_
  unfold opMulT at e
  split at e
  · obtain ⟨h1, e⟩ := if_some e
    cases e
    refine .inl ⟨_, _, r1.int_inv, r2.int_inv, ?_, k _ H (Same.refl _) (.int _)⟩
    rw [Bool.or_eq_true] at h1
    exact h1.imp small64_ok small64_ok
  · rename_i xs j
    obtain ⟨⟨h1, h2, h3, h4⟩, e⟩ := if_some e
    cases e
    obtain ⟨p, vs, rfl, n1, p1, d1⟩ := r1.tup_inv
    have hv : vs ≠ [] := fun z => h1 (by subst z; cases d1; rfl)
    rcases (by omega : j = 0 ∨ j = 1 ∨ 2 ≤ j) with rfl | rfl | h2'
    · exact .inr (.inr (.inr ⟨p, vs, rfl, r2.int_inv, SqT.of p1, hv, fun a ha => k _ _ (same_upd ha) (.newT hM ha .nil)⟩))
    · refine .inr (.inr (.inl ⟨p, vs, rfl, r2.int_inv, SqT.of p1, k _ H (Same.refl _) ?_⟩))
      have e1 : (List.replicate (1 : Int).toNat xs).flatten = xs := by simp
      rw [e1]
      exact .tup n1 p1 d1
    · exact .inr (.inl ⟨p, j, vs, rfl, r2.int_inv, SqT.of p1, hv, h2', h3, by rw [d1.length]; exact h4, fun a ha => k _ _ (same_upd ha) (.newT hM ha (d1.rep _))⟩)
  · cases e
end
end L3

/-! L3: what a call of an own def needs, in one. -/
namespace L3
open PySem PySem.Spec PyProof.Rows L2
structure CalG (P : Program) (w : World) (K : PySem.W.Frag) (mg : Str → Option Value) (base : Heap) (k : Nat) (x : Str) (ps : List Str) (sp : Sp) : Prop where
  ex : ∃ f fd, FnG P w K mg base k f fd ps sp ∧ mg x = some (.ref f) ∧ PySem.W.keepIn K (.ref f) = true ∧ Binds K fd ps []
theorem CalG.mk2 {P : Program} {w : World} {K : PySem.W.Frag} {mg : Str → Option Value} {base : Heap} {k : Nat} {x qual : Str} {st : Stmt} {f : Addr} {fd : FuncData} {ps : List Str} {sp : Sp}
    (F : Fun K x qual st f fd) (hm : mg x = some (.ref f)) (hb : Binds K fd ps []) (G : FnG P w K mg base k f fd ps sp) : CalG P w K mg base k x ps sp := ⟨f, fd, G, hm, F.kp, hb⟩
section
variable {X : Cx} {x : Str} {p pos : Pos} {e e0 : Expr} {es : List Expr} {fr : FA} {j k n i : Nat} {ps : List Str}
theorem le_callC {fn : List D → Option D} (C : CalG X.prog X.w X.K X.mg X.base j x ps (spP n fn)) (hgd : X.A.guards = some []) (hr : Room k X.A) (hjk : j ≤ k) (hg : Gl X x) (ha : LA X (e :: es) fr) (hn : ∀ en ds e', fr en = some (ds, e') → ds.length = n)
    (hdb : (x == ("__debug__" : Str)) = false := by decide) (he : starEach (e :: es) X.env = (false, eval e X.env) :: starEach es X.env := by rfl) (hpl : (backTo pos (starEach es X.env)).any (·.1) = false := by rfl) :
    LE X (.Call (.Name x p) (e :: es) [] pos) (fCall fn fr) := by
  obtain ⟨f, fd, G, hm, hk, hb⟩ := C.ex
  exact le_call (G.mono hjk) hgd hr hg hm hk hb ha hn hdb he hpl
theorem le_callQC {fn : List D → Pot → Option (D × Pot)} (C : CalG X.prog X.w X.K X.mg X.base j x ps (spQ n fn)) (hgd : X.A.guards = some []) (hr : Room k X.A) (hjk : j ≤ k) (hg : Gl X x) (h0 : PE X e0 (tVar i)) (ha : LA X es fr) (hn : ∀ en ds e', fr en = some (ds, e') → ds.length + 1 = n)
    (hdb : (x == ("__debug__" : Str)) = false := by decide) (hs : starEach (e0 :: es) X.env = (false, eval e0 X.env) :: starEach es X.env := by rfl) (hpl : (backTo pos (starEach es X.env)).any (·.1) = false := by rfl) :
    LE X (.Call (.Name x p) (e0 :: es) [] pos) (fCallQ i fn fr) := by
  obtain ⟨f, fd, G, hm, hk, hb⟩ := C.ex
  exact le_callQ (G.mono hjk) hgd hr hg hm hk hb h0 ha hn hdb hs hpl
theorem le_glob_intE {i : Int} (hg : Gl X x) (hm : ∃ t, X.mg x = some (.int i t)) (hd : (x == ("__debug__" : Str)) = false := by decide) : LE X (.Name x pos) (fC (.int i)) := hm.elim fun _ h => le_glob_int hg h hd
theorem le_glob_strE {z : Str} (hg : Gl X x) (hm : ∃ t, X.mg x = some (.str z t)) (hd : (x == ("__debug__" : Str)) = false := by decide) : LE X (.Name x pos) (fC (.str z)) := hm.elim fun _ h => le_glob_str hg h hd
theorem len1 {fr : FA} {n : Nat} (h : ∀ en ds e', fr en = some (ds, e') → ds.length = n) : ∀ en ds e', fr en = some (ds, e') → ds.length + 1 = n + 1 := fun en ds e' q => by rw [h en ds e' q]
end
theorem len0 : ∀ en ds e', fNil en = some (ds, e') → ds.length = 0 := fun _ _ _ => len_nil
theorem bt_len : bootBuiltins ("len" : Str) = some (.builtin "len") := by decide +kernel
theorem bt_abs : bootBuiltins ("abs" : Str) = some (.builtin "abs") := by decide +kernel
theorem bt_all : bootBuiltins ("all" : Str) = some (.builtin "all") := by decide +kernel
theorem bt_any : bootBuiltins ("any" : Str) = some (.builtin "any") := by decide +kernel
theorem bt_max : bootBuiltins ("max" : Str) = some (.builtin "max") := by decide +kernel
theorem bt_min : bootBuiltins ("min" : Str) = some (.builtin "min") := by decide +kernel
theorem bt_sum : bootBuiltins ("sum" : Str) = some (.builtin "sum") := by decide +kernel
theorem bt_repr : bootBuiltins ("repr" : Str) = some (.builtin "repr") := by decide +kernel
theorem bt_int : bootBuiltins ("int" : Str) = some (.type "int") := by decide +kernel
theorem bt_bool : bootBuiltins ("bool" : Str) = some (.type "bool") := by decide +kernel
theorem bt_str : bootBuiltins ("str" : Str) = some (.type "str") := by decide +kernel
theorem bt_tuple : bootBuiltins ("tuple" : Str) = some (.type "tuple") := by decide +kernel
theorem bt_list : bootBuiltins ("list" : Str) = some (.type "list") := by decide +kernel
/-- turns that a while may take -/
def fu : Nat := 1000000
end L3

/-! L3: a law's head: the script, the pot made of it, the call. -/
namespace L3
open PySem PySem.Spec PyProof.Rows L2

/-! ### the law is called -/
/-- the abstract heap at the law's call: the script alone, where it is no object of the module -/
def scrH (K : PySem.W.Frag) (a : Addr) (o : Obj) (xs : List V) : Hp := fun b => if b = a ∧ K.lookup a = none then some (.frz o (.lst xs)) else none
theorem scrH_some {K : PySem.W.Frag} {a b : Addr} {o : Obj} {xs : List V} {u : HO} (h : scrH K a o xs b = some u) : b = a ∧ K.lookup a = none ∧ u = .frz o (.lst xs) := by
  unfold scrH at h
  obtain ⟨⟨h1, h2⟩, h3⟩ := if_some h
  exact ⟨h1, h2, h3.symm⟩
theorem law_callG {P : Program} {w : World} {K : PySem.W.Frag} {mg mb : Str → Option Value} {k : Nat} {fa a : Addr} {fd : FuncData} {x : Str} {sp : Sp} {s₁ : Shared} {vs : List Value} {ns : List Int}
    (KX : K.In s₁.heap) (hns : s₁.heap.Ns mainGlobals mg) (hb : s₁.heap.Ns builtinsNs mb) (hbb : ∀ x : Str, x ≠ "__name__" → mb x = bootBuiltins x) (hlim : s₁.heap.NoLimit) (hg : s₁.gens = #[])
    (ha : s₁.heap.get? a = some { cls := .type "list", data := .seq vs.toArray }) (hi : IntsAre vs ns) (hl : ns.length ≤ sizeLine) (hr : Room k callerA)
    (F : ∀ base : Heap, K.In base → base.Ns mainGlobals mg → FnG P w K mg base k fa fd [x] sp) (hbind : ∀ (s : Shared) (u : Value), BindsTo s fd ⟨[u], []⟩ [(x, u)])
    (hsp : ∀ H : Hp, SqL K H a (ns.map V.int) → sp [.ref a] H (fun v _ => v = .bl true) E0) :
    codeAny (model P w) callerA (.call (.ref fa) ⟨[.ref a], []⟩) (fun r s' => r = .ok (.ret (.bool true)) ∧ OldK s₁.heap s'.heap ∧ s'.os = s₁.os ∧ AllBare s'.gens) s₁ := by
  have rv : Vals (ns.map V.int) vs := vals_ints hi
  generalize hO : ({ cls := .type "list", data := .seq vs.toArray } : Obj) = O at ha
  have hS : SqL K (scrH K a O (ns.map V.int)) a (ns.map V.int) := by
    cases q : K.lookup a with
    | none => exact .inl (.inr ⟨O, if_pos ⟨rfl, q⟩⟩)
    | some o =>
      have e := KX a o q
      rw [ha, ← hO] at e
      cases e
      exact .inr ⟨_, vs.toArray, _, q, rfl, rfl, rfl, by rw [List.size_toArray, hi.length]; exact hl, by simpa using rv⟩
  have hok : HOk P w (scrH K a O (ns.map V.int)) s₁.heap := fun b u q => by
    obtain ⟨rfl, _, rfl⟩ := scrH_some q
    rw [← hO] at ha ⊢
    exact ⟨ha, by rw [List.length_map]; exact hl, vs, _, rv, ha⟩
  generalize hH : scrH K a O (ns.map V.int) = H at hS hok
  have only : ∀ {b : Addr}, H b ≠ none → b = a ∧ K.lookup a = none := fun {b} h => by
    cases q : H b with
    | none => exact absurd q h
    | some u => rw [← hH] at q; exact ⟨(scrH_some q).1, (scrH_some q).2.1⟩
  have free : ∀ {b : Addr} {o : Obj} {es : Array DictEntry} {ep : Nat}, s₁.heap.get? b = some o → o.data = .dict es ep → H b = none := fun {b o es ep} e d => Classical.byContradiction fun z => by
    obtain ⟨rfl, _⟩ := only z
    rw [ha] at e
    cases e
    rw [← hO] at d
    cases d
  have nsK : ∀ {b : Addr} {m : Str → Option Value}, s₁.heap.Ns b m → (hidT s₁.heap H).Ns b m := fun {b m} ⟨o, es, ep, e, d, r⟩ => ⟨o, es, ep, hidT_get e (free e d), d, r⟩
  have kin : K.In (hidT s₁.heap H) := fun b o e => hidT_get (KX b o e) (Classical.byContradiction fun z => by
    obtain ⟨rfl, h⟩ := only z
    rw [h] at e
    cases e)
  have hM : Mod K mg (hidT s₁.heap H) := ⟨kin, nsK hns, ⟨mb, nsK hb, hbb⟩, let ⟨mc, h1, h2⟩ := hlim; ⟨mc, nsK h1, h2⟩⟩
  have nomem : ∀ {b : Addr}, b ∉ ([] : List Addr) := fun z => nomatch z
  have e0 : Env0 P w K mg (hidT s₁.heap H) callerA [] s₁ H := ⟨rfl, hM, fun b o e => of_hidT e, Nat.le_of_eq (hidT_size _ _), trivial, fun b z => absurd z nomem, hok, .of_eq hg⟩
  refine codeAny_mono ((F _ kin (nsK hns)).run callerA [] s₁ H ⟨[.ref a], []⟩ [.ref a] [.ref a] _ rfl hr e0 (hbind s₁ (.ref a)) (.cons rfl .nil) (hsp H hS)) fun r s' h => ?_
  match r, h with
  | .ok (.ret u), ⟨v, H', os, bare, un, hok', r', q⟩ =>
    have q' : v = .bl true := q
    subst q'
    obtain rfl : u = Value.bool true := r'
    refine ⟨rfl, OldK.of_keep fun b o e => ?_, os, bare⟩
    cases q : H b with
    | none => exact un.keep b o e q nomem nomem
    | some u =>
      have q2 := q
      rw [← hH] at q2
      obtain ⟨_, _, rfl⟩ := scrH_some q2
      obtain ⟨e1, _⟩ := hok b _ q
      obtain ⟨e2, _⟩ := hok' b _ (un.frzs b _ _ q)
      rw [e] at e1
      cases e1
      exact e2
theorem walk_ofG {l : PySem.W.OpenLaw} {n k : Nat} {q : Program} {loose : List Str} {XP : (Str → Option Value) → Heap → Prop} {YP : World → Heap → Prop} {d : DefRec} {K : Params → PySem.W.Frag} {sp : World → Sp} {x : Str}
    (hn : l.most = some n) (hn2 : n ≤ sizeLine) (hdf : d.params.defaults = []) (hr : Room k callerA)
    (hY : ∀ (w : World) (h : Heap), YP w h → (K w.params).In h)
    (F : ∀ (w : World) (mg : Str → Option Value) (fa : Addr) (h : Heap), (K w.params).In h → h.Ns mainGlobals mg → mg d.name = some (.ref fa) →
      ∃ fd : FuncData, (∀ (s : Shared) (u : Value), BindsTo s fd ⟨[u], []⟩ [(x, u)]) ∧
        ∀ base : Heap, (K w.params).In base → base.Ns mainGlobals mg → FnG l.prog w (K w.params) mg base k fa fd [x] (sp w))
    (hsp : ∀ (w : World) (H : Hp) (a : Addr) (ns : List Int), ns.length ≤ n → SqL (K w.params) H a (ns.map V.int) → sp w [.ref a] H (fun v _ => v = .bl true) E0) :
    PySem.W.WalkO q loose XP YP l.row.toRowW d [] (fun f vs => PySem.call f vs) := by
  refine Att.attach_call hn hdf fun w s₀ s₁ mg mb fa o pm cd doc a vs ns G Y ho hd hcd hmg hobj hints hlen hg => ?_
  obtain ⟨fd, hb, hF⟩ := F w mg fa _ (hY w _ Y) G.T.g hmg
  exact law_callG (hY w _ Y) G.T.g G.T.b G.T.builtins G.T.nolimit hg hobj hints (Nat.le_trans hlen hn2) hr hF hb fun H hS => hsp w H a ns hlen hS

/-! ### a for whose row is told otherwise -/
theorem for_can {g : FG} {ix : List Nat} {b : FS} {c : Ctx} {o1 : OS} {σ : L2.St} {H1 : Hp} {e1 : En} {J : It} {ds : List D} {D : Ends} {r : Out} (S1 : SOk c o1 σ H1 e1) (W : Walks (c.M o1) H1 J ds) (hf : sForL g b ds e1 = some r) (k : Wish c o1 H1 D r) :
    ∃ W : Nat → Nat → L2.St → Hp → Prop, (∃ m, W 0 m σ H1) ∧ ∀ i m σ H, W i m σ H →
      (J.stop i H ∧ D.nx σ H) ∨ (J.go i H ∧ ∃ N : L2.St → Hp → Prop, (∀ σ' H', N σ' H' → ∃ m', m' < m ∧ W (i + 1) m' σ' H') ∧ ∀ x H', J.yld i H x H' → canG g ix x σ H' fun σ2 H2 => canS b { D with nx := N, ct := N, bk := D.nx } σ2 H2) := by
  obtain ⟨G, Y, wk, hG, hY⟩ := W
  refine for_it wk (fun i σ2 H2 => ∃ o2 e2, SOk c o2 σ2 H2 e2 ∧ Stp c o1 H1 o2 H2 ∧ ∃ r2, sForL g b (ds.drop i) e2 = some r2 ∧ Wish c o2 H2 D r2)
    ⟨o1, e1, S1, .refl, r, hf, k⟩ (fun i σ2 H2 hi ⟨o2, e2, S2, a2, _⟩ => hG _ H2 a2.1) (fun i x σ2 H2 H3 hi ⟨o2, e2, S2, a2, r2, hf2, k2⟩ y => ?_) fun σ2 H2 ⟨o2, e2, S2, a2, r2, hf2, k2⟩ => ?_
  · obtain ⟨d, hd, sm, rd⟩ := hY _ H2 i x H3 hi a2.1 S2.alloc y
    have a3 : Stp c o2 H2 o2 H3 := .same sm
    rw [List.drop_eq_getElem_cons hi] at hf2
    have ed : ds[i] = d := by rw [List.getElem?_eq_getElem hi] at hd; exact Option.some.inj hd
    rw [ed] at hf2
    obtain ⟨e3, h3, hf2⟩ := bind_some hf2
    obtain ⟨r3, h4, hf2⟩ := bind_some hf2
    refine ⟨c, o2, e2, d, S2.same sm, rd, e3, h3, fun σ4 o4 S4 a4 _ _ => ⟨c, o4, e3, S4, r3, h4, ?_⟩⟩
    cases r3 with
    | nx e5 => exact fun σ5 H5 o5 S5 a5 => ⟨o5, e5, S5, ((a2.trans a3).trans a4).trans a5, r2, hf2, k2.from ((a3.trans a4).trans a5)⟩
    | ct e5 => exact fun σ5 H5 o5 S5 a5 => ⟨o5, e5, S5, ((a2.trans a3).trans a4).trans a5, r2, hf2, k2.from ((a3.trans a4).trans a5)⟩
    | bk e5 => cases hf2; exact k2.from (a3.trans a4)
    | rt v e5 => cases hf2; exact k2.from (a3.trans a4)
  · rw [List.drop_length] at hf2
    cases hf2
    exact k2 σ2 H2 o2 S2 .refl

/-! ### the pot's make -/
def noM : MS := fun _ => False
/-- what the pot's make promises: of the script's ints, as data -/
def spScr (K : PySem.W.Frag) (fn : List Int → Option D) : Sp := fun vs H Q _ => ∃ (a : Addr) (ns : List Int) (z : D), vs = [.ref a] ∧ SqL K H a (ns.map V.int) ∧ ns.length ≤ 63 ∧ fn ns = some z ∧ ∀ v H', Same H H' → Den noM H' v z → Q v H'
def potD (P : Pot) : D := .list [.list (P.g.map PyData.int), .int P.seed, .int P.n]
theorem denL_ints : ∀ {M : MS} {H : Hp} {vs : List V} {ns : List Int}, DenL M H vs (ns.map PyData.int) → vs = ns.map V.int := fun {M H vs ns} h => intsD_ok h (intsD_map ns)
theorem pot_of_den {M : MS} {H : Hp} {v : V} {P : Pot} (h : Den M H v (potD P)) : ∃ pa g, v = .ref pa ∧ PotAt H pa g P := by
  obtain ⟨pa, xs, rfl, _, h1, h2⟩ := h.lst_inv
  cases h2 with
  | cons a h2 =>
    cases h2 with
    | cons b h2 =>
      cases h2 with
      | cons c h2 =>
        cases h2
        cases b
        cases c
        obtain ⟨g, ys, rfl, _, h3, h4⟩ := a.lst_inv
        have e := denL_ints h4
        subst e
        refine ⟨pa, g, rfl, fun z => ?_, h1, h3⟩
        subst z
        rw [h1] at h3
        have h5 := HO.lst.inj (Option.some.inj h3)
        cases hg : P.g with
        | nil => rw [hg] at h5; cases h5
        | cons x r => rw [hg] at h5; cases h5
/-- the make's mirror: b the loop's body, f the rest -/
def runScr (s0 : Int) (b f : FS) (ns : List Int) : Option D := endF ((sForL (gN 3) b (ns.map PyData.int) ⟨[.un, .own [], .dat (.int s0), .un, .un], pot0⟩).bind fun r => match r with
  | .nx e => f e
  | r => some r)
section
variable {P : Program} {w : World} {K : PySem.W.Frag} {mg : Str → Option Value} {base : Heap}
theorem cut63 (xs : List V) (h : xs.length ≤ 63) : cutV xs none (some 63) = xs := by
  unfold cutV
  have h2 : HT.sIx xs.length xs.length (some 63) = xs.length := by
    have := HT.sIx_nat xs.length xs.length 63
    rw [show ((63 : Nat) : Int) = 63 from rfl] at this
    rw [this]
    omega
  rw [HT.sIx_none, h2]
  simp
/-- a state in which nothing is told -/
theorem bare_ok {H : Hp} {n : Nat} {σ : L2.St} (h : σ.length = n) : SOk ⟨noM, H, none⟩ ⟨fun _ => none, 0⟩ σ H ⟨List.replicate n .un, pot0⟩ where
  len := by rw [h]; exact (List.length_replicate ..).symm
  slot := fun i sd q => by
    obtain ⟨_, q⟩ := List.getElem?_eq_some_iff.mp q
    rw [List.getElem_replicate] at q
    subst q
    rfl
  out := fun _ _ => rfl
  inj := fun _ _ _ q _ => nomatch q
  fresh := fun _ _ q => nomatch q
  keep := fun _ _ q _ => q
  mc := fun _ q => q.elim
  dom := fun _ q => q
  pot := fun _ q => nomatch q
theorem end_wish {c : Ctx} {o : OS} {H H0 : Hp} {Q : VK} {r : Out} {z : D} {D : Ends} (hc : c.H0 = H0) (hp : c.pt = none) (h : endF (some r) = some z) (q : ∀ v H', Same H0 H' → Den noM H' v z → Q v H')
    (h1 : D.nx = fun _ H' => Q .non H') (h2 : D.rt = Q) : Wish c o H D r := by
  have sm : ∀ {o' : OS} {σ' : L2.St} {H' : Hp} {e' : En}, SOk c o' σ' H' e' → Same H0 H' := fun S b x hb => S.keep b x (by rw [hc]; exact hb) fun p z => by rw [hp] at z; cases z
  cases r with
  | nx e =>
    cases h
    intro σ' H' o' S a
    rw [h1]
    exact q _ _ (sm S) .non
  | rt d e =>
    cases h
    intro v σ' H' o' S a rv
    rw [h2]
    exact q _ _ (sm S) (rv.less fun b z => z.elim)
  | bk e => cases h
  | ct e => cases h
theorem scr_state {N : List Str} {s0 : Int} {b f : FS} {a : Addr} {ns : List Int} {z : D} {H : Hp} {Q : VK} (hN : N.length = 5) (hS : SqL K H a (ns.map V.int)) (hl : ns.length ≤ 63) (hz : runScr s0 b f ns = some z)
    (q : ∀ v H', Same H H' → Den noM H' v z → Q v H') :
    tSeq (tPar 1 2 (tCons (tLst tNil) (tCons (tC (.int s0)) tNil))) (tSeq (tFor (iList K (tSl (rSlL K) (tVar 0) tNoPart (tPart (tC (.int 63))))) (canG (gN 3) [3]) (canS b)) (canS f)) { nx := fun _ H' => Q .non H', rt := Q } (start N [.ref a]) H := by
  refine ⟨Nat.zero_le _, fun p hp => ⟨_, _, rfl, ?_⟩⟩
  have S0 : SOk ⟨noM, H, none⟩ ⟨fun _ => none, 0⟩ (start N [.ref a]) H ⟨List.replicate 5 .un, pot0⟩ := bare_ok (by
    show ([V.ref a].map some ++ List.replicate (N.length - 1) none).length = 5
    rw [hN]
    rfl)
  have S1 := (S0.own (i := 1) hp .nil (by show 1 < 5; decide)).1
  have S2 := S1.put (i := 2) (v := .int s0) (d := .int s0) (.int s0)
  have h0 : (((start N [.ref a]).set 1 (some (.ref p))).set 2 (some (.int s0)))[0]? = some (some (.ref a)) := rfl
  refine ⟨.ref a, h0, 63, rfl, a, _, rfl, (same_upd hp).seq hS, fun t ht => ⟨t, rfl, ⟨_, SqL.of upd_same⟩, ?_⟩⟩
  have S3 := S2.same (same_upd (x := .lst (cutV (ns.map V.int) none (some 63))) ht)
  have e0 : (((⟨List.replicate 5 .un, pot0⟩ : En).put 1 (.own [])).put 2 (.dat (.int s0))) = ⟨[.un, .own [], .dat (.int s0), .un, .un], pot0⟩ := rfl
  rw [e0] at S3
  unfold runScr at hz
  cases hr : sForL (gN 3) b (ns.map PyData.int) ⟨[.un, .own [], .dat (.int s0), .un, .un], pot0⟩ with
  | none => rw [hr] at hz; cases hz
  | some r =>
    rw [hr] at hz
    refine for_can (ds := ns.map PyData.int) S3 (walks_list (S2.new ht) upd_same ?_) hr ?_
    · rw [cut63 _ (by rw [List.length_map]; exact hl)]
      exact .ints ns
    · cases r with
      | nx e =>
        have hz' : endF (f e) = some z := hz
        cases hr2 : f e with
        | none => rw [hr2] at hz'; cases hz'
        | some r2 =>
          rw [hr2] at hz'
          exact fun σ' H' o' S' a' => ⟨_, o', e, S', r2, hr2, end_wish rfl rfl hz' q rfl rfl⟩
      | rt d e => exact end_wish (D := { nx := fun _ H' => Q .non H', rt := Q }) (o := _) rfl rfl hz q rfl rfl
      | bk e => cases hz
      | ct e => cases hz
/-! ### pot = _law_pot(script); .. -/
def spLaw (K : PySem.W.Frag) : Sp := fun vs H Q _ => ∃ (a : Addr) (ns : List Int), vs = [.ref a] ∧ SqL K H a (ns.map V.int) ∧ ns.length ≤ 63 ∧ ∀ H', Q (.bl true) H'
theorem lawB_state {N : List Str} {i : Nat} {fn : List Int → Option D} {f : FS} {a : Addr} {ns : List Int} {H : Hp} {Q : VK} {P : Pot} (hS : SqL K H a (ns.map V.int)) (hl : ns.length ≤ 63) (hi : i < N.length) (h1 : 1 ≤ N.length)
    (hP : fn ns = some (potD P)) (hf : endF (f ⟨(List.replicate N.length .un).set i .pot, P⟩) = some (.bool true)) (q : ∀ H', Q (.bl true) H') :
    tSeq (tAsg (fun σ H Q => tCons (tVar 0) tNil σ H fun vs H1 => spScr K fn vs H1 Q E0) (gName i)) (canS f) { nx := fun _ H' => Q .non H', rt := Q } (start N [.ref a]) H := by
  have h0 : (start N [.ref a])[0]? = some (some (.ref a)) := rfl
  refine ⟨.ref a, h0, a, ns, _, rfl, hS, hl, hP, fun v H1 sm rv => ?_⟩
  obtain ⟨pa, g, rfl, pt⟩ := pot_of_den rv
  have hlen : (start N [V.ref a]).length = N.length := by
    show ([V.ref a].map some ++ List.replicate (N.length - 1) none).length = _
    rw [List.length_append, List.length_replicate]
    show 1 + (N.length - 1) = _
    omega
  have S : SOk ⟨noM, H1, some (pa, g)⟩ ⟨fun _ => none, g⟩ ((start N [V.ref a]).set i (some (.ref pa))) H1 ⟨(List.replicate N.length .un).set i .pot, P⟩ := by
    refine ⟨by rw [List.length_set, hlen]; show _ = ((List.replicate N.length SD.un).set i .pot).length; rw [List.length_set, List.length_replicate], fun j sd h => ?_, fun _ _ => rfl, fun _ _ _ q _ => (nomatch q), fun _ _ q => (nomatch q), fun _ _ q _ => q, fun _ q => q.elim, fun _ q => q, fun p hp => ?_⟩
    · have h' : ((List.replicate N.length SD.un).set i .pot)[j]? = some sd := h
      by_cases e1 : j = i
      · subst e1
        rw [List.getElem?_set_self (by rw [List.length_replicate]; exact hi)] at h'
        cases h'
        exact ⟨rfl, (pa, g), rfl, List.getElem?_set_self (by rw [hlen]; exact hi)⟩
      · rw [List.getElem?_set_ne (Ne.symm e1)] at h'
        obtain ⟨_, h'⟩ := List.getElem?_eq_some_iff.mp h'
        rw [List.getElem_replicate] at h'
        subst h'
        rfl
    · cases hp
      obtain ⟨g0, g1, g2⟩ := id pt
      exact ⟨pt, by show H1 pa ≠ none; rw [g1]; exact fun z => (nomatch z), by show H1 g ≠ none; rw [g2]; exact fun z => (nomatch z), .inl rfl, fun _ z => nomatch z⟩
  cases hr : f ⟨(List.replicate N.length .un).set i .pot, P⟩ with
  | none => rw [hr] at hf; cases hf
  | some r =>
    rw [hr] at hf
    refine ⟨_, _, _, S, r, hr, ?_⟩
    cases r with
    | rt d e =>
      cases hf
      exact fun v σ' H' o' S' a' rv => by
        rw [rv.bl_inv]
        exact q H'
    | nx e => cases hf
    | bk e => cases hf
    | ct e => cases hf
end
end L3

/-! L3: more words: pop, sorted, list(range(..)), a law in one row. -/
namespace L3
open PySem PySem.Spec PyProof.Rows L2
section
variable {X : Cx} {e : Expr} {fe : F} {pos p1 p2 p3 : Pos}
/-! ### sorted, of ints -/
def insI (x : Int) : List Int → List Int
  | [] => [x]
  | y :: r => if x ≤ y then x :: y :: r else y :: insI x r
def sortI : List Int → List Int
  | [] => []
  | x :: r => insI x (sortI r)
theorem insI_perm (x : Int) : ∀ l : List Int, (insI x l).Perm (x :: l)
  | [] => .refl _
  | y :: r => by
    unfold insI
    split
    · exact .refl _
    · exact ((insI_perm x r).cons y).trans (.swap x y r)
theorem sortI_perm : ∀ l : List Int, (sortI l).Perm l
  | [] => .refl _
  | x :: r => (insI_perm x _).trans ((sortI_perm r).cons x)
theorem insI_pw (x : Int) : ∀ {l : List Int}, l.Pairwise (· ≤ ·) → (insI x l).Pairwise (· ≤ ·)
  | [], _ => .cons (fun _ h => nomatch h) .nil
  | y :: r, h => by
    unfold insI
    split
    · rename_i hxy
      refine .cons (fun z hz => ?_) h
      rcases List.mem_cons.mp hz with rfl | hz
      · exact hxy
      · exact Int.le_trans hxy ((List.pairwise_cons.mp h).1 z hz)
    · rename_i hxy
      obtain ⟨h1, h2⟩ := List.pairwise_cons.mp h
      refine .cons (fun z hz => ?_) (insI_pw x h2)
      rcases List.mem_cons.mp ((insI_perm x r).mem_iff.mp hz) with rfl | hz
      · omega
      · exact h1 z hz
theorem sortI_pw : ∀ l : List Int, (sortI l).Pairwise (· ≤ ·)
  | [] => .nil
  | x :: r => insI_pw x (sortI_pw r)
theorem sorted_eq {a b : List Int} (h : a.Perm b) (ha : a.Pairwise (· ≤ ·)) (hb : b.Pairwise (· ≤ ·)) : a = b := h.eq_of_pairwise (fun x y _ _ h1 h2 => Int.le_antisymm h1 h2) ha hb
def bSorted : List D → Option D
  | [.list ds] => (intsD ds).map fun ns => .list ((sortI ns).map PyData.int)
  | _ => none
theorem c_sorted : CallD X (.builtin "sorted") bSorted := ⟨_, cr_sortedI, fun M H xs ds z hM r e Q k => by
  unfold bSorted at e
  split at e
  · obtain ⟨ns, h1, rfl⟩ := Option.map_eq_some_iff.mp e
    obtain ⟨v, rfl, q1⟩ := den1 r
    obtain ⟨p, vs, rfl, n, g1, g2⟩ := q1.lst_inv
    rw [intsD_ok g2 h1] at g1
    refine ⟨p, ns, rfl, SqL.of g1, fun ns' q hp hs hq => ?_⟩
    have : ns' = sortI ns := sorted_eq (hp.trans (sortI_perm ns).symm) hs (sortI_pw ns)
    subst this
    exact k _ _ (same_upd hq) (.newL hM hq (.ints _))
  · cases e⟩
theorem bt_sorted : bootBuiltins ("sorted" : Str) = some (.builtin "sorted") := by decide +kernel
/-! ### x.pop(e) -/
def fPop (i : Nat) (f : F) : F := fun e => match e.sl[i]? with
  | some (.own _) => (f e).bind fun p => match p.2.sl[i]?, p.1 with
    | some (.own ds), .int j => if 0 ≤ j ∧ j < ds.length ∧ ds.length ≤ big then (ds[j.toNat]?).map fun d => (d, p.2.put i (.own (ds.eraseIdx j.toNat))) else none
    | _, _ => none
  | _ => none
theorem DenL.erase {M : MS} {H : Hp} : ∀ {vs : List V} {ds : List D} (k : Nat), DenL M H vs ds → DenL M H (vs.eraseIdx k) (ds.eraseIdx k)
  | _, _, _, .nil => by simpa using DenL.nil
  | _, _, 0, .cons r t => t
  | _, _, k + 1, .cons r t => .cons r (DenL.erase k t)
theorem le_pop {i : Nat} {x e : Expr} {fe : F} {apos cpos : Pos} (hx : PE X x (tVar i)) (he : LE X e fe) (hbase : attributeBase x "pop" X.env (eval x X.env) = eval x X.env := by rfl)
    (hfew : ((backTo cpos (starEach [e] X.env)).all (fun x => !x.1) && (backToKw cpos (keywordEach [] X.env)).all (fun x => x.1.isSome)
      && decide ([e].length + ([] : List Keyword).length + (if ([] : List Keyword).isEmpty then 0 else 1) < 30)) = true := by rfl)
    (hline : (apos.endLine == cpos.line) = true := by rfl) (hs : starEach [e] X.env = (false, eval e X.env) :: starEach [] X.env := by rfl) :
    LE X (.Call (.Attribute x "pop" apos) [e] [] cpos) (fPop i fe) :=
  weakE (pe_bm PySem.F.plainAttrs_list PySem.F.slot_list_pop PySem.F.type_list_pop mt_popAt hx (pa_cons he pa_nil hs) hbase hfew hline hs (by rfl)) fun σ H Q ⟨c, o, en, S, r, e', hf, k⟩ => by
    unfold fPop at hf
    cases h0 : en.sl[i]? with
    | none => rw [h0] at hf; cases hf
    | some sd =>
      rw [h0] at hf
      cases sd with
      | own ds0 =>
        obtain ⟨p, vs, g1, g2, g3, g4⟩ := S.slot i _ h0
        refine ⟨_, g2, .inl ⟨rfl, vs, SqL.of g3⟩, ?_⟩
        obtain ⟨⟨d, e1⟩, h1, hf⟩ := bind_some hf
        refine ⟨c, o, en, S, d, e1, h1, fun v H1 o1 S1 a1 r1 => ?_⟩
        cases h2 : e1.sl[i]? with
        | none => simp only [h2] at hf; cases hf
        | some sd1 =>
          simp only [h2] at hf
          cases sd1 with
          | own ds =>
            cases d with
            | int j =>
              obtain ⟨⟨j0, j1, hz⟩, hf⟩ := if_someB hf
              obtain ⟨d, hd, hf⟩ := Option.map_eq_some_iff.mp hf
              obtain ⟨rfl, rfl⟩ := Prod.mk.inj hf
              obtain ⟨p1, ws, k1, k2, k3, k4⟩ := S1.slot i _ h2
              have ep : p1 = p := by rw [g2] at k2; cases k2; rfl
              subst ep
              obtain ⟨y, hy, ry⟩ := k4.getD hd
              obtain ⟨S2, a2⟩ := S1.grow h2 k1 (k4.erase j.toNat)
              have bl := big_line hz
              have e63 : (2 : Int) ^ 63 = 9223372036854775808 := by decide
              have hb : ds.length ≤ 10000000 := hz
              refine ⟨p1, ws, j, j.toNat, y, rfl, by rw [r1.int_inv], k3, by rw [e63]; omega, by rw [e63]; omega, ?_, hy, k y _ _ S2 (a1.trans a2) (a2.den ry)⟩
              exact (ixN_seq (by
                unfold ixN
                rw [if_pos j0, if_pos (by rw [k4.length]; exact j1)])).1
            | _ => cases hf
          | _ => cases hf
      | _ => cases hf
/-! ### list(range(n)) -/
def fLstR1 (f : F) : F := fun e => (f e).bind fun p => match p.1 with
  | .int j => if okSpan 0 j then some (.list (rng 0 1 j.toNat), p.2) else none
  | _ => none
theorem le_lstR1 {a : Expr} {fa : F} {p q : Pos} (hc : X.calm = true) (hgt : Gl X "list") (hmt : X.mg "list" = none) (hg : Gl X "range") (hm : X.mg "range" = none) (ha : LE X a fa) (na : starEach [a] X.env = (false, eval a X.env) :: starEach [] X.env := by rfl)
    (na2 : starEach [.Call (.Name "range" p) [a] [] p1] X.env = (false, eval (.Call (.Name "range" p) [a] [] p1) X.env) :: starEach [] X.env := by rfl) : LE X (.Call (.Name "list" q) [.Call (.Name "range" p) [a] [] p1] [] pos) (fLstR1 fa) :=
  weakE (pe_listRg hc hgt hmt (prg_1 hg hm ha na) na2) fun σ H Q ⟨c, o, en, S, d, e', hf, k⟩ => by
    obtain ⟨⟨x, e1⟩, h1, hf⟩ := bind_some hf
    simp only at hf
    split at hf
    · obtain ⟨hj, hf⟩ := if_some hf
      cases hf
      refine ⟨c, o, en, S, _, _, h1, fun v H1 o1 S1 a1 r1 => ⟨_, r1.int_inv, hj.ok, fun q hq => k _ _ o1 (S1.same (same_upd hq)) (a1.trans (.same (same_upd hq))) (.newL S1.alloc hq ?_)⟩⟩
      have := den_rg (M := c.M o1) (H := H1) 0 (by assumption)
      rw [Int.sub_zero] at this
      exact this
    · cases hf
end
/-! ### return _law_right(_law_pot(script)) -/
section
variable {K : PySem.W.Frag}
theorem lawA_state {N : List Str} {fn : List Int → Option D} {fq : List D → Pot → Option (D × Pot)} {a : Addr} {ns : List Int} {H : Hp} {Q : VK} {P P' : Pot} (hS : SqL K H a (ns.map V.int)) (hl : ns.length ≤ 63) (h1 : 1 ≤ N.length)
    (hP : fn ns = some (potD P)) (hf : fq [] P = some (.bool true, P')) (q : ∀ H', Q (.bl true) H') :
    tSeq (tRet (fun σ H Q => tCons (fun σ H Q => tCons (tVar 0) tNil σ H fun vs H1 => spScr K fn vs H1 Q E0) tNil σ H fun vs H1 => spQ 1 fq vs H1 Q E0)) (canS sNext) { nx := fun _ H' => Q .non H', rt := Q } (start N [.ref a]) H := by
  have h0 : (start N [.ref a])[0]? = some (some (.ref a)) := rfl
  refine ⟨.ref a, h0, a, ns, _, rfl, hS, hl, hP, fun v H1 sm rv => ?_⟩
  obtain ⟨pa, g, rfl, pt⟩ := pot_of_den rv
  exact ⟨noM, pa, g, P, [], [], _, P', fun _ z => z.elim, rfl, rfl, pt, .nil, hf, fun v H' g' _ _ _ _ r => by rw [r.bl_inv]; exact q H'⟩
end
end L3

/-! L3: a tuple or a list from its end: x[::-1]. -/
namespace L3
open PySem PySem.Spec PyProof.Rows L2 HT
section
variable {prog : Program} {w : World} {A : Around} {E : Value → Shared → Prop} {s : Shared}
theorem adj_rev (n : Nat) : Builtin.Slice.sliceAdjust none none (-1) (n : Int) = ((n : Int) - 1, -1) := rfl
theorem plc_rev (n : Nat) : Builtin.Slice.slicePlaces ((n : Int) - 1) (-1) (-1) = n := by
  unfold Builtin.Slice.slicePlaces
  rw [if_neg (by decide)]
  by_cases h : n = 0
  · subst h; rfl
  · rw [if_pos (by omega)]
    have : ((n : Int) - 1 - -1 - 1) / (- -1) = (n : Int) - 1 := by
      rw [show (- -1 : Int) = 1 from rfl, Int.ediv_one]
      omega
    rw [this]
    omega
theorem applied_rev {sl : Addr} {v1 v2 v3 : Value} {n : Nat} {Q : Int × Int × Nat → Shared → Prop} (hs : s.heap.IsSliceOf sl v1 v2 v3) (p1 : IsPart v1 none) (p2 : IsPart v2 none) (p3 : IsPart v3 (some (-1))) (h : Q ((n : Int) - 1, -1, n) s) :
    wpAny (model prog w) A (Builtin.Slice.sliceApplied (.ref sl) (pure (n : Int))) Q E s := by
  obtain ⟨o, g1, g2, g3⟩ := id hs
  unfold Builtin.Slice.sliceApplied Builtin.Slice.sliceFields
  refine wpAny_bind (wpAny_bind (wpAny_field g1 g3 (x := v1) rfl (wpAny_bind (wpAny_field g1 g3 (x := v2) rfl (wpAny_bind (wpAny_field g1 g3 (x := v3) rfl (wpAny_pure ?_)))))))
  refine wpAny_bind (slicePart_ p3 ?_)
  have e0 : ¬ (((some (-1) : Option Int).getD 1 == 0) = true) := by decide
  simp only [Option.getD_some] at e0 ⊢
  rw [if_neg e0]
  refine wpAny_bind (slicePart_ p1 (wpAny_bind (slicePart_ p2 (wpAny_bind (wpAny_pure ?_)))))
  show wpAny _ _ (match Builtin.Slice.sliceAdjust none none (-1) (n : Int) with | (lo, hi) => pure (lo, (-1 : Int), Builtin.Slice.slicePlaces lo hi (-1))) _ _ s
  rw [adj_rev]
  show wpAny _ _ (pure ((n : Int) - 1, (-1 : Int), Builtin.Slice.slicePlaces ((n : Int) - 1) (-1) (-1))) _ _ s
  rw [plc_rev]
  exact wpAny_pure h
theorem fm_congr {α β : Type} {f g : α → Option β} : ∀ {l : List α}, (∀ k ∈ l, f k = g k) → l.filterMap f = l.filterMap g
  | [], _ => rfl
  | a :: r, h => by
    rw [List.filterMap_cons, List.filterMap_cons, h a List.mem_cons_self, fm_congr fun k hk => h k (List.mem_cons_of_mem _ hk)]
theorem pick_revL : ∀ (n : Nat) (l : List Value), l.length = n → (List.range n).filterMap (fun k : Nat => l[n - 1 - k]?) = l.reverse
  | 0, l, h => by
    rw [List.eq_nil_of_length_eq_zero h]
    rfl
  | n + 1, l, h => by
    have hne : l ≠ [] := fun z => by subst z; cases h
    have e := List.dropLast_concat_getLast hne
    have hl : l.dropLast.length = n := by rw [List.length_dropLast, h]; rfl
    have ih := pick_revL n l.dropLast hl
    generalize l.getLast hne = a at e
    generalize l.dropLast = r at e hl ih
    subst e
    rw [List.range_succ_eq_map, List.filterMap_cons, List.filterMap_map, List.reverse_append, List.reverse_singleton]
    have e0 : (r ++ [a])[n + 1 - 1 - 0]? = some a := by
      rw [List.getElem?_append_right (by omega)]
      simp [hl]
    rw [e0]
    show a :: _ = a :: _
    congr 1
    rw [← ih]
    refine fm_congr fun k hk => ?_
    have := List.mem_range.mp hk
    show (r ++ [a])[n + 1 - 1 - (k + 1)]? = r[n - 1 - k]?
    rw [List.getElem?_append_left (by omega), show n + 1 - 1 - (k + 1) = n - 1 - k by omega]
theorem pick_rev (xs : Array Value) : ((List.range xs.size).filterMap fun (k : Nat) => xs[(((xs.size : Nat) : Int) - 1 + (k : Int) * (-1)).toNat]?).toArray = xs.toList.reverse.toArray := by
  congr 1
  obtain ⟨l⟩ := xs
  rw [← pick_revL l.length l rfl]
  refine fm_congr fun k hk => ?_
  have := List.mem_range.mp hk
  show l.toArray[(((l.length : Nat) : Int) - 1 + (k : Int) * (-1)).toNat]? = l[l.length - 1 - k]?
  rw [show (((l.length : Nat) : Int) - 1 + (k : Int) * (-1)).toNat = l.length - 1 - k by omega]
  simp
theorem get_rev {t sl : Addr} {items : Array Value} {v1 v2 v3 : Value} {Q : Value → Shared → Prop} (ht : IsTup s.heap t items) (hs : s.heap.IsSliceOf sl v1 v2 v3) (p1 : IsPart v1 none) (p2 : IsPart v2 none) (p3 : IsPart v3 (some (-1)))
    (h : Q (.ref s.heap.objs.size) { s with heap := s.heap.push { cls := .type "tuple", data := .seq items.toList.reverse.toArray } }) (hsz : items.size ≤ sizeLine) : wpAny (model prog w) A (getItem (.ref t) (.ref sl)) Q E s := by
  have fitsR : sizeOk (.seq items.toList.reverse.toArray) := by
    show items.toList.reverse.toArray.size ≤ sizeLine
    rw [List.size_toArray, List.length_reverse, Array.length_toList]
    exact hsz
  obtain ⟨o, g1, g2, g3⟩ := id hs
  have hT : s.TypeIs (.ref sl) "slice" := ⟨o, g1, g2⟩
  unfold getItem
  (try with_reducible refine wpAny_holding ?_); (first | refine wpAny_bind (wpAny_pure ?_) | skip); refine wpAny_bind (wpAny_sequenceKey ht.typeIs (by decide) ?_)
  refine wpAny_bind (wpAny_callSpecial?_slot (name := Str.ofString "__getitem__") ht.typeIs PyProof.Rows.slot_tuple_getitem (wpAny_call_entry PyProof.Rows.slot_tuple_getitem ht.typeIs entry_tuple_getitem ?_ (args_tuple_getitem _ _)))
  refine (show wpAny _ _ (Builtin.Tuple.tupleItemsOf (.ref t) >>= _) _ _ s from wpAny_bind (tupleItemsOf_ ht (wpAny_bind (wpAny_typeOf hT ?_))))
  rw [if_pos (by decide)]
  refine wpAny_bind (applied_rev hs p1 p2 p3 ?_)
  have no : ¬ (((((items.size : Nat) : Int) - 1) == 0 && (-1 : Int) == 1 && items.size == items.size) = true) := by
    rw [show ((-1 : Int) == 1) = false from rfl, Bool.and_false, Bool.false_and]
    exact Bool.false_ne_true
  show wpAny _ _ (if ((((items.size : Nat) : Int) - 1) == 0 && (-1 : Int) == 1 && items.size == items.size) = true then _ else _) _ _ s
  rw [if_neg no, pick_rev]
  first
    | exact wpAny_bind (m := Builtin.Tuple.tupleExact _) (wpAny_newObj_type (wpAny_pure ⟨_, rfl, wpAny_pure h⟩) fitsR)
    | exact wpAny_bind (m := Builtin.Tuple.tupleExact _) (wpAny_newObj_type (wpAny_bind (wpAny_pure (wpAny_pure ⟨_, rfl, wpAny_pure h⟩))) fitsR)
    | exact wpAny_bind (wpAny_bind (m := Builtin.Tuple.tupleExact _) (wpAny_newObj_type (wpAny_pure (wpAny_pure ⟨_, rfl, wpAny_pure h⟩)) fitsR))
    | exact wpAny_bind (wpAny_bind (m := Builtin.Tuple.tupleExact _) (wpAny_newObj_type (wpAny_pure ⟨_, rfl, wpAny_pure h⟩) fitsR))
end
section
variable {X : Cx} {e : Expr} {te : TE} {fe : F} {k : Nat} {p1 p2 p3 pos : Pos}
theorem PE.or {t u : TE} (h : PE X e t) (g : PE X e u) : PE X e (fun σ H Q => t σ H Q ∨ u σ H Q) := ⟨fun pins s σ H Q I q => q.elim (h.run pins s σ H Q I) (g.run pins s σ H Q I)⟩
def tRevT (K : PySem.W.Frag) (te : TE) : TE := fun σ H Q => te σ H fun x H1 => ∃ a xs, x = .ref a ∧ SqT K H1 a xs ∧ ∀ p, H1 p = none → Q (.ref p) (upd H1 p (.tup xs.reverse))
theorem pe_revT (he : PE X e te) : PE X (.Subscript e (.Slice none none (some (.UnaryOp .USub (.Constant (.int 1) k p1) p2)) p3) pos) (tRevT X.K te) := by
  have hm1 : PO X (some (.UnaryOp .USub (.Constant (.int 1) k p1) p2)) (tPart (tUn (rU fun i => .int (-i)) (tC (.int 1)))) := po_some (pe_un un_neg pe_int)
  refine ⟨fun pins s σ H Q I h => Subscript_ (thn (he.run pins s σ H _ I h) fun v t1 ⟨x, H1, I1, r1, q1⟩ => ?_)⟩
  obtain ⟨a, xs, rfl, hx, q⟩ := q1
  cases r1
  refine wpAny_Slice (thn (po_none.run pins t1 σ H1 (fun o G => o = none ∧ G = H1) I1 ⟨rfl, rfl⟩) fun v1 t2 ⟨o1, G1, J1, u1, w1, z1⟩ => ?_)
  subst w1 z1
  refine thn (po_none.run pins t2 σ G1 (fun o G => o = none ∧ G = G1) J1 ⟨rfl, rfl⟩) fun v2 t3 ⟨o2, G2, J2, u2, w2, z2⟩ => ?_
  subst w2 z2
  refine thn (hm1.run pins t3 σ G2 (fun o G => o = some (-1) ∧ G = G2) J2 ⟨1, rfl, -1, rfl, rfl, rfl⟩) fun v3 t4 ⟨o3, G3, J3, u3, w3, z3⟩ => ?_
  subst w3 z3
  have J4 : Inv X pins σ G3 { t4 with heap := t4.heap.push { cls := .type "slice", data := .fields #[v1, v2, v3] } } := J3.kept (t' := t4.toks) fun b ob z => Heap.get?_push_of_some _ z
  obtain ⟨its, r, ht, hz⟩ := J4.tuple hx
  have hlen := r.length
  show wpAny (model X.prog X.w) X.A (subscriptTail e (.Slice none none (some (.UnaryOp .USub (.Constant (.int 1) k p1) p2)) p3) (.ref a) (.ref t4.heap.objs.size)) (EP X pins σ Q) X.xe { t4 with heap := t4.heap.push { cls := .type "slice", data := .fields #[v1, v2, v3] } }
  refine tail_any (ops := [.ref a, .ref t4.heap.objs.size]) ht.typeIs (PyProof.Rows.slot_tuple_getitem.lookup) ?_ (by with_unfolding_all rfl)
  refine get_rev ht (Heap.IsSliceOf.new _ v1 v2 v3) u1 u2 u3 ?_ (by rw [List.size_toArray]; omega)
  refine ⟨.ref _, _, J4.laid (t' := t4.toks) (o := .tup xs.reverse) (fun b ob z => Heap.get?_push_of_some _ z) (Nat.le_refl _) ?_, rfl, q _ (J4.hok.fresh (Nat.le_refl _))⟩
  exact ⟨by rw [List.length_reverse]; omega, _, r.reverse, IsTup.new _ _⟩
def fRev (f : F) : F := fun e => match f e with
  | some (.list ds, e') => some (.list ds.reverse, e')
  | some (.tuple ds, e') => some (.tuple ds.reverse, e')
  | _ => none
theorem DenL.reverse {M : MS} {H : Hp} : ∀ {vs : List V} {ds : List D}, DenL M H vs ds → DenL M H vs.reverse ds.reverse
  | _, _, .nil => .nil
  | _, _, .cons r t => by
    rw [List.reverse_cons, List.reverse_cons]
    exact (DenL.reverse t).append (.cons r .nil)
theorem le_rev (he : LE X e fe) : LE X (.Subscript e (.Slice none none (some (.UnaryOp .USub (.Constant (.int 1) k p1) p2)) p3) pos) (fRev fe) :=
  weakE (PE.or (pe_revL he) (pe_revT he)) fun σ H Q ⟨c, o, en, S, d, e', hf, kk⟩ => by
    unfold fRev at hf
    split at hf
    · rename_i ds e1 h1
      cases hf
      refine .inl ⟨c, o, en, S, _, _, h1, fun v H1 o1 S1 a1 r1 => ?_⟩
      obtain ⟨a, xs, rfl, n, g1, g2⟩ := r1.lst_inv
      exact ⟨a, xs, rfl, SqL.of g1, fun q hq => kk _ _ o1 (S1.same (same_upd hq)) (a1.trans (.same (same_upd hq))) (.newL S1.alloc hq g2.reverse)⟩
    · rename_i ds e1 h1
      cases hf
      refine .inr ⟨c, o, en, S, _, _, h1, fun v H1 o1 S1 a1 r1 => ?_⟩
      obtain ⟨a, xs, rfl, n, g1, g2⟩ := r1.tup_inv
      exact ⟨a, xs, rfl, SqT.of g1, fun q hq => kk _ _ o1 (S1.same (same_upd hq)) (a1.trans (.same (same_upd hq))) (.newT S1.alloc hq g2.reverse)⟩
    · cases hf
end
end L3

/-! L3: new lists of any make: [..], list(e). -/
namespace L3
open PySem PySem.Spec PyProof.Rows L2
def canN (f : FA) : TE := fun σ H Q => ∃ c o e, SOk c o σ H e ∧ ∃ ds e', f e = some (ds, e') ∧ ∀ ws H' o', SOk c o' σ H' e' → Stp c o H o' H' → DenL (c.M o') H' ws ds → ∀ p, H' p = none → Q (.ref p) (upd H' p (.lst ws))
/-- an expression that makes a new list -/
abbrev LN (X : Cx) (e : Expr) (f : FA) : Prop := PE X e (canN f)
def fGrd (f : FA) : FA := fun e => (f e).bind fun p => if p.1.length ≤ big then some p else none
def fItems (f : F) : FA := fun e => (f e).bind fun p => (itemsD p.1).map fun ds => (ds, p.2)
def fRNewN (f : FA) (r : FR) : FR := fun e => (f e).bind fun p => (r (p.2.inner [])).bind fun q => some (.new p.1 :: q.1, p.2.po q.2.pot)
def sOwnN (i : Nat) (f : FA) : FS := fun e => (f e).bind fun p => if i < p.2.sl.length then some (.nx (p.2.put i (.own p.1))) else none
section
variable {X : Cx} {e : Expr} {es fs : List Expr} {fe : F} {fa : FA} {fr : FR} {pos p0 : Pos}
theorem ln_lst (h : LA X fs fa) : LN X (.List fs pos) (fGrd fa) := weakE (pe_lst h) fun σ H Q ⟨c, o, en, S, ds, e', hf, k⟩ => by
  obtain ⟨⟨ds', e1⟩, h1, hf⟩ := bind_some hf
  obtain ⟨hz, hf⟩ := if_some hf
  cases hf
  exact ⟨c, o, en, S, _, _, h1, fun vs H1 o1 S1 a1 r1 => ⟨by rw [r1.length]; exact Nat.le_of_lt (big_line hz), fun p hp => k vs H1 o1 S1 a1 r1 p hp⟩⟩
theorem ln_list {x : Expr} {fx : F} (hg : Gl X "list") (hm : X.mg "list" = none) (hx : LE X x fx) (he : starEach [x] X.env = (false, eval x X.env) :: starEach [] X.env := by rfl) (hpl : (backTo pos (starEach [] X.env)).any (·.1) = false := by rfl) :
    LN X (.Call (.Name "list" p0) [x] [] pos) (fItems fx) := weakE (pe_callTy call_list_of hg hm bt_list (pa_cons hx pa_nil he) (by decide) (by decide) he hpl) fun σ H Q ⟨c, o, en, S, ds, e', hf, k⟩ => by
  obtain ⟨⟨d, e1⟩, h1, hf⟩ := bind_some hf
  obtain ⟨ds', h2, hf⟩ := Option.map_eq_some_iff.mp hf
  cases hf
  refine ⟨c, o, en, S, _, _, h1, fun v H1 o1 S1 a1 r1 => ?_⟩
  cases r1 with
  | lst n g r => cases h2; exact ⟨_, _, rfl, .inl (SqL.of g), fun l hl => k _ H1 o1 S1 a1 r l hl⟩
  | tup n g r => cases h2; exact ⟨_, _, rfl, .inr (SqT.of g), fun l hl => k _ H1 o1 S1 a1 r l hl⟩
  | _ => cases h2
theorem ls_ownN {i : Nat} {x : Str} {pos' : Pos} (hN : X.N.Nodup) (hi : X.N[i]? = some x) (hx : Loc X.env.scope x) (he : LN X e fa) (hs : swapsWith e (some (.Name x pos')) pos.line X.env = pure false := by rfl) (hf : X.fn x = true ∨ X.env.scope.names.lookup x = some .local := by first | exact .inl rfl | exact .inr rfl | assumption) :
    LS X (.Assign [.Name x pos'] e pos) (sOwnN i fa) := weakS (ps_set hN hi hx he hs hf) fun D σ H ⟨c, o, en, S, r, hf, k⟩ => by
  obtain ⟨⟨ds, e1⟩, h1, hf⟩ := bind_some hf
  obtain ⟨hl, hf⟩ := if_some hf
  cases hf
  refine ⟨c, o, en, S, ds, e1, h1, fun vs H1 o1 S1 a1 r1 p hp => ?_⟩
  obtain ⟨S2, a2⟩ := S1.own hp r1 hl
  exact k _ _ _ S2 (a1.trans a2)
theorem lr_newN (hl : LN X e fa) (hr : LR X es fr) (hs : starEach (e :: es) X.env = (false, eval e X.env) :: starEach es X.env := by rfl) : LR X (e :: es) (fRNewN fa fr) :=
  weakA (pa_cons hl hr hs) fun σ H Q ⟨c, o, en, S, rs, e', hf, k⟩ => by
    obtain ⟨⟨ds, e1⟩, h1, hf⟩ := bind_some hf
    obtain ⟨⟨rs2, e2⟩, h2, hf⟩ := bind_some hf
    obtain ⟨rfl, rfl⟩ := Prod.mk.inj (Option.some.inj hf)
    refine ⟨c, o, en, S, ds, e1, h1, fun ws H1 o1 S1 a1 r1 p hp => ?_⟩
    have J1 : Jmp c o1 H1 (upd H1 p (.lst ws)) o1.g e1.pot := (Jmp.refl S1).same (same_upd hp)
    have S2 := J1.enter S1 [] (E := fun b => b = p) (fun b z => by rw [z]; exact hp) fun b z => by rw [z, upd_same]; exact fun q => nomatch q
    refine ⟨_, _, _, S2, rs2, e2, h2, fun vs H3 o3 ps S3 a3 r3 n3 => ?_⟩
    have J3 : Jmp c o1 H1 H3 o3.g e2.pot := by
      have q := J1.leave S1 (S2 := (S3 : SOk ((c.sub (o1.gs o1.g) (fun b => b = p) (upd H1 p (.lst ws))).add (newOf ps)) o3 σ H3 e2).unadd)
      exact q
    have hp3 : H3 p = some (.lst ws) := by
      refine S3.keep p _ upd_same fun q hq => ?_
      obtain ⟨q', hq', rfl⟩ := Option.map_eq_some_iff.mp (show c.pt.map _ = some q from hq)
      have t := S1.pot q' hq'
      refine ⟨fun z => ?_, fun z => ?_⟩
      · rw [z, t.1.2.1] at hp; cases hp
      · have z' : p = o1.g := z
        rw [z', t.1.2.2] at hp; cases hp
    have fr1 : ∀ b, newOf ps b → H1 b = none ∧ b ≠ p := fun b hb => by
      have q := (n3 b hb).1
      have bp : b ≠ p := fun z => by rw [z, upd_same] at q; cases q
      rw [upd_ne bp] at q
      exact ⟨q, bp⟩
    have nw : ∀ b, newOf (some p :: ps) b → H1 b = none := fun b hb => by
      rcases List.mem_cons.mp hb with z | z
      · cases z; exact hp
      · exact (fr1 b z).1
    have nw3 : ∀ b, newOf (some p :: ps) b → H3 b ≠ none := fun b hb => by
      rcases List.mem_cons.mp hb with z | z
      · cases z; rw [hp3]; exact fun q => nomatch q
      · exact S3.mc b (.inr z)
    have B := J3.back S1 nw nw3
    have a13 := a1.trans (J3.stp S1)
    -- M of the outer state is within M of the inner one
    have hM : ∀ b, (c.add (newOf (some p :: ps))).M (o1.gs o3.g) b → ((c.sub (o1.gs o1.g) (fun b => b = p) (upd H1 p (.lst ws))).add (newOf ps)).M o3 b := fun b h => by
      refine M_add.mpr ?_
      rcases M_add.mp h with (h | h | ⟨q, hq, h | h⟩) | h
      · exact .inl (sub_M.mpr (.inl (.inl (.inl h))))
      · exact .inl (sub_M.mpr (.inl (.inl (.inr (.inl h)))))
      · exact .inl (sub_M.mpr (.inl (.inl (.inr (.inr ⟨q, hq, .inl h⟩)))))
      · exact .inl (sub_M.mpr (.inr (.inr ⟨q, hq, .inr h⟩)))
      · rcases List.mem_cons.mp h with z | z
        · cases z; exact .inl (sub_M.mpr (.inl (.inr rfl)))
        · exact .inr z
    refine k (.ref p :: vs) H3 (o1.gs o3.g) (some p :: ps) B a13 (.cons ⟨rfl, ws, hp3, ?_⟩ (r3.less hM) fun q hq => ?_) fun b hb => ?_
    · exact r1.mono (fun b h => (M_add.mp h).elim (J3.mem S1 b) fun z => .inr (nw b z)) (J3.stp S1).1.1
    · cases hq
      intro z
      exact (fr1 _ z).2 rfl
    · have hH : H b = none := by
        cases q : H b with
        | none => rfl
        | some x => exact absurd (nw b hb) (a1.2 b (by rw [q]; exact fun z => nomatch z))
      refine ⟨hH, fun z => ?_⟩
      rcases z with z | ⟨i, z⟩ | ⟨q, hq, z | z⟩
      · exact S1.mc b z (nw b hb)
      · exact S1.alloc b (.inr (.inl ⟨i, z⟩)) (nw b hb)
      · exact S1.alloc b (.inr (.inr ⟨q, hq, .inl z⟩)) (nw b hb)
      · have z' : b = o3.g := z
        have q3 := (S3.pot (q.1, o1.g) (by show c.pt.map _ = _; rw [hq]; rfl)).2.2.2.1
        have q3' : o3.g = o1.g ∨ (upd H1 p (.lst ws)) o3.g = none := q3
        rcases List.mem_cons.mp hb with w | w
        · cases w
          rcases q3' with t | t
          · exact S1.alloc _ (.inr (.inr ⟨q, hq, .inr (z'.trans t)⟩)) hp
          · rw [← z', upd_same] at t; cases t
        · exact (n3 b w).2 (sub_M.mpr (.inr (.inr ⟨q, hq, .inr z'⟩)))
theorem rlen_newN {n : Nat} (h : ∀ e rs e', fr e = some (rs, e') → rs.length = n) : ∀ e rs e', fRNewN fa fr e = some (rs, e') → rs.length = n + 1 := fun e rs e' hf => by
  obtain ⟨⟨ds, e1⟩, h1, hf⟩ := bind_some hf
  obtain ⟨⟨rs2, e2⟩, h2, hf⟩ := bind_some hf
  cases hf
  rw [List.length_cons, h _ _ _ h2]
end
end L3

/-! L3: own lists that are looked at, and go on being filled: len(x), x[i]. -/
namespace L3
open PySem PySem.Spec PyProof.Rows L2
section
variable {X : Cx} {a b e : Expr} {fe fb : F} {pos p1 p2 p3 : Pos}
def fLenO (i : Nat) : F := fun e => match e.sl[i]? with
  | some (.own ds) => some (.int (ds.length : Nat), e)
  | some (.dat d) => (bLen [d]).map fun z => (z, e)
  | _ => none
theorem le_lenO {i : Nat} (hx : PE X e (tVar i)) (hg : Gl X "len") (hm : X.mg "len" = none) (hv : bootBuiltins ("len" : Str) = some (.builtin "len"))
    (he : starEach [e] X.env = (false, eval e X.env) :: starEach [] X.env := by rfl) (hpl : (backTo pos (starEach [] X.env)).any (·.1) = false := by rfl) : LE X (.Call (.Name "len" p1) [e] [] pos) (fLenO i) :=
  weakE (pe_callB call_len_seq hg hm hv (pa_cons hx pa_nil he) (by decide) (by decide) he hpl) fun σ H Q ⟨c, o, en, S, d, e', hf, k⟩ => by
    unfold fLenO at hf
    cases h0 : en.sl[i]? with
    | none => rw [h0] at hf; cases hf
    | some sd =>
      rw [h0] at hf
      cases sd with
      | own ds0 =>
        cases hf
        obtain ⟨p, vs, g1, g2, g3, g4⟩ := S.slot i _ h0
        refine ⟨_, g2, p, vs, rfl, .inl (SqL.of g3), ?_⟩
        rw [g4.length]
        exact k _ H o S .refl (.int _)
      | dat d0 =>
        obtain ⟨z, h1, hf⟩ := Option.map_eq_some_iff.mp hf
        obtain ⟨rfl, rfl⟩ := Prod.mk.inj hf
        obtain ⟨_, v, g1, r⟩ := S.slot i _ h0
        refine ⟨v, g1, ?_⟩
        cases d0 with
        | list ds =>
          cases h1
          obtain ⟨p, vs, rfl, n, h1, h2⟩ := r.lst_inv
          refine ⟨p, vs, rfl, .inl (SqL.of h1), ?_⟩
          rw [h2.length]
          exact k _ H o S .refl (.int _)
        | tuple ds =>
          cases h1
          obtain ⟨p, vs, rfl, n, h1, h2⟩ := r.tup_inv
          refine ⟨p, vs, rfl, .inr (SqT.of h1), ?_⟩
          rw [h2.length]
          exact k _ H o S .refl (.int _)
        | _ => cases h1
      | un => cases hf
      | pot => cases hf
def fIxO (i : Nat) (f : F) : F := fun e => match e.sl[i]? with
  | some (.own _) => (f e).bind fun p => match p.2.sl[i]?, p.1 with
    | some (.own ds), .int j => (atI ds j).map fun d => (d, p.2)
    | _, _ => none
  | _ => none
theorem le_ixO {i : Nat} (hx : PE X a (tVar i)) (hb : LE X b fb) (hs : PlainIx b := by exact fun _ _ => rfl) : LE X (.Subscript a b pos) (fIxO i fb) :=
  weakE (pe_ix ix_seq hx hb hs) fun σ H Q ⟨c, o, en, S, d, e', hf, k⟩ => by
    unfold fIxO at hf
    cases h0 : en.sl[i]? with
    | none => rw [h0] at hf; cases hf
    | some sd =>
      rw [h0] at hf
      cases sd with
      | un => cases hf
      | pot => cases hf
      | dat d0 => cases hf
      | own ds0 =>
        obtain ⟨⟨y, e1⟩, h1, hf⟩ := bind_some hf
        obtain ⟨p, vs, g1, g2, g3, g4⟩ := S.slot i _ h0
        refine ⟨_, g2, c, o, en, S, y, e1, h1, fun u H1 o1 S1 a1 r2 => ?_⟩
        cases h2 : e1.sl[i]? with
        | none => simp only [h2] at hf; cases hf
        | some sd1 =>
          simp only [h2] at hf
          cases sd1 with
          | own ds =>
            cases y with
            | int j =>
              obtain ⟨d, hd, hf⟩ := Option.map_eq_some_iff.mp hf
              obtain ⟨rfl, rfl⟩ := Prod.mk.inj hf
              obtain ⟨p1, ws, k1, k2, k3, k4⟩ := S1.slot i _ h2
              have ep : p1 = p := by rw [g2] at k2; cases k2; rfl
              subst ep
              obtain ⟨v, h1, h2⟩ := denL_at k4 hd
              exact .inl ⟨_, _, j, v, rfl, r2.int_inv, SqL.of k3, h1, k _ H1 o1 S1 a1 h2⟩
            | _ => cases hf
          | _ => cases hf
end
end L3

/-! L4A: three comparisons in one chain. -/
namespace L3
open PySem PySem.Spec PyProof.Rows L2
section
variable {X : Cx} {a b cc dd : Expr} {ta tb tc td : TE} {fa fb fc fd : F} {pos : Pos} {op op' op'' : CmpOp} {r r' r'' : R2}
def tChain3 (r r' r'' : R2) (ta tb tc td : TE) : TE := fun σ H Q => ta σ H fun x H1 => tb σ H1 fun y H2 => r x y H2 fun z H3 => ∃ k, z = .bl k ∧
  (if k = true then tc σ H3 fun x3 H4 => r' y x3 H4 fun z4 H5 => ∃ k, z4 = .bl k ∧ (if k = true then td σ H5 fun x5 H6 => r'' x3 x5 H6 Q else Q (.bl false) H5) else Q (.bl false) H3)
theorem pe_chain3 (ho : OpR X (compareOp op) r) (ho' : OpR X (compareOp op') r') (ho'' : OpR X (compareOp op'') r'') (ha : PE X a ta) (hb : PE X b tb) (hc : PE X cc tc) (hd : PE X dd td)
    (hm : lastMarks [op, op', op''] [b, cc, dd] = false := by with_unfolding_all rfl) : PE X (.Compare a [op, op', op''] [b, cc, dd] pos) (tChain3 r r' r'' ta tb tc td) := by
  constructor
  intro pins s σ H Q I h
  apply Compare_chain _ hm
  refine thn (ha.run pins s σ H _ I h) fun v s1 ⟨x, H1, I1, r1, q1⟩ => ?_
  apply chain_link
  refine thn (hb.run pins s1 σ H1 _ I1 q1) fun u s2 ⟨y, H2, I2, r2, q2⟩ => ?_
  refine thn (ho pins s2 σ H2 x y v u _ I2 r1 r2 q2) fun d s3 ⟨z, H3, I3, r3, k, e, q3⟩ => ?_
  subst e
  cases r3
  refine wpAny_truthy_bool ?_
  cases k with
  | false => exact ite_ff ⟨.bl false, H3, I3, rfl, q3⟩
  | true =>
    refine ite_tt ?_
    apply chain_link
    refine thn (hc.run pins s3 σ H3 _ I3 q3) fun w4 s4 ⟨x4, H4, I4, r4, q4⟩ => ?_
    refine thn (ho' pins s4 σ H4 y x4 u w4 _ I4 r2 r4 q4) fun d5 s5 ⟨z5, H5, I5, r5, k, e, q5⟩ => ?_
    subst e
    cases r5
    refine wpAny_truthy_bool ?_
    cases k with
    | false => exact ite_ff ⟨.bl false, H5, I5, rfl, q5⟩
    | true =>
      refine ite_tt ?_
      apply chain_last
      exact thn (hd.run pins s5 σ H5 _ I5 q5) fun w6 s6 ⟨x6, H6, I6, r6, q6⟩ => ho'' pins s6 σ H6 x4 x6 w4 w6 Q I6 r4 r6 q6
theorem pt_chain3 (ho : OpR X (compareOp op) r) (ho' : OpR X (compareOp op') r') (ho'' : OpR X (compareOp op'') r'') (ha : PE X a ta) (hb : PE X b tb) (hc : PE X cc tc) (hd : PE X dd td)
    (hm : lastMarks [op, op', op''] [b, cc, dd] = false := by with_unfolding_all rfl) : PT X (.Compare a [op, op', op''] [b, cc, dd] pos) (tTest (tChain3 r r' r'' ta tb tc td)) := by
  constructor
  intro pins s σ H Q I h
  apply isTrue_chain _ hm
  refine thn (ha.run pins s σ H _ I h) fun v s1 ⟨x, H1, I1, r1, q1⟩ => ?_
  apply test_link
  refine thn (hb.run pins s1 σ H1 _ I1 q1) fun u s2 ⟨y, H2, I2, r2, q2⟩ => ?_
  refine thn (ho pins s2 σ H2 x y v u _ I2 r1 r2 q2) fun d s3 ⟨z, H3, I3, r3, k, e, q3⟩ => ?_
  subst e
  cases r3
  refine wpAny_truthy_bool ?_
  cases k with
  | false =>
    obtain ⟨k0, e0, q0⟩ := q3
    cases e0
    exact ite_ff ⟨H3, I3, q0⟩
  | true =>
    refine ite_tt ?_
    apply test_link
    refine thn (hc.run pins s3 σ H3 _ I3 q3) fun w4 s4 ⟨x4, H4, I4, r4, q4⟩ => ?_
    refine thn (ho' pins s4 σ H4 y x4 u w4 _ I4 r2 r4 q4) fun d5 s5 ⟨z5, H5, I5, r5, k, e, q5⟩ => ?_
    subst e
    cases r5
    refine wpAny_truthy_bool ?_
    cases k with
    | false =>
      obtain ⟨k0, e0, q0⟩ := q5
      cases e0
      exact ite_ff ⟨H5, I5, q0⟩
    | true =>
      refine ite_tt ?_
      apply test_last
      refine thn (hd.run pins s5 σ H5 _ I5 q5) fun w6 s6 ⟨x6, H6, I6, r6, q6⟩ => ?_
      refine thn (ho'' pins s6 σ H6 x4 x6 w4 w6 _ I6 r4 r6 q6) fun d7 s7 ⟨z7, H7, I7, r7, k, e, q7⟩ => ?_
      subst e
      cases r7
      exact wpAny_truthy_bool ⟨H7, I7, q7⟩
def fChain3 (op op' op'' : D → D → Option D) (fa fb fc fd : F) : F := fun e => (fa e).bind fun p => (fb p.2).bind fun q => (op p.1 q.1).bind fun z => match z with
  | .bool true => (fc q.2).bind fun r => (op' q.1 r.1).bind fun z => match z with
    | .bool true => (fd r.2).bind fun s => (op'' r.1 s.1).map fun z => (z, s.2)
    | .bool false => some (.bool false, r.2)
    | _ => none
  | .bool false => some (.bool false, q.2)
  | _ => none
abbrev OkOp (r : R2) (op : D → D → Option D) : Prop := ∀ (M : MS) (H : Hp) (x y : V) (dx dy z : D), (∀ b, M b → H b ≠ none) → Den M H x dx → Den M H y dy → op dx dy = some z →
    ∀ Q : VK, (∀ v H', Same H H' → Den M H' v z → Q v H') → r x y H Q
theorem chain3_can {p p' p'' : D → D → Option D} (hq : OkOp r p) (hq' : OkOp r' p') (hq'' : OkOp r'' p'') {σ : L2.St} {H : Hp} {Q : VK} (h : canE (fChain3 p p' p'' fa fb fc fd) σ H Q) :
    tChain3 r r' r'' (canE fa) (canE fb) (canE fc) (canE fd) σ H Q := by
  obtain ⟨c, o, e, S, d, e', hf, k⟩ := h
  obtain ⟨⟨dx, e1⟩, h1, hf⟩ := bind_some hf
  obtain ⟨⟨dy, e2⟩, h2, hf⟩ := bind_some hf
  obtain ⟨z, h3, hf⟩ := bind_some hf
  refine ⟨c, o, e, S, dx, e1, h1, fun x H1 o1 S1 a1 r1 => ⟨c, o1, e1, S1, dy, e2, h2, fun y H2 o2 S2 a2 r2 => ?_⟩⟩
  refine hq _ _ x y dx dy z S2.alloc (a2.den r1) r2 h3 _ fun v H3 sm rv => ?_
  have S3 := S2.same sm
  have a3 : Stp c o2 H2 o2 H3 := .same sm
  have a123 := (a1.trans a2).trans a3
  cases z with
  | bool t =>
    refine ⟨t, rv.bl_inv, ?_⟩
    cases t with
    | true =>
      simp only [if_true]
      obtain ⟨⟨dw, e3⟩, h4, hf⟩ := bind_some hf
      obtain ⟨z4, h5, hf⟩ := bind_some hf
      refine ⟨c, o2, e2, S3, dw, e3, h4, fun u H4 o4 S4 a4 r4 => ?_⟩
      refine hq' _ _ y u dy dw _ S4.alloc ((a3.trans a4).den r2) r4 h5 _ fun u' H5 sm' ru => ?_
      have S5 := S4.same sm'
      have a5 : Stp c o4 H4 o4 H5 := .same sm'
      cases z4 with
      | bool t =>
        refine ⟨t, ru.bl_inv, ?_⟩
        cases t with
        | true =>
          simp only [if_true]
          obtain ⟨⟨dv, e5⟩, h6, hf⟩ := bind_some hf
          obtain ⟨zz, h7, hf⟩ := Option.map_eq_some_iff.mp hf
          obtain ⟨rfl, rfl⟩ := Prod.mk.inj hf
          refine ⟨c, o4, e3, S5, dv, e5, h6, fun w H6 o6 S6 a6 r6 => ?_⟩
          exact hq'' _ _ u w dw dv _ S6.alloc ((a5.trans a6).den r4) r6 h7 _ fun w' H7 sm7 rw7 => k w' H7 o6 (S6.same sm7) ((((a123.trans a4).trans a5).trans a6).trans (.same sm7)) rw7
        | false =>
          simp only [Bool.false_eq_true, if_false]
          obtain ⟨rfl, rfl⟩ := Prod.mk.inj (Option.some.inj hf)
          exact k _ H5 o4 S5 ((a123.trans a4).trans a5) (.bl false)
      | _ => cases hf
    | false =>
      simp only [Bool.false_eq_true, if_false]
      obtain ⟨rfl, rfl⟩ := Prod.mk.inj (Option.some.inj hf)
      exact k _ H3 o2 S3 a123 (.bl false)
  | _ => cases hf
theorem le_chain3 {q q' q'' : D → D → Option D} (ho : Op2 X (compareOp op) q) (ho' : Op2 X (compareOp op') q') (ho'' : Op2 X (compareOp op'') q'') (ha : LE X a fa) (hb : LE X b fb) (hc : LE X cc fc) (hd : LE X dd fd)
    (hm : lastMarks [op, op', op''] [b, cc, dd] = false := by with_unfolding_all rfl) : LE X (.Compare a [op, op', op''] [b, cc, dd] pos) (fChain3 q q' q'' fa fb fc fd) := by
  obtain ⟨r, hr, hq⟩ := ho
  obtain ⟨r', hr', hq'⟩ := ho'
  obtain ⟨r'', hr'', hq''⟩ := ho''
  exact weakE (pe_chain3 hr hr' hr'' ha hb hc hd hm) fun σ H Q h => chain3_can hq hq' hq'' h
theorem lt_chain3 {q q' q'' : D → D → Option D} (ho : Op2 X (compareOp op) q) (ho' : Op2 X (compareOp op') q') (ho'' : Op2 X (compareOp op'') q'') (ha : LE X a fa) (hb : LE X b fb) (hc : LE X cc fc) (hd : LE X dd fd)
    (hm : lastMarks [op, op', op''] [b, cc, dd] = false := by with_unfolding_all rfl) : LT X (.Compare a [op, op', op''] [b, cc, dd] pos) (fT (fChain3 q q' q'' fa fb fc fd)) := by
  obtain ⟨r, hr, hq⟩ := ho
  obtain ⟨r', hr', hq'⟩ := ho'
  obtain ⟨r'', hr'', hq''⟩ := ho''
  exact weakT (pt_chain3 hr hr' hr'' ha hb hc hd hm) fun σ H Q h => chain3_can hq hq' hq'' (canE_T h)
@[simp] theorem q_chain3 (o1 o2 o3 : D → D → Option D) (e : En) : fChain3 o1 o2 o3 fa fb fc fd e = (fa e).bind fun p => (fb p.2).bind fun q => (o1 p.1 q.1).bind fun z => match z with
  | .bool true => (fc q.2).bind fun r => (o2 q.1 r.1).bind fun z => match z with
    | .bool true => (fd r.2).bind fun s => (o3 r.1 s.1).map fun z => (z, s.2)
    | .bool false => some (.bool false, r.2)
    | _ => none
  | .bool false => some (.bool false, q.2)
  | _ => none := rfl
end
end L3

/-! L4B: sorted of a tuple of ints; tuple(range(a, b, c)). -/
namespace L3
open PySem PySem.Spec PyProof.Rows L2
section
variable {prog : Program} {w : World} {A : Around} {E : Value → Shared → Prop} {s : Shared}
/-- the heap behind a list's copy of some items -/
abbrev cpH (h : Heap) (vs : List Value) : Heap := (h.push (seqObj "list" #[] 0)).update h.objs.size (Obj.mapSeq (· ++ vs.toArray))
theorem tup_collect {t : Addr} {vs : List Value} {Q : List Value → Shared → Prop} (ht : IsTup s.heap t vs.toArray) (hz : vs.length ≤ sizeLine) (h : Q vs { s with heap := cpH s.heap vs }) : wpAny (model prog w) A (collect (.ref t)) Q E s := by
  obtain ⟨o, ho, hc, n, hd⟩ := id ht
  have ho2 : (s.heap.push (seqObj "list" #[] 0)).get? t = some o := Heap.get?_push_of_some _ ho
  have hn0 : (s.heap.push (seqObj "list" #[] 0)).get? s.heap.objs.size = some (seqObj "list" #[] 0) := Heap.get?_push_size _ rfl
  have hupd := get?_update_seq hn0 (· ++ vs.toArray)
  have body : wpAny (model prog w) A.in1 (Builtin.List.listExtendWith (.ref s.heap.objs.size) (.ref t) (.ref s.heap.objs.size)) (fun f s' => f = .done (.ret (.ref s.heap.objs.size)) ∧ s' = { s with heap := cpH s.heap vs }) (fun _ _ => False) { s with heap := s.heap.push (seqObj "list" #[] 0) } := by
    unfold Builtin.List.listExtendWith
    refine wpAny_bind (wpAny_typeOf (T := "tuple") ⟨o, ho2, hc⟩ ?_)
    rw [if_pos (by simp)]
    refine wpAny_bind (listItems_at ho2 hd ?_)
    refine wpAny_bind (listItems_at hn0 rfl ?_)
    rw [if_neg (by simp)]
    exact wpAny_bind (listUpdate_at hn0 rfl (wpAny_pure ⟨rfl, rfl⟩) (Nat.zero_le _) (by show (#[] ++ vs.toArray).size ≤ sizeLine + 1; simp only [Array.size_append, List.size_toArray]; simp; omega))
  unfold collect
  refine wpAny_bind (wpAny_runValue (codeAny_builtin entry_proto_collect' ?_))
  refine (show wpAny _ _ (newList [] >>= fun l => again (.builtin "list.__iadd__" ⟨[l, .ref t], []⟩)) _ _ s from wpAny_bind (wpAny_newList (wpAny_pure ⟨Code.quiet_builtin _ (by decide +kernel), ?_⟩)))
  refine codeAny_builtin entry_list_iadd' (wpAny_mono body (fun f s1 e => ?_) fun _ _ z => z.elim)
  obtain ⟨rfl, rfl⟩ := e
  refine (show wpAny (model prog w) A (load s.heap.objs.size >>= _) _ _ _ from wpAny_bind (wpAny_load hupd ?_))
  refine wpAny_pure ?_
  have e : ((#[] : Array Value) ++ vs.toArray).toList = vs := by simp
  show Q ((#[] : Array Value) ++ vs.toArray).toList _
  rw [e]
  exact h
open SrtO in
theorem tup_sorted {t : Addr} {vs : List Value} {ltv : Value → Value → Bool} {Q : Value → Shared → Prop} (O : Swo ltv) (ht : IsTup s.heap t vs.toArray) (hz : vs.length ≤ sizeLine)
    (hS : 2 ≤ vs.length → ∀ (h1 : Heap) (a : Addr), SortableO prog w A.in1.in1 { s with heap := h1 } a vs ltv)
    (h : ∀ out : List Value, Srtd ltv out → Stb ltv out vs → Q (.ref (s.heap.objs.size + 1)) { s with heap := sortedAll s.heap vs out.toArray }) : wpAny (model prog w) A (call (.builtin "sorted") [.ref t]) Q E s := by
  have size1 : (cpH s.heap vs).objs.size = s.heap.objs.size + 1 := (Heap.size_update ..).trans (size_push' ..)
  have lies : ((cpH s.heap vs).push (seqObj "list" vs.toArray 0)).get? (s.heap.objs.size + 1) = some (seqObj "list" vs.toArray 0) := size1 ▸ Heap.get?_push_size _ rfl
  refine Calls.call_function_entry kind_sorted plain_sorted entry_sorted (args_sorted1 _) ?_
  unfold Builtin.«sorted»
  refine wpAny_bind (m := checkCount "sorted" 1 1 _) (wpAny_pure (wpAny_bind (tup_collect ht hz (wpAny_bind (wpAny_newList ?_ hz)))))
  show wpAny _ _ _ _ _ { s with heap := (cpH s.heap vs).push (seqObj "list" vs.toArray 0) }
  rw [size1]
  have one : ∀ out : List Value, Srtd ltv out → Stb ltv out vs → (fun (f : PySem.Fin) (s' : Shared) => f = .done (.ret .none) ∧ Q (.ref (s.heap.objs.size + 1)) s') (.done (.ret .none)) { s with heap := sortedHeap ((cpH s.heap vs).push (seqObj "list" vs.toArray 0)) (s.heap.objs.size + 1) vs out.toArray } := fun out a b => ⟨rfl, h out a b⟩
  have step := list_sort_ord (prog := prog) (w := w) (A := A.in1.in1) (E := E) (R := fun f s' => f = .done (.ret .none) ∧ Q (.ref (s.heap.objs.size + 1)) s') (s := { s with heap := (cpH s.heap vs).push (seqObj "list" vs.toArray 0) }) O lies hz (fun q => hS q _ _) one
  have typ : (({ s with heap := (cpH s.heap vs).push (seqObj "list" vs.toArray 0) } : Shared)).TypeIs (.ref (s.heap.objs.size + 1)) "list" := ⟨_, lies, rfl⟩
  refine wpAny_bind (wpAny_holding (wpAny_call_entry slot_list_sort typ entry_list_sort (wpAny_mono step (fun f s1 z => ?_) fun _ _ z => z) (args_list_sort _)))
  obtain ⟨rfl, z⟩ := z
  exact ⟨_, rfl, wpAny_pure ⟨_, rfl, z⟩⟩
end
section
variable {X : Cx} {pos p1 : Pos}
/-- sorted(t), a tuple of ints -/
def rSortT (K : PySem.W.Frag) : List V → Hp → VK → Prop := fun vs H Q => ∃ (a : Addr) (ns : List Int), vs = [V.ref a] ∧ SqT K H a (ns.map V.int) ∧
  ∀ (ns' : List Int) (p : Addr), ns'.Perm ns → ns'.Pairwise (· ≤ ·) → H p = none → Q (.ref p) (upd H p (.lst (ns'.map V.int)))
theorem cr_sortT : CallR X (.builtin "sorted") (rSortT X.K) := by
  intro pins s σ H vs us Q I r h
  obtain ⟨a, ns, rfl, hs, q⟩ := h
  obtain ⟨its, rv, ht, hz⟩ := I.tuple hs
  rw [Vals.ref1 r]
  have hi := rv.ints
  refine tup_sorted SrtO.swo_int ht (rv.length ▸ hz) (fun h2 _ _ => SrtO.ints_sortable hi h2) fun out h1 h2 => ?_
  obtain ⟨k1, k2, k3⟩ := SrtO.ints_out hi h1 h2
  obtain ⟨ep, he⟩ := PyProof.Rows.sortedAll_at s.heap its out.toArray
  have hl : ((out.map SrtO.iv).map V.int).length ≤ sizeLine := by
    rw [List.length_map, k2.length_eq]
    simpa using hz
  have I2 := I.laid (t' := s.toks) (o := .lst ((out.map SrtO.iv).map V.int)) (fun _ _ => PyProof.Rows.sortedAll_old (vs := its) (out := out.toArray)) (Nat.le_succ _) ⟨hl, out, ep, vals_of_ints k1, he⟩
  exact ⟨.ref _, _, I2, rfl, q _ _ k2 k3 (I.hok.fresh (Nat.le_succ _))⟩
theorem CallR.or2 {fv : Value} {r r' : List V → Hp → VK → Prop} (h : CallR X fv r) (h' : CallR X fv r') : CallR X fv (fun xs H Q => r xs H Q ∨ r' xs H Q) := by
  intro pins s σ H vs us Q I rx q
  rcases q with q | q
  · exact h pins s σ H vs us Q I rx q
  · exact h' pins s σ H vs us Q I rx q
def bSortA : List D → Option D
  | [.list ds] => (intsD ds).map fun ns => .list ((sortI ns).map PyData.int)
  | [.tuple ds] => (intsD ds).map fun ns => .list ((sortI ns).map PyData.int)
  | _ => none
theorem c_sortA : CallD X (.builtin "sorted") bSortA := ⟨_, CallR.or2 cr_sortedI cr_sortT, fun M H xs ds z hM r e Q k => by
  unfold bSortA at e
  split at e
  · obtain ⟨ns, h1, rfl⟩ := Option.map_eq_some_iff.mp e
    obtain ⟨v, rfl, q1⟩ := den1 r
    obtain ⟨p, vs, rfl, n, g1, g2⟩ := q1.lst_inv
    rw [intsD_ok g2 h1] at g1
    refine .inl ⟨p, ns, rfl, SqL.of g1, fun ns' q hp hs hq => ?_⟩
    have : ns' = sortI ns := sorted_eq (hp.trans (sortI_perm ns).symm) hs (sortI_pw ns)
    subst this
    exact k _ _ (same_upd hq) (.newL hM hq (.ints _))
  · obtain ⟨ns, h1, rfl⟩ := Option.map_eq_some_iff.mp e
    obtain ⟨v, rfl, q1⟩ := den1 r
    obtain ⟨p, vs, rfl, n, g1, g2⟩ := q1.tup_inv
    rw [intsD_ok g2 h1] at g1
    refine .inr ⟨p, ns, rfl, SqT.of g1, fun ns' q hp hs hq => ?_⟩
    have : ns' = sortI ns := sorted_eq (hp.trans (sortI_perm ns).symm) hs (sortI_pw ns)
    subst this
    exact k _ _ (same_upd hq) (.newL hM hq (.ints _))
  · cases e⟩
/-! ### tuple(range(a, b, c)), c from 1 on -/
def stepN (i j c : Int) : Nat := if i < j then ((j - i - 1) / c + 1).toNat else 0
def okStep (i j c : Int) : Prop := 0 ≤ i ∧ i ≤ 1000000 ∧ 0 ≤ j ∧ j ≤ 1000000 ∧ 1 ≤ c ∧ c ≤ 1000000
instance (i j c : Int) : Decidable (okStep i j c) := inferInstanceAs (Decidable (_ ∧ _))
theorem step_size {i j c : Int} (h : okStep i j c) : Builtin.Range.rangeSize i j c = stepN i j c ∧ stepN i j c ≤ 1000000 := by
  obtain ⟨h1, h2, h3, h4, h5, h6⟩ := h
  unfold Builtin.Range.rangeSize stepN
  rw [if_pos (by omega : c > 0)]
  by_cases q : i < j
  · rw [if_pos q, if_pos q]
    have d0 : 0 ≤ (j - i - 1) / c := Int.ediv_nonneg (by omega) (by omega)
    have d1 : (j - i - 1) / c ≤ j - i - 1 := Int.ediv_le_self c (by omega)
    constructor <;> omega
  · rw [if_neg q, if_neg q]
    exact ⟨rfl, by omega⟩
theorem step_small {i j c : Int} (h : okStep i j c) : Builtin.Range.small i j c = true := by
  obtain ⟨e, hn⟩ := step_size h
  obtain ⟨h1, h2, h3, h4, h5, h6⟩ := h
  have e63 : (2 : Int) ^ 63 = 9223372036854775808 := by decide
  unfold Builtin.Range.small
  rw [e, if_pos (by omega : c > 0)]
  simp only [Builtin.Range.rangeFitsLong, Bool.and_eq_true, Bool.or_eq_true, decide_eq_true_eq, beq_iff_eq, e63]
  omega
theorem vals_step {a c : Int} {n : Nat} {acc : Array Value} (h : ItemsOf (fun i v => ∃ t, v = .int (a + i * c) t) acc n) : Vals ((List.range n).map fun i => V.int (a + (i : Nat) * c)) acc.toList := by
  have e : acc.toList.length = n := (Array.length_toList ..).trans h.1
  rw [← e]
  exact vals_of_get acc.toList _ fun j u hj => h.2 j u (by rw [← hj, Array.getElem?_toList])
def tTupR3 (ta tb tc : TE) : TE := fun σ H Q => ta σ H fun x H1 => tb σ H1 fun y H2 => tc σ H2 fun z H3 => ∃ i j c, x = .int i ∧ y = .int j ∧ z = .int c ∧ okStep i j c ∧ ∀ q, H3 q = none → Q (.ref q) (upd H3 q (.tup ((List.range (stepN i j c)).map fun k => V.int (i + (k : Nat) * c))))
theorem pe_tupR3 {a b d : Expr} {ta tb td : TE} {p q : Pos} (hc : X.calm = true) (hgt : Gl X "tuple") (hmt : X.mg "tuple" = none) (hg : Gl X "range") (hm : X.mg "range" = none) (ha : PE X a ta) (hb : PE X b tb) (hd : PE X d td)
    (na : starEach [a, b, d] X.env = (false, eval a X.env) :: starEach [b, d] X.env := by rfl) (nb : starEach [b, d] X.env = (false, eval b X.env) :: starEach [d] X.env := by rfl) (nd : starEach [d] X.env = (false, eval d X.env) :: starEach [] X.env := by rfl) (hp : (backTo p1 (starEach [b, d] X.env)).any (·.1) = false := by rfl)
    (na2 : starEach [.Call (.Name "range" p) [a, b, d] [] p1] X.env = (false, eval (.Call (.Name "range" p) [a, b, d] [] p1) X.env) :: starEach [] X.env := by rfl) : PE X (.Call (.Name "tuple" q) [.Call (.Name "range" p) [a, b, d] [] p1] [] pos) (tTupR3 ta tb td) := by
  constructor
  intro pins s σ H Q I h
  refine Call_ (ld_blt I hgt hmt boot_tuple (PyProof.Rows.callWith_type1 (args_cons (Call_ (ld_blt I hg hm boot_range (PyProof.Rows.callWith_type1 (args_cons (thn (ha.run pins s σ H _ I h) fun v1 s1 ⟨x, H1, I1, r1, q1⟩ => args_cons (thn (hb.run pins s1 σ H1 _ I1 q1) fun v2 s2 ⟨y, H2, I2, r2, q2⟩ => one_arg hd I2 q2 (fun v3 s3 z H3 I3 r3 w => ?_) nd) nb) na) na hp))) na2) na2))
  obtain ⟨i, j, c, rfl, rfl, rfl, ok, w⟩ := w
  obtain ⟨t1, rfl⟩ := r1
  obtain ⟨t2, rfl⟩ := r2
  obtain ⟨t3, rfl⟩ := r3
  obtain ⟨e, hn⟩ := step_size ok
  refine call_range_3 (by have := ok.2.2.2.2.1; omega) ?_ (.inl (PyProof.noPylong_small (by have := ok.2.2.2.2; omega)))
  have I4 : Inv X pins σ H3 { s3 with heap := s3.heap.push { cls := .type "range", data := .fields #[.int i t1, .int j t2, .int c t3] } } := I3.kept (t' := s3.toks) fun b o z => Heap.get?_push_of_some _ z
  refine args_nil ?_
  refine call_tuple_range (n := stepN i j c) (I4.ok.hd hc) (IsRange.new _ _ _ _ _ _ _) (step_small ok) e (by omega) fun h' tk acc hk hi => ?_
  have I5 : Inv X pins σ H3 { s3 with heap := h', toks := tk } := I4.kept hk
  refine ⟨.ref h'.objs.size, _, I5.laid (t' := tk) (o := .tup ((List.range (stepN i j c)).map fun k => V.int (i + (k : Nat) * c))) (fun c o e => Heap.get?_push_of_some _ e) (Nat.le_refl _) ⟨?_, acc.toList, vals_step hi, ?_⟩, rfl, w _ (I5.hok.fresh (Nat.le_refl _))⟩
  · rw [List.length_map, List.length_range, sizeLine_eq]; omega
  · rw [Array.toArray_toList]; exact IsTup.new _ _
def fTupR3 (f g h : F) : F := fun e => (f e).bind fun p => (g p.2).bind fun q => (h q.2).bind fun r => match p.1, q.1, r.1 with
  | .int i, .int j, .int c => if okStep i j c then some (.tuple ((List.range (stepN i j c)).map fun k => .int (i + (k : Nat) * c)), r.2) else none
  | _, _, _ => none
theorem le_tupR3 {a b d : Expr} {fa fb fd : F} {p q : Pos} (hc : X.calm = true) (hgt : Gl X "tuple") (hmt : X.mg "tuple" = none) (hg : Gl X "range") (hm : X.mg "range" = none) (ha : LE X a fa) (hb : LE X b fb) (hd : LE X d fd)
    (na : starEach [a, b, d] X.env = (false, eval a X.env) :: starEach [b, d] X.env := by rfl) (nb : starEach [b, d] X.env = (false, eval b X.env) :: starEach [d] X.env := by rfl) (nd : starEach [d] X.env = (false, eval d X.env) :: starEach [] X.env := by rfl) (hp : (backTo p1 (starEach [b, d] X.env)).any (·.1) = false := by rfl)
    (na2 : starEach [.Call (.Name "range" p) [a, b, d] [] p1] X.env = (false, eval (.Call (.Name "range" p) [a, b, d] [] p1) X.env) :: starEach [] X.env := by rfl) : LE X (.Call (.Name "tuple" q) [.Call (.Name "range" p) [a, b, d] [] p1] [] pos) (fTupR3 fa fb fd) :=
  weakE (pe_tupR3 hc hgt hmt hg hm ha hb hd na nb nd hp na2) fun σ H Q ⟨c, o, en, S, d, e', hf, k⟩ => by
    obtain ⟨⟨x, e1⟩, h1, hf⟩ := bind_some hf
    obtain ⟨⟨y, e2⟩, h2, hf⟩ := bind_some hf
    obtain ⟨⟨z, e3⟩, h3, hf⟩ := bind_some hf
    cases x with
    | int i =>
      cases y with
      | int j =>
        cases z with
        | int cc =>
          obtain ⟨hj, hf⟩ := if_some hf
          cases hf
          refine ⟨c, o, en, S, _, _, h1, fun v H1 o1 S1 a1 r1 => ⟨c, o1, _, S1, _, _, h2, fun u H2 o2 S2 a2 r2 => ⟨c, o2, _, S2, _, _, h3, fun w H3 o3 S3 a3 r3 => ⟨_, _, _, r1.int_inv, r2.int_inv, r3.int_inv, hj, fun q hq => ?_⟩⟩⟩⟩
          refine k _ _ o3 (S3.same (same_upd hq)) (((a1.trans a2).trans a3).trans (.same (same_upd hq))) (.newT S3.alloc hq ?_)
          have := DenL.ints (M := c.M o3) (H := H3) ((List.range (stepN i j cc)).map fun k : Nat => i + (k : Int) * cc)
          rw [List.map_map, List.map_map] at this
          exact this
        | _ => cases hf
      | _ => cases hf
    | _ => cases hf
end
end L3

/-! L4C: enumerate of a tuple. -/
namespace L3
open PySem PySem.Spec PyProof.Rows L2
theorem enum_new1 {v : Value} {o : Obj} {H : Heap → Prop} (B : Begins v o H) : Meets (Builtin.«enumerate.__new__» ⟨[.type "enumerate", v], []⟩) (fun _ R s => H s.heap ∧
    R (.ok (.ret (.ref (s.heap.push o).objs.size))) { s with heap := (s.heap.push o).push { cls := .type "enumerate", data := .fields #[.none, .bool false, .ref s.heap.objs.size, rawInt 0, .none, .none] } }) :=
  .of_wp fun prog w A R s ⟨h1, h⟩ => by
    obtain ⟨hp, g, d, tk, os⟩ := s
    have hs := PySem.sub_enumerate
    have it : ∀ {A' : Around} {E : Value → Shared → Prop} {Q : Value → Shared → Prop}, Q (.ref hp.objs.size) ⟨hp.push o, g, d, tk, os⟩ → wpAny (model prog w) A' (pyIter v) Q E ⟨hp, g, d, tk, os⟩ := fun q => B.iter prog w _ _ ⟨hp, g, d, tk, os⟩ _ h1 q
    wp_walk using it
    refine wpAny_stack_any fun st => wpAny_pure ?_
    split
    · rename_i cl _ _ _ _ _
      cases (cl == Value.type "enumerate") <;> (wp_walk using it; exact ⟨_, rfl, h⟩)
    · wp_walk using it
      exact ⟨_, rfl, h⟩
section
variable {prog : Program} {w : World} {A : Around} {E : Value → Shared → Prop} {s : Shared}
theorem enum_begins1 {v : Value} {o : Obj} {H : Heap → Prop} {Q : Value → Shared → Prop} (B : Begins v o H) (h1 : H s.heap)
    (h : ∀ h', IsEnum h' (s.heap.objs.size + 1) s.heap.objs.size 0 .none → h'.get? s.heap.objs.size = some o → (∀ b o, s.heap.get? b = some o → h'.get? b = some o) → Q (.ref (s.heap.objs.size + 1)) { s with heap := h' }) :
    wpAny (model prog w) A (call (.type "enumerate") [v]) Q E s := by
  have hz : (s.heap.push o).objs.size = s.heap.objs.size + 1 := Heap.size_push ..
  refine callType_new F.called_enumerate (by decide) (F.typeCall_enumerate_1 _) (F.newCall_enumerate_1 _) (fun obj => F.args_object_init_2 obj _) F.entry_enumerate_new (enum_new1 B) ⟨h1, ?_⟩
  show _ ∧ _
  have he := Heap.get?_push_size (s.heap.push o) (o := { cls := .type "enumerate", data := .fields #[.none, .bool false, .ref s.heap.objs.size, rawInt 0, .none, .none] }) rfl
  rw [hz] at he ⊢
  exact ⟨⟨_, he, rfl⟩, h _ he (Heap.get?_push_of_some _ (Heap.get?_push_size _ B.free)) fun b ob z => Heap.get?_push_of_some _ (Heap.get?_push_of_some _ z)⟩
end
/-- the tuple at a, each item in a new pair -/
def IteT (K : PySem.W.Frag) (a : Addr) : It :=
  ⟨fun i H => ∃ (xs : List V) (x : V), SqT K H a xs ∧ xs[i]? = some x, fun i H v H' => ∃ T x, v = .ref T ∧ H T = none ∧ H' = upd H T (.tup [.int (i : Nat), x]) ∧ ∀ xs, SqT K H a xs → xs[i]? = some x, fun i H => ∃ xs : List V, SqT K H a xs ∧ xs.length = i⟩
theorem turn_enumT {P : Program} {w : World} {K : PySem.W.Frag} {elts : List Expr} {kk : Nat} {tpos : Pos} {a e it : Addr} (hei : e ≠ it) (hai : a ≠ it) (hea : e ≠ a) :
    Turn P w K (.Tuple elts kk tpos) (IteT K a) [e, it] e (fun i h => (∃ old, IsEnum h e it ((i : Nat) : Int) old) ∧ h.IsTupleIter it a i) where
  mem := List.mem_cons_self
  obj := fun i h st b hb => by
    obtain ⟨⟨old, he⟩, o, ho, _, hd⟩ := st
    rcases (by simpa using hb : b = e ∨ b = it) with rfl | rfl
    · exact ⟨_, he, fun v q => nomatch q⟩
    · exact ⟨o, ho, fun v q => by rw [hd] at q; cases q⟩
  keep := fun i h h' st k => ⟨st.1.elim fun old he => ⟨old, k e (by simp) _ he⟩, st.2.at fun o q => k it (by simp) o q⟩
  item := by
    intro X hP hw hK hc i pins s σ H E I hf st hg
    subst hP hw hK
    obtain ⟨⟨old, he⟩, hit⟩ := st
    obtain ⟨xs, x, hq, hx⟩ := hg
    obtain ⟨its, rv, p, hz⟩ := I.tuple hq
    obtain ⟨u, hu, ru⟩ := rv.get hx
    have hel : e < s.heap.objs.size := Heap.lt_size he
    have hil : it < s.heap.objs.size := by obtain ⟨_, q, _⟩ := hit; exact Heap.lt_size q
    have hlt : i < its.toArray.size := by simpa using (List.getElem?_eq_some_iff.mp hu).1
    have hh : X.A.in1.handled = none := I.ok.hd hc
    have D := Draws.tuple (prog := X.prog) (w := X.w) hh it a hai its.toArray
    refine wpAny_pyNext_enum_itemD D he ⟨hit, p⟩ hlt hei (by simp; exact ⟨hei, hea⟩) fun y h' tk hy ho hs' hT hsz hk => ?_
    have ey : y = u := by
      have hy' : its[i]? = some y := by simpa using hy
      rw [hu] at hy'
      exact (Option.some.inj hy').symm
    subst ey
    refine ⟨_, rfl, wpAny_letOwnedTupleGo_enum (s := { s with heap := h', toks := tk + 1 }) ho fun h'' he' sb => ?_⟩
    have hT2 := (sb.2 _ (Nat.ne_of_gt hel)).trans hT
    have new : ObjOk X.prog X.w (upd H s.heap.objs.size (.tup [.int (i : Nat), x])) h'' s.heap.objs.size (.tup [.int (i : Nat), x]) :=
      ⟨by show 2 ≤ sizeLine; decide, [.int i tk, y], .cons ⟨_, rfl⟩ (.cons ru .nil), ⟨_, hT2, rfl, _, rfl⟩⟩
    have I1 := I.turnedNew (t' := tk + 1) (h' := h'') (ch := [e, it]) (fun b ob hb q => (sb.2 b (fun z => hb (by simp [z]))).trans (hk b ob (fun z => hb (by simp [z])) (fun z => hb (by simp [z])) q)) hf (Nat.le_refl _) new
    refine ⟨.ref s.heap.objs.size, _, I1, rfl, ⟨_, x, rfl, I.hok.fresh (Nat.le_refl _), rfl, fun ys hy => by rw [I.tuple_inj hy hq]; exact hx⟩, ⟨⟨y, ?_⟩, hs'.1.at fun o q => (sb.2 it (Ne.symm hei)).trans q⟩, fun b hb => ?_⟩
    · rw [show ((i + 1 : Nat) : Int) = (i : Int) + 1 by omega]
      exact he'
    · have hb' : b < s.heap.objs.size := by rcases (by simpa using hb : b = e ∨ b = it) with rfl | rfl <;> assumption
      rw [upd_ne (Nat.ne_of_lt hb')]
      exact (hf b hb).1
  done := by
    intro X hP hw hK hc i pins s σ H E I hf st hg
    subst hP hw hK
    obtain ⟨⟨old, he⟩, hit⟩ := st
    obtain ⟨xs, hq, hx⟩ := hg
    obtain ⟨its, rv, p, hz⟩ := I.tuple hq
    obtain ⟨f0, f1, f2, f3, f4, f5⟩ := hf it (by simp)
    have hl : its.toArray.size = i := by rw [List.size_toArray, ← rv.length]; exact hx
    have hh : X.A.in1.handled = none := I.ok.hd hc
    have D := Draws.tuple (prog := X.prog) (w := X.w) hh it a hai its.toArray
    refine wpAny_pyNext_enum_endD D he ⟨by rw [hl]; exact hit, p⟩ fun h' eb => ⟨rfl, I.turned (t' := s.toks) (fun b o hb q => eb b o hb q) f0 f1 f3 f4 f5⟩
  self := fun A i s Q E st h => st.1.elim fun _ he => wpAny_pyIter_enum he h
section
variable {X : Cx} {e : Expr} {p pos tpos : Pos} {elts : List Expr} {kk : Nat} {ta : TA} {fa : FA}
def iEnumT (K : PySem.W.Frag) (ta : TA) : TI := fun σ H R => ta σ H fun vs H1 => ∃ a xs, vs = [.ref a] ∧ SqT K H1 a xs ∧ R (IteT K a) H1
theorem pi_enumT (hg : Gl X "enumerate") (hm : X.mg "enumerate" = none) (ha : PA X [e] ta) (hs : starEach [e] X.env = [(false, eval e X.env)] := by rfl) : PI X (.Tuple elts kk tpos) (.Call (.Name "enumerate" p) [e] [] pos) (iEnumT X.K ta) := by
  constructor
  intro pins s σ H R I h
  refine Call_ (ld_blt I hg hm boot_enumerate (PyProof.Rows.callWith_type1 (thn (ha.run pos pins s σ H _ I h) fun us s1 ⟨vs, H1, I1, r1, q1⟩ => ?_) hs rfl))
  obtain ⟨a, xs, rfl, hq, q⟩ := q1
  obtain ⟨u1, rfl, ru⟩ := vals1 r1
  obtain rfl : u1 = Value.ref a := ru
  obtain ⟨its, rv, p1, _⟩ := I1.tuple hq
  obtain ⟨o1, ho1, _⟩ := id p1
  have la := Heap.lt_size ho1
  refine enum_begins1 (begins_tuple a its.toArray) p1 fun h' he hit hk => wpAny_pyIter_enum he ?_
  have I2 : Inv X pins σ H1 { s1 with heap := h' } := I1.kept (t' := s1.toks) hk
  refine ⟨s1.heap.objs.size + 1, [s1.heap.objs.size + 1, s1.heap.objs.size], _, _, H1, rfl, I2, turn_enumT (Nat.succ_ne_self _) (Nat.ne_of_lt la) (Nat.ne_of_gt (Nat.lt_succ_of_lt la)), ⟨⟨.none, he⟩, ⟨_, hit, rfl, rfl⟩⟩, fun b hb => ?_, q⟩
  have hle : s1.heap.objs.size ≤ b := by rcases (by simpa using hb : b = s1.heap.objs.size + 1 ∨ b = s1.heap.objs.size) with rfl | rfl <;> omega
  exact I1.fpOk hle (I1.hok.fresh hle)
theorem walk_enumT {K : PySem.W.Frag} {a : Addr} {xs : List V} : Walk (IteT K a) xs.length (fun H => SqT K H a xs) (YPair (fun i => some (.int (i : Nat))) (fun i => xs[i]?)) :=
  ⟨fun i _ hi q => ⟨xs, xs[i], q, List.getElem?_eq_getElem hi⟩, fun _ q => ⟨xs, q, rfl⟩, fun i H v H' _ q ⟨T, x, h1, h2, h3, h4⟩ => ⟨T, .int (i : Nat), x, h1, h2, h3, rfl, h4 xs q⟩⟩
theorem walks_enumT {M : MS} {H : Hp} {K : PySem.W.Frag} {a : Addr} {xs : List V} {ds : List D} (n : ¬ M a) (h : H a = some (.tup xs)) (r : DenL M H xs ds) : Walks M H (IteT K a) (enumD 0 ds) := by
  refine ⟨_, _, by rw [enum_len, ← r.length]; exact walk_enumT (K := K) (a := a) (xs := xs), fun M2 H2 st => SqT.of (st.1 _ _ h n), fun o2 H2 i v H3 hi st hM y => ?_⟩
  rw [enum_len] at hi
  have hd := List.getElem?_eq_getElem hi
  refine ⟨_, enum_get 0 ds i _ hd, pair_new hM y (fun x e => ?_) fun x e => ?_⟩
  · cases e
    rw [Nat.zero_add]
    exact .int _
  · obtain ⟨d, h1, h2⟩ := (st.denL r).get e
    rw [hd] at h1
    cases h1
    exact h2
def fEnumA (fa : FA) : FI := fun e => (fa e).bind fun p => match p.1 with
  | [.list xs] => some (enumD 0 xs, p.2)
  | [.tuple xs] => some (enumD 0 xs, p.2)
  | _ => none
theorem li_enumA (hg : Gl X "enumerate") (hm : X.mg "enumerate" = none) (ha : LA X [e] fa) (hs : starEach [e] X.env = [(false, eval e X.env)] := by rfl) : LI X (.Tuple elts kk tpos) (.Call (.Name "enumerate" p) [e] [] pos) (fEnumA fa) :=
  weakI (PI.or (pi_enum hg hm ha hs) (pi_enumT hg hm ha hs)) fun σ H R ⟨c, o, en, S, ds, e', hf, k⟩ => by
    obtain ⟨⟨as, e1⟩, h1, hf⟩ := bind_some hf
    simp only at hf
    split at hf
    · cases hf
      refine .inl ⟨c, o, en, S, _, _, h1, fun vs H1 o1 S1 a1 r1 => ?_⟩
      obtain ⟨v, rfl, q1⟩ := den1 r1
      obtain ⟨a, vs, rfl, n1, g1, d1⟩ := q1.lst_inv
      exact ⟨a, vs, rfl, SqL.of g1, k _ H1 o1 S1 a1 (walks_enum n1 g1 d1)⟩
    · cases hf
      refine .inr ⟨c, o, en, S, _, _, h1, fun vs H1 o1 S1 a1 r1 => ?_⟩
      obtain ⟨v, rfl, q1⟩ := den1 r1
      obtain ⟨a, vs, rfl, n1, g1, d1⟩ := q1.tup_inv
      exact ⟨a, vs, rfl, SqT.of g1, k _ H1 o1 S1 a1 (walks_enumT n1 g1 d1)⟩
    · cases hf
@[simp] theorem q_enumA (e : En) : fEnumA fa e = (fa e).bind fun p => match p.1 with
  | [.list xs] => some (enumD 0 xs, p.2)
  | [.tuple xs] => some (enumD 0 xs, p.2)
  | _ => none := rfl
end
end L3

namespace K42
open PySem PySem.Spec PyProof.Rows L2 L3
def b_is_integer : FS := sSeq (sRet (fAndV (fIsi "int" (fV 0)) (fNotV (fIsi "bool" (fV 0))))) (sNext)
def m_is_integer : List D → Option D := runF b_is_integer 1
def b_is_between : FS := sSeq (sRet (fAndV (fCall m_is_integer (fCons (fV 0) (fNil))) (fChain opLe opLe (fV 1) (fV 0) (fV 2)))) (sNext)
def m_is_between : List D → Option D := runF b_is_between 3
def b_is_ascending_c1 : F := fBin opLt (fV 1) (fV 2)
def b_is_ascending : FS := sSeq (sRet (fCall bAll (fCons (fLC (fZip (fCons (fV 0) (fCons (fSlice (fV 0) (fPart (fC (.int 1))) (fNoPart)) (fNil)))) (gT 2 (gsCons (gN 1) (gsCons (gN 2) (gsNil)))) (fYes) (b_is_ascending_c1) [1, 2]) (fNil)))) (sNext)
def m_is_ascending : List D → Option D := runF b_is_ascending 3
def b_is_round_c1 : F := fCall m_is_between (fCons (fV 3) (fCons (fC (.int 0)) (fCons (fBin opSub (fV 1) (fC (.int 1))) (fNil))))
def b_is_round : FS := sSeq (sIf (fOr (fNot (fT (fIsi "tuple" (fV 0)))) (fOr (fT (fBin opNe (fCall bLen (fCons (fV 0) (fNil))) (fC (.int 2)))) (fNot (fT (fCall m_is_between (fCons (fBin opIx (fV 0) (fC (.int 0))) (fCons (fC (.int 2)) (fCons (fC (.int 168)) (fNil))))))))) (sSeq (sRet (fC (.bool false))) (sNext)) (sNext)) (sSeq (sAsg (fV 0) (gT 2 (gsCons (gN 1) (gsCons (gN 2) (gsNil))))) (sSeq (sIf (fOr (fNot (fT (fIsi "tuple" (fV 2)))) (fOr (fT (fBin opEq (fV 2) (fTup (fNil)))) (fNot (fT (fCall bAll (fCons (fLC (fItS (fV 2)) (gN 3) (fYes) (b_is_round_c1) [3]) (fNil))))))) (sSeq (sRet (fC (.bool false))) (sNext)) (sNext)) (sSeq (sRet (fCall m_is_ascending (fCons (fV 2) (fNil)))) (sNext))))
def m_is_round : List D → Option D := runF b_is_round 4
def b_check_round_c1 : F := fCall m_is_between (fCons (fV 2) (fCons (fC (.int 1)) (fCons (fC (.int 999)) (fNil))))
def b_check_round : FS := sSeq (sIf (fNot (fT (fCall m_is_round (fCons (fV 0) (fNil))))) (sNo) (sNext)) (sSeq (sIf (fOr (fNot (fT (fIsi "tuple" (fV 1)))) (fOr (fT (fBin opNe (fCall bLen (fCons (fV 1) (fNil))) (fC (.int 2)))) (fNot (fT (fCall bAll (fCons (fLC (fItS (fV 1)) (gN 2) (fYes) (b_check_round_c1) [2]) (fNil))))))) (sNo) (sNext)) (sNext))
def m_check_round : List D → Option D := runF b_check_round 3
def b_seen_c1 : F := fBin opAdd (fBin opMulT (fV 6) (fV 3)) (fV 7)
def b_seen_i1 : FT := fT (fChain opLe opLt (fV 1) (fBin opAdd (fBin opMulT (fV 6) (fV 3)) (fV 7)) (fV 2))
def b_seen_l1 : FS := sSeq (sExt 5 (fLC (fItS (fV 4)) (gN 7) (b_seen_i1) (b_seen_c1) [7])) (sNext)
def b_seen : FS := sSeq (sAsg (fV 0) (gT 2 (gsCons (gN 3) (gsCons (gN 4) (gsNil))))) (sSeq (sOwn 5 (fNil)) (sSeq (sFor (fRng2 (fCons (fBin opDiv (fV 1) (fV 3)) (fCons (fBin opAdd (fBin opDiv (fV 2) (fV 3)) (fC (.int 1))) (fNil)))) (gN 6) (b_seen_l1)) (sSeq (sRet (fV 5)) (sNext))))
def m_seen : List D → Option D := runF b_seen 8
def b_proof_l1 : FS := sSeq (sSet 4 (fBin opAdd (fV 4) (fC (.int 1)))) (sNext)
def b_proof_t1 : FT := fAnd (fT (fBin opLt (fV 4) (fV 5))) (fT (fBin opGe (fBin opSub (fV 6) (fBin opIx (fV 0) (fBin opAdd (fV 4) (fC (.int 1))))) (fV 2)))
def b_proof_l2 : FS := sSeq (sIf (fAnd (fT (fBin opGt (fV 5) (fC (.int 0)))) (fT (fBin opGt (fBin opSub (fV 6) (fBin opIx (fV 0) (fBin opSub (fV 5) (fC (.int 1))))) (fV 3)))) (sSeq (sSet 4 (fV 5)) (sNext)) (sNext)) (sSeq (sWhile (b_proof_t1) (b_proof_l1) fu) (sSeq (sIf (fT (fBin opGe (fBin opSub (fV 6) (fBin opIx (fV 0) (fV 4))) (fV 2))) (sSeq (sRet (fTup (fCons (fBin opIx (fV 0) (fV 4)) (fCons (fV 6) (fNil))))) (sNext)) (sNext)) (sNext)))
def b_proof : FS := sSeq (sAsg (fV 1) (gT 2 (gsCons (gN 2) (gsCons (gN 3) (gsNil))))) (sSeq (sSet 4 (fC (.int 0))) (sSeq (sFor (fEnumA (fCons (fV 0) (fNil))) (gT 2 (gsCons (gN 5) (gsCons (gN 6) (gsNil)))) (b_proof_l2)) (sSeq (sRet (fC .none)) (sNext))))
def m_proof : List D → Option D := runF b_proof 7
def b_proved : FS := sSeq (sExpr (fCall m_check_round (fCons (fV 0) (fCons (fV 1) (fNil))))) (sSeq (sIf (fNot (fT (fCall m_is_between (fCons (fV 2) (fCons (fC (.int 0)) (fCons (fC (.int 9999)) (fNil))))))) (sNo) (sNext)) (sSeq (sIf (fNot (fT (fCall m_is_between (fCons (fV 3) (fCons (fC (.int 1)) (fCons (fC (.int 9999)) (fNil))))))) (sNo) (sNext)) (sSeq (sRet (fCall m_proof (fCons (fCall m_seen (fCons (fV 0) (fCons (fV 2) (fCons (fBin opAdd (fV 2) (fV 3)) (fNil))))) (fCons (fV 1) (fNil))))) (sNext))))
def m_proved : List D → Option D := runF b_proved 4
def b_gaps_c1 : F := fBin opSub (fV 4) (fV 3)
def b_gaps : FS := sSeq (sAsg (fV 0) (gT 2 (gsCons (gN 1) (gsCons (gN 2) (gsNil))))) (sSeq (sRet (fLC (fZip (fCons (fV 2) (fCons (fBin opAdd (fSlice (fV 2) (fPart (fC (.int 1))) (fNoPart)) (fTup (fCons (fBin opAdd (fBin opIx (fV 2) (fC (.int 0))) (fV 1)) (fNil)))) (fNil)))) (gT 2 (gsCons (gN 3) (gsCons (gN 4) (gsNil)))) (fYes) (b_gaps_c1) [3, 4])) (sNext))
def m_gaps : List D → Option D := runF b_gaps 5
def b_is_never : FS := sSeq (sIf (fT (fBin opLe (fCall bMax (fCons (fCall m_gaps (fCons (fV 0) (fNil))) (fNil))) (fBin opIx (fV 1) (fC (.int 1))))) (sSeq (sRet (fC (.bool false))) (sNext)) (sNext)) (sSeq (sRet (fBin opIs (fCall m_proof (fCons (fCall m_seen (fCons (fV 0) (fCons (fC (.int 0)) (fCons (fBin opMulT (fC (.int 3)) (fBin opIx (fV 0) (fC (.int 0)))) (fNil))))) (fCons (fV 1) (fNil)))) (fC .none))) (sNext))
def m_is_never : List D → Option D := runF b_is_never 2
def b_needs : FS := sSeq (sSet 3 (fCall m_proof (fCons (fCall m_seen (fCons (fV 0) (fCons (fV 2) (fCons (fBin opAdd (fBin opAdd (fV 2) (fBin opIx (fV 1) (fC (.int 0)))) (fBin opMulT (fC (.int 3)) (fBin opIx (fV 0) (fC (.int 0))))) (fNil))))) (fCons (fV 1) (fNil))))) (sSeq (sRet (fTup (fCons (fBin opAdd (fBin opSub (fBin opIx (fV 3) (fC (.int 1))) (fV 2)) (fC (.int 1))) (fCons (fV 3) (fNil))))) (sNext))
def m_needs : List D → Option D := runF b_needs 4
def b_number_of_c1 : F := fBin opIx (fCall m_needs (fCons (fV 0) (fCons (fV 1) (fCons (fV 4) (fNil))))) (fC (.int 0))
def b_number_of_c2 : F := fBin opMod (fBin opAdd (fV 3) (fC (.int 1))) (fBin opIx (fV 0) (fC (.int 0)))
def b_number_of : FS := sSeq (sIf (fT (fCall m_is_never (fCons (fV 0) (fCons (fV 1) (fNil))))) (sSeq (sRet (fC .none)) (sNext)) (sNext)) (sSeq (sSet 2 (fLC (fItS (fBin opIx (fV 0) (fC (.int 1)))) (gN 3) (fYes) (b_number_of_c2) [3])) (sSeq (sRet (fBin opSub (fCall bMax (fCons (fLC (fItS (fV 2)) (gN 4) (fYes) (b_number_of_c1) [4]) (fNil))) (fBin opIx (fV 1) (fC (.int 0))))) (sNext)))
def m_number_of : List D → Option D := runF b_number_of 5
def b_least_more_c1 : F := fV 10
def b_least_more_c2 : F := fV 8
def b_least_more_i1 : FT := fT (fBin opEq (fBin opSub (fBin opIx (fV 11) (fC (.int 0))) (fBin opIx (fV 1) (fC (.int 0)))) (fV 4))
def b_least_more_c3 : F := fV 9
def b_least_more_c4 : F := fCall m_needs (fCons (fV 0) (fCons (fV 1) (fCons (fV 8) (fNil))))
def b_least_more_c5 : F := fV 6
def b_least_more_i2 : FT := fT (fBin opGt (fV 7) (fBin opIx (fV 1) (fC (.int 1))))
def b_least_more : FS := sSeq (sExpr (fCall m_check_round (fCons (fV 0) (fCons (fV 1) (fNil))))) (sSeq (sIf (fT (fCall m_is_never (fCons (fV 0) (fCons (fV 1) (fNil))))) (sSeq (sSet 2 (fLC (fZip (fCons (fBin opIx (fV 0) (fC (.int 1))) (fCons (fCall m_gaps (fCons (fV 0) (fNil))) (fNil)))) (gT 2 (gsCons (gN 6) (gsCons (gN 7) (gsNil)))) (b_least_more_i2) (b_least_more_c5) [6, 7])) (sSeq (sRet (fTup (fCons (fC (.str ("never" : Str))) (fCons (fBin opIx (fV 2) (fC (.int 0))) (fNil))))) (sNext))) (sNext)) (sSeq (sSet 3 (fLC (fRng1 (fCons (fBin opIx (fV 0) (fC (.int 0))) (fNil))) (gN 8) (fYes) (b_least_more_c4) [8])) (sSeq (sSet 4 (fBin opSub (fCall bMax (fCons (fLC (fItS (fV 3)) (gT 2 (gsCons (gN 9) (gsCons (gN 10) (gsNil)))) (fYes) (b_least_more_c3) [9, 10]) (fNil))) (fBin opIx (fV 1) (fC (.int 0))))) (sSeq (sSet 5 (fLC (fEnumA (fCons (fV 3) (fNil))) (gT 2 (gsCons (gN 8) (gsCons (gN 11) (gsNil)))) (b_least_more_i1) (b_least_more_c2) [8, 11])) (sSeq (sRet (fTup (fCons (fC (.str ("more" : Str))) (fCons (fV 4) (fCons (fCall bTuple (fCons (fLC (fItS (fV 3)) (gT 2 (gsCons (gN 9) (gsCons (gN 10) (gsNil)))) (fYes) (b_least_more_c1) [9, 10]) (fNil))) (fCons (fIf (fT (fBin opGt (fV 4) (fC (.int 1)))) (fBin opIx (fV 5) (fC (.int 0))) (fC .none)) (fNil))))))) (sNext))))))
def m_least_more : List D → Option D := runF b_least_more 12
def b_does_prove_c1 : F := fBin opLe (fBin opSub (fV 10) (fV 9)) (fBin opIx (fV 1) (fC (.int 1)))
def b_does_prove_c2 : F := fCall m_is_integer (fCons (fV 8) (fNil))
def b_does_prove : FS := sSeq (sIf (fOr (fNot (fT (fIsi "tuple" (fV 4)))) (fOr (fT (fBin opNe (fCall bLen (fCons (fV 4) (fNil))) (fC (.int 2)))) (fNot (fT (fCall bAll (fCons (fLC (fItS (fV 4)) (gN 8) (fYes) (b_does_prove_c2) [8]) (fNil))))))) (sSeq (sRet (fC (.bool false))) (sNext)) (sNext)) (sSeq (sAsg (fV 4) (gT 2 (gsCons (gN 5) (gsCons (gN 6) (gsNil))))) (sSeq (sIf (fOr (fNot (fT (fChain3 opLe opLe opLt (fV 2) (fV 5) (fV 6) (fBin opAdd (fV 2) (fV 3))))) (fT (fBin opLt (fBin opSub (fV 6) (fV 5)) (fBin opIx (fV 1) (fC (.int 0)))))) (sSeq (sRet (fC (.bool false))) (sNext)) (sNext)) (sSeq (sIf (fOr (fT (fBin opNotIn (fBin opMod (fV 5) (fBin opIx (fV 0) (fC (.int 0)))) (fBin opIx (fV 0) (fC (.int 1))))) (fT (fBin opNotIn (fBin opMod (fV 6) (fBin opIx (fV 0) (fC (.int 0)))) (fBin opIx (fV 0) (fC (.int 1)))))) (sSeq (sRet (fC (.bool false))) (sNext)) (sNext)) (sSeq (sSet 7 (fCall m_seen (fCons (fV 0) (fCons (fV 5) (fCons (fBin opAdd (fCall bMin (fCons (fV 6) (fCons (fBin opAdd (fV 5) (fBin opIx (fV 0) (fC (.int 0)))) (fNil)))) (fC (.int 1))) (fNil)))))) (sSeq (sRet (fCall bAll (fCons (fLC (fZip (fCons (fV 7) (fCons (fSlice (fV 7) (fPart (fC (.int 1))) (fNoPart)) (fNil)))) (gT 2 (gsCons (gN 9) (gsCons (gN 10) (gsNil)))) (fYes) (b_does_prove_c1) [9, 10]) (fNil)))) (sNext))))))
def m_does_prove : List D → Option D := runF b_does_prove 11
def b_shows_least_more_c1 : F := fCall m_does_prove (fCons (fV 0) (fCons (fV 1) (fCons (fV 11) (fCons (fBin opAdd (fBin opIx (fV 1) (fC (.int 0))) (fV 5)) (fCons (fV 12) (fNil))))))
def b_shows_least_more_c2 : F := fV 9
def b_shows_least_more_i1 : FT := fT (fBin opGt (fV 10) (fBin opIx (fV 1) (fC (.int 1))))
def b_shows_least_more : FS := sSeq (sExpr (fCall m_check_round (fCons (fV 0) (fCons (fV 1) (fNil))))) (sSeq (sIf (fOr (fNot (fT (fIsi "tuple" (fV 2)))) (fOr (fT (fBin opNotIn (fCall bLen (fCons (fV 2) (fNil))) (fTup (fCons (fC (.int 2)) (fCons (fC (.int 4)) (fNil)))))) (fNot (fT (fIsi "str" (fBin opIx (fV 2) (fC (.int 0)))))))) (sSeq (sRet (fC (.bool false))) (sNext)) (sNext)) (sSeq (sIf (fT (fBin opEq (fCall bLen (fCons (fV 2) (fNil))) (fC (.int 2)))) (sSeq (sSet 3 (fLC (fZip (fCons (fBin opIx (fV 0) (fC (.int 1))) (fCons (fCall m_gaps (fCons (fV 0) (fNil))) (fNil)))) (gT 2 (gsCons (gN 9) (gsCons (gN 10) (gsNil)))) (b_shows_least_more_i1) (b_shows_least_more_c2) [9, 10])) (sSeq (sRet (fAndV (fBin opEq (fBin opIx (fV 2) (fC (.int 0))) (fC (.str ("never" : Str)))) (fAndV (fCall m_is_integer (fCons (fBin opIx (fV 2) (fC (.int 1))) (fNil))) (fAndV (fBin opIn (fBin opIx (fV 2) (fC (.int 1))) (fV 3)) (fCall m_is_never (fCons (fV 0) (fCons (fV 1) (fNil)))))))) (sNext))) (sNext)) (sSeq (sAsg (fV 2) (gT 4 (gsCons (gN 4) (gsCons (gN 5) (gsCons (gN 6) (gsCons (gN 7) (gsNil))))))) (sSeq (sIf (fOr (fT (fBin opNe (fV 4) (fC (.str ("more" : Str))))) (fOr (fNot (fT (fCall m_is_integer (fCons (fV 5) (fNil))))) (fT (fBin opLt (fV 5) (fC (.int 1)))))) (sSeq (sRet (fC (.bool false))) (sNext)) (sNext)) (sSeq (sIf (fOr (fNot (fT (fIsi "tuple" (fV 6)))) (fT (fBin opNe (fCall bLen (fCons (fV 6) (fNil))) (fBin opIx (fV 0) (fC (.int 0)))))) (sSeq (sRet (fC (.bool false))) (sNext)) (sNext)) (sSeq (sIf (fNot (fT (fCall bAll (fCons (fLC (fEnumA (fCons (fV 6) (fNil))) (gT 2 (gsCons (gN 11) (gsCons (gN 12) (gsNil)))) (fYes) (b_shows_least_more_c1) [11, 12]) (fNil))))) (sSeq (sRet (fC (.bool false))) (sNext)) (sNext)) (sSeq (sIf (fT (fBin opEq (fV 5) (fC (.int 1)))) (sSeq (sRet (fBin opIs (fV 7) (fC .none))) (sNext)) (sNext)) (sSeq (sIf (fNot (fT (fCall m_is_between (fCons (fV 7) (fCons (fC (.int 0)) (fCons (fBin opSub (fBin opIx (fV 0) (fC (.int 0))) (fC (.int 1))) (fNil))))))) (sSeq (sRet (fC (.bool false))) (sNext)) (sNext)) (sSeq (sSet 8 (fCall bMin (fCons (fBin opSub (fBin opAdd (fBin opIx (fV 1) (fC (.int 0))) (fV 5)) (fC (.int 1))) (fCons (fBin opAdd (fBin opIx (fV 1) (fC (.int 0))) (fBin opMulT (fC (.int 3)) (fBin opIx (fV 0) (fC (.int 0))))) (fNil))))) (sSeq (sRet (fBin opIs (fCall m_proof (fCons (fCall m_seen (fCons (fV 0) (fCons (fV 7) (fCons (fBin opAdd (fV 7) (fV 8)) (fNil))))) (fCons (fV 1) (fNil)))) (fC .none))) (sNext)))))))))))
def m_shows_least_more : List D → Option D := runF b_shows_least_more 13
def b_idle_c1 : F := fV 7
def b_idle_i1 : FT := fT (fBin opNe (fV 7) (fV 6))
def b_idle_l1 : FS := sSeq (sIf (fT (fBin opEq (fCall m_number_of (fCons (fTup (fCons (fV 2) (fCons (fCall bTuple (fCons (fLC (fItS (fV 3)) (gN 7) (b_idle_i1) (b_idle_c1) [7]) (fNil))) (fNil)))) (fCons (fV 1) (fNil)))) (fV 4))) (sSeq (sApp 5 (fV 6)) (sNext)) (sNext)) (sNext)
def b_idle : FS := sSeq (sExpr (fCall m_check_round (fCons (fV 0) (fCons (fV 1) (fNil))))) (sSeq (sAsg (fV 0) (gT 2 (gsCons (gN 2) (gsCons (gN 3) (gsNil))))) (sSeq (sIf (fT (fBin opEq (fCall bLen (fCons (fV 3) (fNil))) (fC (.int 1)))) (sSeq (sRet (fTup (fNil))) (sNext)) (sNext)) (sSeq (sPar [4, 5] (fRDat (fCall m_number_of (fCons (fV 0) (fCons (fV 1) (fNil)))) (fRNew (fNil) (fRNil)))) (sSeq (sFor (fItS (fV 3)) (gN 6) (b_idle_l1)) (sSeq (sRet (fCall bTuple (fCons (fV 5) (fNil)))) (sNext))))))
def m_idle : List D → Option D := runF b_idle 8
def b_one_more_c1 : F := fV 5
def b_one_more_i1 : FT := fT (fBin opEq (fV 8) (fV 7))
def b_one_more_c2 : F := fV 8
def b_one_more_i2 : FT := fT (fBin opIsNot (fV 8) (fC .none))
def b_one_more_l1 : FS := sSeq (sIf (fT (fBin opNotIn (fV 5) (fV 3))) (sSeq (sApp 4 (fTup (fCons (fCall m_number_of (fCons (fTup (fCons (fV 2) (fCons (fCall bTuple (fCons (fCall bSortA (fCons (fBin opAdd (fV 3) (fTup (fCons (fV 5) (fNil)))) (fNil))) (fNil))) (fNil)))) (fCons (fV 1) (fNil)))) (fCons (fV 5) (fNil))))) (sNext)) (sNext)) (sNext)
def b_one_more : FS := sSeq (sExpr (fCall m_check_round (fCons (fV 0) (fCons (fV 1) (fNil))))) (sSeq (sAsg (fV 0) (gT 2 (gsCons (gN 2) (gsCons (gN 3) (gsNil))))) (sSeq (sOwn 4 (fNil)) (sSeq (sFor (fRng1 (fCons (fV 2) (fNil))) (gN 5) (b_one_more_l1)) (sSeq (sSet 6 (fLC (fItS (fV 4)) (gT 2 (gsCons (gN 8) (gsCons (gN 5) (gsNil)))) (b_one_more_i2) (b_one_more_c2) [8, 5])) (sSeq (sSet 7 (fIf (fT (fBin opNe (fV 6) (fLst (fNil)))) (fCall bMin (fCons (fV 6) (fNil))) (fC .none))) (sSeq (sRet (fTup (fCons (fV 7) (fCons (fCall bTuple (fCons (fLC (fItS (fV 4)) (gT 2 (gsCons (gN 8) (gsCons (gN 5) (gsNil)))) (b_one_more_i1) (b_one_more_c1) [8, 5]) (fNil))) (fNil))))) (sNext)))))))
def m_one_more : List D → Option D := runF b_one_more 9
def b_equal : FS := sSeq (sIf (fNot (fT (fCall m_is_between (fCons (fV 0) (fCons (fC (.int 2)) (fCons (fC (.int 168)) (fNil))))))) (sNo) (sNext)) (sSeq (sIf (fOr (fNot (fT (fCall m_is_between (fCons (fV 1) (fCons (fC (.int 1)) (fCons (fV 0) (fNil))))))) (fT (fBin opNe (fBin opMod (fV 0) (fV 1)) (fC (.int 0))))) (sNo) (sNext)) (sSeq (sRet (fTup (fCons (fV 0) (fCons (fTupR3 (fC (.int 0)) (fV 0) (fV 1)) (fNil))))) (sNext)))
def m_equal : List D → Option D := runF b_equal 2
def b__law_take : FS := sSeq (sIf (fPotFull 0) (sSeq (sSet 2 (fBin opMod (fCall bInt (fCons (fPot00 0) (fNil))) (fV 1))) (sSeq (sPot 0 (fBin opDiv (fPot00 0) (fV 1)) setG0) (sSeq (sIf (fT (fBin opEq (fPot00 0) (fC (.int 0)))) (sSeq (sPotCut 0) (sNext)) (sNext)) (sSeq (sRet (fV 2)) (sNext))))) (sNext)) (sSeq (sPot 0 (fBin opAdd (fPot2 0) (fC (.int 1))) setN) (sSeq (sSet 3 (fBin opIx (fLst (fCons (fC (.int 2147483647)) (fCons (fC (.int 2147483629)) (fCons (fC (.int 2147483587)) (fCons (fC (.int 2147483579)) (fCons (fC (.int 2147483563)) (fNil))))))) (fBin opMod (fCall bInt (fCons (fPot2 0) (fNil))) (fC (.int 5))))) (sSeq (sSet 4 (fBin opMod (fCall bInt (fCons (fBin opPow (fCall bInt (fCons (fBin opAdd (fBin opAdd (fPot1 0) (fBin opMulT (fBin opMulT (fC (.int 97423)) (fPot2 0)) (fPot2 0))) (fC (.int 613))) (fNil))) (fC (.int 3))) (fNil))) (fV 3))) (sSeq (sSet 4 (fBin opMod (fCall bInt (fCons (fBin opMulT (fV 4) (fBin opAdd (fBin opMod (fCall bInt (fCons (fV 4) (fNil))) (fC (.int 10243))) (fBin opMulT (fC (.int 367)) (fPot2 0)))) (fNil))) (fC (.int 2305843009213693907)))) (sSeq (sRet (fBin opMod (fCall bInt (fCons (fBin opDiv (fV 4) (fC (.int 193))) (fNil))) (fV 1))) (sNext))))))
def m__law_take : List D → Pot → Option (D × Pot) := runQ b__law_take 5
def b__law_of : FS := sSeq (sRet (fBin opIx (fV 1) (fCallQ 0 m__law_take (fCons (fCall bLen (fCons (fV 1) (fNil))) (fNil))))) (sNext)
def m__law_of : List D → Pot → Option (D × Pot) := runQ b__law_of 2
def b__law_some_l1 : FS := sSeq (sApp 4 (fPop 3 (fCallQ 0 m__law_take (fCons (fLenO 3) (fNil))))) (sNext)
def b__law_some : FS := sSeq (sPar [3, 4] (fRNewN (fItems (fV 1)) (fRNew (fNil) (fRNil)))) (sSeq (sFor (fRng1 (fCons (fV 2) (fNil))) (gN 5) (b__law_some_l1)) (sSeq (sRet (fV 4)) (sNext)))
def m__law_some : List D → Pot → Option (D × Pot) := runQ b__law_some 6
def b__law_number : FS := sSeq (sRet (fIf (fT (fBin opEq (fBin opIx (fV 0) (fC (.int 0))) (fC (.str ("never" : Str))))) (fC .none) (fBin opIx (fV 0) (fC (.int 1))))) (sNext)
def m__law_number : List D → Option D := runF b__law_number 1
def b__law_turned_c1 : F := fBin opMod (fCall bInt (fCons (fBin opAdd (fV 4) (fV 1)) (fNil))) (fV 2)
def b__law_turned : FS := sSeq (sAsg (fV 0) (gT 2 (gsCons (gN 2) (gsCons (gN 3) (gsNil))))) (sSeq (sRet (fTup (fCons (fV 2) (fCons (fCall bTuple (fCons (fCall bSortA (fCons (fLC (fItS (fV 3)) (gN 4) (fYes) (b__law_turned_c1) [4]) (fNil))) (fNil))) (fNil))))) (sNext))
def m__law_turned : List D → Option D := runF b__law_turned 5
def b__law_mirrored_c1 : F := fBin opSub (fBin opSub (fV 1) (fC (.int 1))) (fV 3)
def b__law_mirrored : FS := sSeq (sAsg (fV 0) (gT 2 (gsCons (gN 1) (gsCons (gN 2) (gsNil))))) (sSeq (sRet (fTup (fCons (fV 1) (fCons (fCall bTuple (fCons (fLC (fItS (fRev (fV 2))) (gN 3) (fYes) (b__law_mirrored_c1) [3]) (fNil))) (fNil))))) (sNext))
def m__law_mirrored : List D → Option D := runF b__law_mirrored 4
def b__law_is_twice_right_c1 : F := fTup (fCons (fBin opAdd (fV 9) (fV 2)) (fCons (fBin opAdd (fV 10) (fV 2)) (fNil)))
def b__law_is_twice_right_c2 : F := fBin opAdd (fV 8) (fV 2)
def b__law_is_twice_right : FS := sSeq (sAsg (fV 0) (gT 2 (gsCons (gN 2) (gsCons (gN 3) (gsNil))))) (sSeq (sPar [4, 5] (fRDat (fTup (fCons (fBin opMulT (fC (.int 2)) (fV 2)) (fCons (fBin opAdd (fV 3) (fCall bTuple (fCons (fLC (fItS (fV 3)) (gN 8) (fYes) (b__law_is_twice_right_c2) [8]) (fNil)))) (fNil)))) (fRDat (fCall m_least_more (fCons (fV 0) (fCons (fV 1) (fNil)))) (fRNil)))) (sSeq (sSet 6 (fCall m_least_more (fCons (fV 4) (fCons (fV 1) (fNil))))) (sSeq (sIf (fT (fBin opNe (fCall m__law_number (fCons (fV 5) (fNil))) (fCall m__law_number (fCons (fV 6) (fNil))))) (sSeq (sRet (fC (.bool false))) (sNext)) (sNext)) (sSeq (sIf (fT (fBin opEq (fBin opIx (fV 5) (fC (.int 0))) (fC (.str ("never" : Str))))) (sSeq (sIf (fT (fBin opIsNot (fCall m_shows_least_more (fCons (fV 4) (fCons (fV 1) (fCons (fV 5) (fNil))))) (fC (.bool true)))) (sSeq (sRet (fC (.bool false))) (sNext)) (sNext)) (sSeq (sRet (fBin opEq (fCall bRepr (fCons (fCall m_shows_least_more (fCons (fV 0) (fCons (fV 1) (fCons (fV 6) (fNil))))) (fNil))) (fCall bRepr (fCons (fBin opLt (fBin opIx (fV 6) (fC (.int 1))) (fV 2)) (fNil))))) (sNext))) (sNext)) (sSeq (sSet 7 (fBin opAdd (fBin opIx (fV 5) (fC (.int 2))) (fCall bTuple (fCons (fLC (fItS (fBin opIx (fV 5) (fC (.int 2)))) (gT 2 (gsCons (gN 9) (gsCons (gN 10) (gsNil)))) (fYes) (b__law_is_twice_right_c1) [9, 10]) (fNil))))) (sSeq (sIf (fT (fBin opIsNot (fCall m_shows_least_more (fCons (fV 4) (fCons (fV 1) (fCons (fTup (fCons (fBin opIx (fV 5) (fC (.int 0))) (fCons (fBin opIx (fV 5) (fC (.int 1))) (fCons (fV 7) (fCons (fBin opIx (fV 5) (fC (.int 3))) (fNil)))))) (fNil))))) (fC (.bool true)))) (sSeq (sRet (fC (.bool false))) (sNext)) (sNext)) (sSeq (sIf (fT (fBin opIsNot (fCall m_shows_least_more (fCons (fV 4) (fCons (fV 1) (fCons (fTup (fCons (fBin opIx (fV 5) (fC (.int 0))) (fCons (fBin opAdd (fBin opIx (fV 5) (fC (.int 1))) (fC (.int 1))) (fCons (fV 7) (fCons (fBin opIx (fV 5) (fC (.int 3))) (fNil)))))) (fNil))))) (fC (.bool false)))) (sSeq (sRet (fC (.bool false))) (sNext)) (sNext)) (sSeq (sRet (fBin opIs (fCall m_shows_least_more (fCons (fV 0) (fCons (fV 1) (fCons (fTup (fCons (fBin opIx (fV 6) (fC (.int 0))) (fCons (fBin opIx (fV 6) (fC (.int 1))) (fCons (fSlice (fBin opIx (fV 6) (fC (.int 2))) (fNoPart) (fPart (fV 2))) (fCons (fBin opIx (fV 5) (fC (.int 3))) (fNil)))))) (fNil))))) (fC (.bool true)))) (sNext)))))))))
def m__law_is_twice_right : List D → Option D := runF b__law_is_twice_right 11
def b__law_is_turned_right_l1 : FS := sSeq (sSet 16 (fIf (fT (fBin opIsNot (fV 14) (fC .none))) (fTup (fCons (fBin opAdd (fBin opIx (fV 14) (fC (.int 0))) (fV 15)) (fCons (fBin opAdd (fBin opIx (fV 14) (fC (.int 1))) (fV 15)) (fNil)))) (fC .none))) (sSeq (sIf (fT (fBin opNe (fCall bRepr (fCons (fCall m_proved (fCons (fV 5) (fCons (fV 2) (fCons (fBin opAdd (fV 12) (fV 15)) (fCons (fV 13) (fNil)))))) (fNil))) (fCall bRepr (fCons (fV 16) (fNil))))) (sSeq (sRet (fC (.bool false))) (sNext)) (sNext)) (sNext))
def b__law_is_turned_right_l2 : FS := sSeq (sIf (fT (fBin opNe (fCall m__law_number (fCons (fCall m_least_more (fCons (fTup (fCons (fV 3) (fCons (fCall bTuple (fCons (fCall bSortA (fCons (fBin opAdd (fBin opIx (fV 1) (fC (.int 1))) (fTup (fCons (fV 11) (fNil)))) (fNil))) (fNil))) (fNil)))) (fCons (fV 2) (fNil)))) (fNil))) (fV 8))) (sSeq (sRet (fC (.bool false))) (sNext)) (sNext)) (sNext)
def b__law_is_turned_right_c1 : F := fBin opMod (fCall bInt (fCons (fBin opAdd (fV 11) (fV 4)) (fNil))) (fV 3)
def b__law_is_turned_right : FS := sSeq (sAsg (fTup (fCons (fBin opIx (fV 1) (fC (.int 0))) (fCons (fCall bInt (fCons (fCallQ 0 m__law_take (fCons (fBin opIx (fV 1) (fC (.int 0))) (fNil))) (fNil))) (fNil)))) (gT 2 (gsCons (gN 3) (gsCons (gN 4) (gsNil))))) (sSeq (sPar [5, 6] (fRDat (fCall m__law_turned (fCons (fV 1) (fCons (fV 4) (fNil)))) (fRDat (fCall m_least_more (fCons (fV 1) (fCons (fV 2) (fNil)))) (fRNil)))) (sSeq (sIf (fT (fBin opNe (fCall m__law_number (fCons (fV 6) (fNil))) (fCall m__law_number (fCons (fCall m_least_more (fCons (fV 5) (fCons (fV 2) (fNil)))) (fNil))))) (sSeq (sRet (fC (.bool false))) (sNext)) (sNext)) (sSeq (sSet 7 (fLC (fItS (fCall m_idle (fCons (fV 1) (fCons (fV 2) (fNil))))) (gN 11) (fYes) (b__law_is_turned_right_c1) [11])) (sSeq (sIf (fT (fBin opNe (fCall bRepr (fCons (fCall m_idle (fCons (fV 5) (fCons (fV 2) (fNil)))) (fNil))) (fCall bRepr (fCons (fCall bTuple (fCons (fCall bSortA (fCons (fV 7) (fNil))) (fNil))) (fNil))))) (sSeq (sRet (fC (.bool false))) (sNext)) (sNext)) (sSeq (sAsg (fCall m_one_more (fCons (fV 1) (fCons (fV 2) (fNil)))) (gT 2 (gsCons (gN 8) (gsCons (gN 9) (gsNil))))) (sSeq (sSet 10 (fCall bTuple (fCons (fCall bSortA (fCons (fLC (fItS (fV 9)) (gN 11) (fYes) (b__law_is_turned_right_c1) [11]) (fNil))) (fNil)))) (sSeq (sIf (fT (fBin opNe (fCall bRepr (fCons (fCall m_one_more (fCons (fV 5) (fCons (fV 2) (fNil)))) (fNil))) (fCall bRepr (fCons (fTup (fCons (fV 8) (fCons (fV 10) (fNil)))) (fNil))))) (sSeq (sRet (fC (.bool false))) (sNext)) (sNext)) (sSeq (sFor (fItS (fCallQ 0 m__law_some (fCons (fV 9) (fCons (fCall bMin (fCons (fC (.int 2)) (fCons (fCall bLen (fCons (fV 9) (fNil))) (fNil)))) (fNil))))) (gN 11) (b__law_is_turned_right_l2)) (sSeq (sPar [12, 13] (fRDat (fCall bInt (fCons (fCallQ 0 m__law_take (fCons (fBin opMulT (fC (.int 3)) (fV 3)) (fNil))) (fNil))) (fRDat (fCall bInt (fCons (fBin opAdd (fC (.int 1)) (fCallQ 0 m__law_take (fCons (fBin opAdd (fBin opMulT (fC (.int 4)) (fV 3)) (fBin opIx (fV 2) (fC (.int 0)))) (fNil)))) (fNil))) (fRNil)))) (sSeq (sSet 14 (fCall m_proved (fCons (fV 1) (fCons (fV 2) (fCons (fV 12) (fCons (fV 13) (fNil))))))) (sSeq (sFor (fItS (fTup (fCons (fV 4) (fCons (fBin opAdd (fV 4) (fV 3)) (fCons (fBin opAdd (fV 4) (fBin opMulT (fC (.int 7)) (fV 3))) (fNil)))))) (gN 15) (b__law_is_turned_right_l1)) (sSeq (sRet (fC (.bool true))) (sNext)))))))))))))
def m__law_is_turned_right : List D → Pot → Option (D × Pot) := runQ b__law_is_turned_right 17
def b__law_is_mirrored_right_l1 : FS := sSeq (sPar [9, 10] (fRDat (fCall bInt (fCons (fCallQ 0 m__law_take (fCons (fBin opMulT (fC (.int 4)) (fV 3)) (fNil))) (fNil))) (fRDat (fCall bInt (fCons (fBin opAdd (fC (.int 1)) (fCallQ 0 m__law_take (fCons (fBin opAdd (fBin opMulT (fC (.int 3)) (fV 3)) (fBin opIx (fV 2) (fC (.int 0)))) (fNil)))) (fNil))) (fRNil)))) (sSeq (sSet 11 (fBin opAdd (fV 9) (fV 10))) (sSeq (sSet 12 (fBin opMulT (fV 3) (fBin opAdd (fBin opDiv (fV 11) (fV 3)) (fC (.int 1))))) (sSeq (sSet 13 (fBin opIsNot (fCall m_proved (fCons (fV 1) (fCons (fV 2) (fCons (fV 9) (fCons (fV 10) (fNil)))))) (fC .none))) (sSeq (sIf (fT (fBin opNe (fBin opIsNot (fCall m_proved (fCons (fV 4) (fCons (fV 2) (fCons (fBin opSub (fV 12) (fV 11)) (fCons (fV 10) (fNil)))))) (fC .none)) (fV 13))) (sSeq (sRet (fC (.bool false))) (sNext)) (sNext)) (sNext)))))
def b__law_is_mirrored_right_c1 : F := fBin opSub (fBin opSub (fV 3) (fC (.int 1))) (fV 14)
def b__law_is_mirrored_right : FS := sSeq (sAsg (fTup (fCons (fBin opIx (fV 1) (fC (.int 0))) (fCons (fCall m__law_mirrored (fCons (fV 1) (fNil))) (fNil)))) (gT 2 (gsCons (gN 3) (gsCons (gN 4) (gsNil))))) (sSeq (sIf (fT (fBin opNe (fCall m__law_number (fCons (fCall m_least_more (fCons (fV 1) (fCons (fV 2) (fNil)))) (fNil))) (fCall m__law_number (fCons (fCall m_least_more (fCons (fV 4) (fCons (fV 2) (fNil)))) (fNil))))) (sSeq (sRet (fC (.bool false))) (sNext)) (sNext)) (sSeq (sSet 5 (fCall bTuple (fCons (fLC (fItS (fRev (fCall m_idle (fCons (fV 1) (fCons (fV 2) (fNil)))))) (gN 14) (fYes) (b__law_is_mirrored_right_c1) [14]) (fNil)))) (sSeq (sIf (fT (fBin opNe (fCall bRepr (fCons (fCall m_idle (fCons (fV 4) (fCons (fV 2) (fNil)))) (fNil))) (fCall bRepr (fCons (fV 5) (fNil))))) (sSeq (sRet (fC (.bool false))) (sNext)) (sNext)) (sSeq (sAsg (fCall m_one_more (fCons (fV 1) (fCons (fV 2) (fNil)))) (gT 2 (gsCons (gN 6) (gsCons (gN 7) (gsNil))))) (sSeq (sIf (fT (fBin opNe (fCall bRepr (fCons (fCall m_one_more (fCons (fV 4) (fCons (fV 2) (fNil)))) (fNil))) (fCall bRepr (fCons (fTup (fCons (fV 6) (fCons (fCall bTuple (fCons (fLC (fItS (fRev (fV 7))) (gN 14) (fYes) (b__law_is_mirrored_right_c1) [14]) (fNil))) (fNil)))) (fNil))))) (sSeq (sRet (fC (.bool false))) (sNext)) (sNext)) (sSeq (sFor (fRng1 (fCons (fC (.int 3)) (fNil))) (gN 8) (b__law_is_mirrored_right_l1)) (sSeq (sRet (fC (.bool true))) (sNext))))))))
def m__law_is_mirrored_right : List D → Pot → Option (D × Pot) := runQ b__law_is_mirrored_right 15
def b__law_is_equal_right : FS := sSeq (sPar [1, 2] (fRDat (fCall bInt (fCons (fBin opAdd (fC (.int 2)) (fCallQ 0 m__law_take (fCons (fC (.int 12)) (fNil)))) (fNil))) (fRDat (fCall bInt (fCons (fBin opAdd (fC (.int 2)) (fCallQ 0 m__law_take (fCons (fC (.int 11)) (fNil)))) (fNil))) (fRNil)))) (sSeq (sPar [3, 4] (fRDat (fBin opMulT (fV 1) (fV 2)) (fRDat (fCall bInt (fCons (fBin opAdd (fC (.int 1)) (fCallQ 0 m__law_take (fCons (fBin opMulT (fC (.int 3)) (fV 1)) (fNil)))) (fNil))) (fRNil)))) (sSeq (sPar [5, 6] (fRDat (fCall m_equal (fCons (fV 3) (fCons (fV 1) (fNil)))) (fRDat (fCall bInt (fCons (fBin opAdd (fV 1) (fCallQ 0 m__law_take (fCons (fV 1) (fNil)))) (fNil))) (fRNil)))) (sSeq (sSet 7 (fBin opMulT (fBin opDiv (fBin opSub (fBin opAdd (fV 4) (fV 1)) (fC (.int 1))) (fV 1)) (fV 1))) (sSeq (sIf (fT (fBin opNe (fCall bRepr (fCons (fV 5) (fNil))) (fCall bRepr (fCons (fTup (fCons (fV 3) (fCons (fTupR3 (fC (.int 0)) (fV 3) (fV 1)) (fNil)))) (fNil))))) (sSeq (sRet (fC (.bool false))) (sNext)) (sNext)) (sSeq (sIf (fT (fBin opNe (fCall bRepr (fCons (fSlice (fCall m_least_more (fCons (fV 5) (fCons (fTup (fCons (fV 4) (fCons (fV 6) (fNil)))) (fNil)))) (fNoPart) (fPart (fC (.int 2)))) (fNil))) (fCall bRepr (fCons (fTup (fCons (fC (.str ("more" : Str))) (fCons (fBin opSub (fBin opAdd (fV 7) (fV 1)) (fV 4)) (fNil)))) (fNil))))) (sSeq (sRet (fC (.bool false))) (sNext)) (sNext)) (sSeq (sSet 8 (fCall bInt (fCons (fBin opAdd (fBin opAdd (fBin opMulT (fV 1) (fCallQ 0 m__law_take (fCons (fV 2) (fNil)))) (fC (.int 1))) (fCallQ 0 m__law_take (fCons (fBin opSub (fV 1) (fC (.int 1))) (fNil)))) (fNil)))) (sSeq (sSet 9 (fTup (fCons (fV 3) (fCons (fCall bTuple (fCons (fCall bSortA (fCons (fBin opAdd (fBin opIx (fV 5) (fC (.int 1))) (fTup (fCons (fV 8) (fNil)))) (fNil))) (fNil))) (fNil))))) (sSeq (sIf (fT (fBin opNotIn (fV 8) (fCall m_idle (fCons (fV 9) (fCons (fTup (fCons (fV 4) (fCons (fV 6) (fNil)))) (fNil)))))) (sSeq (sRet (fBin opLt (fCall m__law_number (fCons (fCall m_least_more (fCons (fV 9) (fCons (fTup (fCons (fV 4) (fCons (fV 6) (fNil)))) (fNil)))) (fNil))) (fBin opSub (fBin opAdd (fV 7) (fV 1)) (fV 4)))) (sNext)) (sNext)) (sSeq (sIf (fT (fBin opNe (fCall bRepr (fCons (fBin opIx (fCall m_least_more (fCons (fV 5) (fCons (fTup (fCons (fV 4) (fCons (fBin opSub (fV 1) (fC (.int 1))) (fNil)))) (fNil)))) (fC (.int 0))) (fNil))) (fCall bRepr (fCons (fC (.str ("never" : Str))) (fNil))))) (sSeq (sRet (fC (.bool false))) (sNext)) (sNext)) (sSeq (sIf (fT (fBin opIs (fCall m_proved (fCons (fV 5) (fCons (fTup (fCons (fV 4) (fCons (fV 6) (fNil)))) (fCons (fC (.int 9999)) (fCons (fBin opAdd (fV 7) (fV 1)) (fNil)))))) (fC .none))) (sSeq (sRet (fC (.bool false))) (sNext)) (sNext)) (sSeq (sRet (fBin opIs (fCall m_proved (fCons (fV 5) (fCons (fTup (fCons (fBin opAdd (fV 7) (fC (.int 1))) (fCons (fV 6) (fNil)))) (fCons (fC (.int 1)) (fCons (fBin opSub (fBin opAdd (fV 7) (fV 1)) (fC (.int 1))) (fNil)))))) (fC .none))) (sNext))))))))))))
def m__law_is_equal_right : List D → Pot → Option (D × Pot) := runQ b__law_is_equal_right 10
def b__law_pot_in : FS := sSeq (sSet 4 (fBin opMod (fCall bInt (fCons (fCall bAbs (fCons (fV 3) (fNil))) (fNil))) (fBin opPow (fBin opPow (fC (.int 10)) (fC (.int 60))) (fC (.int 5))))) (sSeq (sIf (fAnd (fT (fBin opGe (fCall bAbs (fCons (fV 3) (fNil))) (fBin opPow (fC (.int 10)) (fC (.int 18))))) (fT (fBin opGt (fV 4) (fC (.int 0))))) (sSeq (sApp 1 (fV 4)) (sNext)) (sNext)) (sSeq (sSet 2 (fBin opMod (fCall bInt (fCons (fBin opAdd (fBin opAdd (fBin opMulT (fV 2) (fC (.int 72559))) (fBin opMod (fCall bInt (fCons (fV 3) (fNil))) (fC (.int 2305843009213693951)))) (fC (.int 733))) (fNil))) (fC (.int 2305843009213693921)))) (sNext)))
def b__law_pot_out : FS := sSeq (sRet (fLst (fCons (fV 1) (fCons (fV 2) (fCons (fC (.int 0)) (fNil)))))) (sNext)
def m__law_pot : List Int → Option D := runScr 5303 b__law_pot_in b__law_pot_out
def b_law : FS := sSeq (sSet 2 (fCall bInt (fCons (fCallQ 1 m__law_of (fCons (fLst (fCons (fBin opAdd (fC (.int 2)) (fCallQ 1 m__law_take (fCons (fC (.int 11)) (fNil)))) (fCons (fBin opAdd (fC (.int 2)) (fCallQ 1 m__law_take (fCons (fC (.int 11)) (fNil)))) (fCons (fC (.int 30)) (fCons (fC (.int 84)) (fNil)))))) (fNil))) (fNil)))) (sSeq (sSet 3 (fCall bTuple (fCons (fCall bSortA (fCons (fCallQ 1 m__law_some (fCons (fLstR1 (fV 2)) (fCons (fBin opAdd (fC (.int 1)) (fCallQ 1 m__law_take (fCons (fCall bMin (fCons (fV 2) (fCons (fC (.int 5)) (fNil)))) (fNil)))) (fNil)))) (fNil))) (fNil)))) (sSeq (sSet 4 (fTup (fCons (fCall bInt (fCons (fBin opAdd (fC (.int 1)) (fCallQ 1 m__law_take (fCons (fBin opMulT (fC (.int 2)) (fV 2)) (fNil)))) (fNil))) (fCons (fCall bInt (fCons (fBin opAdd (fC (.int 1)) (fCallQ 1 m__law_take (fCons (fCallQ 1 m__law_of (fCons (fLst (fCons (fV 2) (fCons (fBin opMulT (fC (.int 2)) (fV 2)) (fNil)))) (fNil))) (fNil)))) (fNil))) (fNil))))) (sSeq (sSet 5 (fTup (fCons (fV 2) (fCons (fV 3) (fNil))))) (sSeq (sIf (fOr (fNot (fT (fCall m__law_is_twice_right (fCons (fV 5) (fCons (fV 4) (fNil)))))) (fNot (fT (fCallQ 1 m__law_is_equal_right (fNil))))) (sSeq (sRet (fC (.bool false))) (sNext)) (sNext)) (sSeq (sIf (fT (fBin opGt (fV 2) (fC (.int 30)))) (sSeq (sRet (fC (.bool true))) (sNext)) (sNext)) (sSeq (sRet (fAndV (fCallQ 1 m__law_is_turned_right (fCons (fV 5) (fCons (fV 4) (fNil)))) (fCallQ 1 m__law_is_mirrored_right (fCons (fV 5) (fCons (fV 4) (fNil)))))) (sNext)))))))
/-- what is left to show: the plain law -/
def Plain : Prop := ∀ ns : List Int, ns.length ≤ 63 → ∃ P, m__law_pot ns = some (potD P) ∧ endF (b_law ⟨(List.replicate 6 .un).set 1 .pot, P⟩) = some (.bool true)
end K42

/-! L3: the mirrors are evaluated. -/
namespace L3
open PySem PySem.Spec
section
variable (e : En) (f g : FS) (fe fa fb fc : F) (ta tb : FT) (ra : FA) (rr : FR) (fi : FI) (gg : FG) (gs : FGs) (d : D) (ds : List D) (i j l n : Nat) (b : Bool) (fl fh : FO)
@[simp] theorem q_C : fC d e = some (d, e) := rfl
@[simp] theorem q_V : fV i e = match e.sl[i]? with
  | some (.dat d) => some (d, e)
  | some (.own ds) => some (.list ds, e.put i (.dat (.list ds)))
  | _ => none := rfl
@[simp] theorem q_bin (op : D → D → Option D) : fBin op fa fb e = (fa e).bind fun p => (fb p.2).bind fun q => (op p.1 q.1).map fun z => (z, q.2) := rfl
@[simp] theorem q_un (op : D → Option D) : fUn op fa e = (fa e).bind fun p => (op p.1).map fun z => (z, p.2) := rfl
@[simp] theorem q_T : fT fa e = match fa e with
  | some (.bool b, e') => some (b, e')
  | _ => none := rfl
@[simp] theorem q_chain (op op' : D → D → Option D) : fChain op op' fa fb fc e = (fa e).bind fun p => (fb p.2).bind fun q => (op p.1 q.1).bind fun z => match z with
  | .bool true => (fc q.2).bind fun r => (op' q.1 r.1).map fun z => (z, r.2)
  | .bool false => some (.bool false, q.2)
  | _ => none := rfl
@[simp] theorem q_andV : fAndV fa fb e = (fa e).bind fun p => match p.1 with
  | .bool true => fb p.2
  | .bool false => some (.bool false, p.2)
  | _ => none := rfl
@[simp] theorem q_orV : fOrV fa fb e = (fa e).bind fun p => match p.1 with
  | .bool true => some (.bool true, p.2)
  | .bool false => fb p.2
  | _ => none := rfl
@[simp] theorem q_notV : fNotV fa e = (fa e).bind fun p => match p.1 with
  | .bool b => some (.bool (!b), p.2)
  | _ => none := rfl
@[simp] theorem q_not : fNot ta e = (ta e).map fun p => (!p.1, p.2) := rfl
@[simp] theorem q_and : fAnd ta tb e = (ta e).bind fun p => if p.1 = true then tb p.2 else some (false, p.2) := rfl
@[simp] theorem q_or : fOr ta tb e = (ta e).bind fun p => if p.1 = true then some (true, p.2) else tb p.2 := rfl
@[simp] theorem q_if : fIf ta fa fb e = (ta e).bind fun p => if p.1 = true then fa p.2 else fb p.2 := rfl
@[simp] theorem q_nil : fNil e = some ([], e) := rfl
@[simp] theorem q_cons : fCons fa ra e = (fa e).bind fun p => (ra p.2).bind fun q => some (p.1 :: q.1, q.2) := rfl
@[simp] theorem q_tup : fTup ra e = (ra e).bind fun p => if p.1.length ≤ big then some (.tuple p.1, p.2) else none := rfl
@[simp] theorem q_lst : fLst ra e = (ra e).bind fun p => if p.1.length ≤ big then some (.list p.1, p.2) else none := rfl
@[simp] theorem q_call (fn : List D → Option D) : fCall fn ra e = (ra e).bind fun p => (fn p.1).map fun z => (z, p.2) := rfl
@[simp] theorem q_callQ (fn : List D → Pot → Option (D × Pot)) : fCallQ i fn ra e = match e.sl[i]? with
  | some .pot => (ra e).bind fun p => (fn p.1 p.2.pot).map fun z => (z.1, p.2.po z.2)
  | _ => none := rfl
@[simp] theorem q_gN : gN i d e = some (e.put i (.dat d)) := rfl
@[simp] theorem q_gsNil : gsNil [] e = some e := rfl
@[simp] theorem q_gsCons : gsCons gg gs (d :: ds) e = (gg d e).bind fun e1 => gs ds e1 := rfl
@[simp] theorem q_gT : gT n gs (.tuple ds) e = if ds.length = n then gs ds e else none := rfl
@[simp] theorem q_next : sNext e = some (.nx e) := rfl
@[simp] theorem q_seq : sSeq f g e = (f e).bind fun r => match r with
  | .nx e1 => g e1
  | r => some r := rfl
@[simp] theorem q_bk : sBk e = some (.bk e) := rfl
@[simp] theorem q_ct : sCt e = some (.ct e) := rfl
@[simp] theorem q_expr : sExpr fa e = (fa e).map fun p => .nx p.2 := rfl
@[simp] theorem q_ret : sRet fa e = (fa e).map fun p => .rt p.1 p.2 := rfl
@[simp] theorem q_retN : sRetN e = some (.rt .none e) := rfl
@[simp] theorem q_sIf : sIf ta f g e = (ta e).bind fun p => if p.1 = true then f p.2 else g p.2 := rfl
@[simp] theorem q_set : sSet i fa e = (fa e).map fun p => .nx (p.2.put i (.dat p.1)) := rfl
@[simp] theorem q_asg : sAsg fa gg e = (fa e).bind fun p => (gg p.1 p.2).map Out.nx := rfl
@[simp] theorem q_own : sOwn i ra e = (ra e).bind fun p => if p.1.length ≤ big ∧ i < p.2.sl.length then some (.nx (p.2.put i (.own p.1))) else none := rfl
@[simp] theorem q_app : sApp i fa e = match e.sl[i]? with
  | some (.own _) => (fa e).bind fun p => match p.2.sl[i]? with
    | some (.own ds) => if ds.length < big then some (.nx (p.2.put i (.own (ds ++ [p.1])))) else none
    | _ => none
  | _ => none := rfl
@[simp] theorem q_ext : sExt i fa e = match e.sl[i]? with
  | some (.own _) => (fa e).bind fun p => match p.2.sl[i]?, p.1 with
    | some (.own ds), .list es => if ds.length + es.length ≤ big then some (.nx (p.2.put i (.own (ds ++ es)))) else none
    | _, _ => none
  | _ => none := rfl
@[simp] theorem q_itS : fItS fa e = match fa e with
  | some (.list ds, e') => some (ds, e')
  | some (.tuple ds, e') => some (ds, e')
  | _ => none := rfl
@[simp] theorem q_rng1 : fRng1 ra e = (ra e).bind fun p => match p.1 with
  | [.int j] => if okR j then some (rng 0 1 j.toNat, p.2) else none
  | _ => none := rfl
@[simp] theorem q_rng2 : fRng2 ra e = (ra e).bind fun p => match p.1 with
  | [.int i, .int j] => if okR i ∧ okR j then some (rng i 1 (j - i).toNat, p.2) else none
  | _ => none := rfl
@[simp] theorem q_rngD : fRngD ra e = (ra e).bind fun p => match p.1 with
  | [.int i, .int j, .int (-1)] => if okR i ∧ okR j then some (rng i (-1) (i - j).toNat, p.2) else none
  | _ => none := rfl
@[simp] theorem q_zip : fZip ra e = (ra e).bind fun p => match p.1 with
  | [.list xs, .list ys] => some (zipD xs ys, p.2)
  | [.tuple xs, .tuple ys] => some (zipD xs ys, p.2)
  | [.tuple xs, .list ys] => some (zipD xs ys, p.2)
  | _ => none := rfl
@[simp] theorem q_enum : fEnum ra e = (ra e).bind fun p => match p.1 with
  | [.list xs] => some (enumD 0 xs, p.2)
  | _ => none := rfl
@[simp] theorem q_for : sFor fi gg f e = (fi e).bind fun p => sForL gg f p.1 p.2 := rfl
@[simp] theorem q_lc (vs : List Nat) : fLC fi gg ta fa vs e = (fi e).bind fun p => if p.1.length ≤ big then (lcL gg ta fa vs p.2 p.1 p.2.pot).map fun r => (.list r.1, p.2.po r.2) else none := rfl
@[simp] theorem q_yes : fYes e = some (true, e) := rfl
@[simp] theorem q_noPart : fNoPart e = some (none, e) := rfl
@[simp] theorem q_part : fPart fa e = match fa e with
  | some (.int i, e') => some (some i, e')
  | _ => none := rfl
@[simp] theorem q_slice : fSlice fa fl fh e = (fa e).bind fun p => (fl p.2).bind fun q => (fh q.2).bind fun r => (opCut p.1 q.1 r.1).map fun z => (z, r.2) := rfl
@[simp] theorem q_isi (T : String) : fIsi T fa e = (fa e).bind fun p => (isiD T p.1).map fun b => (.bool b, p.2) := rfl
@[simp] theorem q_par (ix : List Nat) : sPar ix rr e = (rr e).bind fun p => (stAll ix p.1 p.2).map Out.nx := rfl
@[simp] theorem q_rNil : fRNil e = some ([], e) := rfl
@[simp] theorem q_rDat : fRDat fa rr e = (fa e).bind fun p => (rr p.2).bind fun q => some (.dat p.1 :: q.1, q.2) := rfl
@[simp] theorem q_rNew : fRNew ra rr e = (ra e).bind fun p => if p.1.length ≤ big then (rr (p.2.inner [])).bind fun q => some (.new p.1 :: q.1, p.2.po q.2.pot) else none := rfl
@[simp] theorem q_stN : stAll [] [] e = some e := rfl
@[simp] theorem q_stC (ix : List Nat) (r : RV) (rs : List RV) : stAll (i :: ix) (r :: rs) e = (stRV i r e).bind (stAll ix rs) := rfl
@[simp] theorem q_stD : stRV i (.dat d) e = some (e.put i (.dat d)) := rfl
@[simp] theorem q_stW : stRV i (.new ds) e = if i < e.sl.length then some (e.put i (.own ds)) else none := rfl
@[simp] theorem q_put (sl : List SD) (P : Pot) (x : SD) : (⟨sl, P⟩ : En).put i x = ⟨sl.set i x, P⟩ := rfl
@[simp] theorem q_po (sl : List SD) (P Q : Pot) : (⟨sl, P⟩ : En).po Q = ⟨sl, Q⟩ := rfl
@[simp] theorem q_tupR1 : fTupR1 fa e = (fa e).bind fun p => match p.1 with
  | .int j => if okSpan 0 j then some (.tuple (rng 0 1 j.toNat), p.2) else none
  | _ => none := rfl
@[simp] theorem q_tupR2 : fTupR2 fa fb e = (fa e).bind fun p => (fb p.2).bind fun q => match p.1, q.1 with
  | .int i, .int j => if okSpan i j then some (.tuple (rng i 1 (j - i).toNat), q.2) else none
  | _, _ => none := rfl
/-! operators -/
variable (x y : Int) (s t : Str) (xs ys : List D)
@[simp] theorem q_sub : opSub (.int x) (.int y) = some (.int (x - y)) := rfl
@[simp] theorem q_lt : opLt (.int x) (.int y) = some (.bool (decide (x < y))) := rfl
@[simp] theorem q_le : opLe (.int x) (.int y) = some (.bool (decide (x ≤ y))) := rfl
@[simp] theorem q_gt : opGt (.int x) (.int y) = some (.bool (decide (y < x))) := rfl
@[simp] theorem q_ge : opGe (.int x) (.int y) = some (.bool (decide (y ≤ x))) := rfl
@[simp] theorem q_addI : opAdd (.int x) (.int y) = some (.int (x + y)) := rfl
@[simp] theorem q_addT : opAdd (.tuple xs) (.tuple ys) = if xs.length + ys.length ≤ big then some (.tuple (xs ++ ys)) else none := rfl
@[simp] theorem q_mulI : opMulT (.int x) (.int y) = if (small64 x || small64 y) = true then some (.int (x * y)) else none := rfl
@[simp] theorem q_mulT : opMulT (.tuple xs) (.int y) = if xs ≠ [] ∧ 0 ≤ y ∧ y ≤ 1000 ∧ xs.length ≤ 1000 then some (.tuple (List.replicate y.toNat xs).flatten) else none := rfl
@[simp] theorem q_div : opDiv (.int x) (.int y) = if (decide (0 < y) && decide (y < 1073741824)) = true then some (.int (x / y)) else none := rfl
@[simp] theorem q_mod : opMod (.int x) (.int y) = if decide (0 < y) = true then some (.int (x % y)) else none := rfl
@[simp] theorem q_neg : opNeg (.int x) = some (.int (-x)) := rfl
@[simp] theorem q_eqI : opEq (.int x) (.int y) = some (.bool (decide (x = y))) := rfl
@[simp] theorem q_neI : opNe (.int x) (.int y) = some (.bool (!decide (x = y))) := rfl
@[simp] theorem q_eqNI : opEq .none (.int y) = some (.bool false) := rfl
@[simp] theorem q_eqIN : opEq (.int x) .none = some (.bool false) := rfl
@[simp] theorem q_eqS : opEq (.str s) (.str t) = some (.bool (decide (s = t))) := rfl
@[simp] theorem q_neS : opNe (.str s) (.str t) = some (.bool (!decide (s = t))) := rfl
@[simp] theorem q_isN : opIs d .none = some (.bool (isN d)) := by cases d <;> rfl
@[simp] theorem q_isNotN : opIsNot d .none = some (.bool (!isN d)) := by cases d <;> rfl
@[simp] theorem q_isB (a c : Bool) : opIs (.bool a) (.bool c) = some (.bool (decide (a = c))) := rfl
@[simp] theorem q_isNotB (a c : Bool) : opIsNot (.bool a) (.bool c) = some (.bool (!decide (a = c))) := rfl
@[simp] theorem q_isNN : isN .none = true := rfl
@[simp] theorem q_isNI : isN (.int x) = false := rfl
@[simp] theorem q_isNT : isN (.tuple xs) = false := rfl
@[simp] theorem q_ixT : opIx (.tuple xs) (.int x) = L2.atI xs x := rfl
@[simp] theorem q_ixL : opIx (.list xs) (.int x) = L2.atI xs x := rfl
@[simp] theorem q_cutT (lo hi : Option Int) : opCut (.tuple xs) lo hi = some (.tuple (cutD xs lo hi)) := rfl
@[simp] theorem q_cutL (lo hi : Option Int) : opCut (.list xs) lo hi = some (.list (cutD xs lo hi)) := rfl
@[simp] theorem q_lenT : bLen [.tuple xs] = some (.int (xs.length : Nat)) := rfl
@[simp] theorem q_lenL : bLen [.list xs] = some (.int (xs.length : Nat)) := rfl
@[simp] theorem q_abs : bAbs [.int x] = some (.int (if x < 0 then -x else x)) := rfl
@[simp] theorem q_intI : bInt [.int x] = some (.int x) := rfl
@[simp] theorem q_intB : bInt [.bool b] = some (.int (if b then 1 else 0)) := rfl
@[simp] theorem q_max2 : bMax [.int x, .int y] = some (.int (if y > x then y else x)) := rfl
@[simp] theorem q_min2 : bMin [.int x, .int y] = some (.int (if y < x then y else x)) := rfl
@[simp] theorem q_tupT : bTuple [.tuple xs] = some (.tuple xs) := rfl
@[simp] theorem q_tupL : bTuple [.list xs] = some (.tuple xs) := rfl
@[simp] theorem q_repr : bRepr [d] = if okRepr d = true then some (.str d.shown) else none := rfl
@[simp] theorem q_big : big = 10000000 := rfl
theorem ixN_nat {n j : Nat} (h : j < n) : L2.ixN n (j : Int) = some j := by
  unfold L2.ixN
  rw [if_pos (Int.natCast_nonneg j), if_pos (by omega), Int.toNat_natCast]
theorem atI_natD {α : Type} {xs : List α} {j : Nat} (h : j < xs.length) : L2.atI xs (j : Int) = xs[j]? := by
  unfold L2.atI
  rw [ixN_nat h]
  rfl
theorem atI_int {α : Type} {xs : List α} {j : Int} {a : α} (h0 : 0 ≤ j) (h : xs[j.toNat]? = some a) : L2.atI xs j = some a := by
  have hl := (List.getElem?_eq_some_iff.mp h).1
  have e : ((j.toNat : Nat) : Int) = j := Int.toNat_of_nonneg h0
  rw [← e, atI_natD hl, h]
@[simp] theorem at_0 {α : Type} (a : α) (r : List α) : L2.atI (a :: r) 0 = some a := atI_int (Int.le_refl _) rfl
@[simp] theorem at_1 {α : Type} (a b : α) (r : List α) : L2.atI (a :: b :: r) 1 = some b := atI_int (by decide) rfl
theorem at_last {α : Type} (r : List α) (a : α) : L2.atI (r ++ [a]) (-1) = some a := by
  unfold L2.atI L2.ixN
  rw [if_neg (by decide), if_pos (by rw [List.length_append, List.length_singleton]; omega)]
  show (r ++ [a])[((-1 : Int) + ((r ++ [a]).length : Nat)).toNat]? = some a
  have e : ((-1 : Int) + ((r ++ [a]).length : Nat)).toNat = r.length := by rw [List.length_append, List.length_singleton]; omega
  rw [e]
  simp
@[simp] theorem q_endR : endF (some (.rt d e)) = some d := rfl
@[simp] theorem q_endN : endF (some (.nx e)) = some .none := rfl
@[simp] theorem q_endQR : endQ (some (.rt d e)) = some (d, e.pot) := rfl
@[simp] theorem q_endQN : endQ (some (.nx e)) = some (.none, e.pot) := rfl
theorem isi_ii : L2.kitB "int" "int" = some true := by decide +kernel
theorem isi_ib : L2.kitB "int" "bool" = some false := by decide +kernel
theorem isi_tt : L2.kitB "tuple" "tuple" = some true := by decide +kernel
theorem isi_ss : L2.kitB "str" "str" = some true := by decide +kernel
@[simp] theorem q_isi_ii : isiD "int" (.int x) = some true := isi_ii
@[simp] theorem q_isi_ib : isiD "bool" (.int x) = some false := isi_ib
@[simp] theorem q_isi_tt : isiD "tuple" (.tuple xs) = some true := isi_tt
@[simp] theorem q_isi_ss : isiD "str" (.str s) = some true := isi_ss
end
/-! ### loops -/
theorem for_rule {g : FG} {b : FS} (Inv : Nat → En → Prop) (K : Out → Prop) : ∀ {ds : List D} {e : En} (k : Nat), Inv k e →
    (∀ i d e, ds[i]? = some d → Inv (k + i) e → ∃ e1, g d e = some e1 ∧ ∃ r, b e1 = some r ∧ (match r with
      | .nx e2 => Inv (k + i + 1) e2
      | .ct e2 => Inv (k + i + 1) e2
      | .bk e2 => K (.nx e2)
      | .rt v e2 => K (.rt v e2))) → (∀ e, Inv (k + ds.length) e → K (.nx e)) → ∃ r, sForL g b ds e = some r ∧ K r
  | [], e, k, h0, _, h1 => ⟨_, rfl, h1 e h0⟩
  | d :: ds, e, k, h0, hs, h1 => by
    obtain ⟨e1, q1, r, q2, q3⟩ := hs 0 d e rfl h0
    have next : ∀ e2, Inv (k + 1) e2 → ∃ r, sForL g b ds e2 = some r ∧ K r := fun e2 h2 =>
      for_rule Inv K (k + 1) h2 (fun i d e hd hi => by
        have := hs (i + 1) d e (by simpa using hd) (by rw [show k + (i + 1) = k + 1 + i by omega]; exact hi)
        rw [show k + (i + 1) = k + 1 + i by omega] at this
        exact this) fun e he => h1 e (by rw [List.length_cons, show k + (ds.length + 1) = k + 1 + ds.length by omega]; exact he)
    show ∃ r, ((g d e).bind fun e1 => (b e1).bind fun r => match r with
      | .nx e2 => sForL g b ds e2
      | .ct e2 => sForL g b ds e2
      | .bk e2 => some (.nx e2)
      | .rt v e2 => some (.rt v e2)) = some r ∧ K r
    rw [q1]
    simp only [Option.bind_some]
    rw [q2]
    simp only [Option.bind_some]
    cases r with
    | nx e2 => exact next e2 q3
    | ct e2 => exact next e2 q3
    | bk e2 => exact ⟨_, rfl, q3⟩
    | rt v e2 => exact ⟨_, rfl, q3⟩
theorem while_rule {t : FT} {b : FS} (Inv : Nat → En → Prop) (K : Out → Prop) (hs : ∀ m e, Inv m e → ∃ x e1, t e = some (x, e1) ∧ (x = true → ∃ r, b e1 = some r ∧ (match r with
      | .nx e2 => ∃ m', m' < m ∧ Inv m' e2
      | .ct e2 => ∃ m', m' < m ∧ Inv m' e2
      | .bk e2 => K (.nx e2)
      | .rt v e2 => K (.rt v e2))) ∧ (x = false → K (.nx e1))) : ∀ (n m : Nat) (e : En), m < n → Inv m e → ∃ r, sWhile t b n e = some r ∧ K r
  | 0, m, e, h, _ => absurd h (Nat.not_lt_zero _)
  | n + 1, m, e, h, hi => by
    obtain ⟨x, e1, q1, q2, q3⟩ := hs m e hi
    show ∃ r, ((t e).bind fun p => if p.1 = true then (b p.2).bind fun r => match r with
      | .nx e2 => sWhile t b n e2
      | .ct e2 => sWhile t b n e2
      | .bk e2 => some (.nx e2)
      | .rt v e2 => some (.rt v e2)
    else some (.nx p.2)) = some r ∧ K r
    rw [q1]
    simp only [Option.bind_some]
    cases x with
    | false => exact ⟨_, rfl, q3 rfl⟩
    | true =>
      obtain ⟨r, q4, q5⟩ := q2 rfl
      simp only [if_true]
      rw [q4]
      simp only [Option.bind_some]
      cases r with
      | nx e2 =>
        obtain ⟨m', l, q⟩ := q5
        exact while_rule Inv K hs n m' e2 (by omega) q
      | ct e2 =>
        obtain ⟨m', l, q⟩ := q5
        exact while_rule Inv K hs n m' e2 (by omega) q
      | bk e2 => exact ⟨_, rfl, q5⟩
      | rt v e2 => exact ⟨_, rfl, q5⟩
/-- a comprehension that leaves the pot -/
theorem lc_rule {g : FG} {t : FT} {f : F} {vs : List Nat} {e : En} {P : Pot} (p : D → Bool) (h : D → D) : ∀ {ds : List D},
    (∀ d ∈ ds, ∃ e2, g d ((e.po P).inner vs) = some e2 ∧ ∃ e3, t e2 = some (p d, e3) ∧ e3.pot = P ∧ (p d = true → ∃ e4, f e3 = some (h d, e4) ∧ e4.pot = P)) → lcL g t f vs e ds P = some ((ds.filter p).map h, P)
  | [], _ => rfl
  | d :: ds, hs => by
    obtain ⟨e2, q1, e3, q2, q3, q4⟩ := hs d List.mem_cons_self
    have ih := lc_rule (ds := ds) p h fun d hd => hs d (List.mem_cons_of_mem _ hd)
    show ((g d ((e.po P).inner vs)).bind fun e2 => (t e2).bind fun p => if p.1 = true
      then (f p.2).bind fun q => (lcL g t f vs e ds q.2.pot).map fun r => (q.1 :: r.1, r.2)
      else lcL g t f vs e ds p.2.pot) = _
    rw [q1]
    simp only [Option.bind_some]
    rw [q2]
    simp only [Option.bind_some]
    cases hp : p d with
    | false =>
      simp only [Bool.false_eq_true, if_false]
      rw [q3, ih, List.filter_cons_of_neg (by rw [hp]; decide)]
    | true =>
      obtain ⟨e4, q5, q6⟩ := q4 hp
      simp only [if_true]
      rw [q5]
      simp only [Option.bind_some]
      rw [q6, ih, List.filter_cons_of_pos hp]
      rfl
end L3

/-! ticks: plain lists of ints -/
namespace TK
open PySem PySem.Spec L3
def I (ns : List Int) : List D := ns.map PyData.int
@[simp] theorem I_length (l : List Int) : (I l).length = l.length := List.length_map ..
@[simp] theorem I_drop (l : List Int) (n : Nat) : (I l).drop n = I (l.drop n) := by simp [I, List.map_drop]
@[simp] theorem I_tail (l : List Int) : (I l).tail = I l.tail := by cases l <;> rfl
theorem I_append (l m : List Int) : I (l ++ m) = I l ++ I m := List.map_append ..
@[simp] theorem I_nil : I [] = [] := rfl
theorem I_cons (a : Int) (l : List Int) : I (a :: l) = .int a :: I l := rfl
@[simp] theorem I_eq_nil (l : List Int) : I l = [] ↔ l = [] := by cases l <;> simp [I]
@[simp] theorem I_take (l : List Int) (n : Nat) : (I l).take n = I (l.take n) := by simp [I, List.map_take]
def tk (S : Int → Bool) : Nat → Int → List Int
  | 0, _ => []
  | n + 1, b => if S b = true then b :: tk S n (b + 1) else tk S n (b + 1)
section
variable {S T : Int → Bool}
theorem tk_append : ∀ (n m : Nat) (b : Int), tk S (n + m) b = tk S n b ++ tk S m (b + n)
  | 0, m, b => by simp [tk]
  | n + 1, m, b => by
    have ih := tk_append n m (b + 1)
    rw [show n + 1 + m = n + m + 1 by omega]
    simp only [tk]
    rw [ih, show b + 1 + (n : Int) = b + ((n + 1 : Nat) : Int) by omega]
    split <;> rfl
theorem mem_tk : ∀ {n : Nat} {b t : Int}, t ∈ tk S n b ↔ b ≤ t ∧ t < b + n ∧ S t = true
  | 0, b, t => by
    simp only [tk, List.not_mem_nil, false_iff]
    omega
  | n + 1, b, t => by
    simp only [tk]
    have ih := @mem_tk n (b + 1) t
    split
    · rename_i h
      rw [List.mem_cons, ih]
      constructor
      · rintro (rfl | ⟨h1, h2, h3⟩)
        · exact ⟨Int.le_refl _, by omega, h⟩
        · exact ⟨by omega, by omega, h3⟩
      · rintro ⟨h1, h2, h3⟩
        by_cases e : t = b
        · exact .inl e
        · exact .inr ⟨by omega, by omega, h3⟩
    · rename_i h
      rw [ih]
      constructor
      · rintro ⟨h1, h2, h3⟩
        exact ⟨by omega, by omega, h3⟩
      · rintro ⟨h1, h2, h3⟩
        refine ⟨?_, by omega, h3⟩
        have : t ≠ b := fun e => h (e ▸ h3)
        omega
theorem tk_congr : ∀ {n : Nat} {b : Int}, (∀ t, b ≤ t → t < b + n → S t = T t) → tk S n b = tk T n b
  | 0, _, _ => rfl
  | n + 1, b, h => by
    simp only [tk]
    rw [h b (Int.le_refl _) (by omega), tk_congr (n := n) (b := b + 1) fun t h1 h2 => h t (by omega) (by omega)]
theorem tk_len : ∀ (n : Nat) (b : Int), (tk S n b).length ≤ n
  | 0, _ => Nat.le_refl _
  | n + 1, b => by
    have := tk_len n (b + 1)
    simp only [tk]
    split
    · rw [List.length_cons]; omega
    · omega
theorem tk_filter (q : Int → Bool) : ∀ (n : Nat) (b : Int), (tk S n b).filter q = tk (fun t => S t && q t) n b
  | 0, _ => rfl
  | n + 1, b => by
    have ih := tk_filter q n (b + 1)
    simp only [tk]
    by_cases hS : S b = true <;> by_cases hq : q b = true <;> simp [hS, hq, ih]
theorem tk_none : ∀ {n : Nat} {b : Int}, (∀ t, b ≤ t → t < b + n → S t = false) → tk S n b = []
  | 0, _, _ => rfl
  | n + 1, b, h => by
    simp only [tk]
    rw [h b (Int.le_refl _) (by omega), if_neg (by decide), tk_none (n := n) (b := b + 1) fun t h1 h2 => h t (by omega) (by omega)]
/-- the ticks of a window within -/
theorem tk_window {n m : Nat} {a b : Int} (h1 : a ≤ b) (h2 : b + m ≤ a + n) : (tk S n a).filter (fun t => decide (b ≤ t) && decide (t < b + m)) = tk S m b := by
  have e : n = (b - a).toNat + (m + ((a + n) - (b + m)).toNat) := by omega
  rw [tk_filter]
  rw [e, tk_append, tk_append]
  have e1 : a + ((b - a).toNat : Int) = b := by omega
  rw [e1]
  rw [tk_none (n := (b - a).toNat) (b := a), tk_none (b := b + (m : Int)), List.nil_append, List.append_nil]
  · exact tk_congr fun t q1 q2 => by simp [q1, q2]
  · intro t q1 q2
    have : ¬ t < b + m := by omega
    simp [this]
  · intro t q1 q2
    have : ¬ b ≤ t := by omega
    simp [this]
theorem tk_shift (c : Int) : ∀ (n : Nat) (b : Int), tk S n (b + c) = (tk (fun t => S (t + c)) n b).map (fun t => t + c)
  | 0, _ => rfl
  | n + 1, b => by
    have ih := tk_shift c n (b + 1)
    rw [show b + 1 + c = b + c + 1 by omega] at ih
    simp only [tk]
    rw [ih]
    split <;> simp
/-- where the run begins that holds t -/
def nw (G F z t : Int) : Int := if G < t - z then t else F
/-- a first hit: L the limit, G the greatest gap, F where the run began, z the tick before -/
def hit (L G : Int) : Int → Int → List Int → Option Int
  | _, _, [] => none
  | F, z, t :: r => if L ≤ t - nw G F z t then some t else hit L G (nw G F z t) t r
def hit0 (L G : Int) : List Int → Option Int
  | [] => none
  | t :: r => hit L G t t r
theorem hit_append {L G : Int} : ∀ {F z t : Int} {l r : List Int}, hit L G F z l = some t → hit L G F z (l ++ r) = some t
  | _, _, _, [], _, h => by cases h
  | F, z, t, x :: l, r, h => by
    simp only [hit, List.cons_append] at h ⊢
    split
    · rename_i h1
      rw [if_pos h1] at h
      exact h
    · rename_i h1
      rw [if_neg h1] at h
      exact hit_append h
theorem hit0_append {L G t : Int} {l r : List Int} (h : hit0 L G l = some t) : hit0 L G (l ++ r) = some t := by
  cases l with
  | nil => cases h
  | cons x l => exact hit_append h
theorem hit_mem {L G : Int} : ∀ {F z t : Int} {l : List Int}, hit L G F z l = some t → t ∈ l
  | _, _, _, [], h => by cases h
  | F, z, t, x :: l, h => by
    simp only [hit] at h
    split at h
    · cases h; exact List.mem_cons_self
    · exact List.mem_cons_of_mem _ (hit_mem h)
end
/-! comprehensions over ints -/
theorem lc_ints {g : FG} {t : FT} {f : F} {vs : List Nat} {e : En} {P : Pot} (p : Int → Bool) (h : Int → D) : ∀ {ns : List Int},
    (∀ n ∈ ns, ∃ e2, g (.int n) ((e.po P).inner vs) = some e2 ∧ ∃ e3, t e2 = some (p n, e3) ∧ e3.pot = P ∧ (p n = true → ∃ e4, f e3 = some (h n, e4) ∧ e4.pot = P)) → lcL g t f vs e (I ns) P = some ((ns.filter p).map h, P) := fun {ns} hs => by
  have q := lc_rule (g := g) (t := t) (f := f) (vs := vs) (e := e) (P := P) (ds := I ns) (fun d => match d with | .int n => p n | _ => false) (fun d => match d with | .int n => h n | _ => .none) fun d hd => by
    obtain ⟨n, hn, rfl⟩ := List.mem_map.mp hd
    exact hs n hn
  rw [q]
  congr 2
  clear q hs
  induction ns with
  | nil => rfl
  | cons n r ih =>
    show List.map _ (List.filter _ (PyData.int n :: I r)) = _
    by_cases hp : p n = true
    · rw [List.filter_cons_of_pos (by exact hp), List.filter_cons_of_pos hp, List.map_cons, List.map_cons, ih]
    · rw [List.filter_cons_of_neg (by exact hp), List.filter_cons_of_neg hp, ih]
theorem for_0 {g : FG} {b : FS} (Inv : Nat → En → Prop) (K : Out → Prop) {ds : List D} {e : En} (h0 : Inv 0 e)
    (hs : ∀ i d e, ds[i]? = some d → Inv i e → ∃ e1, g d e = some e1 ∧ ∃ r, b e1 = some r ∧ (match r with
      | .nx e2 => Inv (i + 1) e2
      | .ct e2 => Inv (i + 1) e2
      | .bk e2 => K (.nx e2)
      | .rt v e2 => K (.rt v e2))) (h1 : ∀ e, Inv ds.length e → K (.nx e)) : ∃ r, sForL g b ds e = some r ∧ K r :=
  for_rule Inv K 0 h0 (fun i d e hd hi => by
    rw [Nat.zero_add] at hi
    have q := hs i d e hd hi
    rw [Nat.zero_add]
    exact q) fun e he => h1 e (by rw [Nat.zero_add] at he; exact he)
/-- where test and item leave the state -/
theorem lc_I {g : FG} {t : FT} {f : F} {vs : List Nat} {sl : List SD} {P : Pot} (p : Int → Bool) (h : Int → D) {ns : List Int}
    (hs : ∀ n ∈ ns, ∃ e2, g (.int n) ((⟨sl, P⟩ : En).inner vs) = some e2 ∧ e2.pot = P ∧ t e2 = some (p n, e2) ∧ (p n = true → f e2 = some (h n, e2))) : lcL g t f vs ⟨sl, P⟩ (I ns) P = some ((ns.filter p).map h, P) :=
  lc_ints p h fun n hn => by
    obtain ⟨e2, q1, q2, q3, q4⟩ := hs n hn
    exact ⟨e2, q1, e2, q3, q2, fun z => ⟨e2, q4 z, q2⟩⟩
theorem lc_of {α : Type} {g : FG} {t : FT} {f : F} {vs : List Nat} {sl : List SD} {P : Pot} (ι : α → D) (p : α → Bool) (h : α → D) {ns : List α}
    (hs : ∀ n ∈ ns, ∃ e2, g (ι n) ((⟨sl, P⟩ : En).inner vs) = some e2 ∧ e2.pot = P ∧ t e2 = some (p n, e2) ∧ (p n = true → f e2 = some (h n, e2))) : lcL g t f vs ⟨sl, P⟩ (ns.map ι) P = some ((ns.filter p).map h, P) := by
  induction ns with
  | nil => rfl
  | cons n r ih =>
    obtain ⟨e2, q1, q2, q3, q4⟩ := hs n List.mem_cons_self
    have ih' := ih fun m hm => hs m (List.mem_cons_of_mem _ hm)
    show ((g (ι n) (((⟨sl, P⟩ : En).po P).inner vs)).bind fun e2 => (t e2).bind fun p => if p.1 = true
      then (f p.2).bind fun q => (lcL g t f vs ⟨sl, P⟩ (r.map ι) q.2.pot).map fun r => (q.1 :: r.1, r.2)
      else lcL g t f vs ⟨sl, P⟩ (r.map ι) p.2.pot) = _
    have q1' : g (ι n) (((⟨sl, P⟩ : En).po P).inner vs) = some e2 := q1
    rw [q1']
    simp only [Option.bind_some]
    rw [q3]
    simp only [Option.bind_some]
    by_cases hp : p n = true
    · rw [if_pos hp, q4 hp, List.filter_cons_of_pos hp]
      simp only [Option.bind_some]
      rw [q2, ih']
      rfl
    · rw [if_neg hp, List.filter_cons_of_neg hp, q2, ih']
theorem lc_all {α : Type} {g : FG} {f : F} {vs : List Nat} {sl : List SD} {P : Pot} (ι : α → D) (h : α → D) {ns : List α}
    (hs : ∀ n ∈ ns, ∃ e2, g (ι n) ((⟨sl, P⟩ : En).inner vs) = some e2 ∧ e2.pot = P ∧ f e2 = some (h n, e2)) : lcL g fYes f vs ⟨sl, P⟩ (ns.map ι) P = some (ns.map h, P) := by
  rw [lc_of ι (fun _ => true) h fun n hn => by
    obtain ⟨e2, q1, q2, q3⟩ := hs n hn
    exact ⟨e2, q1, q2, rfl, fun _ => q3⟩]
  rw [List.filter_eq_self.mpr fun _ _ => rfl]
theorem zipI (l m : List Int) : zipD (I l) (I m) = (l.zip m).map fun q => (.tuple [.int q.1, .int q.2] : D) := by
  induction l generalizing m with
  | nil => rfl
  | cons a r ih =>
    cases m with
    | nil => rfl
    | cons b s =>
      show PyData.tuple [.int a, .int b] :: zipD (I r) (I s) = _
      rw [ih]
      rfl
theorem ints_of {α : Type} (h : α → Int) (ns : List α) : intsD (ns.map fun n => .int (h n)) = some (ns.map h) := by
  have := intsD_map (ns.map h)
  rw [List.map_map] at this
  exact this
theorem bools_of {α : Type} (h : α → Bool) (ns : List α) : boolsD (ns.map fun n => .bool (h n)) = some (ns.map h) := by
  have := boolsD_map (ns.map h)
  rw [List.map_map] at this
  exact this
theorem all_of {α : Type} (h : α → Bool) (ns : List α) : bAll [.list (ns.map fun n => .bool (h n))] = some (.bool (ns.all h)) := by
  show (boolsD _).map _ = _
  rw [bools_of]
  simp [List.all_map]
theorem max_of {α : Type} (h : α → Int) (ns : List α) {m : Int} (h1 : m ∈ ns.map h) (h2 : ∀ n ∈ ns, h n ≤ m) : bMax [.list (ns.map fun n => .int (h n))] = some (.int m) := by
  show ((intsD _).bind fun ns => (maxL ns).map PyData.int) = _
  rw [ints_of]
  simp only [Option.bind_some]
  have : maxL (ns.map h) = some m := maxL_iff.mpr ⟨h1, fun y hy => by
    obtain ⟨n, hn, rfl⟩ := List.mem_map.mp hy
    exact h2 n hn⟩
  rw [this]
  rfl
open L2 in
theorem cut1D (ds : List D) : cutD ds (some 1) none = ds.drop 1 := by
  unfold cutD
  have h1 : HT.sIx ds.length 0 (some 1) = min 1 ds.length := HT.sIx_nat ds.length 0 1
  rw [h1, HT.sIx_none]
  cases ds with
  | nil => rfl
  | cons x r =>
    rw [show min 1 (x :: r).length = 1 by rw [List.length_cons]; omega]
    show List.take ((x :: r).length - 1) r = r
    rw [List.length_cons, Nat.add_sub_cancel]
    exact List.take_length
theorem lc_D {g : FG} {t : FT} {f : F} {vs : List Nat} {sl : List SD} {P : Pot} (p : D → Bool) (h : D → D) {ds : List D}
    (hs : ∀ d ∈ ds, ∃ e2, g d ((⟨sl, P⟩ : En).inner vs) = some e2 ∧ e2.pot = P ∧ t e2 = some (p d, e2) ∧ (p d = true → f e2 = some (h d, e2))) : lcL g t f vs ⟨sl, P⟩ ds P = some ((ds.filter p).map h, P) :=
  lc_rule p h fun n hn => by
    obtain ⟨e2, q1, q2, q3, q4⟩ := hs n hn
    exact ⟨e2, q1, e2, q3, q2, fun z => ⟨e2, q4 z, q2⟩⟩
theorem filter_yes {α : Type} (l : List α) : l.filter (fun _ => true) = l := List.filter_eq_self.mpr fun _ _ => rfl
@[simp] theorem w_nil (vs : List Nat) (k : Nat) : wipeSD vs k [] = [] := rfl
@[simp] theorem w_cons (vs : List Nat) (k : Nat) (s : SD) (r : List SD) : wipeSD vs k (s :: r) = (if k ∈ vs then .un else wipeS s) :: wipeSD vs (k + 1) r := rfl
@[simp] theorem w_un : wipeS .un = .un := rfl
@[simp] theorem w_pot : wipeS .pot = .pot := rfl
@[simp] theorem w_dat (d : D) : wipeS (.dat d) = .dat d := rfl
@[simp] theorem w_own (ds : List D) : wipeS (.own ds) = .un := rfl
@[simp] theorem in_eq (sl : List SD) (P : Pot) (vs : List Nat) : (⟨sl, P⟩ : En).inner vs = ⟨wipeSD vs 0 sl, P⟩ := rfl
theorem getI {l : List Int} {j : Nat} {a : Int} (h : l[j]? = some a) : (I l)[j]? = some (.int a) := by
  unfold I
  rw [List.getElem?_map, h]
  rfl
theorem atI_I {l : List Int} {j : Nat} {a : Int} (h : l[j]? = some a) : L2.atI (I l) (j : Int) = some (.int a) := by
  rw [atI_natD (by rw [I_length]; exact (List.getElem?_eq_some_iff.mp h).1)]
  exact getI h
theorem getI_inv {l : List Int} {j : Nat} {d : D} (h : (I l)[j]? = some d) : ∃ a, l[j]? = some a ∧ d = .int a := by
  unfold I at h
  rw [List.getElem?_map] at h
  obtain ⟨a, h1, h2⟩ := Option.map_eq_some_iff.mp h
  exact ⟨a, h1, h2.symm⟩
theorem enumI_inv {l : List Int} {j : Nat} {d : D} (h : (enumD 0 (I l))[j]? = some d) : ∃ a, l[j]? = some a ∧ d = .tuple [.int j, .int a] := by
  have hj : j < (I l).length := by
    have := (List.getElem?_eq_some_iff.mp h).1
    rw [enum_len] at this
    exact this
  obtain ⟨a, h1, h2⟩ := getI_inv (List.getElem?_eq_getElem hj)
  have := enum_get 0 (I l) j _ (List.getElem?_eq_getElem hj)
  rw [h] at this
  cases this
  rw [h2, Nat.zero_add]
  exact ⟨a, h1, rfl⟩
theorem s64 {i : Int} (h0 : -1000000000 ≤ i) (h1 : i ≤ 1000000000) : small64 i = true := by
  unfold small64
  rw [Bool.and_eq_true, decide_eq_true_eq, decide_eq_true_eq]
  omega
theorem okR_of {i : Int} (h0 : -1000000000 ≤ i) (h1 : i ≤ 1000000000) : okR i := by
  unfold okR
  omega
theorem eqT_nil (l : List Int) : opEq (.tuple (I l)) (.tuple []) = some (.bool l.isEmpty) := by
  have h1 : SeqAt.shaped (.tuple (I l)) = true := by
    unfold SeqAt.shaped I
    simp [PyData.canLay0, PyData.depth, canLayAll0_ints, depthAll_ints]
  have h2 : SeqAt.shaped (.tuple []) = true := by decide
  have h3 : PyData.eqv (.tuple (I l)) (.tuple []) = l.isEmpty := by
    cases l <;> simp [PyData.eqv, PyData.eqvAll, I]
  show (sameD _ _).map _ = _
  have h4 : sameD (.tuple (I l)) (.tuple []) = some l.isEmpty := by
    unfold sameD
    show (if (SeqAt.shaped (.tuple (I l)) && SeqAt.shaped (.tuple [])) = true then some (PyData.eqv (.tuple (I l)) (.tuple [])) else none) = _
    rw [h1, h2, h3]
    rfl
  rw [h4]
  rfl
theorem eqL_nil (l : List Int) : opEq (.list (I l)) (.list []) = some (.bool l.isEmpty) := by
  have h1 : SeqAt.shaped (.list (I l)) = true := shaped_ints l
  have h2 : SeqAt.shaped (.list []) = true := by decide
  have h3 : PyData.eqv (.list (I l)) (.list []) = l.isEmpty := eqv_ints_nil l
  show (sameD _ _).map _ = _
  have h4 : sameD (.list (I l)) (.list []) = some l.isEmpty := by
    unfold sameD
    show (if (SeqAt.shaped (.list (I l)) && SeqAt.shaped (.list [])) = true then some (PyData.eqv (.list (I l)) (.list [])) else none) = _
    rw [h1, h2, h3]
    rfl
  rw [h4]
  rfl
theorem max_I {l : List Int} (h : l ≠ []) : ∃ m, bMax [.list (I l)] = some (.int m) ∧ m ∈ l ∧ ∀ y ∈ l, y ≤ m := by
  cases l with
  | nil => exact absurd rfl h
  | cons x r =>
    have e : maxL (x :: r) = some (r.foldl max x) := rfl
    obtain ⟨h1, h2⟩ := maxL_iff.mp e
    refine ⟨_, ?_, h1, h2⟩
    show ((intsD _).bind fun ns => (maxL ns).map PyData.int) = _
    unfold I
    rw [intsD_map]
    simp only [Option.bind_some]
    rw [e]
    rfl
theorem max_eq {l : List Int} {m : Int} (h1 : m ∈ l) (h2 : ∀ y ∈ l, y ≤ m) : bMax [.list (I l)] = some (.int m) := by
  show ((intsD _).bind fun ns => (maxL ns).map PyData.int) = _
  unfold I
  rw [intsD_map]
  simp only [Option.bind_some]
  rw [maxL_iff.mpr ⟨h1, h2⟩]
  rfl
theorem rng01 (n : Nat) : rng 0 1 n = (List.range n).map fun i : Nat => (.int i : D) := by
  unfold rng
  congr 1
  funext i
  rw [Int.mul_one, Int.zero_add]
theorem enum_range (h : Nat → D) (n : Nat) : enumD 0 ((List.range n).map h) = (List.range n).map fun (i : Nat) => (.tuple [.int i, h i] : D) := by
  apply List.ext_getElem?
  intro i
  by_cases hi : i < n
  · have e1 : ((List.range n).map h)[i]? = some (h i) := by
      rw [List.getElem?_map, List.getElem?_range hi]
      rfl
    rw [enum_get 0 _ i _ e1, List.getElem?_map, List.getElem?_range hi, Nat.zero_add]
    rfl
  · rw [List.getElem?_eq_none (by rw [enum_len, List.length_map, List.length_range]; omega), List.getElem?_eq_none (by rw [List.length_map, List.length_range]; omega)]
theorem flat_I (l : List Int) : (I l).all flatD = true := by
  unfold I
  rw [List.all_map, List.all_eq_true]
  exact fun _ _ => rfl
theorem inD_I (z : Int) : ∀ l : List Int, inD (.int z) (I l) = decide (z ∈ l)
  | [] => rfl
  | a :: r => by
    have ih := inD_I z r
    unfold inD at ih ⊢
    rw [I_cons, List.any_cons, ih]
    by_cases h : a = z
    · subst h
      simp [PyData.eqv]
    · have h' : ¬ z = a := fun q => h q.symm
      simp [PyData.eqv, h, h']
theorem in_I {l : List Int} (z : Int) : opIn (.int z) (.list (I l)) = some (.bool (decide (z ∈ l))) := by
  show (if (flatD (.int z) && (I l).all flatD) = true then some (PyData.bool (inD (.int z) (I l))) else none) = _
  rw [flat_I, inD_I]
  rfl
end TK

namespace K42
open PySem PySem.Spec L3 TK
theorem e_is_integer (v : Int) : m_is_integer [.int v] = some (.bool true) := by
  simp [m_is_integer, runF, b_is_integer, entry]
theorem e_is_between (v a b : Int) : m_is_between [.int v, .int a, .int b] = some (.bool (decide (a ≤ v) && decide (v ≤ b))) := by
  simp [m_is_between, runF, b_is_between, entry, e_is_integer]
  by_cases h : a ≤ v <;> simp [h]
/-! ### seen -/
abbrev T2 (p : Int) (looks : List Int) : D := .tuple [.int p, .tuple (I looks)]
theorem e_seen {S : Int → Bool} {p b e : Int} (hp : 0 < p) (hp2 : p ≤ 1000) (hS : ∀ t, S (t + p) = S t) (hb : 0 ≤ b) (hbe : b ≤ e) (he : e ≤ 100000) :
    m_seen [T2 p (tk S p.toNat 0), .int b, .int e] = some (.list (I (tk S (e - b).toNat b))) := by
  have h64 : small64 p = true := s64 (by omega) (by omega)
  have hp3 : p < 1073741824 := by omega
  have hlo : 0 ≤ b / p := Int.ediv_nonneg hb (by omega)
  have hlh : b / p ≤ e / p := Int.ediv_le_ediv hp hbe
  have hhi : e / p ≤ e := Int.ediv_le_self p (by omega)
  have k1 : okR (b / p) := okR_of (by omega) (by omega)
  have k2 : okR (e / p + 1) := okR_of (by omega) (by omega)
  simp [m_seen, runF, b_seen, entry, hp, hp3, k1, k2]
  -- the laps
  have per : ∀ (k : Nat) (t : Int), S (t + k * p) = S t := fun k => by
    induction k with
    | zero => intro t; simp
    | succ k ih =>
      intro t
      rw [show t + ((k + 1 : Nat) : Int) * p = (t + k * p) + p by rw [Int.natCast_add, Int.add_mul]; omega, hS, ih]
  let cnd : Int → Bool := fun t => decide (b ≤ t) && decide (t < e)
  let acc : Nat → List Int := fun k => (tk S (k * p.toNat) (b / p * p)).filter cnd
  refine Exists.elim (for_0 (g := gN 6) (b := b_seen_l1) (ds := rng (b / p) 1 (e / p + 1 - b / p).toNat)
    (e := ⟨[.dat (T2 p (tk S p.toNat 0)), .dat (.int b), .dat (.int e), .dat (.int p), .dat (.tuple (I (tk S p.toNat 0))), .own [], .un, .un], pot0⟩)
    (fun k en => ∃ x6, en = ⟨[.dat (T2 p (tk S p.toNat 0)), .dat (.int b), .dat (.int e), .dat (.int p), .dat (.tuple (I (tk S p.toNat 0))), .own (I (acc k)), x6, .un], pot0⟩)
    (fun r => ∃ x6, r = .nx ⟨[.dat (T2 p (tk S p.toNat 0)), .dat (.int b), .dat (.int e), .dat (.int p), .dat (.tuple (I (tk S p.toNat 0))), .own (I (tk S (e - b).toNat b)), x6, .un], pot0⟩)
    ⟨.un, by simp [acc, tk]⟩ (fun i d en hd hi => ?_) fun en he => ?_) fun r ⟨hr, x6, hK⟩ => ?_
  · obtain ⟨x6, rfl⟩ := hi
    have hil : i < (e / p + 1 - b / p).toNat := by
      have := (List.getElem?_eq_some_iff.mp hd).1
      rw [rng_len] at this
      exact this
    rw [rng_get hil] at hd
    cases hd
    refine ⟨_, rfl, ?_⟩
    generalize hlap : b / p + (i : Int) * 1 = lap
    have hlap' : lap = b / p + i := by omega
    have hl0 : 0 ≤ lap := by omega
    have hl1 : lap ≤ 100000 := by omega
    have l64 : small64 lap = true := s64 (by omega) (by omega)
    have q := lc_I (g := gN 7) (t := b_seen_i1) (f := b_seen_c1) (vs := [7]) (sl := [.dat (T2 p (tk S p.toNat 0)), .dat (.int b), .dat (.int e), .dat (.int p), .dat (.tuple (I (tk S p.toNat 0))), .own (I (acc (i))), .dat (.int lap), .un]) (P := pot0)
      (fun n => cnd (lap * p + n)) (fun n => .int (lap * p + n)) (ns := tk S p.toNat 0) fun n hn => ⟨_, rfl, rfl, by
        simp [b_seen_i1, l64]
        by_cases h : b ≤ lap * p + n <;> simp [h, cnd], fun _ => by simp [b_seen_c1, l64]⟩
    have hP : ((p.toNat : Nat) : Int) = p := Int.toNat_of_nonneg (by omega)
    have hlP : b / p * p + (i * p.toNat : Nat) = 0 + lap * p := by
      rw [Int.natCast_mul, hP, hlap', Int.add_mul]
      omega
    have e1 : acc (i + 1) = acc (i) ++ ((tk S p.toNat 0).filter fun n => cnd (lap * p + n)).map fun n => lap * p + n := by
      show (tk S ((i + 1) * p.toNat) (b / p * p)).filter cnd = (tk S (i * p.toNat) (b / p * p)).filter cnd ++ _
      rw [Nat.add_mul i 1, Nat.one_mul, tk_append, List.filter_append, hlP, tk_shift]
      congr 1
      have pl := per lap.toNat
      rw [Int.toNat_of_nonneg hl0] at pl
      rw [tk_congr (T := S) fun t _ _ => pl t, List.filter_map]
      have ef : (fun t => t + lap * p) = (fun n => lap * p + n) := by funext t; omega
      rw [ef]
      rfl
    have ln : (acc (i)).length + ((tk S p.toNat 0).filter fun n => cnd (lap * p + n)).length ≤ 10000000 := by
      have h1 : (acc (i + 1)).length ≤ (i + 1) * p.toNat := Nat.le_trans (List.length_filter_le _ _) (tk_len _ _)
      rw [e1, List.length_append, List.length_map] at h1
      have h2 : ((i : Int) + 1) * p ≤ (e / p + 1 - b / p) * p := Int.mul_le_mul_of_nonneg_right (by omega) (by omega)
      have h3 : e / p * p ≤ e := Int.ediv_mul_le _ (by omega)
      have h4 : (e / p + 1 - b / p) * p = e / p * p + p - b / p * p := by
        rw [Int.sub_mul, Int.add_mul, Int.one_mul]
      have h5 : 0 ≤ b / p * p := Int.mul_nonneg hlo (by omega)
      have h6 : (((i + 1) * p.toNat : Nat) : Int) = ((i : Int) + 1) * p := by
        rw [Int.natCast_mul, hP]
        congr 1
      omega
    have ec : (I (acc (i)) ++ ((tk S p.toNat 0).filter fun n => cnd (lap * p + n)).map fun n => (PyData.int (lap * p + n))) = I (acc (i + 1)) := by
      rw [e1]
      simp [I]
    refine ⟨.nx ⟨[.dat (T2 p (tk S p.toNat 0)), .dat (.int b), .dat (.int e), .dat (.int p), .dat (.tuple (I (tk S p.toNat 0))), .own (I (acc (i + 1))), .dat (.int lap), .un], pot0⟩, ?_, ⟨_, rfl⟩⟩
    rw [← ec]
    have lp : (tk S p.toNat 0).length ≤ 10000000 := Nat.le_trans (tk_len _ _) (by omega)
    simp [b_seen_l1, q, ln, lp, big]
  · obtain ⟨x6, rfl⟩ := he
    refine ⟨x6, ?_⟩
    rw [rng_len]
    have hP : ((p.toNat : Nat) : Int) = p := Int.toNat_of_nonneg (by omega)
    have h3 : b / p * p ≤ b := Int.ediv_mul_le _ (by omega)
    have h4 : e < (e / p + 1) * p := Int.lt_ediv_add_one_mul_self e hp
    have h5 : b / p * p + ((((e / p + 1 - b / p).toNat) * p.toNat : Nat) : Int) = (e / p + 1) * p := by
      rw [Int.natCast_mul, hP, show ((((e / p + 1 - b / p).toNat) : Nat) : Int) = e / p + 1 - b / p by omega, Int.sub_mul]
      omega
    have ew : acc ((e / p + 1 - b / p).toNat) = tk S (e - b).toNat b := by
      have h6 : b + ((e - b).toNat : Int) = e := by omega
      have := tk_window (S := S) (n := ((e / p + 1 - b / p).toNat) * p.toNat) (m := (e - b).toNat) (a := b / p * p) (b := b) h3 (by omega)
      rw [h6] at this
      exact this
    rw [ew]
  · subst hK
    rw [hr]
    simp
end K42

namespace K42
open PySem PySem.Spec L3 TK
/-! ### proof -/
def Asc (l : List Int) : Prop := ∀ i a b, l[i]? = some a → l[i + 1]? = some b → a ≤ b
abbrev B2 (L G : Int) : D := .tuple [.int L, .int G]
abbrev prS (l : List Int) (L G : Int) (j : Int) (x5 x6 : SD) : En := ⟨[.dat (.list (I l)), .dat (B2 L G), .dat (.int L), .dat (.int G), .dat (.int j), x5, x6], pot0⟩
theorem asc_mono {l : List Int} (h : Asc l) : ∀ (d i : Nat) (a b : Int), l[i]? = some a → l[i + d]? = some b → a ≤ b
  | 0, i, a, b, h1, h2 => by
    rw [Nat.add_zero, h1] at h2
    cases h2
    exact Int.le_refl _
  | d + 1, i, a, b, h1, h2 => by
    have hl := (List.getElem?_eq_some_iff.mp h2).1
    have h3 : l[i + d]? = some (l[i + d]'(by omega)) := List.getElem?_eq_getElem (by omega)
    exact Int.le_trans (asc_mono h d i a _ h1 h3) (h (i + d) _ _ h3 h2)
theorem asc_pw {l : List Int} (h : Asc l) : l.Pairwise (· ≤ ·) := by
  rw [List.pairwise_iff_getElem]
  intro i j hi hj hij
  exact asc_mono h (j - i) i _ _ (List.getElem?_eq_getElem hi) (by rw [show i + (j - i) = j by omega]; exact List.getElem?_eq_getElem hj)
theorem e_proofX {l : List Int} {L G : Int} (hL : 1 ≤ L) (hs : Asc l) (hl : l.length ≤ 500000) :
    (hit0 L G l = none ∧ m_proof [.list (I l), B2 L G] = some .none) ∨
    ∃ f t, hit0 L G l = some t ∧ f ∈ l ∧ L ≤ t - f ∧ (∀ u ∈ l, L ≤ t - u → u ≤ f) ∧ m_proof [.list (I l), B2 L G] = some (.tuple [.int f, .int t]) := by
  simp [m_proof, runF, b_proof, entry]
  refine Exists.elim (for_0 (g := gT 2 (gsCons (gN 5) (gsCons (gN 6) gsNil))) (b := b_proof_l2) (ds := enumD 0 (I l)) (e := prS l L G 0 .un .un)
    (fun k en => ∃ (j : Nat) (x5 x6 : SD), en = prS l L G j x5 x6 ∧ ((k = 0 ∧ j = 0) ∨ ∃ F z k', k = k' + 1 ∧ j < k ∧ l[j]? = some F ∧ l[k']? = some z ∧ z - F < L ∧ hit0 L G l = hit L G F z (l.drop k)))
    (fun r => (∃ (j : Nat) (x5 x6 : SD), r = .nx (prS l L G j x5 x6) ∧ hit0 L G l = none) ∨ ∃ f t e, r = .rt (.tuple [.int f, .int t]) e ∧ hit0 L G l = some t ∧ f ∈ l ∧ L ≤ t - f ∧ ∀ u ∈ l, L ≤ t - u → u ≤ f)
    ⟨0, .un, .un, rfl, .inl ⟨rfl, rfl⟩⟩ (fun k d en hd hi => ?_) fun en he => ?_) fun r ⟨hr, hK⟩ => ?_
  · obtain ⟨t, ht, rfl⟩ := enumI_inv hd
    obtain ⟨j, x5, x6, rfl, hi⟩ := hi
    refine ⟨prS l L G j (.dat (.int k)) (.dat (.int t)), by simp, ?_⟩
    -- the run's begin, with this tick
    have core : ∀ (j' : Nat) (F : Int), j' ≤ k → l[j']? = some F → ∃ r, sWhile b_proof_t1 b_proof_l1 fu (prS l L G j' (.dat (.int k)) (.dat (.int t))) = some r ∧
        ∃ (m : Nat) (f : Int), m ≤ k ∧ l[m]? = some f ∧ r = .nx (prS l L G m (.dat (.int k)) (.dat (.int t))) ∧ (L ≤ t - F → L ≤ t - f) ∧ (¬ L ≤ t - F → m = j') ∧ (m < k → ∀ n1, l[m + 1]? = some n1 → ¬ L ≤ t - n1) := fun j' F hj hF => by
      refine while_rule (fun n en => ∃ (m : Nat) (f : Int), m ≤ k ∧ n = k - m ∧ l[m]? = some f ∧ en = prS l L G m (.dat (.int k)) (.dat (.int t)) ∧ (L ≤ t - F → L ≤ t - f) ∧ (¬ L ≤ t - F → m = j'))
        (fun r => ∃ (m : Nat) (f : Int), m ≤ k ∧ l[m]? = some f ∧ r = .nx (prS l L G m (.dat (.int k)) (.dat (.int t))) ∧ (L ≤ t - F → L ≤ t - f) ∧ (¬ L ≤ t - F → m = j') ∧ (m < k → ∀ n1, l[m + 1]? = some n1 → ¬ L ≤ t - n1)) (fun n en h => ?_) fu (k - j') _ ?_ ⟨j', F, hj, rfl, hF, rfl, fun h => h, fun _ => rfl⟩
      · obtain ⟨m, f, h1, h2, h3, rfl, h4, h5⟩ := h
        by_cases hm : m < k
        · have hk : k < l.length := (List.getElem?_eq_some_iff.mp ht).1
          have hn : l[m + 1]? = some (l[m + 1]'(by omega)) := List.getElem?_eq_getElem (by omega)
          generalize l[m + 1]'(by omega) = n1 at hn
          have hm' : (m : Int) < k := by omega
          have ha := atI_I hn
          rw [Int.natCast_add] at ha
          refine ⟨decide (L ≤ t - n1), _, ?_, fun q => ⟨.nx (prS l L G ((m + 1 : Nat) : Int) (.dat (.int k)) (.dat (.int t))), ?_, k - (m + 1), by omega, m + 1, n1, by omega, rfl, hn, rfl, fun _ => of_decide_eq_true q, fun z => ?_⟩, fun q => ⟨m, f, h1, h3, rfl, h4, h5, fun _ n1' z => by
            rw [hn] at z
            cases z
            exact of_decide_eq_false q⟩⟩
          · simp [b_proof_t1, hm']
            rw [show ((m : Int) + 1) = (m : Int) + ((1 : Nat) : Int) from rfl, ha]
            simp
          · simp [b_proof_l1]
          · have := h5 z
            subst this
            have e1 : f = F := by rw [hF] at h3; exact (Option.some.inj h3).symm
            have := hs m f n1 h3 hn
            have := of_decide_eq_true q
            omega
        · have hm' : ¬ (m : Int) < k := by omega
          refine ⟨false, prS l L G m (.dat (.int k)) (.dat (.int t)), by simp [b_proof_t1, hm'], fun q => (nomatch q), fun _ => ⟨m, f, h1, h3, rfl, h4, h5, fun z => absurd z hm⟩⟩
      · have := (List.getElem?_eq_some_iff.mp ht).1
        show k - j' < 1000000
        omega
    have kk : (l[k]? = some t) := ht
    have fmem : ∀ {m : Nat} {f : Int}, l[m]? = some f → f ∈ l := fun h => List.mem_of_getElem? h
    -- the first statement
    have first : ∃ (j' : Nat) (F' : Int), j' ≤ k ∧ l[j']? = some F' ∧ (hit0 L G l = if L ≤ t - F' then some t else hit L G F' t (l.drop (k + 1))) ∧
        sIf (fAnd (fT (fBin opGt (fV 5) (fC (.int 0)))) (fT (fBin opGt (fBin opSub (fV 6) (fBin opIx (fV 0) (fBin opSub (fV 5) (fC (.int 1))))) (fV 3)))) (sSeq (sSet 4 (fV 5)) (sNext)) (sNext) (prS l L G j (.dat (.int k)) (.dat (.int t))) = some (.nx (prS l L G j' (.dat (.int k)) (.dat (.int t)))) := by
      rcases hi with ⟨rfl, rfl⟩ | ⟨F, z, k', rfl, h2, h3, h4, h5, h6⟩
      · refine ⟨0, t, Nat.le_refl _, ht, ?_, by simp⟩
        have e1 : l = t :: l.drop 1 := by
          cases l with
          | nil => cases ht
          | cons a r => cases ht; rfl
        rw [if_neg (by omega)]
        rw [e1]
        rfl
      · have e1 : l.drop (k' + 1) = t :: l.drop (k' + 1 + 1) := by
          obtain ⟨q1, q2⟩ := List.getElem?_eq_some_iff.mp ht
          rw [List.drop_eq_getElem_cons q1, q2]
        have ha := atI_I h4
        have hk : ((k' + 1 : Nat) : Int) - 1 = (k' : Int) := by omega
        have hk0 : (0 : Int) < ((k' + 1 : Nat) : Int) := by omega
        rw [e1] at h6
        simp only [hit] at h6
        by_cases hb : G < t - z
        · have en : nw G F z t = t := if_pos hb
          rw [en] at h6
          exact ⟨k' + 1, t, Nat.le_refl _, ht, h6, by simp [hk, hk0, ha, hb]⟩
        · have en : nw G F z t = F := if_neg hb
          rw [en] at h6
          exact ⟨j, F, by omega, h3, h6, by simp [hk, hk0, ha, hb]⟩
    obtain ⟨j', F', g1, g2, g3, g4⟩ := first
    obtain ⟨r, w1, m, f, w2, w3, rfl, w4, w5, w6⟩ := core j' F' g1 g2
    have hb : ∀ q, sSeq (sIf (fAnd (fT (fBin opGt (fV 5) (fC (.int 0)))) (fT (fBin opGt (fBin opSub (fV 6) (fBin opIx (fV 0) (fBin opSub (fV 5) (fC (.int 1))))) (fV 3)))) (sSeq (sSet 4 (fV 5)) (sNext)) (sNext)) q (prS l L G j (.dat (.int k)) (.dat (.int t))) = q (prS l L G j' (.dat (.int k)) (.dat (.int t))) := fun q => by
      rw [q_seq, g4]
      rfl
    have hm := atI_I w3
    by_cases hit : L ≤ t - F'
    · rw [if_pos hit] at g3
      have := w4 hit
      refine ⟨.rt (.tuple [.int f, .int t]) (prS l L G m (.dat (.int k)) (.dat (.int t))), ?_, .inr ⟨f, t, _, rfl, g3, List.mem_of_getElem? w3, this, fun u hu hLu => ?_⟩⟩
      rotate_left
      · obtain ⟨i, hi⟩ := List.mem_iff_getElem?.mp hu
        by_cases him : i ≤ m
        · exact asc_mono hs (m - i) i u f hi (by rw [show i + (m - i) = m by omega]; exact w3)
        · exfalso
          have hlen := (List.getElem?_eq_some_iff.mp hi).1
          by_cases hmk : m < k
          · have hn : l[m + 1]? = some (l[m + 1]'(by omega)) := List.getElem?_eq_getElem (by omega)
            have a1 := w6 hmk _ hn
            have a2 := asc_mono hs (i - (m + 1)) (m + 1) _ u hn (by rw [show m + 1 + (i - (m + 1)) = i by omega]; exact hi)
            omega
          · have a2 := asc_mono hs (i - k) k t u kk (by rw [show k + (i - k) = i by omega]; exact hi)
            omega
      show b_proof_l2 _ = _
      unfold b_proof_l2
      rw [hb, q_seq, w1]
      simp [hm, this]
    · rw [if_neg hit] at g3
      have := w5 hit
      subst this
      rw [g2] at w3
      cases w3
      refine ⟨.nx (prS l L G m (.dat (.int k)) (.dat (.int t))), ?_, m, _, _, rfl, .inr ⟨F', t, k, rfl, by omega, g2, ht, by omega, g3⟩⟩
      show b_proof_l2 _ = _
      unfold b_proof_l2
      rw [hb, q_seq, w1]
      simp [hm, hit]
  · obtain ⟨j, x5, x6, rfl, hi⟩ := he
    rw [enum_len, I_length] at hi
    refine .inl ⟨j, x5, x6, rfl, ?_⟩
    rcases hi with ⟨h1, h2⟩ | ⟨F, z, k', h1, h2, h3, h4, h5, h6⟩
    · rw [List.eq_nil_of_length_eq_zero h1]
      rfl
    · rw [h6, List.drop_length]
      rfl
  · rw [hr]
    rcases hK with ⟨j, x5, x6, rfl, h⟩ | ⟨f, t, e, rfl, h1, h2, h3, h4⟩
    · refine .inl ⟨h, ?_⟩
      simp
    · refine .inr ⟨f, t, h1, h2, h3, h4, ?_⟩
      simp
theorem e_proof {l : List Int} {L G : Int} (hL : 1 ≤ L) (hs : Asc l) (hl : l.length ≤ 500000) :
    (hit0 L G l = none ∧ m_proof [.list (I l), B2 L G] = some .none) ∨
    ∃ f t, hit0 L G l = some t ∧ f ∈ l ∧ L ≤ t - f ∧ m_proof [.list (I l), B2 L G] = some (.tuple [.int f, .int t]) := by
  rcases e_proofX (G := G) hL hs hl with h | ⟨f, t, h1, h2, h3, _, h4⟩
  · exact .inl h
  · exact .inr ⟨f, t, h1, h2, h3, h4⟩
/-- the greatest u of l at least L ahead of t -/
def lst (L t : Int) (l : List Int) : Int := match (l.filter fun u => decide (L ≤ t - u)).getLast? with
  | some u => u
  | none => 0
def optP (L G : Int) (l : List Int) : Option (Int × Int) := (hit0 L G l).map fun t => (lst L t l, t)
def pairD : Option (Int × Int) → D
  | none => .none
  | some q => .tuple [.int q.1, .int q.2]
theorem lst_eq {L t f : Int} {l : List Int} (hs : Asc l) (hf : f ∈ l) (h1 : L ≤ t - f) (h2 : ∀ u ∈ l, L ≤ t - u → u ≤ f) : lst L t l = f := by
  unfold lst
  have hm : f ∈ l.filter fun u => decide (L ≤ t - u) := List.mem_filter.mpr ⟨hf, decide_eq_true h1⟩
  cases h : (l.filter fun u => decide (L ≤ t - u)).getLast? with
  | none =>
    rw [List.getLast?_eq_none_iff] at h
    rw [h] at hm
    cases hm
  | some u =>
    obtain ⟨m1, m2⟩ := List.mem_filter.mp (List.mem_of_getLast? h)
    have a := h2 u m1 (of_decide_eq_true m2)
    have b : f ≤ u := by
      have pw : (l.filter fun u => decide (L ≤ t - u)).Pairwise (· ≤ ·) := (List.Pairwise.filter _ (asc_pw hs))
      obtain ⟨r, hr⟩ := List.getLast?_eq_some_iff.mp h
      rw [hr] at pw hm
      rcases List.mem_append.mp hm with q | q
      · exact (List.pairwise_append.mp pw).2.2 f q u (List.mem_singleton.mpr rfl)
      · rw [List.mem_singleton.mp q]; exact Int.le_refl _
    show u = f
    omega
theorem e_proofF {l : List Int} {L G : Int} (hL : 1 ≤ L) (hs : Asc l) (hl : l.length ≤ 500000) : m_proof [.list (I l), B2 L G] = some (pairD (optP L G l)) := by
  unfold optP
  rcases e_proofX (G := G) hL hs hl with ⟨h, h1⟩ | ⟨f, t, h1, h2, h3, h4, h5⟩
  · rw [h, h1]; rfl
  · rw [h1, h5]
    show some _ = some (pairD (some (lst L t l, t)))
    rw [lst_eq hs h2 h3 h4]
    rfl
end K42

namespace K42
open PySem PySem.Spec L3 TK
/-! ### rounds -/
def asc (l : List Int) : Bool := (l.zip l.tail).all fun q => decide (q.1 < q.2)
theorem e_is_ascending (l : List Int) (hl : l.length ≤ 1000) : m_is_ascending [.tuple (I l)] = some (.bool (asc l)) := by
  have hz : (zipD (I l) (I l.tail)).length ≤ 10000000 := by
    rw [zip_len, I_length]; omega
  simp [m_is_ascending, runF, b_is_ascending, entry, cut1D, hz]
  rw [zipI, lc_all (P := pot0) (fun q : Int × Int => (.tuple [.int q.1, .int q.2] : D)) (fun q => .bool (decide (q.1 < q.2))) fun n hn => ⟨_, rfl, rfl, by simp [b_is_ascending_c1]⟩]
  simp [all_of, asc]
structure Rd (S : Int → Bool) (p : Int) : Prop where
  p2 : 2 ≤ p
  p1 : p ≤ 168
  per : ∀ t, S (t + p) = S t
abbrev lk (S : Int → Bool) (p : Int) : List Int := tk S p.toNat 0
section
variable {S : Int → Bool} {p L G : Int}
theorem Rd.len (R : Rd S p) : (lk S p).length ≤ 168 := by
  have := tk_len (S := S) p.toNat 0
  have := R.p1
  have h : (lk S p).length ≤ p.toNat := tk_len _ _
  omega
theorem e_is_round (R : Rd S p) (h0 : lk S p ≠ []) (ha : asc (lk S p) = true) : m_is_round [T2 p (lk S p)] = some (.bool true) := by
  have h1 : decide ((2 : Int) ≤ p) && decide (p ≤ 168) = true := by simp [R.p2, R.p1]
  have h2 := R.p2
  have h3 := R.p1
  have hl := R.len
  have h4 : (lk S p).length ≤ 10000000 := by omega
  have h5 : (lk S p).length ≤ 1000 := by omega
  have q := lc_all (g := gN 3) (f := b_is_round_c1) (vs := [3]) (sl := [.dat (T2 p (lk S p)), .dat (.int p), .dat (.tuple (I (lk S p))), .un]) (P := pot0) PyData.int (fun n => .bool true) (ns := lk S p) fun n hn => ⟨_, rfl, rfl, by
    obtain ⟨q1, q2, q3⟩ := mem_tk.mp hn
    have q4 : n ≤ p - 1 := by omega
    simp [b_is_round_c1, e_is_between, q1, q4]⟩
  have he : opEq (.tuple (I (lk S p))) (.tuple []) = some (.bool false) := by
    rw [eqT_nil]
    cases q : lk S p with
    | nil => exact absurd q h0
    | cons _ _ => rfl
  rw [show (lk S p).map PyData.int = I (lk S p) from rfl] at q
  simp [m_is_round, runF, b_is_round, entry, e_is_between, h2, h3, he, q, h4, all_of, e_is_ascending _ h5, ha]
theorem e_gaps (R : Rd S p) {a : Int} {r : List Int} (h0 : lk S p = a :: r) : m_gaps [T2 p (lk S p)] = some (.list (I (((a :: r).zip (r ++ [a + p])).map fun q => q.2 - q.1))) := by
  have hl := R.len
  rw [h0] at hl ⊢
  rw [List.length_cons] at hl
  have h4 : r.length + 1 ≤ 10000000 := by omega
  have hz : (zipD (I (a :: r)) (I (r ++ [a + p]))).length ≤ 10000000 := by
    rw [zip_len, I_length, I_length, List.length_append, List.length_cons, List.length_singleton]; omega
  have e1 : I r ++ [PyData.int (a + p)] = I (r ++ [a + p]) := by rw [I_append]; rfl
  have e2 : L2.atI (I (a :: r)) 0 = some (.int a) := at_0 _ _
  simp [m_gaps, runF, b_gaps, entry, cut1D, h4, e1, e2, hz]
  rw [zipI, lc_all (P := pot0) (fun q : Int × Int => (.tuple [.int q.1, .int q.2] : D)) (fun q => .int (q.2 - q.1)) fun n hn => ⟨_, rfl, rfl, by simp [b_gaps_c1]⟩]
  simp [I]
theorem e_check_round (R : Rd S p) (h0 : lk S p ≠ []) (ha : asc (lk S p) = true) (hL : 1 ≤ L) (hL2 : L ≤ 999) (hG : 1 ≤ G) (hG2 : G ≤ 999) : m_check_round [T2 p (lk S p), B2 L G] = some .none := by
  have q := lc_all (g := gN 2) (f := b_check_round_c1) (vs := [2]) (sl := [.dat (T2 p (lk S p)), .dat (B2 L G), .un]) (P := pot0) PyData.int (fun n => .bool true) (ns := [L, G]) fun n hn => ⟨_, rfl, rfl, by
    have q1 : 1 ≤ n ∧ n ≤ 999 := by
      rcases List.mem_cons.mp hn with rfl | hn
      · omega
      · rw [List.mem_singleton.mp hn]; omega
    simp [b_check_round_c1, e_is_between, q1.1, q1.2]⟩
  have q2 := all_of (fun _ : Int => true) [L, G]
  simp at q q2
  simp [m_check_round, runF, b_check_round, entry, e_is_round R h0 ha, q, q2]
theorem e_seen' (R : Rd S p) {b e : Int} (hb : 0 ≤ b) (hbe : b ≤ e) (he : e ≤ 100000) : m_seen [T2 p (lk S p), .int b, .int e] = some (.list (I (tk S (e - b).toNat b))) :=
  e_seen (by have := R.p2; omega) (by have := R.p1; omega) R.per hb hbe he
theorem tk_asc : ∀ (n : Nat) (b : Int), Asc (tk S n b) := fun n b i x y h1 h2 => by
  have : ∀ (n : Nat) (b : Int) (i : Nat) (x y : Int), (tk S n b)[i]? = some x → (tk S n b)[i + 1]? = some y → x < y := by
    intro n
    induction n with
    | zero => intro b i x y h1 h2; simp [tk] at h1
    | succ n ih =>
      intro b i x y h1 h2
      simp only [tk] at h1 h2
      split at h1
      · rename_i hS
        rw [if_pos hS] at h2
        cases i with
        | zero =>
          have e1 : b = x := by simpa using h1
          have e2 : (tk S n (b + 1))[0]? = some y := by simpa using h2
          have := (mem_tk.mp (List.mem_of_getElem? e2)).1
          omega
        | succ i => exact ih (b + 1) i x y (by simpa using h1) (by simpa using h2)
      · rename_i hS
        rw [if_neg hS] at h2
        exact ih (b + 1) i x y h1 h2
  exact Int.le_of_lt (this n b i x y h1 h2)
theorem gaps_ne {a : Int} {r : List Int} : ((a :: r).zip (r ++ [a + p])).map (fun q => q.2 - q.1) ≠ [] := by
  cases r <;> simp
theorem e_never_no (R : Rd S p) {a : Int} {r : List Int} (h0 : lk S p = a :: r) (hg : ∀ q ∈ (a :: r).zip (r ++ [a + p]), q.2 - q.1 ≤ G) : m_is_never [T2 p (lk S p), B2 L G] = some (.bool false) := by
  obtain ⟨m, h1, h2, h3⟩ := max_I (gaps_ne (a := a) (r := r) (p := p))
  have hm : m ≤ G := by
    obtain ⟨q, hq, rfl⟩ := List.mem_map.mp h2
    exact hg q hq
  simp [m_is_never, runF, b_is_never, entry, e_gaps R h0, h1, hm]
theorem e_never_by (R : Rd S p) {a : Int} {r : List Int} (h0 : lk S p = a :: r) (hg : ∃ q ∈ (a :: r).zip (r ++ [a + p]), ¬ q.2 - q.1 ≤ G) (hL : 1 ≤ L) : m_is_never [T2 p (lk S p), B2 L G] = some (.bool (hit0 L G (tk S (3 * p).toNat 0)).isNone) := by
  obtain ⟨m, h1, h2, h3⟩ := max_I (gaps_ne (a := a) (r := r) (p := p))
  have hm : ¬ m ≤ G := fun z => by
    obtain ⟨q, hq, hn⟩ := hg
    exact hn (Int.le_trans (h3 _ (List.mem_map.mpr ⟨q, hq, rfl⟩)) z)
  have k2 := R.p2
  have k3 := R.p1
  have hs := e_seen' R (b := 0) (e := 3 * p) (Int.le_refl _) (by omega) (by omega)
  have e1 : (3 * p - 0).toNat = (3 * p).toNat := by congr 1; omega
  rw [e1] at hs
  have hlen : (tk S (3 * p).toNat 0).length ≤ 500000 := by
    have := tk_len (S := S) (3 * p).toNat 0
    omega
  have s3 : small64 3 = true := by decide
  rcases e_proof (G := G) hL (tk_asc (S := S) (3 * p).toNat 0) hlen with ⟨q1, q4⟩ | ⟨f, t', q1, q2, q3, q4⟩
  · simp [m_is_never, runF, b_is_never, entry, e_gaps R h0, h1, hm, s3, hs, q4, q1]
  · simp [m_is_never, runF, b_is_never, entry, e_gaps R h0, h1, hm, s3, hs, q4, q1]
theorem e_needs (R : Rd S p) (hL : 1 ≤ L) (hL2 : L ≤ 999) {b t : Int} (hb : 0 ≤ b) (hb2 : b ≤ 10000) (h : hit0 L G (tk S (L + 3 * p).toNat b) = some t) :
    ∃ f, f ∈ tk S (L + 3 * p).toNat b ∧ L ≤ t - f ∧ m_needs [T2 p (lk S p), B2 L G, .int b] = some (.tuple [.int (t - b + 1), .tuple [.int f, .int t]]) := by
  have h2 := R.p2
  have h3 := R.p1
  have hs := e_seen' R (b := b) (e := b + L + 3 * p) hb (by omega) (by omega)
  have e1 : (b + L + 3 * p - b).toNat = (L + 3 * p).toNat := by congr 1; omega
  rw [e1] at hs
  have hlen : (tk S (L + 3 * p).toNat b).length ≤ 500000 := by
    have := tk_len (S := S) (L + 3 * p).toNat b
    omega
  have s3 : small64 3 = true := by decide
  rcases e_proof (G := G) hL (tk_asc (S := S) (L + 3 * p).toNat b) hlen with ⟨q1, _⟩ | ⟨f, t', q1, q2, q3, q4⟩
  · rw [q1] at h; cases h
  · rw [q1] at h
    cases h
    refine ⟨f, q2, q3, ?_⟩
    simp [m_needs, runF, b_needs, entry, s3, hs, q4]
end
end K42

namespace K42
open PySem PySem.Spec L3 TK
section
variable {S : Int → Bool} {p L G : Int}
theorem e_number_none (h : m_is_never [T2 p (lk S p), B2 L G] = some (.bool true)) : m_number_of [T2 p (lk S p), B2 L G] = some .none := by
  simp [m_number_of, runF, b_number_of, entry, h]
theorem e_number (R : Rd S p) (h : m_is_never [T2 p (lk S p), B2 L G] = some (.bool false)) (N : Int → Int) {M : Int} (h1 : M ∈ (lk S p).map N) (h2 : ∀ n ∈ lk S p, N n ≤ M)
    (hN : ∀ n ∈ lk S p, ∃ x, m_needs [T2 p (lk S p), B2 L G, .int ((n + 1) % p)] = some (.tuple [.int (N n), x])) : m_number_of [T2 p (lk S p), B2 L G] = some (.int (M - L)) := by
  have k2 := R.p2
  have k0 : 0 < p := by omega
  have hl := R.len
  have h4 : (lk S p).length ≤ 10000000 := by omega
  have q := lc_all (g := gN 3) (f := b_number_of_c2) (vs := [3]) (sl := [.dat (T2 p (lk S p)), .dat (B2 L G), .un, .un, .un]) (P := pot0) PyData.int (fun n => .int ((n + 1) % p)) (ns := lk S p) fun n hn => ⟨_, rfl, rfl, by
    simp [b_number_of_c2, k0]⟩
  have q2 := lc_all (g := gN 4) (f := b_number_of_c1) (vs := [4]) (sl := [.dat (T2 p (lk S p)), .dat (B2 L G), .dat (.list ((lk S p).map fun n => .int ((n + 1) % p))), .un, .un]) (P := pot0) (fun n => (.int ((n + 1) % p) : D)) (fun n => .int (N n)) (ns := lk S p) fun n hn => ⟨_, rfl, rfl, by
    obtain ⟨x, hx⟩ := hN n hn
    simp [b_number_of_c1, hx]⟩
  have q3 := max_of N (lk S p) h1 h2
  rw [show (lk S p).map PyData.int = I (lk S p) from rfl] at q
  simp [m_number_of, runF, b_number_of, entry, h, q, h4, q2, q3]
/-- the first begin that needs most -/
def firstB (N : Nat → Int) (m L p : Int) : Int := match (List.range p.toNat).filter fun i => decide (N i - L = m) with
  | [] => 0
  | b :: _ => b
theorem e_least_more (R : Rd S p) (hc : m_check_round [T2 p (lk S p), B2 L G] = some .none) (h : m_is_never [T2 p (lk S p), B2 L G] = some (.bool false)) (N : Nat → Int) (X : Nat → D) {M : Int} {b : Nat} (hb : b < p.toNat) (h1 : N b = M)
    (h2 : ∀ i, i < p.toNat → N i ≤ M) (hN : ∀ i : Nat, i < p.toNat → m_needs [T2 p (lk S p), B2 L G, .int i] = some (.tuple [.int (N i), X i])) :
    m_least_more [T2 p (lk S p), B2 L G] = some (.tuple [.str ("more" : Str), .int (M - L), .tuple ((List.range p.toNat).map X), if 1 < M - L then .int (firstB N (M - L) L p) else .none]) := by
  have k2 := R.p2
  have k3 := R.p1
  have k0 : okR p := okR_of (by omega) (by omega)
  have hp7 : p.toNat ≤ 10000000 := by omega
  have q := lc_all (g := gN 8) (f := b_least_more_c4) (vs := [8]) (sl := [.dat (T2 p (lk S p)), .dat (B2 L G), .un, .un, .un, .un, .un, .un, .un, .un, .un, .un]) (P := pot0) (fun i : Nat => (.int i : D)) (fun i => .tuple [.int (N i), X i]) (ns := List.range p.toNat) fun i hi => ⟨_, rfl, rfl, by
    have := hN i (List.mem_range.mp hi)
    simp [b_least_more_c4, this]⟩
  have er : rng 0 1 p.toNat = (List.range p.toNat).map fun i : Nat => (.int i : D) := rng01 _
  generalize hr : ((List.range p.toNat).map fun i => (.tuple [.int (N i), X i] : D)) = rows at q
  have q3 := lc_all (g := gT 2 (gsCons (gN 9) (gsCons (gN 10) gsNil))) (f := b_least_more_c3) (vs := [9, 10]) (sl := [.dat (T2 p (lk S p)), .dat (B2 L G), .un, .dat (.list rows), .un, .un, .un, .un, .un, .un, .un, .un]) (P := pot0) (fun i => (.tuple [.int (N i), X i] : D)) (fun i => .int (N i)) (ns := List.range p.toNat) fun i hi => ⟨_, rfl, rfl, by simp [b_least_more_c3]⟩
  rw [hr] at q3
  have q4 := max_of N (List.range p.toNat) (m := M) (List.mem_map.mpr ⟨b, List.mem_range.mpr hb, h1⟩) fun i hi => h2 i (List.mem_range.mp hi)
  have q5 := lc_of (g := gT 2 (gsCons (gN 8) (gsCons (gN 11) gsNil))) (t := b_least_more_i1) (f := b_least_more_c2) (vs := [8, 11]) (sl := [.dat (T2 p (lk S p)), .dat (B2 L G), .un, .dat (.list rows), .dat (.int (M - L)), .un, .un, .un, .un, .un, .un, .un]) (P := pot0) (fun i : Nat => (.tuple [.int i, .tuple [.int (N i), X i]] : D)) (fun i => decide (N i - L = M - L)) (fun i => .int i) (ns := List.range p.toNat) fun i hi => ⟨_, rfl, rfl, by simp [b_least_more_i1], fun _ => by simp [b_least_more_c2]⟩
  have ee := enum_range (fun i => (.tuple [.int (N i), X i] : D)) p.toNat
  rw [hr] at ee
  have hlen : rows.length = p.toNat := by rw [← hr, List.length_map, List.length_range]
  obtain ⟨b0, br, hbr⟩ : ∃ b0 br, ((List.range p.toNat).filter fun i => decide (N i - L = M - L)) = b0 :: br := by
    cases hf : (List.range p.toNat).filter fun i => decide (N i - L = M - L) with
    | nil =>
      have : b ∈ (List.range p.toNat).filter fun i => decide (N i - L = M - L) := List.mem_filter.mpr ⟨List.mem_range.mpr hb, by rw [h1]; simp⟩
      rw [hf] at this
      cases this
    | cons x y => exact ⟨x, y, rfl⟩
  rw [hbr] at q5
  have q6 := lc_all (g := gT 2 (gsCons (gN 9) (gsCons (gN 10) gsNil))) (f := b_least_more_c1) (vs := [9, 10]) (sl := [.dat (T2 p (lk S p)), .dat (B2 L G), .un, .dat (.list rows), .dat (.int (M - L)), .dat (.list ((b0 :: br).map fun i : Nat => (.int i : D))), .un, .un, .un, .un, .un, .un]) (P := pot0) (fun i => (.tuple [.int (N i), X i] : D)) (fun i => X i) (ns := List.range p.toNat) fun i hi => ⟨_, rfl, rfl, by simp [b_least_more_c1]⟩
  rw [hr] at q6
  rw [List.map_cons] at q5 q6
  have hfb : firstB N (M - L) L p = b0 := by
    unfold firstB
    rw [hbr]
  rw [hfb]
  by_cases h1 : 1 < M - L
  · simp [m_least_more, runF, b_least_more, entry, hc, h, k0, er, hp7, q, q3, q4, q5, q6, ee, hlen, h1]
  · simp [m_least_more, runF, b_least_more, entry, hc, h, k0, er, hp7, q, q3, q4, q5, q6, ee, hlen, h1]
end
end K42

namespace K42
open PySem PySem.Spec L3 TK
section
variable {S : Int → Bool} {p L G : Int}
theorem zip_fst {l m : List Int} (h : l.length = m.length) : (l.zip m).map Prod.fst = l := by
  rw [List.map_fst_zip]
  omega
theorem far_all {a : Int} {r : List Int} (hg : ∀ q ∈ (a :: r).zip (r ++ [a + p]), G < q.2 - q.1) :
    (((a :: r).zip (((a :: r).zip (r ++ [a + p])).map fun q => q.2 - q.1)).filter fun q => decide (G < q.2)).map Prod.fst = a :: r := by
  rw [List.filter_eq_self.mpr, zip_fst]
  · rw [List.length_map, List.length_zip, List.length_append, List.length_cons, List.length_singleton]
    omega
  · intro q hq
    obtain ⟨_, h2⟩ := List.of_mem_zip hq
    obtain ⟨x, hx, h3⟩ := List.mem_map.mp h2
    rw [← h3]
    exact decide_eq_true (hg x hx)
theorem e_least_never (R : Rd S p) {a : Int} {r : List Int} (h0 : lk S p = a :: r) (hc : m_check_round [T2 p (lk S p), B2 L G] = some .none) (h : m_is_never [T2 p (lk S p), B2 L G] = some (.bool true))
    (hg : ∀ q ∈ (a :: r).zip (r ++ [a + p]), G < q.2 - q.1) : m_least_more [T2 p (lk S p), B2 L G] = some (.tuple [.str ("never" : Str), .int a]) := by
  have hga := e_gaps R h0
  have hl := R.len
  rw [h0] at hc h hga hl ⊢
  rw [List.length_cons] at hl
  generalize hgs : ((a :: r).zip (r ++ [a + p])).map (fun q => q.2 - q.1) = gs at hga
  have hz : (zipD (I (a :: r)) (I gs)).length ≤ 10000000 := by
    rw [zip_len, I_length, List.length_cons]; omega
  have q := lc_of (g := gT 2 (gsCons (gN 6) (gsCons (gN 7) gsNil))) (t := b_least_more_i2) (f := b_least_more_c5) (vs := [6, 7]) (sl := [.dat (T2 p (a :: r)), .dat (B2 L G), .un, .un, .un, .un, .un, .un, .un, .un, .un, .un]) (P := pot0) (fun q : Int × Int => (.tuple [.int q.1, .int q.2] : D)) (fun q => decide (G < q.2)) (fun q => .int q.1) (ns := (a :: r).zip gs) fun i hi => ⟨_, rfl, rfl, by simp [b_least_more_i2], fun _ => by simp [b_least_more_c5]⟩
  have hf := far_all (p := p) (G := G) hg
  rw [hgs] at hf
  have hf2 : (((a :: r).zip gs).filter fun q => decide (G < q.2)).map (fun q => (.int q.1 : D)) = I (a :: r) := by
    have := congrArg I hf
    unfold I at this
    rw [List.map_map] at this
    exact this
  rw [hf2] at q
  have e2 : L2.atI (I (a :: r)) 0 = some (.int a) := at_0 _ _
  have hz2 := hz
  rw [zipI] at hz2
  simp [m_least_more, runF, b_least_more, entry, hc, h, hga]
  rw [zipI, if_pos hz2, q]
  simp [e2]
end
end K42

/-! hits of sets of ticks -/
namespace TK
section
variable {S : Int → Bool} {L G : Int}
theorem tk_next : ∀ {n : Nat} {b : Int} {i : Nat} {x y : Int}, (tk S n b)[i]? = some x → (tk S n b)[i + 1]? = some y → x < y ∧ ∀ t, x < t → t < y → S t = false
  | 0, b, i, x, y, h1, _ => by simp [tk] at h1
  | n + 1, b, i, x, y, h1, h2 => by
    simp only [tk] at h1 h2
    split at h1
    · rename_i hS
      rw [if_pos hS] at h2
      cases i with
      | zero =>
        have e1 : b = x := by simpa using h1
        have e2 : (tk S n (b + 1))[0]? = some y := by simpa using h2
        subst e1
        clear h1 h2
        have key : ∀ (n : Nat) (b y : Int), (tk S n b)[0]? = some y → b ≤ y ∧ ∀ t, b ≤ t → t < y → S t = false := by
          intro n
          induction n with
          | zero => intro b y h; simp [tk] at h
          | succ n ih =>
            intro b y h
            simp only [tk] at h
            split at h
            · have e : b = y := by simpa using h
              subst e
              exact ⟨Int.le_refl _, fun t h1 h2 => by omega⟩
            · rename_i hb
              obtain ⟨k1, k2⟩ := ih (b + 1) y h
              refine ⟨by omega, fun t h1 h2 => ?_⟩
              by_cases e : t = b
              · subst e
                exact Bool.eq_false_iff.mpr hb
              · exact k2 t (by omega) h2
        obtain ⟨k1, k2⟩ := key n (b + 1) y e2
        exact ⟨by omega, fun t h1 h2 => k2 t (by omega) h2⟩
      | succ i => exact tk_next (by simpa using h1) (by simpa using h2)
    · rename_i hS
      rw [if_neg hS] at h2
      exact tk_next h1 h2
/-- gaps of a row, from z on -/
def GapLe (G : Int) : Int → List Int → Prop
  | _, [] => True
  | z, t :: r => t - z ≤ G ∧ GapLe G t r
def GapGt (G : Int) : Int → List Int → Prop
  | _, [] => True
  | z, t :: r => G < t - z ∧ GapGt G t r
theorem hit_find : ∀ {F z : Int} {l : List Int}, GapLe G z l → hit L G F z l = l.find? fun t => decide (L ≤ t - F)
  | _, _, [], _ => rfl
  | F, z, t :: r, h => by
    have e : nw G F z t = F := if_neg (by have := h.1; omega)
    simp only [hit, List.find?]
    rw [e, hit_find h.2]
    by_cases q : L ≤ t - F <;> simp [q]
theorem hit_never (hL : 1 ≤ L) : ∀ {F z : Int} {l : List Int}, GapGt G z l → hit L G F z l = none
  | _, _, [], _ => rfl
  | F, z, t :: r, h => by
    have e : nw G F z t = t := if_pos h.1
    simp only [hit]
    rw [e, hit_never hL h.2, if_neg (by omega)]
theorem gapLe_of : ∀ {z : Int} {l : List Int}, (∀ i x y, (z :: l)[i]? = some x → (z :: l)[i + 1]? = some y → y - x ≤ G) → GapLe G z l
  | _, [], _ => trivial
  | z, t :: r, h => ⟨h 0 z t rfl rfl, gapLe_of fun i x y h1 h2 => h (i + 1) x y (by simpa using h1) (by simpa using h2)⟩
theorem gapGt_of : ∀ {z : Int} {l : List Int}, (∀ i x y, (z :: l)[i]? = some x → (z :: l)[i + 1]? = some y → G < y - x) → GapGt G z l
  | _, [], _ => trivial
  | z, t :: r, h => ⟨h 0 z t rfl rfl, gapGt_of fun i x y h1 h2 => h (i + 1) x y (by simpa using h1) (by simpa using h2)⟩
theorem find_tk (q : Int → Bool) {x : Int} : ∀ {n : Nat} {b : Int}, b ≤ x → x < b + n → S x = true → q x = true → (∀ t, b ≤ t → t < x → S t = true → q t = false) → (tk S n b).find? q = some x
  | 0, b, h1, h2, _, _, _ => by omega
  | n + 1, b, h1, h2, h3, h4, h5 => by
    simp only [tk]
    by_cases e : b = x
    · subst e
      rw [if_pos h3]
      simp [List.find?, h4]
    · have ih := find_tk (n := n) (b := b + 1) q (by omega) (by omega) h3 h4 fun t a1 a2 => h5 t (by omega) a2
      split
      · rename_i hb
        simp [List.find?, h5 b (Int.le_refl _) (by omega) hb, ih]
      · exact ih
theorem find_tk_none (q : Int → Bool) {n : Nat} {b : Int} (h : ∀ t, b ≤ t → t < b + n → S t = true → q t = false) : (tk S n b).find? q = none := by
  rw [List.find?_eq_none]
  intro t ht
  obtain ⟨h1, h2, h3⟩ := mem_tk.mp ht
  rw [h t h1 h2 h3]
  decide
/-- the first tick -/
theorem tk_first {x : Int} : ∀ {n : Nat} {b : Int}, b ≤ x → x < b + n → S x = true → (∀ t, b ≤ t → t < x → S t = false) → ∃ r, tk S n b = x :: r
  | 0, b, h1, h2, _, _ => by omega
  | n + 1, b, h1, h2, h3, h4 => by
    simp only [tk]
    by_cases e : b = x
    · subst e
      rw [if_pos h3]
      exact ⟨_, rfl⟩
    · rw [h4 b (Int.le_refl _) (by omega), if_neg (by decide)]
      exact tk_first (by omega) (by omega) h3 fun t a1 a2 => h4 t (by omega) a2
theorem tk_first_ex {x : Int} : ∀ {n : Nat} {b : Int}, b ≤ x → x < b + n → S x = true → ∃ r, ∃ y, tk S n b = y :: r ∧ y ≤ x
  | 0, b, h1, h2, _ => by omega
  | n + 1, b, h1, h2, h3 => by
    simp only [tk]
    split
    · exact ⟨_, b, rfl, h1⟩
    · rename_i hb
      have : b ≠ x := fun e => hb (e ▸ h3)
      exact tk_first_ex (by omega) (by omega) h3
/-- no break: the first tick that far behind the first -/
theorem hit0_find (hL : 1 ≤ L) {n : Nat} {b F : Int} {r : List Int} (e : tk S n b = F :: r) (h : ∀ x y, x < y → S x = true → S y = true → (∀ t, x < t → t < y → S t = false) → y - x ≤ G) :
    hit0 L G (tk S n b) = (tk S n b).find? fun t => decide (L ≤ t - F) := by
  have g : GapLe G F r := gapLe_of fun i x y h1 h2 => by
    rw [← e] at h1 h2
    obtain ⟨k1, k2⟩ := tk_next h1 h2
    exact h x y k1 (mem_tk.mp (List.mem_of_getElem? h1)).2.2 (mem_tk.mp (List.mem_of_getElem? h2)).2.2 k2
  rw [e]
  show hit L G F F r = _
  rw [hit_find g]
  have : ¬ L ≤ 0 := by omega
  simp [List.find?, this]
theorem hit0_none (hL : 1 ≤ L) {n : Nat} {b : Int} (h : ∀ x y, x < y → S x = true → S y = true → (∀ t, x < t → t < y → S t = false) → G < y - x) : hit0 L G (tk S n b) = none := by
  cases e : tk S n b with
  | nil => rfl
  | cons F r =>
    refine hit_never hL (gapGt_of fun i x y h1 h2 => ?_)
    rw [← e] at h1 h2
    obtain ⟨k1, k2⟩ := tk_next h1 h2
    exact h x y k1 (mem_tk.mp (List.mem_of_getElem? h1)).2.2 (mem_tk.mp (List.mem_of_getElem? h2)).2.2 k2
end
/-! ### even sets -/
def ev (s a : Int) : Int → Bool := fun t => decide (t % s = a)
section
variable {s a L G : Int}
theorem ev_iff {t : Int} : ev s a t = true ↔ t % s = a := decide_eq_true_iff
/-- the first from b on -/
def fst (s a b : Int) : Int := b + (a - b) % s
theorem emod_eq_of {x y s : Int} (h : s ∣ x - y) : x % s = y % s := Int.emod_eq_emod_iff_emod_sub_eq_zero.mpr (Int.emod_eq_zero_of_dvd h)
theorem dvd_of_emod {x y s : Int} (h : x % s = y % s) : s ∣ x - y := Int.dvd_of_emod_eq_zero (Int.emod_eq_emod_iff_emod_sub_eq_zero.mp h)
theorem ev_add {t k : Int} (h : s ∣ k) : ev s a (t + k) = ev s a t := by
  have : (t + k) % s = t % s := emod_eq_of (by rw [show t + k - t = k by omega]; exact h)
  unfold ev
  rw [this]
theorem ev_gap {x y : Int} (hs : 0 < s) (h : x < y) (hx : ev s a x = true) (hy : ev s a y = true) : s ≤ y - x :=
  Int.le_of_dvd (by omega) (dvd_of_emod ((ev_iff.mp hy).trans (ev_iff.mp hx).symm))
theorem ev_next {x y : Int} (hs : 0 < s) (h : x < y) (hx : ev s a x = true) (hy : ev s a y = true) (hn : ∀ t, x < t → t < y → ev s a t = false) : y - x = s := by
  have h1 := ev_gap hs h hx hy
  have h2 : ¬ x + s < y := fun z => by
    have := hn (x + s) (by omega) z
    rw [ev_add (Int.dvd_refl s), hx] at this
    cases this
  omega
theorem fst_ge (hs : 0 < s) (b : Int) : b ≤ fst s a b ∧ fst s a b < b + s := by
  have h1 := Int.emod_nonneg (a - b) (show s ≠ 0 by omega)
  have h2 := Int.emod_lt_of_pos (a - b) hs
  unfold fst
  omega
theorem fst_ev (h0 : 0 ≤ a) (h1 : a < s) (b : Int) : ev s a (fst s a b) = true := by
  refine ev_iff.mpr ((emod_eq_of (y := a) ?_).trans (Int.emod_eq_of_lt h0 h1))
  have e := Int.emod_add_mul_ediv (a - b) s
  refine ⟨-((a - b) / s), ?_⟩
  unfold fst
  rw [Int.mul_neg]
  omega
theorem fst_no (h0 : 0 ≤ a) (h1 : a < s) {b t : Int} (hb : b ≤ t) (ht : t < fst s a b) : ev s a t = false := by
  refine Bool.eq_false_iff.mpr fun z => ?_
  have := ev_gap (by omega) ht z (fst_ev h0 h1 b)
  have := fst_ge (a := a) (by omega : 0 < s) b
  omega
/-- so many steps as make the limit -/
def far (s L : Int) : Int := s * ((L + s - 1) / s)
theorem far_dvd : s ∣ far s L := ⟨_, rfl⟩
theorem far_ge (hs : 0 < s) : L ≤ far s L ∧ far s L < L + s := by
  have h1 := Int.emod_add_mul_ediv (L + s - 1) s
  have h2 := Int.emod_nonneg (L + s - 1) (show s ≠ 0 by omega)
  have h3 := Int.emod_lt_of_pos (L + s - 1) hs
  unfold far
  omega
theorem hit0_ev (hL : 1 ≤ L) (h0 : 0 ≤ a) (h1 : a < s) (hG : s ≤ G) (n : Nat) (b : Int) : hit0 L G (tk (ev s a) n b) = if fst s a b + far s L < b + n then some (fst s a b + far s L) else none := by
  have hs : 0 < s := by omega
  have f1 := fst_ge (a := a) hs b
  have f2 := far_ge (L := L) hs
  by_cases hn : fst s a b < b + n
  · obtain ⟨r, e⟩ := tk_first f1.1 hn (fst_ev h0 h1 b) fun t q1 q2 => fst_no h0 h1 q1 q2
    rw [hit0_find hL e fun x y k1 k2 k3 k4 => by rw [ev_next hs k1 k2 k3 k4]; exact hG]
    have hno : ∀ t, b ≤ t → t < fst s a b + far s L → ev s a t = true → decide (L ≤ t - fst s a b) = false := fun t q1 q2 q3 => by
      refine decide_eq_false fun z => ?_
      have hx : ev s a (fst s a b + far s L) = true := by rw [ev_add far_dvd]; exact fst_ev h0 h1 b
      have := ev_gap hs q2 q3 hx
      omega
    split
    · rename_i h
      exact find_tk _ (by omega) h (by rw [ev_add far_dvd]; exact fst_ev h0 h1 b) (decide_eq_true (by omega)) fun t q1 q2 q3 => hno t q1 q2 q3
    · rename_i h
      exact find_tk_none _ fun t q1 q2 q3 => hno t q1 (by omega) q3
  · rw [tk_none fun t q1 q2 => fst_no h0 h1 q1 (by omega), if_neg (by omega)]
    rfl
theorem pair_ev (h0 : 0 ≤ a) (h1 : a < s) {n : Nat} {b f : Int} (hf : f ∈ tk (ev s a) n b) (h : L ≤ fst s a b + far s L - f) : f = fst s a b := by
  have hs : 0 < s := by omega
  obtain ⟨q1, q2, q3⟩ := mem_tk.mp hf
  have f2 := far_ge (L := L) hs
  rcases Int.lt_or_le f (fst s a b) with z | z
  · rw [fst_no h0 h1 q1 z] at q3; cases q3
  · by_cases e : f = fst s a b
    · exact e
    · have := ev_gap hs (by omega) (fst_ev h0 h1 b) q3
      omega
end
end TK

/-! ticks magnified -/
namespace TK
section
variable {S : Int → Bool} {L G c : Int}
theorem nw_mag (hc : 0 < c) (F z t : Int) : nw (c * G) (c * F) (c * z) (c * t) = c * nw G F z t := by
  unfold nw
  have e : c * t - c * z = c * (t - z) := by rw [Int.mul_sub]
  by_cases h : G < t - z
  · rw [if_pos h, if_pos (by rw [e]; exact Int.mul_lt_mul_of_pos_left h hc)]
  · rw [if_neg h, if_neg (by rw [e]; exact fun q => h (Int.lt_of_mul_lt_mul_left q (by omega)))]
theorem hit_mag (hc : 0 < c) : ∀ {F z : Int} {l : List Int}, hit (c * L) (c * G) (c * F) (c * z) (l.map fun t => c * t) = (hit L G F z l).map fun t => c * t
  | _, _, [] => rfl
  | F, z, t :: r => by
    simp only [List.map_cons, hit]
    rw [nw_mag hc]
    have e : c * t - c * nw G F z t = c * (t - nw G F z t) := by rw [Int.mul_sub]
    by_cases h : L ≤ t - nw G F z t
    · rw [if_pos h, if_pos (by rw [e]; exact Int.mul_le_mul_of_nonneg_left h (by omega))]
      rfl
    · rw [if_neg h, if_neg (by rw [e]; exact fun q => h (Int.le_of_mul_le_mul_left q hc))]
      exact hit_mag hc
theorem hit0_mag (hc : 0 < c) {l : List Int} : hit0 (c * L) (c * G) (l.map fun t => c * t) = (hit0 L G l).map fun t => c * t := by
  cases l with
  | nil => rfl
  | cons t r => exact hit_mag hc
/-- the set of the magnified ticks -/
def mag (S : Int → Bool) (c : Int) : Int → Bool := fun t => decide (t % c = 0) && S (t / c)
theorem tk_mag (hc : 0 < c) : ∀ (n : Nat) (b : Int), tk (mag S c) (n * c.toNat) (c * b) = (tk S n b).map fun t => c * t
  | 0, b => by rw [Nat.zero_mul]; rfl
  | n + 1, b => by
    have ih := tk_mag hc n (b + 1)
    have e : (n + 1) * c.toNat = c.toNat + n * c.toNat := by rw [Nat.add_mul, Nat.one_mul, Nat.add_comm]
    have e2 : c * b + (c.toNat : Int) = c * (b + 1) := by rw [Int.toNat_of_nonneg (by omega), Int.mul_add, Int.mul_one]
    rw [e, tk_append, e2, ih]
    obtain ⟨k, hk⟩ : ∃ k : Nat, c.toNat = k + 1 := ⟨c.toNat - 1, by omega⟩
    have m0 : mag S c (c * b) = S b := by
      unfold mag
      rw [Int.mul_emod_right, Int.mul_ediv_cancel_left _ (by omega)]
      simp
    have mn : tk (mag S c) k (c * b + 1) = [] := tk_none fun t h1 h2 => by
      unfold mag
      have : ¬ t % c = 0 := fun z => by
        obtain ⟨d, rfl⟩ := Int.dvd_of_emod_eq_zero z
        have h3 : c * b < c * d := by omega
        have h4 := Int.lt_of_mul_lt_mul_left h3 (by omega)
        have h5 : c * (b + 1) ≤ c * d := Int.mul_le_mul_of_nonneg_left (by omega) (by omega)
        rw [Int.mul_add] at h5
        omega
      rw [decide_eq_false this]
      rfl
    rw [hk]
    simp only [tk]
    rw [m0, mn]
    split <;> rfl
end
end TK

/-! a run in a window makes a hit there -/
namespace TK
section
variable {L G : Int}
theorem nw_le {F z t : Int} (h : F ≤ z) (hz : z ≤ t) : nw G F z t ≤ t := by
  unfold nw
  split <;> omega
/-- a run r behind f, all gaps short, its end v far enough: a hit, whatever stands ahead -/
theorem hit_run {f v : Int} {r l2 : List Int} (hr : GapLe G f r) (hv : v ∈ r) (hL : L ≤ v - f) : ∀ {l : List Int} {F z : Int}, F ≤ z → (∀ t ∈ l, z ≤ t) → l.Pairwise (· ≤ ·) → (∀ t ∈ l, t ≤ f) → z ≤ f → hit L G F z (l ++ f :: (r ++ l2)) ≠ none
  | [], F, z, h, _, _, _, hzf => by
    rw [List.nil_append]
    simp only [hit]
    split
    · exact fun q => nomatch q
    · have hle : nw G F z f ≤ f := nw_le h hzf
      have : hit L G (nw G F z f) f r ≠ none := by
        rw [hit_find hr]
        intro q
        rw [List.find?_eq_none] at q
        exact q v hv (decide_eq_true (by omega))
      obtain ⟨t, ht⟩ := Option.ne_none_iff_exists'.mp this
      rw [hit_append ht]
      exact fun q => nomatch q
  | t :: l, F, z, h, h1, h2, h3, hzf => by
    rw [List.cons_append]
    simp only [hit]
    split
    · exact fun q => nomatch q
    · obtain ⟨p1, p2⟩ := List.pairwise_cons.mp h2
      exact hit_run hr hv hL (nw_le h (h1 t List.mem_cons_self)) p1 p2 (fun u hu => h3 u (List.mem_cons_of_mem _ hu)) (h3 t List.mem_cons_self)
theorem tk_pw {S : Int → Bool} : ∀ (n : Nat) (b : Int), (tk S n b).Pairwise (· ≤ ·)
  | 0, _ => .nil
  | n + 1, b => by
    simp only [tk]
    split
    · exact .cons (fun t ht => by have := (mem_tk.mp ht).1; omega) (tk_pw n (b + 1))
    · exact tk_pw n (b + 1)
/-- ticks of a window in which a run is long enough make a hit -/
theorem hit0_run {S : Int → Bool} {f v b : Int} {n : Nat} (hf : S f = true) (hv : S v = true) (hfv : f < v) (hL : L ≤ v - f) (hb : b ≤ f) (hn : v < b + n)
    (hg : ∀ x y, f ≤ x → y ≤ v → x < y → S x = true → S y = true → (∀ t, x < t → t < y → S t = false) → y - x ≤ G) : hit0 L G (tk S n b) ≠ none := by
  have en : n = (f - b).toNat + ((v - f).toNat + 1 + (n - (f - b).toNat - ((v - f).toNat + 1))) := by omega
  have eb : b + ((f - b).toNat : Int) = f := by omega
  obtain ⟨r, er⟩ := tk_first (S := S) (x := f) (n := (v - f).toNat + 1) (b := f) (Int.le_refl _) (by omega) hf fun t a1 a2 => by omega
  have g : GapLe G f r := gapLe_of fun i x y k1 k2 => by
    rw [← er] at k1 k2
    obtain ⟨w1, w2⟩ := tk_next k1 k2
    obtain ⟨u1, u2, u3⟩ := mem_tk.mp (List.mem_of_getElem? k1)
    obtain ⟨v1, v2, v3⟩ := mem_tk.mp (List.mem_of_getElem? k2)
    exact hg x y u1 (by omega) w1 u3 v3 w2
  have hvr : v ∈ r := by
    have : v ∈ f :: r := by rw [← er]; exact mem_tk.mpr ⟨by omega, by omega, hv⟩
    rcases List.mem_cons.mp this with q | q
    · omega
    · exact q
  rw [en, tk_append, tk_append, eb, er]
  generalize tk S (n - (f - b).toNat - ((v - f).toNat + 1)) (f + (((v - f).toNat + 1 : Nat) : Int)) = l2
  cases e1 : tk S (f - b).toNat b with
  | nil =>
    show hit L G f f (r ++ l2) ≠ none
    have : hit L G f f r ≠ none := by
      rw [hit_find g]
      intro q
      rw [List.find?_eq_none] at q
      exact q v hvr (decide_eq_true (by omega))
    obtain ⟨t, ht⟩ := Option.ne_none_iff_exists'.mp this
    rw [hit_append ht]
    exact fun q => nomatch q
  | cons x l =>
    have pw := tk_pw (S := S) (f - b).toNat b
    rw [e1] at pw
    obtain ⟨p1, p2⟩ := List.pairwise_cons.mp pw
    have le : ∀ t ∈ x :: l, t ≤ f := fun t ht => by
      rw [← e1] at ht
      have := (mem_tk.mp ht).2.1
      omega
    show hit L G x x (l ++ f :: (r ++ l2)) ≠ none
    exact hit_run g hvr hL (Int.le_refl _) p1 p2 (fun t ht => le t (List.mem_cons_of_mem _ ht)) (le x List.mem_cons_self)
end
end TK

/-! a hit tells its run -/
namespace TK
section
variable {S : Int → Bool} {L G : Int}
/-- from F to z all gaps are short -/
def RunTo (S : Int → Bool) (G F z : Int) : Prop := S F = true ∧ F ≤ z ∧ ∀ x y, F ≤ x → y ≤ z → x < y → S x = true → S y = true → (∀ t, x < t → t < y → S t = false) → y - x ≤ G
theorem hit_tells : ∀ (n : Nat) (b F z t : Int), z < b → S z = true → (∀ u, z < u → u < b → S u = false) → RunTo S G F z → z - F < L → hit L G F z (tk S n b) = some t →
    ∃ f w, RunTo S G f t ∧ S t = true ∧ L ≤ t - f ∧ f ≤ w ∧ w - f < L ∧ (w < t ∧ S w = true ∧ ∀ u, w < u → u < t → S u = false)
  | 0, b, F, z, t, _, _, _, _, _, h => by cases h
  | n + 1, b, F, z, t, hz, sz, hn, hR, hl, h => by
    simp only [tk] at h
    split at h
    · rename_i hb
      simp only [hit] at h
      by_cases hg : G < b - z
      · have e : nw G F z b = b := if_pos hg
        rw [e] at h
        by_cases h0 : L ≤ b - b
        · rw [if_pos h0] at h
          obtain ⟨_, h1, _⟩ := hR
          omega
        · rw [if_neg h0] at h
          exact hit_tells n (b + 1) b b t (by omega) hb (fun u a1 a2 => by omega) ⟨hb, Int.le_refl _, fun x y a1 a2 a3 => by omega⟩ (by omega) h
      · have e : nw G F z b = F := if_neg hg
        rw [e] at h
        have hR' : RunTo S G F b := ⟨hR.1, by have := hR.2.1; omega, fun x y a1 a2 a3 s1 s2 hno => by
          by_cases hy : y ≤ z
          · exact hR.2.2 x y a1 hy a3 s1 s2 hno
          · have hyb : y = b := by
              refine Classical.byContradiction fun q => ?_
              rw [hn y (by omega) (by omega)] at s2
              cases s2
            subst hyb
            have hxz : x = z := by
              refine Classical.byContradiction fun q => ?_
              rcases Int.lt_or_gt_of_ne q with c | c
              · rw [hno z c hz] at sz; cases sz
              · rw [hn x c a3] at s1; cases s1
            rw [hxz]; omega⟩
        by_cases h0 : L ≤ b - F
        · rw [if_pos h0] at h
          cases h
          exact ⟨F, z, hR', hb, h0, hR.2.1, hl, hz, sz, hn⟩
        · rw [if_neg h0] at h
          exact hit_tells n (b + 1) F b t (by omega) hb (fun u a1 a2 => by omega) hR' (by omega) h
    · rename_i hb
      exact hit_tells n (b + 1) F z t (by omega) sz (fun u a1 a2 => by
        by_cases e : u = b
        · rw [e]; exact Bool.eq_false_iff.mpr hb
        · exact hn u a1 (by omega)) hR hl h
theorem hit0_tells (hL : 1 ≤ L) : ∀ (n : Nat) (b t : Int), hit0 L G (tk S n b) = some t → ∃ f w, RunTo S G f t ∧ S t = true ∧ L ≤ t - f ∧ f ≤ w ∧ w - f < L ∧ (w < t ∧ S w = true ∧ ∀ u, w < u → u < t → S u = false)
  | 0, b, t, h => by cases h
  | n + 1, b, t, h => by
    simp only [tk] at h
    split at h
    · rename_i hb
      exact hit_tells n (b + 1) b b t (by omega) hb (fun u a1 a2 => by omega) ⟨hb, Int.le_refl _, fun x y a1 a2 a3 => by omega⟩ (by omega) h
    · exact hit0_tells hL n (b + 1) t h
theorem per_dvd {p : Int} (per : ∀ t, S (t + p) = S t) {k : Int} (h : p ∣ k) (t : Int) : S (t + k) = S t := by
  obtain ⟨m, rfl⟩ := h
  have nat : ∀ (j : Nat) (t : Int), S (t + p * j) = S t := fun j => by
    induction j with
    | zero => intro t; simp
    | succ j ih =>
      intro t
      rw [show t + p * ((j + 1 : Nat) : Int) = (t + p * j) + p by rw [Int.natCast_add, Int.mul_add]; omega, per, ih]
  rcases Int.le_total 0 m with h | h
  · have := nat m.toNat t
    rw [Int.toNat_of_nonneg h] at this
    exact this
  · have := nat (-m).toNat (t + p * m)
    rw [Int.toNat_of_nonneg (by omega), Int.mul_neg, show t + p * m + -(p * m) = t by omega] at this
    exact this.symm
/-- a round that has a hit has one from each begin on -/
theorem hit0_any {p : Int} (hp : 0 < p) (per : ∀ t, S (t + p) = S t) (hL : 1 ≤ L) {n0 : Nat} {b0 t0 : Int} (h : hit0 L G (tk S n0 b0) = some t0) {n : Nat} {b : Int} (hn : L + 2 * p ≤ n) : hit0 L G (tk S n b) ≠ none := by
  obtain ⟨f, w, ⟨r1, r2, r3⟩, st, hl, hfw, hwl, hwt, sw, hno⟩ := hit0_tells hL n0 b0 t0 h
  have tw : t0 ≤ w + p := by
    refine Classical.byContradiction fun z => ?_
    have := hno (w + p) (by omega) (by omega)
    rw [per, sw] at this
    cases this
  have m1 := Int.emod_nonneg (f - b) (show p ≠ 0 by omega)
  have m2 := Int.emod_lt_of_pos (f - b) hp
  have dv : p ∣ b + (f - b) % p - f := ⟨-((f - b) / p), by
    have := Int.emod_add_mul_ediv (f - b) p
    rw [Int.mul_neg]; omega⟩
  generalize hk : b + (f - b) % p - f = k at dv
  have dvn : p ∣ -k := Int.dvd_neg.mpr dv
  have sh : ∀ t, S (t + k) = S t := per_dvd per dv
  have shn : ∀ t, S (t - k) = S t := fun t => by
    have := sh (t - k)
    rw [show t - k + k = t by omega] at this
    exact this.symm
  refine hit0_run (f := f + k) (v := t0 + k) (by rw [sh]; exact r1) (by rw [sh]; exact st) (by omega) (by omega) (by omega) (by omega) fun x y a1 a2 a3 s1 s2 hn2 => ?_
  have := r3 (x - k) (y - k) (by omega) (by omega) (by omega) (by rw [shn]; exact s1) (by rw [shn]; exact s2) fun u c1 c2 => by
    have := hn2 (u + k) (by omega) (by omega)
    rw [sh] at this
    exact this
  omega
end
end TK

namespace TK
section
variable {S : Int → Bool} {c p : Int}
theorem mag_mul (hc : 0 < c) (t : Int) : mag S c (c * t) = S t := by
  unfold mag
  rw [Int.mul_emod_right, Int.mul_ediv_cancel_left _ (by omega)]
  simp
theorem mag_some {t : Int} (h : mag S c t = true) : ∃ u, t = c * u ∧ (0 < c → S u = true) := by
  unfold mag at h
  rw [Bool.and_eq_true, decide_eq_true_eq] at h
  obtain ⟨u, rfl⟩ := Int.dvd_of_emod_eq_zero h.1
  refine ⟨u, rfl, fun hc => ?_⟩
  have := h.2
  rw [Int.mul_ediv_cancel_left _ (by omega)] at this
  exact this
theorem mag_per (hc : 0 < c) (per : ∀ t, S (t + p) = S t) (t : Int) : mag S c (t + c * p) = mag S c t := by
  unfold mag
  have e1 : (t + c * p) % c = t % c := Int.add_mul_emod_self_left t c p
  rw [e1]
  by_cases h : t % c = 0
  · obtain ⟨u, rfl⟩ := Int.dvd_of_emod_eq_zero h
    have e2 : c * u + c * p = c * (u + p) := by rw [Int.mul_add]
    rw [e2, Int.mul_ediv_cancel_left _ (by omega), Int.mul_ediv_cancel_left _ (by omega), per]
  · rw [decide_eq_false h]
    rfl
end
end TK

/-! even sets with one look left out -/
namespace TK
/-- x the look left out, each p ticks -/
def hl (s p x : Int) : Int → Bool := fun t => decide ((t - x) % s = 0) && !decide ((t - x) % p = 0)
section
variable {s p x L G m : Int}
theorem hl_iff {t : Int} : hl s p x t = true ↔ s ∣ t - x ∧ ¬ p ∣ t - x := by
  unfold hl
  simp only [Bool.and_eq_true, decide_eq_true_eq, Bool.not_eq_true', decide_eq_false_iff_not]
  rw [Int.dvd_iff_emod_eq_zero, Int.dvd_iff_emod_eq_zero]
theorem hl_no {t : Int} (h : s ∣ t - x) : hl s p x t = false ↔ p ∣ t - x := by
  constructor
  · intro q
    refine Classical.byContradiction fun z => ?_
    rw [hl_iff.mpr ⟨h, z⟩] at q
    cases q
  · intro q
    exact Bool.eq_false_iff.mpr fun z => (hl_iff.mp z).2 q
theorem hl_per {t k : Int} (hp : p = m * s) (h : p ∣ k) : hl s p x (t + k) = hl s p x t := by
  have h2 : s ∣ k := Int.dvd_trans ⟨m, by rw [hp, Int.mul_comm]⟩ h
  have e1 : (t + k - x) % s = (t - x) % s := emod_eq_of (by rw [show t + k - x - (t - x) = k by omega]; exact h2)
  have e2 : (t + k - x) % p = (t - x) % p := emod_eq_of (by rw [show t + k - x - (t - x) = k by omega]; exact h)
  unfold hl
  rw [e1, e2]
/-- what follows a tick: a step later, or two steps over the hole -/
theorem hl_next {u v : Int} (hs : 0 < s) (hm : 2 ≤ m) (hp : p = m * s) (h : u < v) (hu : hl s p x u = true) (hv : hl s p x v = true) (hn : ∀ t, u < t → t < v → hl s p x t = false) :
    (v = u + s ∧ ¬ p ∣ u + s - x) ∨ (v = u + 2 * s ∧ p ∣ u + s - x) := by
  obtain ⟨a1, a2⟩ := hl_iff.mp hu
  obtain ⟨b1, b2⟩ := hl_iff.mp hv
  have d1 : s ∣ v - u := by
    have := Int.dvd_sub b1 a1
    rw [show v - x - (u - x) = v - u by omega] at this
    exact this
  have g1 : s ≤ v - u := Int.le_of_dvd (by omega) d1
  have p2 : 2 * s ≤ p := by rw [hp]; exact Int.mul_le_mul_of_nonneg_right hm (by omega)
  have k1 : s ∣ u + s - x := by
    have := Int.dvd_add a1 (Int.dvd_refl s)
    rw [show u - x + s = u + s - x by omega] at this
    exact this
  by_cases hh : p ∣ u + s - x
  · refine .inr ⟨?_, hh⟩
    have ne : v ≠ u + s := fun e => b2 (by rw [e]; exact hh)
    have g2 : 2 * s ≤ v - u := by
      obtain ⟨c, hc⟩ := d1
      have c1 : 1 ≤ c := by
        refine Classical.byContradiction fun z => ?_
        have : s * c ≤ s * 0 := Int.mul_le_mul_of_nonneg_left (by omega) (by omega)
        omega
      have c2 : c ≠ 1 := fun e => ne (by rw [e] at hc; omega)
      have : s * 2 ≤ s * c := Int.mul_le_mul_of_nonneg_left (by omega) (by omega)
      omega
    have k2 : hl s p x (u + 2 * s) = true := by
      refine hl_iff.mpr ⟨?_, fun z => ?_⟩
      · have := Int.dvd_add k1 (Int.dvd_refl s)
        rw [show u + s - x + s = u + 2 * s - x by omega] at this
        exact this
      · have := Int.dvd_sub z hh
        rw [show u + 2 * s - x - (u + s - x) = s by omega] at this
        have := Int.le_of_dvd hs this
        omega
    have : ¬ u + 2 * s < v := fun z => by rw [hn _ (by omega) z] at k2; cases k2
    omega
  · refine .inl ⟨?_, hh⟩
    have k2 : hl s p x (u + s) = true := hl_iff.mpr ⟨k1, hh⟩
    have : ¬ u + s < v := fun z => by rw [hn _ (by omega) z] at k2; cases k2
    omega
/-- the runs are too short: no hit -/
theorem hl_none (hs : 0 < s) (hm : 2 ≤ m) (hp : p = m * s) (hL : 1 ≤ L) (hsG : s ≤ G) (hG : G < 2 * s) (hr : p - 2 * s < L) : ∀ (n : Nat) (b F z : Int), z < b → hl s p x z = true → z - F ≤ (z - x) % p - s → (∀ t, z < t → t < b → hl s p x t = false) →
    hit L G F z (tk (hl s p x) n b) = none
  | 0, _, _, _, _, _, _, _ => rfl
  | n + 1, b, F, z, hz, h1, h2, h3 => by
    have p2 : 2 * s ≤ p := by rw [hp]; exact Int.mul_le_mul_of_nonneg_right hm (by omega)
    have dsp : s ∣ p := ⟨m, by rw [hp, Int.mul_comm]⟩
    -- a tick's place in its period
    have place : ∀ t, hl s p x t = true → s ≤ (t - x) % p ∧ (t - x) % p ≤ p - s := fun t ht => by
      obtain ⟨c1, c2⟩ := hl_iff.mp ht
      have n0 := Int.emod_nonneg (t - x) (show p ≠ 0 by omega)
      have n1 := Int.emod_lt_of_pos (t - x) (show 0 < p by omega)
      have ne : (t - x) % p ≠ 0 := fun e => c2 (Int.dvd_of_emod_eq_zero e)
      have d : s ∣ (t - x) % p := by
        have e := Int.emod_add_mul_ediv (t - x) p
        have e2 : (t - x) % p = (t - x) - p * ((t - x) / p) := by omega
        rw [e2]
        exact Int.dvd_sub c1 (Int.dvd_trans dsp ⟨_, rfl⟩)
      have d2 : s ∣ p - (t - x) % p := Int.dvd_sub dsp d
      have q1 := Int.le_of_dvd (by omega) d
      have q2 := Int.le_of_dvd (by omega) d2
      omega
    simp only [tk]
    split
    · rename_i hb
      simp only [hit]
      have pb := place b hb
      have pz := place z h1
      rcases hl_next hs hm hp hz h1 hb h3 with ⟨e, _⟩ | ⟨e, _⟩
      · have en : nw G F z b = F := if_neg (by omega)
        have ep : (b - x) % p = (z - x) % p + s := by
          have w1 : (b - x) % p = ((z - x) % p + s) % p := emod_eq_of (by
            have := Int.emod_add_mul_ediv (z - x) p
            refine ⟨(z - x) / p, ?_⟩
            omega)
          by_cases w2 : (z - x) % p + s < p
          · rw [w1, Int.emod_eq_of_lt (by omega) w2]
          · have w3 : (z - x) % p + s = p := by omega
            rw [w3, Int.emod_self] at w1
            omega
        rw [en, if_neg (by omega)]
        exact hl_none hs hm hp hL hsG hG hr n (b + 1) F b (by omega) hb (by omega) fun t a1 a2 => by omega
      · have en : nw G F z b = b := if_pos (by omega)
        rw [en, if_neg (by omega)]
        exact hl_none hs hm hp hL hsG hG hr n (b + 1) b b (by omega) hb (by omega) fun t a1 a2 => by omega
    · rename_i hb
      exact hl_none hs hm hp hL hsG hG hr n (b + 1) F z (by omega) h1 h2 fun t a1 a2 => by
        by_cases e : t = b
        · rw [e]; exact Bool.eq_false_iff.mpr hb
        · exact h3 t a1 (by omega)
theorem hl_none0 (hs : 0 < s) (hm : 2 ≤ m) (hp : p = m * s) (hL : 1 ≤ L) (hsG : s ≤ G) (hG : G < 2 * s) (hr : p - 2 * s < L) : ∀ (n : Nat) (b : Int), hit0 L G (tk (hl s p x) n b) = none
  | 0, _ => rfl
  | n + 1, b => by
    simp only [tk]
    split
    · rename_i hb
      obtain ⟨c1, c2⟩ := hl_iff.mp hb
      have p2 : 2 * s ≤ p := by rw [hp]; exact Int.mul_le_mul_of_nonneg_right hm (by omega)
      have dsp : s ∣ p := ⟨m, by rw [hp, Int.mul_comm]⟩
      have n0 := Int.emod_nonneg (b - x) (show p ≠ 0 by omega)
      have ne : (b - x) % p ≠ 0 := fun e => c2 (Int.dvd_of_emod_eq_zero e)
      have d : s ∣ (b - x) % p := by
        have e := Int.emod_add_mul_ediv (b - x) p
        have e2 : (b - x) % p = (b - x) - p * ((b - x) / p) := by omega
        rw [e2]
        exact Int.dvd_sub c1 (Int.dvd_trans dsp ⟨_, rfl⟩)
      have q1 := Int.le_of_dvd (by omega) d
      exact hl_none hs hm hp hL hsG hG hr n (b + 1) b b (by omega) hb (by omega) fun t a1 a2 => by omega
    · exact hl_none0 hs hm hp hL hsG hG hr n (b + 1)
/-- a tick within two steps -/
theorem hl_some (hs : 0 < s) (hm : 2 ≤ m) (hp : p = m * s) (b : Int) : ∃ t, b ≤ t ∧ t < b + 2 * s ∧ hl s p x t = true := by
  have p2 : 2 * s ≤ p := by rw [hp]; exact Int.mul_le_mul_of_nonneg_right hm (by omega)
  have h1 := Int.emod_nonneg (x - b) (show s ≠ 0 by omega)
  have h2 := Int.emod_lt_of_pos (x - b) hs
  have e := Int.emod_add_mul_ediv (x - b) s
  have d : s ∣ b + (x - b) % s - x := ⟨-((x - b) / s), by rw [Int.mul_neg]; omega⟩
  by_cases h : p ∣ b + (x - b) % s - x
  · refine ⟨b + (x - b) % s + s, by omega, by omega, hl_iff.mpr ⟨?_, fun z => ?_⟩⟩
    · have := Int.dvd_add d (Int.dvd_refl s)
      rw [show b + (x - b) % s - x + s = b + (x - b) % s + s - x by omega] at this
      exact this
    · have := Int.dvd_sub z h
      rw [show b + (x - b) % s + s - x - (b + (x - b) % s - x) = s by omega] at this
      have := Int.le_of_dvd hs this
      omega
  · exact ⟨b + (x - b) % s, by omega, by omega, hl_iff.mpr ⟨d, h⟩⟩
theorem hl_first (hs : 0 < s) (hm : 2 ≤ m) (hp : p = m * s) {n : Nat} {b : Int} (hn : 2 * s ≤ n) : ∃ F r, tk (hl s p x) n b = F :: r ∧ b ≤ F ∧ F < b + 2 * s := by
  obtain ⟨t, h1, h2, h3⟩ := hl_some (x := x) hs hm hp b
  cases e : tk (hl s p x) n b with
  | nil =>
    have : t ∈ tk (hl s p x) n b := mem_tk.mpr ⟨h1, by omega, h3⟩
    rw [e] at this
    cases this
  | cons F r =>
    refine ⟨F, r, rfl, ?_, ?_⟩
    · have : F ∈ tk (hl s p x) n b := by rw [e]; exact List.mem_cons_self
      exact (mem_tk.mp this).1
    · refine Classical.byContradiction fun z => ?_
      obtain ⟨r', e'⟩ := tk_first_ex (n := n) (b := b) h1 (by omega) h3
      rw [e] at e'
      obtain ⟨y, hy, hyt⟩ := e'
      cases hy
      omega
/-- long gaps allowed: a hit within -/
theorem hl_hitA (hs : 0 < s) (hm : 2 ≤ m) (hp : p = m * s) (hL : 1 ≤ L) (hG : 2 * s ≤ G) {n : Nat} {b : Int} (hn : L + 4 * s ≤ n) : hit0 L G (tk (hl s p x) n b) ≠ none := by
  obtain ⟨F, r, e, f1, f2⟩ := hl_first (x := x) hs hm hp (n := n) (b := b) (by omega)
  rw [hit0_find hL e fun u v k1 k2 k3 k4 => by
    rcases hl_next hs hm hp k1 k2 k3 k4 with ⟨q, _⟩ | ⟨q, _⟩ <;> omega]
  obtain ⟨t, h1, h2, h3⟩ := hl_some (x := x) hs hm hp (F + L)
  intro z
  rw [List.find?_eq_none] at z
  exact z t (mem_tk.mpr ⟨by omega, by omega, h3⟩) (decide_eq_true (by omega))
theorem hit_restart {f : Int} {r : List Int} : ∀ {F z : Int} {l : List Int}, G < f - (z :: l).getLast (List.cons_ne_nil _ _) → 1 ≤ L → hit L G F z (l ++ f :: r) = match hit L G F z l with
    | some t => some t
    | none => hit L G f f r
  | F, z, [], h, hL => by
    have e : nw G F z f = f := if_pos h
    simp only [List.nil_append, hit]
    rw [e, if_neg (by omega)]
  | F, z, t :: l, h, hL => by
    have ih := hit_restart (f := f) (r := r) (F := nw G F z t) (z := t) (l := l) (by rw [List.getLast_cons (List.cons_ne_nil _ _)] at h; exact h) hL
    simp only [List.cons_append, hit]
    split
    · rfl
    · exact ih
/-- a run long enough: a hit within two periods -/
theorem hl_hitB (hs : 0 < s) (hm : 2 ≤ m) (hp : p = m * s) (hL : 1 ≤ L) (hsG : s ≤ G) (hG : G < 2 * s) (hr : L ≤ p - 2 * s) {n : Nat} {b : Int} (hn : 2 * p ≤ n) : hit0 L G (tk (hl s p x) n b) ≠ none := by
  have p2 : 2 * s ≤ p := by rw [hp]; exact Int.mul_le_mul_of_nonneg_right hm (by omega)
  have dsp : s ∣ p := ⟨m, by rw [hp, Int.mul_comm]⟩
  have m1 := Int.emod_nonneg (x - b) (show p ≠ 0 by omega)
  have m2 := Int.emod_lt_of_pos (x - b) (show 0 < p by omega)
  have hd : p ∣ b + (x - b) % p - x := ⟨-((x - b) / p), by
    have e := Int.emod_add_mul_ediv (x - b) p
    rw [Int.mul_neg]; omega⟩
  generalize hh : b + (x - b) % p = h at hd
  have h1 : b ≤ h := by omega
  have h2 : h < b + p := by omega
  -- the run's first
  have sf : hl s p x (h + s) = true := by
    refine hl_iff.mpr ⟨?_, fun z => ?_⟩
    · have := Int.dvd_add (Int.dvd_trans dsp hd) (Int.dvd_refl s)
      rw [show h - x + s = h + s - x by omega] at this
      exact this
    · have := Int.dvd_sub z hd
      rw [show h + s - x - (h - x) = s by omega] at this
      have := Int.le_of_dvd hs this
      omega
  have en : n = (h + s - b).toNat + ((p - 2 * s + 1).toNat + (n - (h + s - b).toNat - (p - 2 * s + 1).toNat)) := by omega
  have eb : b + ((h + s - b).toNat : Int) = h + s := by omega
  obtain ⟨r1, er⟩ := tk_first (S := hl s p x) (x := h + s) (n := (p - 2 * s + 1).toNat) (b := h + s) (Int.le_refl _) (by omega) sf fun t a1 a2 => by omega
  -- its last
  have sl : hl s p x (h + p - s) = true := by
    refine hl_iff.mpr ⟨?_, fun z => ?_⟩
    · have := Int.dvd_sub (Int.dvd_add (Int.dvd_trans dsp hd) dsp) (Int.dvd_refl s)
      rw [show h - x + p - s = h + p - s - x by omega] at this
      exact this
    · have := Int.dvd_sub (Int.dvd_add hd (Int.dvd_refl p)) z
      rw [show h - x + p - (h + p - s - x) = s by omega] at this
      have := Int.le_of_dvd hs this
      omega
  have g : GapLe G (h + s) r1 := gapLe_of fun i u v k1 k2 => by
    rw [← er] at k1 k2
    obtain ⟨w1, w2⟩ := tk_next k1 k2
    obtain ⟨u1, u2, u3⟩ := mem_tk.mp (List.mem_of_getElem? k1)
    obtain ⟨v1, v2, v3⟩ := mem_tk.mp (List.mem_of_getElem? k2)
    rcases hl_next hs hm hp w1 u3 v3 w2 with ⟨q, _⟩ | ⟨q, q2⟩
    · omega
    · have d := Int.dvd_sub q2 hd
      rw [show u + s - x - (h - x) = u + s - h by omega] at d
      have := Int.le_of_dvd (by omega) d
      omega
  have hr1 : hit L G (h + s) (h + s) r1 ≠ none := by
    rw [hit_find g]
    intro z
    rw [List.find?_eq_none] at z
    have mem : h + p - s ∈ (h + s) :: r1 := by
      rw [← er]
      exact mem_tk.mpr ⟨by omega, by omega, sl⟩
    rcases List.mem_cons.mp mem with q | q
    · omega
    · exact z _ q (decide_eq_true (by omega))
  obtain ⟨t, ht⟩ := Option.ne_none_iff_exists'.mp hr1
  rw [en, tk_append, tk_append, eb, er]
  generalize tk (hl s p x) (n - (h + s - b).toNat - (p - 2 * s + 1).toNat) (h + s + ((p - 2 * s + 1).toNat : Int)) = r2
  have ht2 : hit L G (h + s) (h + s) (r1 ++ r2) = some t := hit_append ht
  cases e1 : tk (hl s p x) (h + s - b).toNat b with
  | nil =>
    show hit L G (h + s) (h + s) (r1 ++ r2) ≠ none
    rw [ht2]
    exact fun q => nomatch q
  | cons F l =>
    have lm : (F :: l).getLast (List.cons_ne_nil _ _) ∈ tk (hl s p x) (h + s - b).toNat b := by
      rw [e1]
      exact List.getLast_mem _
    obtain ⟨q1, q2, q3⟩ := mem_tk.mp lm
    have gl : G < (h + s) - (F :: l).getLast (List.cons_ne_nil _ _) := by
      generalize (F :: l).getLast (List.cons_ne_nil _ _) = z at q1 q2 q3
      obtain ⟨z1, z2⟩ := hl_iff.mp q3
      have d : s ∣ h - z := by
        have := Int.dvd_sub (Int.dvd_trans dsp hd) z1
        rw [show h - x - (z - x) = h - z by omega] at this
        exact this
      have ne : z ≠ h := fun e => z2 (by rw [e]; exact hd)
      rcases Int.lt_or_gt_of_ne ne with c | c
      · have := Int.le_of_dvd (by omega) d
        omega
      · have := Int.le_of_dvd (by omega) (show s ∣ z - h by rw [show z - h = -(h - z) by omega]; exact Int.dvd_neg.mpr d)
        omega
    show hit L G F F (l ++ (h + s) :: (r1 ++ r2)) ≠ none
    rw [hit_restart gl hL, ht2]
    cases hit L G F F l <;> exact fun q => nomatch q
end
end TK

/-! gaps of a round -/
namespace TK
section
variable {S : Int → Bool} {p : Int}
theorem tk_head : ∀ {n : Nat} {b y : Int} {r : List Int}, tk S n b = y :: r → b ≤ y ∧ y < b + n ∧ S y = true ∧ ∀ t, b ≤ t → t < y → S t = false
  | 0, b, y, r, h => by simp [tk] at h
  | n + 1, b, y, r, h => by
    simp only [tk] at h
    split at h
    · rename_i hb
      cases h
      exact ⟨Int.le_refl _, by omega, hb, fun t h1 h2 => by omega⟩
    · rename_i hb
      obtain ⟨k1, k2, k3, k4⟩ := tk_head h
      refine ⟨by omega, by omega, k3, fun t h1 h2 => ?_⟩
      by_cases e : t = b
      · rw [e]; exact Bool.eq_false_iff.mpr hb
      · exact k4 t (by omega) h2
theorem zip_idx {l m : List Int} {q : Int × Int} (h : q ∈ l.zip m) : ∃ i : Nat, l[i]? = some q.1 ∧ m[i]? = some q.2 := by
  obtain ⟨i, hi⟩ := List.mem_iff_getElem?.mp h
  exact ⟨i, List.getElem?_zip_eq_some.mp hi⟩
theorem zip_mem {l m : List Int} {i : Nat} {u v : Int} (h1 : l[i]? = some u) (h2 : m[i]? = some v) : (u, v) ∈ l.zip m :=
  List.mem_iff_getElem?.mpr ⟨i, List.getElem?_zip_eq_some.mpr ⟨h1, h2⟩⟩
theorem asc_tk (n : Nat) (b : Int) : ((tk S n b).zip (tk S n b).tail).all (fun q => decide (q.1 < q.2)) = true := by
  rw [List.all_eq_true]
  intro q hq
  obtain ⟨i, h1, h2⟩ := zip_idx hq
  rw [List.getElem?_tail] at h2
  exact decide_eq_true (tk_next h1 h2).1
/-- a period and its first look again -/
theorem tk_wrap (hp : 0 < p) (per : ∀ t, S (t + p) = S t) {a : Int} {r : List Int} (h : tk S p.toNat 0 = a :: r) : tk S (p.toNat + (a.toNat + 1)) 0 = (a :: r) ++ [a + p] := by
  obtain ⟨h1, h2, h3, h4⟩ := tk_head h
  have e : (0 : Int) + (p.toNat : Int) = 0 + p := by omega
  rw [tk_append, h, e, tk_shift, tk_congr (T := S) fun t _ _ => per t, tk_append, tk_none fun t q1 q2 => h4 t q1 (by omega)]
  have ea : (0 : Int) + (a.toNat : Int) = a := by omega
  rw [ea]
  simp [tk, h3]
theorem gap_mem (hp : 0 < p) (per : ∀ t, S (t + p) = S t) {a : Int} {r : List Int} (h : tk S p.toNat 0 = a :: r) {q : Int × Int} (hq : q ∈ (a :: r).zip (r ++ [a + p])) :
    q.1 < q.2 ∧ S q.1 = true ∧ S q.2 = true ∧ ∀ t, q.1 < t → t < q.2 → S t = false := by
  obtain ⟨i, h1, h2⟩ := zip_idx hq
  have w := tk_wrap hp per h
  have k1 : (tk S (p.toNat + (a.toNat + 1)) 0)[i]? = some q.1 := by
    rw [w, List.getElem?_append_left (List.getElem?_eq_some_iff.mp h1).1, h1]
  have k2 : (tk S (p.toNat + (a.toNat + 1)) 0)[i + 1]? = some q.2 := by
    rw [w, List.cons_append, List.getElem?_cons_succ, h2]
  obtain ⟨n1, n2⟩ := tk_next k1 k2
  exact ⟨n1, (mem_tk.mp (List.mem_of_getElem? k1)).2.2, (mem_tk.mp (List.mem_of_getElem? k2)).2.2, n2⟩
theorem gap_ex (hp : 0 < p) (per : ∀ t, S (t + p) = S t) {a : Int} {r : List Int} (h : tk S p.toNat 0 = a :: r) {u v : Int} (hu0 : 0 ≤ u) (hup : u < p) (huv : u < v) (hv : v ≤ a + p) (su : S u = true) (sv : S v = true) (hn : ∀ t, u < t → t < v → S t = false) :
    (u, v) ∈ (a :: r).zip (r ++ [a + p]) := by
  obtain ⟨h1, h2, h3, h4⟩ := tk_head h
  have w := tk_wrap hp per h
  have e : p.toNat + (a.toNat + 1) = u.toNat + (1 + (p.toNat + a.toNat - u.toNat)) := by omega
  have eu : (0 : Int) + (u.toNat : Int) = u := by omega
  obtain ⟨r2, f2⟩ := tk_first (S := S) (x := v) (n := p.toNat + a.toNat - u.toNat) (b := u + 1) (by omega) (by omega) sv fun t q1 q2 => hn t (by omega) q2
  have e2 : tk S (p.toNat + (a.toNat + 1)) 0 = tk S u.toNat 0 ++ u :: v :: r2 := by
    rw [e, tk_append, eu, tk_append]
    have : tk S 1 u = [u] := by simp [tk, su]
    rw [this]
    rw [show u + ((1 : Nat) : Int) = u + 1 from rfl, f2]
    rfl
  rw [w] at e2
  have k1 : ((a :: r) ++ [a + p])[(tk S u.toNat 0).length]? = some u := by
    rw [e2, List.getElem?_append_right (Nat.le_refl _), Nat.sub_self]
    rfl
  have k2 : ((a :: r) ++ [a + p])[(tk S u.toNat 0).length + 1]? = some v := by
    rw [e2, List.getElem?_append_right (by omega), show (tk S u.toNat 0).length + 1 - (tk S u.toNat 0).length = 1 by omega]
    rfl
  refine zip_mem (i := (tk S u.toNat 0).length) ?_ (by rw [List.cons_append, List.getElem?_cons_succ] at k2; exact k2)
  by_cases hi : (tk S u.toNat 0).length < (a :: r).length
  · rw [List.getElem?_append_left hi] at k1
    exact k1
  · rw [List.getElem?_append_right (by omega)] at k1
    have : u = a + p := by
      cases z : (tk S u.toNat 0).length - (a :: r).length with
      | zero => rw [z] at k1; simpa using k1.symm
      | succ n => rw [z] at k1; simp at k1
    omega
end
/-! ### an even round's looks -/
section
variable {s p a x m : Int}
theorem ev_per (hp : p = m * s) (t : Int) : ev s a (t + p) = ev s a t := ev_add ⟨m, by rw [hp, Int.mul_comm]⟩
theorem ev_list (h0 : 0 ≤ a) (h1 : a < s) : ∀ k : Nat, tk (ev s a) (k * s.toNat) 0 = (List.range k).map fun i : Nat => a + s * i
  | 0 => by simp [tk]
  | k + 1 => by
    have ih := ev_list h0 h1 k
    have es : ((k * s.toNat : Nat) : Int) = s * k := by rw [Int.natCast_mul, Int.toNat_of_nonneg (by omega), Int.mul_comm]
    rw [Nat.add_mul, Nat.one_mul, tk_append, ih, List.range_succ, List.map_append, es]
    congr 1
    obtain ⟨r, hr⟩ := tk_first (S := ev s a) (x := a + s * k) (n := s.toNat) (b := 0 + s * k) (by omega) (by omega) (ev_iff.mpr (by
      rw [Int.add_mul_emod_self_left, Int.emod_eq_of_lt h0 h1])) fun t q1 q2 => Bool.eq_false_iff.mpr fun z => by
        have := ev_gap (by omega) q2 z (ev_iff.mpr (by rw [Int.add_mul_emod_self_left, Int.emod_eq_of_lt h0 h1]))
        omega
    rw [hr]
    have : r = [] := by
      cases r with
      | nil => rfl
      | cons y r =>
        have g1 : (tk (ev s a) s.toNat (0 + s * k))[0]? = some (a + s * k) := by rw [hr]; rfl
        have g2 : (tk (ev s a) s.toNat (0 + s * k))[0 + 1]? = some y := by rw [hr]; rfl
        obtain ⟨n1, _⟩ := tk_next g1 g2
        obtain ⟨_, _, m1⟩ := mem_tk.mp (List.mem_of_getElem? g1)
        obtain ⟨_, m3, m2⟩ := mem_tk.mp (List.mem_of_getElem? g2)
        have := ev_gap (by omega) n1 m1 m2
        omega
    rw [this]
    rfl
theorem left_list (hs : 0 < s) (hm : 2 ≤ m) (hp : p = m * s) (hx0 : 0 ≤ x) (hxp : x < p) (hx : ev s a x = true) : (tk (ev s a) p.toNat 0).filter (fun t => !decide (t = x)) = tk (hl s p x) p.toNat 0 := by
  rw [tk_filter]
  refine tk_congr fun t q1 q2 => ?_
  have e1 : ev s a t = decide ((t - x) % s = 0) := by
    unfold ev
    refine decide_eq_decide.mpr ⟨fun h => ?_, fun h => ?_⟩
    · exact Int.emod_eq_zero_of_dvd (dvd_of_emod (h.trans (ev_iff.mp hx).symm))
    · exact (emod_eq_of (Int.dvd_of_emod_eq_zero h)).trans (ev_iff.mp hx)
  have e2 : decide (t = x) = decide ((t - x) % p = 0) := by
    refine decide_eq_decide.mpr ⟨fun h => ?_, fun h => ?_⟩
    · rw [h, Int.sub_self]; exact Int.zero_emod _
    · obtain ⟨c, hc⟩ := Int.dvd_of_emod_eq_zero h
      have c0 : c = 0 := by
        rcases Int.lt_trichotomy c 0 with z | z | z
        · have : p * c ≤ p * (-1) := Int.mul_le_mul_of_nonneg_left (by omega) (by omega)
          omega
        · exact z
        · have : p * 1 ≤ p * c := Int.mul_le_mul_of_nonneg_left (by omega) (by omega)
          omega
      rw [c0] at hc
      omega
  unfold hl
  rw [e1, e2]
end
end TK

/-! windows of magnified ticks; gaps; who is proved at all -/
namespace TK
section
variable {S : Int → Bool} {L G c p : Int}
theorem mag_off {u r : Int} (hc : 0 < c) (h0 : 0 < r) (h1 : r < c) : mag S c (c * u + r) = false := by
  unfold mag
  have : (c * u + r) % c = r := by
    rw [Int.add_comm, Int.add_mul_emod_self_left, Int.emod_eq_of_lt (by omega) h1]
  rw [this, decide_eq_false (by omega)]
  rfl
theorem mag_gap {u : Int} (hc : 0 < c) {t : Int} (h0 : c * u < t) (h1 : t < c * (u + 1)) : mag S c t = false := by
  have e : c * (u + 1) = c * u + c := by rw [Int.mul_add, Int.mul_one]
  have := mag_off (S := S) (u := u) (r := t - c * u) hc (by omega) (by omega)
  rw [show c * u + (t - c * u) = t by omega] at this
  exact this
/-- a window that begins up to c - 1 ticks ahead of a magnified one and ends up to c - 1 ticks ahead of it -/
theorem tk_magR (hc : 0 < c) {W : Nat} {b r q : Int} (hr0 : 0 ≤ r) (hr : r < c) (hq0 : 0 ≤ q) (hq : q < c) {n : Nat} (hn : (n : Int) = c * W + r - q) (hW : 1 ≤ W) :
    tk (mag S c) n (c * b - r) = (tk S W b).map fun t => c * t := by
  have hWc : c * 1 ≤ c * (W : Int) := Int.mul_le_mul_of_nonneg_left (by omega) (by omega)
  have e1 : n = r.toNat + (n - r.toNat) := by omega
  have e2 : c * b - r + (r.toNat : Int) = c * b := by omega
  have z1 : tk (mag S c) r.toNat (c * b - r) = [] := tk_none fun t h1 h2 => by
    have e : c * ((b - 1) + 1) = c * b := by rw [show b - 1 + 1 = b by omega]
    have e3 : c * (b - 1) = c * b - c := by rw [Int.mul_sub, Int.mul_one]
    exact mag_gap (u := b - 1) hc (by omega) (by omega)
  rw [e1, tk_append, z1, e2, List.nil_append, ← tk_mag hc W b]
  have hcn : ((W * c.toNat : Nat) : Int) = c * W := by rw [Int.natCast_mul, Int.toNat_of_nonneg (by omega), Int.mul_comm]
  have e4 : W * c.toNat = (n - r.toNat) + (W * c.toNat - (n - r.toNat)) := by omega
  have e5 : c * (b + W) = c * b + c * W := Int.mul_add ..
  have z2 : tk (mag S c) (W * c.toNat - (n - r.toNat)) (c * b + ((n - r.toNat : Nat) : Int)) = [] := tk_none fun t h1 h2 => by
    have e6 : c * ((b + W - 1) + 1) = c * b + c * W := by rw [show b + W - 1 + 1 = b + W by omega, e5]
    have e7 : c * (b + W - 1) = c * b + c * W - c := by rw [Int.mul_sub, Int.mul_one, e5]
    exact mag_gap (u := b + W - 1) hc (by omega) (by omega)
  rw [e4, tk_append, z2, List.append_nil]
/-! gaps -/
def gapsOf (p : Int) : List Int → List Int
  | [] => []
  | a :: r => ((a :: r).zip (r ++ [a + p])).map fun q => q.2 - q.1
theorem zip_mag (l m : List Int) : (l.map fun t => c * t).zip (m.map fun t => c * t) = (l.zip m).map fun q => (c * q.1, c * q.2) := by
  rw [List.zip_map]
  rfl
theorem gaps_mag (p : Int) (l : List Int) : gapsOf (c * p) (l.map fun t => c * t) = (gapsOf p l).map fun t => c * t := by
  cases l with
  | nil => rfl
  | cons a r =>
    show (((a :: r).map fun t => c * t).zip ((r.map fun t => c * t) ++ [c * a + c * p])).map _ = _
    have e : (r.map fun t => c * t) ++ [c * a + c * p] = (r ++ [a + p]).map fun t => c * t := by
      rw [List.map_append, List.map_singleton, Int.mul_add]
    rw [e, zip_mag, List.map_map]
    show _ = (((a :: r).zip (r ++ [a + p])).map fun q => q.2 - q.1).map _
    rw [List.map_map]
    refine List.map_congr_left fun q _ => ?_
    show c * q.2 - c * q.1 = c * (q.2 - q.1)
    rw [Int.mul_sub]
theorem lt_mag (hc : 0 < c) (x y : Int) : decide (c * x < c * y) = decide (x < y) :=
  decide_eq_decide.mpr ⟨fun h => Int.lt_of_mul_lt_mul_left h (by omega), fun h => Int.mul_lt_mul_of_pos_left h hc⟩
theorem le_mag (hc : 0 < c) (x y : Int) : decide (c * x ≤ c * y) = decide (x ≤ y) :=
  decide_eq_decide.mpr ⟨fun h => Int.le_of_mul_le_mul_left h hc, fun h => Int.mul_le_mul_of_nonneg_left h (by omega)⟩
/-- the looks behind which a gap is too great -/
def farOf (G p : Int) (l : List Int) : List Int := ((l.zip (gapsOf p l)).filter fun q => decide (G < q.2)).map Prod.fst
theorem far_mag (hc : 0 < c) (l : List Int) : farOf (c * G) (c * p) (l.map fun t => c * t) = (farOf G p l).map fun t => c * t := by
  unfold farOf
  rw [gaps_mag, zip_mag, List.filter_map, List.map_map, List.map_map]
  have : ((fun q : Int × Int => decide (c * G < q.2)) ∘ fun q : Int × Int => (c * q.1, c * q.2)) = fun q => decide (G < q.2) := by
    funext q
    exact lt_mag hc G q.2
  rw [this]
  rfl
def nevB (S : Int → Bool) (p L G : Int) : Bool := !(farOf G p (tk S p.toNat 0)).isEmpty && (hit0 L G (tk S (3 * p).toNat 0)).isNone
theorem toNat_mul (hc : 0 ≤ c) {x : Int} (hx : 0 ≤ x) : (c * x).toNat = x.toNat * c.toNat := by
  have h : ((x.toNat * c.toNat : Nat) : Int) = c * x := by
    rw [Int.natCast_mul, Int.toNat_of_nonneg hx, Int.toNat_of_nonneg hc, Int.mul_comm]
  omega
theorem lk_mag (hc : 0 < c) (hp : 0 ≤ p) : tk (mag S c) (c * p).toNat 0 = (tk S p.toNat 0).map fun t => c * t := by
  have := tk_mag (S := S) hc p.toNat 0
  rw [Int.mul_zero] at this
  rw [toNat_mul (by omega) hp, this]
theorem nev_mag (hc : 0 < c) (hp : 0 ≤ p) : nevB (mag S c) (c * p) (c * L) (c * G) = nevB S p L G := by
  unfold nevB
  have h3 := tk_mag (S := S) hc (3 * p).toNat 0
  rw [Int.mul_zero] at h3
  rw [lk_mag hc hp, far_mag hc, show 3 * (c * p) = c * (3 * p) by rw [Int.mul_left_comm], toNat_mul (by omega) (by omega : 0 ≤ 3 * p), h3, hit0_mag hc]
  cases farOf G p (tk S p.toNat 0) <;> cases hit0 L G (tk S (3 * p).toNat 0) <;> rfl
/-- whoever is proved at all is so from each begin on -/
theorem nev_hit (hp : 0 < p) (per : ∀ t, S (t + p) = S t) (hL : 1 ≤ L) {a : Int} {r : List Int} (hl : tk S p.toNat 0 = a :: r) (h : nevB S p L G = false) {n : Nat} {b : Int} (hn : L + 2 * p ≤ n) : hit0 L G (tk S n b) ≠ none := by
  obtain ⟨a0, a1, sa, _⟩ := tk_head hl
  unfold nevB at h
  rw [Bool.and_eq_false_iff] at h
  rcases h with h | h
  · -- all gaps are short
    have hf : farOf G p (tk S p.toNat 0) = [] := by
      cases e : farOf G p (tk S p.toNat 0) with
      | nil => rfl
      | cons _ _ => rw [e] at h; cases h
    have gap : ∀ x y, x < y → S x = true → S y = true → (∀ t, x < t → t < y → S t = false) → y - x ≤ G := fun x y h1 h2 h3 h4 => by
      refine Classical.byContradiction fun hg => ?_
      have m1 := Int.emod_nonneg x (show p ≠ 0 by omega)
      have m2 := Int.emod_lt_of_pos x hp
      have dv : p ∣ x % p - x := ⟨-(x / p), by
        have := Int.emod_add_mul_ediv x p
        rw [Int.mul_neg]; omega⟩
      generalize hk : x % p - x = k at dv
      have sh := per_dvd per dv
      have shn : ∀ t, S (t - k) = S t := fun t => by
        have := sh (t - k)
        rw [show t - k + k = t by omega] at this
        exact this.symm
      have hya : y + k ≤ a + p := by
        refine Classical.byContradiction fun z => ?_
        have q := h4 (a + p - k) (by omega) (by omega)
        rw [shn, per, sa] at q
        cases q
      have mem := gap_ex hp per hl (u := x + k) (v := y + k) (by omega) (by omega) (by omega) hya (by rw [sh]; exact h2) (by rw [sh]; exact h3) fun t t1 t2 => by
        rw [← shn]
        exact h4 (t - k) (by omega) (by omega)
      obtain ⟨i, hi1, hi2⟩ := zip_idx mem
      have : x + k ∈ farOf G p (a :: r) := by
        refine List.mem_map.mpr ⟨(x + k, y - x), List.mem_filter.mpr ⟨zip_mem hi1 ?_, decide_eq_true (by show G < y - x; omega)⟩, rfl⟩
        show (((a :: r).zip (r ++ [a + p])).map fun q => q.2 - q.1)[i]? = _
        rw [List.getElem?_map, List.getElem?_zip_eq_some.mpr ⟨hi1, hi2⟩]
        show some (y + k - (x + k)) = _
        rw [show y + k - (x + k) = y - x by omega]
      rw [hl] at hf
      rw [hf] at this
      cases this
    have m1 := Int.emod_nonneg (a - b) (show p ≠ 0 by omega)
    have m2 := Int.emod_lt_of_pos (a - b) hp
    have dv : p ∣ b + (a - b) % p - a := ⟨-((a - b) / p), by
      have := Int.emod_add_mul_ediv (a - b) p
      rw [Int.mul_neg]; omega⟩
    have sf : S (b + (a - b) % p) = true := by
      have := per_dvd per dv a
      rw [show a + (b + (a - b) % p - a) = b + (a - b) % p by omega] at this
      rw [this]; exact sa
    have q1 := Int.emod_add_mul_ediv (L + p - 1) p
    have q2 := Int.emod_nonneg (L + p - 1) (show p ≠ 0 by omega)
    have q3 := Int.emod_lt_of_pos (L + p - 1) hp
    have sv : S (b + (a - b) % p + p * ((L + p - 1) / p)) = true := by
      rw [per_dvd per ⟨_, rfl⟩]; exact sf
    exact hit0_run (f := b + (a - b) % p) (v := b + (a - b) % p + p * ((L + p - 1) / p)) sf sv (by omega) (by omega) (by omega) (by omega) fun x y _ _ h1 h2 h3 h4 => gap x y h1 h2 h3 h4
  · cases e : hit0 L G (tk S (3 * p).toNat 0) with
    | none => rw [e] at h; cases h
    | some t => exact hit0_any hp per hL e hn
/-- how long one who begins at b must stand -/
def ndB (S : Int → Bool) (p L G b : Int) : Int := match hit0 L G (tk S (L + 3 * p).toNat b) with
  | some t => t - b + 1
  | none => 0
theorem hitm_mapT {L G c : Int} : ∀ {F z : Int} {l : List Int}, hit L G (F + c) (z + c) (l.map fun t => t + c) = (hit L G F z l).map fun t => t + c
  | _, _, [] => rfl
  | F, z, t :: r => by
    have e : nw G (F + c) (z + c) (t + c) = nw G F z t + c := by
      unfold nw
      rw [show t + c - (z + c) = t - z by omega]
      split <;> rfl
    simp only [List.map_cons, hit]
    rw [e, show t + c - (nw G F z t + c) = t - nw G F z t by omega, hitm_mapT]
    split <;> rfl
theorem hit0_mapT {L G c : Int} {l : List Int} : hit0 L G (l.map fun t => t + c) = (hit0 L G l).map fun t => t + c := by
  cases l with
  | nil => rfl
  | cons t r => exact hitm_mapT
theorem ndB_per (per : ∀ t, S (t + p) = S t) (b : Int) : ndB S p L G (b + p) = ndB S p L G b := by
  unfold ndB
  rw [tk_shift, tk_congr (T := S) fun t _ _ => per t, hit0_mapT]
  cases hit0 L G (tk S (L + 3 * p).toNat b) with
  | none => rfl
  | some t => show t + p - (b + p) + 1 = t - b + 1; omega
theorem ndB_mag (hc : 0 < c) (hp : 0 < p) (hL : 1 ≤ L) {b r : Int} (hr0 : 0 ≤ r) (hr : r < c) (h : hit0 L G (tk S (L + 3 * p).toNat b) ≠ none) :
    ndB (mag S c) (c * p) (c * L) (c * G) (c * b - r) = c * ndB S p L G b + r - (c - 1) := by
  obtain ⟨t, ht⟩ := Option.ne_none_iff_exists'.mp h
  unfold ndB
  have e : c * L + 3 * (c * p) = c * (L + 3 * p) := by rw [Int.mul_add, Int.mul_left_comm]
  have e2 : 0 ≤ c * (L + 3 * p) := Int.mul_nonneg (by omega) (by omega)
  rw [e, tk_magR (S := S) (W := (L + 3 * p).toNat) (b := b) (r := r) (q := r) hc hr0 hr hr0 hr (by rw [Int.toNat_of_nonneg e2, Int.toNat_of_nonneg (by omega)]; omega) (by omega), hit0_mag hc, ht]
  show c * t - (c * b - r) + 1 = c * (t - b + 1) + r - (c - 1)
  rw [Int.mul_add, Int.mul_sub, Int.mul_one]
  omega
/-! a look left out -/
def lessX (S : Int → Bool) (p x : Int) : Int → Bool := fun t => S t && !decide (t % p = x)
theorem less_per (per : ∀ t, S (t + p) = S t) (x t : Int) : lessX S p x (t + p) = lessX S p x t := by
  unfold lessX
  rw [per, Int.add_emod_right]
theorem less_lk (hp : 0 < p) (x : Int) : tk (lessX S p x) p.toNat 0 = (tk S p.toNat 0).filter fun t => !decide (t = x) := by
  rw [tk_filter]
  refine tk_congr fun t h1 h2 => ?_
  unfold lessX
  rw [Int.emod_eq_of_lt h1 (by omega)]
theorem less_mag (hc : 0 < c) (hp : 0 < p) (x : Int) : lessX (mag S c) (c * p) (c * x) = mag (lessX S p x) c := by
  funext t
  unfold lessX mag
  by_cases h : t % c = 0
  · obtain ⟨u, rfl⟩ := Int.dvd_of_emod_eq_zero h
    rw [Int.mul_emod_right, Int.mul_ediv_cancel_left _ (show c ≠ 0 by omega), decide_eq_true (show (0 : Int) = 0 from rfl)]
    have : decide (c * u % (c * p) = c * x) = decide (u % p = x) := by
      rw [Int.mul_emod_mul_of_pos _ _ hc]
      exact decide_eq_decide.mpr ⟨fun z => Int.eq_of_mul_eq_mul_left (by omega) z, fun z => by rw [z]⟩
    rw [this]
    simp
  · rw [decide_eq_false h]
    rfl
/-- the number of number_of -/
def nmO (S : Int → Bool) (p L G : Int) : Option Int := if nevB S p L G = true then none else (L3.maxL ((tk S p.toNat 0).map fun n => ndB S p L G (n + 1))).map fun v => v - L
theorem maxL_mag (hc : 0 < c) (l : List Int) : L3.maxL (l.map fun t => c * t) = (L3.maxL l).map fun t => c * t := by
  cases h : L3.maxL l with
  | none =>
    cases l with
    | nil => rfl
    | cons _ _ => cases h
  | some m =>
    obtain ⟨h1, h2⟩ := L3.maxL_iff.mp h
    refine L3.maxL_iff.mpr ⟨List.mem_map.mpr ⟨m, h1, rfl⟩, fun y hy => ?_⟩
    obtain ⟨z, hz, rfl⟩ := List.mem_map.mp hy
    exact Int.mul_le_mul_of_nonneg_left (h2 z hz) (by omega)
theorem nmO_mag (hc : 0 < c) (hp : 0 < p) (per : ∀ t, S (t + p) = S t) (hL : 1 ≤ L) {a : Int} {r : List Int} (hl : tk S p.toNat 0 = a :: r) : nmO (mag S c) (c * p) (c * L) (c * G) = (nmO S p L G).map fun t => c * t := by
  unfold nmO
  rw [nev_mag hc (by omega)]
  by_cases h : nevB S p L G = true
  · rw [if_pos h, if_pos h]
    rfl
  · rw [if_neg h, if_neg h, lk_mag hc (by omega)]
    have h' : nevB S p L G = false := by simpa using h
    have e : ((tk S p.toNat 0).map fun t => c * t).map (fun n => ndB (mag S c) (c * p) (c * L) (c * G) (n + 1)) = ((tk S p.toNat 0).map fun n => ndB S p L G (n + 1)).map fun t => c * t := by
      rw [List.map_map, List.map_map]
      refine List.map_congr_left fun n _ => ?_
      show ndB (mag S c) (c * p) (c * L) (c * G) (c * n + 1) = c * ndB S p L G (n + 1)
      have := ndB_mag (S := S) (L := L) (G := G) (b := n + 1) (r := c - 1) hc hp hL (by omega) (by omega) (nev_hit hp per hL hl h' (by omega))
      rw [show c * (n + 1) - (c - 1) = c * n + 1 by rw [Int.mul_add, Int.mul_one]; omega] at this
      rw [this]
      omega
    rw [e, maxL_mag hc]
    cases L3.maxL ((tk S p.toNat 0).map fun n => ndB S p L G (n + 1)) with
    | none => rfl
    | some v => show some (c * v - c * L) = some (c * (v - L)); rw [Int.mul_sub]
end
end TK

/-! who is proved, without lists: a run within a window -/
namespace TK
section
variable {S T : Int → Bool} {L G p : Int}
def Short (S : Int → Bool) (G f v : Int) : Prop := ∀ x y, f ≤ x → y ≤ v → x < y → S x = true → S y = true → (∀ t, x < t → t < y → S t = false) → y - x ≤ G
/-- somebody who stands from b to e - 1 is proved -/
def Pv (S : Int → Bool) (L G b e : Int) : Prop := ∃ f v, b ≤ f ∧ v < e ∧ S f = true ∧ S v = true ∧ L ≤ v - f ∧ Short S G f v
theorem Pv.mono {b e b' e' : Int} (h : Pv S L G b e) (h1 : b' ≤ b) (h2 : e ≤ e') : Pv S L G b' e' := by
  obtain ⟨f, v, a1, a2, a3⟩ := h
  exact ⟨f, v, by omega, by omega, a3⟩
theorem hit_tellsF : ∀ (n : Nat) (b F z t : Int), z < b → S z = true → (∀ u, z < u → u < b → S u = false) → RunTo S G F z → hit L G F z (tk S n b) = some t → ∃ f, F ≤ f ∧ RunTo S G f t ∧ S t = true ∧ L ≤ t - f
  | 0, b, F, z, t, _, _, _, _, h => by cases h
  | n + 1, b, F, z, t, hz, sz, hn, hR, h => by
    simp only [tk] at h
    split at h
    · rename_i hb
      simp only [hit] at h
      by_cases hg : G < b - z
      · have e : nw G F z b = b := if_pos hg
        rw [e] at h
        have hRb : RunTo S G b b := ⟨hb, Int.le_refl _, fun x y a1 a2 a3 => by omega⟩
        have hFb : F ≤ b := by have := hR.2.1; omega
        by_cases h0 : L ≤ b - b
        · rw [if_pos h0] at h
          cases h
          exact ⟨b, hFb, hRb, hb, h0⟩
        · rw [if_neg h0] at h
          obtain ⟨f, f1, f2⟩ := hit_tellsF n (b + 1) b b t (by omega) hb (fun u a1 a2 => by omega) hRb h
          exact ⟨f, by omega, f2⟩
      · have e : nw G F z b = F := if_neg hg
        rw [e] at h
        have hR' : RunTo S G F b := ⟨hR.1, by have := hR.2.1; omega, fun x y a1 a2 a3 s1 s2 hno => by
          by_cases hy : y ≤ z
          · exact hR.2.2 x y a1 hy a3 s1 s2 hno
          · have hyb : y = b := by
              refine Classical.byContradiction fun q => ?_
              rw [hn y (by omega) (by omega)] at s2
              cases s2
            subst hyb
            have hxz : x = z := by
              refine Classical.byContradiction fun q => ?_
              rcases Int.lt_or_gt_of_ne q with c | c
              · rw [hno z c hz] at sz; cases sz
              · rw [hn x c a3] at s1; cases s1
            rw [hxz]; omega⟩
        by_cases h0 : L ≤ b - F
        · rw [if_pos h0] at h
          cases h
          exact ⟨F, Int.le_refl _, hR', hb, h0⟩
        · rw [if_neg h0] at h
          exact hit_tellsF n (b + 1) F b t (by omega) hb (fun u a1 a2 => by omega) hR' h
    · rename_i hb
      exact hit_tellsF n (b + 1) F z t (by omega) sz (fun u a1 a2 => by
        by_cases e : u = b
        · rw [e]; exact Bool.eq_false_iff.mpr hb
        · exact hn u a1 (by omega)) hR h
theorem hit0_tellsF : ∀ (n : Nat) (b t : Int), hit0 L G (tk S n b) = some t → ∃ f, b ≤ f ∧ RunTo S G f t ∧ S t = true ∧ L ≤ t - f
  | 0, b, t, h => by cases h
  | n + 1, b, t, h => by
    simp only [tk] at h
    split at h
    · rename_i hb
      exact hit_tellsF n (b + 1) b b t (by omega) hb (fun u a1 a2 => by omega) ⟨hb, Int.le_refl _, fun x y a1 a2 a3 => by omega⟩ h
    · obtain ⟨f, f1, f2⟩ := hit0_tellsF n (b + 1) t h
      exact ⟨f, by omega, f2⟩
theorem hit0_in {l : List Int} {t : Int} (h : hit0 L G l = some t) : t ∈ l := by
  cases l with
  | nil => cases h
  | cons x r => exact List.mem_cons_of_mem _ (hit_mem h)
theorem hit_iff (hL : 1 ≤ L) (n : Nat) (b : Int) : hit0 L G (tk S n b) ≠ none ↔ Pv S L G b (b + n) := by
  constructor
  · intro h
    obtain ⟨t, ht⟩ := Option.ne_none_iff_exists'.mp h
    obtain ⟨f, f1, ⟨f2, f3, f4⟩, f5, f6⟩ := hit0_tellsF n b t ht
    exact ⟨f, t, f1, (mem_tk.mp (hit0_in ht)).2.1, f2, f5, f6, f4⟩
  · rintro ⟨f, v, h1, h2, h3, h4, h5, h6⟩
    exact hit0_run h3 h4 (by omega) h5 h1 h2 h6
theorem hit_iff' (hL : 1 ≤ L) {b e : Int} (h : b ≤ e) : hit0 L G (tk S (e - b).toNat b) ≠ none ↔ Pv S L G b e := by
  have := hit_iff (S := S) (G := G) hL (e - b).toNat b
  rw [show b + (((e - b).toNat : Nat) : Int) = e by omega] at this
  exact this
/-- the part of a list up to its hit -/
theorem hit_prefix : ∀ {F z t : Int} {l r : List Int}, hit L G F z (l ++ r) = some t → (∀ u ∈ r, t < u) → hit L G F z l = some t
  | F, z, t, [], r, h, hr => by
    have := hr t (hit_mem (l := r) h)
    omega
  | F, z, t, x :: l, r, h, hr => by
    simp only [List.cons_append, hit] at h ⊢
    split
    · rename_i q
      rw [if_pos q] at h
      exact h
    · rename_i q
      rw [if_neg q] at h
      exact hit_prefix h hr
theorem hit0_prefix {t : Int} {l r : List Int} (h : hit0 L G (l ++ r) = some t) (hr : ∀ u ∈ r, t < u) : hit0 L G l = some t := by
  cases l with
  | nil =>
    have := hr t (hit0_in (l := r) h)
    omega
  | cons x l => exact hit_prefix h hr
/-- from which length on one who begins at b is proved -/
theorem nd_iff (hp : 0 < p) (per : ∀ t, S (t + p) = S t) (hL : 1 ≤ L) {a : Int} {r : List Int} (hl : tk S p.toNat 0 = a :: r) (h : nevB S p L G = false) (b n : Int) (hn : 0 ≤ n) : ndB S p L G b ≤ n ↔ Pv S L G b (b + n) := by
  obtain ⟨t, ht⟩ := Option.ne_none_iff_exists'.mp (nev_hit (n := (L + 3 * p).toNat) (b := b) hp per hL hl h (by omega))
  obtain ⟨m1, m2, _⟩ := mem_tk.mp (hit0_in ht)
  have e : ndB S p L G b = t - b + 1 := by
    unfold ndB
    rw [ht]
  rw [e]
  constructor
  · intro hle
    obtain ⟨f, f1, ⟨f2, f3, f4⟩, f5, f6⟩ := hit0_tellsF _ b t ht
    exact ⟨f, t, f1, by omega, f2, f5, f6, f4⟩
  · intro hP
    have h1 := (hit_iff (S := S) (G := G) hL n.toNat b).mpr (by rw [Int.toNat_of_nonneg hn]; exact hP)
    obtain ⟨u, hu⟩ := Option.ne_none_iff_exists'.mp h1
    have hub := (mem_tk.mp (hit0_in hu)).2.1
    by_cases hc : n.toNat ≤ (L + 3 * p).toNat
    · have e2 : (L + 3 * p).toNat = n.toNat + ((L + 3 * p).toNat - n.toNat) := by omega
      rw [e2, tk_append, hit0_append hu] at ht
      cases ht
      omega
    · omega
theorem nd_pos (hp : 0 < p) (per : ∀ t, S (t + p) = S t) (hL : 1 ≤ L) {a : Int} {r : List Int} (hl : tk S p.toNat 0 = a :: r) (h : nevB S p L G = false) (b : Int) : L + 1 ≤ ndB S p L G b ∧ ndB S p L G b ≤ L + 2 * p := by
  constructor
  · refine Classical.byContradiction fun q => ?_
    by_cases h0 : 0 ≤ ndB S p L G b
    · obtain ⟨f, v, h1, h2, h3, h4, h5, _⟩ := (nd_iff hp per hL hl h b _ h0).mp (Int.le_refl _)
      omega
    · obtain ⟨f, v, h1, h2, h3, h4, h5, _⟩ := (nd_iff hp per hL hl h b 0 (Int.le_refl _)).mp (by omega)
      omega
  · refine (nd_iff hp per hL hl h b _ (by omega)).mpr ?_
    have := (hit_iff (S := S) (G := G) hL (L + 2 * p).toNat b).mp (nev_hit hp per hL hl h (by omega))
    rw [Int.toNat_of_nonneg (by omega)] at this
    exact this
theorem Pv.shift {k : Int} (sh : ∀ t, S (t + k) = S t) {b e : Int} (h : Pv S L G b e) : Pv S L G (b + k) (e + k) := by
  have shn : ∀ t, S (t - k) = S t := fun t => by
    have := sh (t - k)
    rw [show t - k + k = t by omega] at this
    exact this.symm
  obtain ⟨f, v, h1, h2, h3, h4, h5, h6⟩ := h
  refine ⟨f + k, v + k, by omega, by omega, by rw [sh]; exact h3, by rw [sh]; exact h4, by omega, fun x y a1 a2 a3 s1 s2 hno => ?_⟩
  have := h6 (x - k) (y - k) (by omega) (by omega) (by omega) (by rw [shn]; exact s1) (by rw [shn]; exact s2) fun t c1 c2 => by
    have := hno (t + k) (by omega) (by omega)
    rw [sh] at this
    exact this
  omega
theorem mem_far {a f : Int} {r : List Int} (h : f ∈ farOf G p (a :: r)) : ∃ q ∈ (a :: r).zip (r ++ [a + p]), q.1 = f ∧ G < q.2 - q.1 := by
  obtain ⟨q, hq, e⟩ := List.mem_map.mp h
  obtain ⟨h1, h2⟩ := List.mem_filter.mp hq
  have h2 := of_decide_eq_true h2
  obtain ⟨i, k1, k2⟩ := zip_idx h1
  have k2 : (((a :: r).zip (r ++ [a + p])).map fun q => q.2 - q.1)[i]? = some q.2 := k2
  rw [List.getElem?_map] at k2
  obtain ⟨z, hz, ez⟩ := Option.map_eq_some_iff.mp k2
  obtain ⟨z1, z2⟩ := List.getElem?_zip_eq_some.mp hz
  rw [k1] at z1
  have e1 := Option.some.inj z1
  exact ⟨z, List.mem_of_getElem? hz, by omega, by omega⟩
/-- nobody is ever proved, or from each begin on -/
theorem nev_iff (hp : 0 < p) (per : ∀ t, S (t + p) = S t) (hL : 1 ≤ L) {a : Int} {r : List Int} (hl : tk S p.toNat 0 = a :: r) : nevB S p L G = true ↔ ∀ b e, ¬ Pv S L G b e := by
  constructor
  · intro h b e hP
    unfold nevB at h
    obtain ⟨h1, h2⟩ := Bool.and_eq_true_iff.mp h
    obtain ⟨f, v, _, _, sf, sv, hlv, hsh⟩ := hP
    -- a gap that is too great
    have hff : ∃ g0, g0 ∈ farOf G p (a :: r) := by
      rw [hl] at h1
      cases e : farOf G p (a :: r) with
      | nil => rw [e] at h1; cases h1
      | cons g0 _ => exact ⟨g0, List.mem_cons_self⟩
    obtain ⟨g0, hg0⟩ := hff
    obtain ⟨⟨x, y⟩, hq, rfl, hgap⟩ := mem_far hg0
    obtain ⟨q1, q2, q3, q4⟩ := gap_mem hp per hl hq
    have q1 : x < y := q1
    have hgap : G < y - x := hgap
    have q2 : S x = true := q2
    have q3 : S y = true := q3
    have q4 : ∀ t, x < t → t < y → S t = false := q4
    -- moved so that x is the first one from f on
    have m1 := Int.emod_nonneg (x - f) (show p ≠ 0 by omega)
    have m2 := Int.emod_lt_of_pos (x - f) hp
    have dv : p ∣ f + (x - f) % p - x := ⟨-((x - f) / p), by
      have := Int.emod_add_mul_ediv (x - f) p
      rw [Int.mul_neg]; omega⟩
    generalize hk : f + (x - f) % p - x = k at dv
    have sh := per_dvd per dv
    have shn : ∀ t, S (t - k) = S t := fun t => by
      have := sh (t - k)
      rw [show t - k + k = t by omega] at this
      exact this.symm
    have hvx : v ≤ x + k := by
      refine Classical.byContradiction fun z => ?_
      have hvy : y + k ≤ v := by
        refine Classical.byContradiction fun z2 => ?_
        have := q4 (v - k) (by omega) (by omega)
        rw [shn, sv] at this
        cases this
      have := hsh (x + k) (y + k) (by omega) hvy (by omega) (by rw [sh]; exact q2) (by rw [sh]; exact q3) fun t t1 t2 => by
        rw [← shn]
        exact q4 (t - k) (by omega) (by omega)
      omega
    -- moved to the first period
    have n1 := Int.emod_nonneg f (show p ≠ 0 by omega)
    have n2 := Int.emod_lt_of_pos f hp
    have dv2 : p ∣ f % p - f := ⟨-(f / p), by
      have := Int.emod_add_mul_ediv f p
      rw [Int.mul_neg]; omega⟩
    have hP2 : Pv S L G f (v + 1) := ⟨f, v, Int.le_refl _, by omega, sf, sv, hlv, hsh⟩
    have hP3 := (hP2.shift (per_dvd per dv2)).mono (b' := 0) (e' := 0 + ((3 * p).toNat : Int)) (by omega) (by omega)
    have := (hit_iff hL (3 * p).toNat 0).mpr hP3
    rw [Option.isNone_iff_eq_none] at h2
    exact this h2
  · intro h
    refine Classical.byContradiction fun q => ?_
    have q : nevB S p L G = false := by simpa using q
    exact h _ _ ((hit_iff hL _ _).mp (nev_hit (n := (L + 2 * p).toNat) (b := 0) hp per hL hl q (by omega)))
/-- a begin behind a gap needs no more than one right behind the look ahead -/
theorem Pv.gap {x b e : Int} (hx : x < b) (hno : ∀ t, x < t → t < b → S t = false) : Pv S L G (x + 1) e ↔ Pv S L G b e := by
  constructor
  · rintro ⟨f, v, h1, h2, h3, h4⟩
    refine ⟨f, v, ?_, h2, h3, h4⟩
    refine Classical.byContradiction fun z => ?_
    rw [hno f (by omega) (by omega)] at h3
    cases h3
  · intro h
    exact h.mono (by omega) (Int.le_refl _)
/-- so many ticks prove from each begin on -/
def AllB (S : Int → Bool) (L G n : Int) : Prop := ∀ b, Pv S L G b (b + n)
theorem prev_look (hp : 0 < p) (per : ∀ t, S (t + p) = S t) {a : Int} (sa : S a = true) (b : Int) : ∃ x, x < b ∧ b - x ≤ p ∧ S x = true ∧ ∀ t, x < t → t < b → S t = false := by
  have key : ∀ n : Nat, (∃ x, x < b ∧ b - x ≤ n ∧ S x = true ∧ ∀ t, x < t → t < b → S t = false) ∨ ∀ t, b - n ≤ t → t < b → S t = false := fun n => by
    induction n with
    | zero => exact .inr fun t h1 h2 => by omega
    | succ n ih =>
      rcases ih with ⟨x, x1, x2, x3⟩ | h
      · exact .inl ⟨x, x1, by omega, x3⟩
      · cases hs : S (b - (n + 1)) with
        | true => exact .inl ⟨b - (n + 1), by omega, by omega, hs, fun t t1 t2 => h t (by omega) t2⟩
        | false =>
          refine .inr fun t t1 t2 => ?_
          by_cases e : t = b - (n + 1)
          · rw [e]; exact hs
          · exact h t (by omega) t2
  rcases key p.toNat with ⟨x, x1, x2, x3⟩ | h
  · exact ⟨x, x1, by omega, x3⟩
  · exfalso
    have m1 := Int.emod_nonneg (a - b) (show p ≠ 0 by omega)
    have m2 := Int.emod_lt_of_pos (a - b) hp
    have dv : p ∣ b - p + (a - b) % p - a := ⟨-((a - b) / p) - 1, by
      have := Int.emod_add_mul_ediv (a - b) p
      rw [Int.mul_sub, Int.mul_neg, Int.mul_one]; omega⟩
    have := h (b - p + (a - b) % p) (by omega) (by omega)
    have e := per_dvd per dv a
    rw [show a + (b - p + (a - b) % p - a) = b - p + (a - b) % p by omega, sa] at e
    rw [e] at this
    cases this
theorem ndB_mod (hp : 0 < p) (per : ∀ t, S (t + p) = S t) (b : Int) : ndB S p L G (b % p) = ndB S p L G b := by
  have nat : ∀ (k : Nat) (t : Int), ndB S p L G (t + p * k) = ndB S p L G t := fun k => by
    induction k with
    | zero => intro t; simp
    | succ k ih =>
      intro t
      rw [show t + p * ((k + 1 : Nat) : Int) = (t + p * k) + p by rw [Int.natCast_add, Int.mul_add]; omega, ndB_per per, ih]
  have hd := Int.emod_add_mul_ediv b p
  rcases Int.le_total 0 (b / p) with q | q
  · have := nat (b / p).toNat (b % p)
    rw [Int.toNat_of_nonneg q, hd] at this
    exact this.symm
  · have := nat (-(b / p)).toNat b
    rw [Int.toNat_of_nonneg (by omega), Int.mul_neg, show b + -(p * (b / p)) = b % p by omega] at this
    exact this
/-- the number: from so many ticks on all begins are proved -/
theorem nmO_spec (hp : 0 < p) (per : ∀ t, S (t + p) = S t) (hL : 1 ≤ L) {a : Int} {r : List Int} (hl : tk S p.toNat 0 = a :: r) (h : nevB S p L G = false) : ∃ M, nmO S p L G = some (M - L) ∧ (∀ n, 0 ≤ n → (AllB S L G n ↔ M ≤ n)) ∧ (∀ b, ndB S p L G b ≤ M) ∧ L + 1 ≤ M ∧ M ≤ L + 2 * p := by
  unfold nmO
  rw [if_neg (by rw [h]; decide)]
  cases hm : L3.maxL ((tk S p.toNat 0).map fun n => ndB S p L G (n + 1)) with
  | none => rw [hl] at hm; cases hm
  | some M =>
    obtain ⟨h1, h2⟩ := L3.maxL_iff.mp hm
    obtain ⟨x0, hx0, e0⟩ := List.mem_map.mp h1
    have e0 : ndB S p L G (x0 + 1) = M := e0
    obtain ⟨_, _, sa, _⟩ := tk_head hl
    have all : ∀ b, ndB S p L G b ≤ M := fun b => by
      obtain ⟨x, x1, x2, x3, x4⟩ := prev_look hp per sa b
      have m1 := Int.emod_nonneg x (show p ≠ 0 by omega)
      have m2 := Int.emod_lt_of_pos x hp
      have dv : p ∣ x % p - x := ⟨-(x / p), by
        have := Int.emod_add_mul_ediv x p
        rw [Int.mul_neg]; omega⟩
      have sx : S (x % p) = true := by
        have := per_dvd per dv x
        rw [show x + (x % p - x) = x % p by omega] at this
        rw [this]; exact x3
      have hle := h2 _ (List.mem_map.mpr ⟨x % p, mem_tk.mpr ⟨m1, by omega, sx⟩, rfl⟩)
      have e1 : ndB S p L G (x % p + 1) = ndB S p L G (x + 1) := by
        rw [← ndB_mod hp per (x % p + 1), ← ndB_mod hp per (x + 1), Int.emod_add_emod]
      rw [e1] at hle
      have pos := nd_pos hp per hL hl h (x + 1)
      have hP := (nd_iff hp per hL hl h (x + 1) _ (by omega)).mp (Int.le_refl _)
      rw [Pv.gap x1 x4] at hP
      have hP2 : Pv S L G b (b + (ndB S p L G (x + 1) - (b - (x + 1)))) := by
        rw [show b + (ndB S p L G (x + 1) - (b - (x + 1))) = x + 1 + ndB S p L G (x + 1) by omega]
        exact hP
      have hn0 : 0 ≤ ndB S p L G (x + 1) - (b - (x + 1)) := by
        obtain ⟨f, v, k1, k2, _, _, k5, _⟩ := hP2
        omega
      have := (nd_iff hp per hL hl h b _ hn0).mpr hP2
      omega
    have pos := nd_pos hp per hL hl h (x0 + 1)
    refine ⟨M, rfl, fun n hn => ⟨fun hA => ?_, fun hM b => ?_⟩, all, by omega, by omega⟩
    · rw [← e0]
      exact (nd_iff hp per hL hl h (x0 + 1) n hn).mpr (hA _)
    · exact (nd_iff hp per hL hl h b n hn).mp (Int.le_trans (all b) hM)
theorem nmO_none (h : nevB S p L G = true) : nmO S p L G = none := if_pos h
/-- two rounds that prove alike have one number -/
theorem nmO_ext {p' : Int} (hp : 0 < p) (hp' : 0 < p') (per : ∀ t, S (t + p) = S t) (per' : ∀ t, T (t + p') = T t) (hL : 1 ≤ L) {a a' : Int} {r r' : List Int} (hl : tk S p.toNat 0 = a :: r) (hl' : tk T p'.toNat 0 = a' :: r')
    (h1 : (∃ b e, Pv S L G b e) ↔ ∃ b e, Pv T L G b e) (h2 : ∀ n, AllB S L G n ↔ AllB T L G n) : nevB S p L G = nevB T p' L G ∧ nmO S p L G = nmO T p' L G := by
  have i1 := nev_iff (G := G) hp per hL hl
  have i2 := nev_iff (G := G) hp' per' hL hl'
  cases h : nevB S p L G with
  | true =>
    have hno := i1.mp h
    have h' : nevB T p' L G = true := i2.mpr fun b e hP => by
      obtain ⟨b, e, hP⟩ := h1.mpr ⟨b, e, hP⟩
      exact hno b e hP
    exact ⟨h'.symm, by rw [nmO_none h, nmO_none h']⟩
  | false =>
    have h' : nevB T p' L G = false := by
      refine Bool.eq_false_iff.mpr fun z => ?_
      have hno := i2.mp z
      have : nevB S p L G = true := i1.mpr fun b e hP => by
        obtain ⟨b, e, hP⟩ := h1.mp ⟨b, e, hP⟩
        exact hno b e hP
      rw [h] at this
      cases this
    obtain ⟨M, e1, e2, _, e3, _⟩ := nmO_spec hp per hL hl h
    obtain ⟨N, f1, f2, _, f3, _⟩ := nmO_spec hp' per' hL hl' h'
    have a1 := (e2 M (by omega)).mpr (Int.le_refl _)
    have a2 := (f2 N (by omega)).mpr (Int.le_refl _)
    have b1 := (f2 M (by omega)).mp ((h2 M).mp a1)
    have b2 := (e2 N (by omega)).mp ((h2 N).mpr a2)
    refine ⟨h'.symm, ?_⟩
    rw [e1, f1, show M = N by omega]
/-! turned on, mirrored, with more looks -/
def turnS (S : Int → Bool) (m : Int) : Int → Bool := fun t => S (t - m)
def mirS (S : Int → Bool) (p : Int) : Int → Bool := fun t => S (p - 1 - t)
theorem Pv.turn {m b e : Int} : Pv (turnS S m) L G (b + m) (e + m) ↔ Pv S L G b e := by
  unfold turnS
  constructor
  · rintro ⟨f, v, h1, h2, h3, h4, h5, h6⟩
    refine ⟨f - m, v - m, by omega, by omega, h3, h4, by omega, fun x y a1 a2 a3 s1 s2 hno => ?_⟩
    have := h6 (x + m) (y + m) (by omega) (by omega) (by omega) (by show S (x + m - m) = true; rw [show x + m - m = x by omega]; exact s1) (by show S (y + m - m) = true; rw [show y + m - m = y by omega]; exact s2) fun t c1 c2 => hno (t - m) (by omega) (by omega)
    omega
  · rintro ⟨f, v, h1, h2, h3, h4, h5, h6⟩
    refine ⟨f + m, v + m, by omega, by omega, by show S (f + m - m) = true; rw [show f + m - m = f by omega]; exact h3, by show S (v + m - m) = true; rw [show v + m - m = v by omega]; exact h4, by omega, fun x y a1 a2 a3 s1 s2 hno => ?_⟩
    have := h6 (x - m) (y - m) (by omega) (by omega) (by omega) s1 s2 fun t c1 c2 => by
      have := hno (t + m) (by omega) (by omega)
      have : S (t + m - m) = false := this
      rw [show t + m - m = t by omega] at this
      exact this
    omega
theorem Pv.mir {b e : Int} : Pv (mirS S p) L G b e ↔ Pv S L G (p - e) (p - b) := by
  unfold mirS
  constructor
  · rintro ⟨f, v, h1, h2, h3, h4, h5, h6⟩
    refine ⟨p - 1 - v, p - 1 - f, by omega, by omega, h4, h3, by omega, fun x y a1 a2 a3 s1 s2 hno => ?_⟩
    have := h6 (p - 1 - y) (p - 1 - x) (by omega) (by omega) (by omega) (by show S (p - 1 - (p - 1 - y)) = true; rw [show p - 1 - (p - 1 - y) = y by omega]; exact s2) (by show S (p - 1 - (p - 1 - x)) = true; rw [show p - 1 - (p - 1 - x) = x by omega]; exact s1) fun t c1 c2 => hno (p - 1 - t) (by omega) (by omega)
    omega
  · rintro ⟨f, v, h1, h2, h3, h4, h5, h6⟩
    refine ⟨p - 1 - v, p - 1 - f, by omega, by omega, by show S (p - 1 - (p - 1 - v)) = true; rw [show p - 1 - (p - 1 - v) = v by omega]; exact h4, by show S (p - 1 - (p - 1 - f)) = true; rw [show p - 1 - (p - 1 - f) = f by omega]; exact h3, by omega, fun x y a1 a2 a3 s1 s2 hno => ?_⟩
    have := h6 (p - 1 - y) (p - 1 - x) (by omega) (by omega) (by omega) s2 s1 fun t c1 c2 => by
      have := hno (p - 1 - t) (by omega) (by omega)
      have : S (p - 1 - (p - 1 - t)) = false := this
      rw [show p - 1 - (p - 1 - t) = t by omega] at this
      exact this
    omega
theorem all_turn {m n : Int} : AllB (turnS S m) L G n ↔ AllB S L G n := by
  constructor
  · intro h b
    have := h (b + m)
    rw [show b + m + n = b + n + m by omega] at this
    exact Pv.turn.mp this
  · intro h b
    have := Pv.turn (m := m).mpr (h (b - m))
    rw [show b - m + m = b by omega, show b - m + n + m = b + n by omega] at this
    exact this
theorem all_mir {n : Int} : AllB (mirS S p) L G n ↔ AllB S L G n := by
  constructor
  · intro h b
    have := Pv.mir.mp (h (p - b - n))
    rw [show p - (p - b - n + n) = b by omega, show p - (p - b - n) = b + n by omega] at this
    exact this
  · intro h b
    refine Pv.mir.mpr ?_
    have := h (p - (b + n))
    rw [show p - (b + n) + n = p - b by omega] at this
    exact this
theorem ex_turn {m : Int} : (∃ b e, Pv (turnS S m) L G b e) ↔ ∃ b e, Pv S L G b e := by
  constructor
  · rintro ⟨b, e, h⟩
    refine ⟨b - m, e - m, Pv.turn (m := m).mp ?_⟩
    rw [show b - m + m = b by omega, show e - m + m = e by omega]
    exact h
  · rintro ⟨b, e, h⟩
    exact ⟨_, _, Pv.turn.mpr h⟩
theorem ex_mir : (∃ b e, Pv (mirS S p) L G b e) ↔ ∃ b e, Pv S L G b e := by
  constructor
  · rintro ⟨b, e, h⟩
    exact ⟨_, _, Pv.mir.mp h⟩
  · rintro ⟨b, e, h⟩
    refine ⟨p - e, p - b, Pv.mir.mpr ?_⟩
    rw [show p - (p - b) = b by omega, show p - (p - e) = e by omega]
    exact h
/-- more looks prove no less -/
theorem Pv.more (hST : ∀ t, S t = true → T t = true) {b e : Int} (h : Pv S L G b e) : Pv T L G b e := by
  obtain ⟨f, v, h1, h2, h3, h4, h5, h6⟩ := h
  refine ⟨f, v, h1, h2, hST f h3, hST v h4, h5, fun x y a1 a2 a3 s1 s2 hno => ?_⟩
  -- the looks of S around
  have lo : ∃ x', f ≤ x' ∧ x' ≤ x ∧ S x' = true ∧ ∀ t, x' < t → t ≤ x → S t = false := by
    have key : ∀ n : Nat, (∃ x', f ≤ x' ∧ x' ≤ x ∧ x - x' ≤ n ∧ S x' = true ∧ ∀ t, x' < t → t ≤ x → S t = false) ∨ ∀ t, x - n ≤ t → t ≤ x → S t = false := fun n => by
      induction n with
      | zero =>
        cases hs : S x with
        | true => exact .inl ⟨x, a1, Int.le_refl _, by omega, hs, fun t t1 t2 => by omega⟩
        | false => exact .inr fun t t1 t2 => by rw [show t = x by omega]; exact hs
      | succ n ih =>
        rcases ih with ⟨x', x1, x2, x3, x4⟩ | h
        · exact .inl ⟨x', x1, x2, by omega, x4⟩
        · cases hs : S (x - (n + 1)) with
          | true =>
            by_cases hf : f ≤ x - (n + 1)
            · exact .inl ⟨x - (n + 1), hf, by omega, by omega, hs, fun t t1 t2 => h t (by omega) t2⟩
            · have := h f (by omega) a1
              rw [h3] at this
              cases this
          | false =>
            refine .inr fun t t1 t2 => ?_
            by_cases e : t = x - (n + 1)
            · rw [e]; exact hs
            · exact h t (by omega) t2
    rcases key (x - f).toNat with ⟨x', x1, x2, _, x4⟩ | h
    · exact ⟨x', x1, x2, x4⟩
    · have := h f (by omega) a1
      rw [h3] at this
      cases this
  have hi : ∃ y', y' ≤ v ∧ y ≤ y' ∧ S y' = true ∧ ∀ t, y ≤ t → t < y' → S t = false := by
    have key : ∀ n : Nat, (∃ y', y' ≤ v ∧ y ≤ y' ∧ S y' = true ∧ ∀ t, y ≤ t → t < y' → S t = false) ∨ ∀ t, y ≤ t → t ≤ y + n → t ≤ v → S t = false := fun n => by
      induction n with
      | zero =>
        cases hs : S y with
        | true => exact .inl ⟨y, a2, Int.le_refl _, hs, fun t t1 t2 => by omega⟩
        | false => exact .inr fun t t1 t2 _ => by rw [show t = y by omega]; exact hs
      | succ n ih =>
        rcases ih with h | h
        · exact .inl h
        · by_cases hv : y + (n + 1) ≤ v
          · cases hs : S (y + (n + 1)) with
            | true => exact .inl ⟨y + (n + 1), hv, by omega, hs, fun t t1 t2 => h t t1 (by omega) (by omega)⟩
            | false =>
              refine .inr fun t t1 t2 t3 => ?_
              by_cases e : t = y + (n + 1)
              · rw [e]; exact hs
              · exact h t t1 (by omega) t3
          · exact .inr fun t t1 t2 t3 => h t t1 (by omega) t3
    rcases key (v - y).toNat with h | h
    · exact h
    · have := h v a2 (by omega) (Int.le_refl _)
      rw [h4] at this
      cases this
  obtain ⟨x', x1, x2, x3, x4⟩ := lo
  obtain ⟨y', y1, y2, y3, y4⟩ := hi
  have := h6 x' y' x1 y1 (by omega) x3 y3 fun t t1 t2 => by
    by_cases c1 : t ≤ x
    · exact x4 t t1 c1
    · by_cases c2 : y ≤ t
      · exact y4 t c2 t2
      · have := hno t (by omega) (by omega)
        cases hs : S t with
        | false => rfl
        | true => rw [hST t hs] at this; cases this
  omega
def plusX (S : Int → Bool) (p x : Int) : Int → Bool := fun t => S t || decide (t % p = x)
theorem plus_per (per : ∀ t, S (t + p) = S t) (x t : Int) : plusX S p x (t + p) = plusX S p x t := by
  unfold plusX
  rw [per, Int.add_emod_right]
theorem less_plus {x : Int} (per : ∀ t, S (t + p) = S t) (hp : 0 < p) (hx : S x = false) (x0 : 0 ≤ x) (x1 : x < p) : lessX (plusX S p x) p x = S := by
  funext t
  unfold lessX plusX
  by_cases h : t % p = x
  · have dv : p ∣ x - t := ⟨-(t / p), by
      have := Int.emod_add_mul_ediv t p
      rw [Int.mul_neg]; omega⟩
    have := per_dvd per dv t
    rw [show t + (x - t) = x by omega, hx] at this
    rw [← this, decide_eq_true h]
    rfl
  · rw [decide_eq_false h]
    simp
end
end TK

namespace K42
open PySem PySem.Spec L3 TK
section
variable {S : Int → Bool} {p L G : Int}
theorem far_nil {a : Int} {r : List Int} (h : farOf G p (a :: r) = []) : ∀ q ∈ (a :: r).zip (r ++ [a + p]), q.2 - q.1 ≤ G := fun q hq => by
  refine Classical.byContradiction fun hg => ?_
  obtain ⟨i, hi1, hi2⟩ := zip_idx hq
  have : q.1 ∈ farOf G p (a :: r) := by
    refine List.mem_map.mpr ⟨(q.1, q.2 - q.1), List.mem_filter.mpr ⟨zip_mem hi1 ?_, decide_eq_true (by show G < q.2 - q.1; omega)⟩, rfl⟩
    show (((a :: r).zip (r ++ [a + p])).map fun q => q.2 - q.1)[i]? = _
    rw [List.getElem?_map, List.getElem?_zip_eq_some.mpr ⟨hi1, hi2⟩]
    rfl
  rw [h] at this
  cases this
theorem far_some {a f : Int} {r l : List Int} (h : farOf G p (a :: r) = f :: l) : ∃ q ∈ (a :: r).zip (r ++ [a + p]), ¬ q.2 - q.1 ≤ G := by
  have : f ∈ farOf G p (a :: r) := by rw [h]; exact List.mem_cons_self
  obtain ⟨q, hq, _⟩ := List.mem_map.mp this
  obtain ⟨h1, h2⟩ := List.mem_filter.mp hq
  have h2 := of_decide_eq_true h2
  obtain ⟨_, h3⟩ := List.of_mem_zip h1
  obtain ⟨q', hq', e⟩ := List.mem_map.mp h3
  exact ⟨q', hq', by omega⟩
theorem e_never (R : Rd S p) {a : Int} {r : List Int} (h0 : lk S p = a :: r) (hL : 1 ≤ L) : m_is_never [T2 p (lk S p), B2 L G] = some (.bool (nevB S p L G)) := by
  have e0 : tk S p.toNat 0 = a :: r := h0
  unfold nevB
  rw [e0]
  cases h : farOf G p (a :: r) with
  | nil =>
    rw [e_never_no R h0 (far_nil h)]
    rfl
  | cons f l =>
    rw [e_never_by R h0 (far_some h) hL]
    rfl
/-- the pair of a begin -/
def prB (S : Int → Bool) (p L G b : Int) : Option (Int × Int) := optP L G (tk S (L + 3 * p).toNat b)
theorem e_needsF (R : Rd S p) {a : Int} {r : List Int} (h0 : lk S p = a :: r) (hL : 1 ≤ L) (hL2 : L ≤ 999) (hn : nevB S p L G = false) {b : Int} (hb : 0 ≤ b) (hb2 : b ≤ 10000) : m_needs [T2 p (lk S p), B2 L G, .int b] = some (.tuple [.int (ndB S p L G b), pairD (prB S p L G b)]) := by
  have hp := R.p2
  have h3 := R.p1
  obtain ⟨t, ht⟩ := Option.ne_none_iff_exists'.mp (nev_hit (n := (L + 3 * p).toNat) (b := b) (by omega) R.per hL h0 hn (by omega))
  have hs := e_seen' R (b := b) (e := b + L + 3 * p) hb (by omega) (by omega)
  have e1 : (b + L + 3 * p - b).toNat = (L + 3 * p).toNat := by congr 1; omega
  rw [e1] at hs
  have hlen : (tk S (L + 3 * p).toNat b).length ≤ 500000 := by
    have := tk_len (S := S) (L + 3 * p).toNat b
    omega
  have s3 : small64 3 = true := by decide
  have hpr := e_proofF (L := L) (G := G) hL (tk_asc (S := S) (L + 3 * p).toNat b) hlen
  have e2 : prB S p L G b = some (lst L t (tk S (L + 3 * p).toNat b), t) := by
    unfold prB optP
    rw [ht]
    rfl
  have e3 : ndB S p L G b = t - b + 1 := by
    unfold ndB
    rw [ht]
  have hpr : m_proof [.list (I (tk S (L + 3 * p).toNat b)), B2 L G] = some (pairD (prB S p L G b)) := hpr
  rw [e2] at hpr ⊢
  rw [e3]
  generalize lst L t (tk S (L + 3 * p).toNat b) = f at hpr ⊢
  simp [m_needs, runF, b_needs, entry, s3, hs, hpr, pairD]
def optD : Option Int → D
  | none => .none
  | some v => .int v
theorem e_numberF (R : Rd S p) {a : Int} {r : List Int} (h0 : lk S p = a :: r) (hL : 1 ≤ L) (hL2 : L ≤ 999) : m_number_of [T2 p (lk S p), B2 L G] = some (optD (nmO S p L G)) := by
  have hp := R.p2
  have hp1 := R.p1
  have he := e_never (L := L) (G := G) R h0 hL
  unfold nmO
  cases hn : nevB S p L G with
  | true =>
    rw [hn] at he
    rw [if_pos rfl]
    exact e_number_none he
  | false =>
    rw [hn] at he
    rw [if_neg (by decide)]
    cases hm : maxL ((tk S p.toNat 0).map fun n => ndB S p L G (n + 1)) with
    | none =>
      have e0 : tk S p.toNat 0 = a :: r := h0
      rw [e0] at hm
      cases hm
    | some M =>
      obtain ⟨h1, h2⟩ := maxL_iff.mp hm
      refine e_number R he (fun n => ndB S p L G (n + 1)) h1 (fun n hn => h2 _ (List.mem_map.mpr ⟨n, hn, rfl⟩)) fun n hin => ?_
      obtain ⟨q1, q2, _⟩ := mem_tk.mp hin
      have k1 := Int.emod_nonneg (n + 1) (show p ≠ 0 by omega)
      have k2 := Int.emod_lt_of_pos (n + 1) (show 0 < p by omega)
      have hx := e_needsF (b := (n + 1) % p) R h0 hL hL2 hn k1 (by omega)
      rw [TK.ndB_mod (by omega) R.per] at hx
      exact ⟨_, hx⟩
theorem zip_gaps (l : List Int) : (zipD (I l) (I (gapsOf p l))) = (l.zip (gapsOf p l)).map fun q => (.tuple [.int q.1, .int q.2] : D) := zipI _ _
theorem gaps_len (l : List Int) : (gapsOf p l).length = l.length := by
  cases l with
  | nil => rfl
  | cons a r =>
    show (((a :: r).zip (r ++ [a + p])).map _).length = _
    rw [List.length_map, List.length_zip, List.length_append, List.length_cons, List.length_singleton, Nat.min_self]
theorem e_leastN (R : Rd S p) {a f : Int} {r l : List Int} (h0 : lk S p = a :: r) (hc : m_check_round [T2 p (lk S p), B2 L G] = some .none) (hL : 1 ≤ L) (hn : nevB S p L G = true) (hf : farOf G p (lk S p) = f :: l) :
    m_least_more [T2 p (lk S p), B2 L G] = some (.tuple [.str ("never" : Str), .int f]) := by
  have he := e_never (L := L) (G := G) R h0 hL
  rw [hn] at he
  have hga := e_gaps R h0
  have hl := R.len
  rw [h0] at hc he hga hl hf ⊢
  have hga : m_gaps [T2 p (a :: r)] = some (.list (I (gapsOf p (a :: r)))) := hga
  rw [List.length_cons] at hl
  have hgl := gaps_len (p := p) (a :: r)
  have hff : ((((a :: r).zip (gapsOf p (a :: r))).filter fun q => decide (G < q.2)).map fun q => (.int q.1 : D)) = I (f :: l) := by
    rw [← hf]
    unfold farOf I
    rw [List.map_map]
    rfl
  generalize gapsOf p (a :: r) = gs at hga hgl hff
  have hz : (zipD (I (a :: r)) (I gs)).length ≤ 10000000 := by
    rw [zip_len, I_length, List.length_cons]; omega
  have q := lc_of (g := gT 2 (gsCons (gN 6) (gsCons (gN 7) gsNil))) (t := b_least_more_i2) (f := b_least_more_c5) (vs := [6, 7]) (sl := [.dat (T2 p (a :: r)), .dat (B2 L G), .un, .un, .un, .un, .un, .un, .un, .un, .un, .un]) (P := pot0) (fun q : Int × Int => (.tuple [.int q.1, .int q.2] : D)) (fun q => decide (G < q.2)) (fun q => .int q.1) (ns := (a :: r).zip gs) fun i hi => ⟨_, rfl, rfl, by simp [b_least_more_i2], fun _ => by simp [b_least_more_c5]⟩
  rw [hff] at q
  have e2 : L2.atI (I (f :: l)) 0 = some (.int f) := at_0 _ _
  have hz2 := hz
  rw [zipI] at hz2
  simp [m_least_more, runF, b_least_more, entry, hc, he, hga]
  rw [zipI, if_pos hz2, q]
  simp [e2]
theorem e_showsN (R : Rd S p) {a z : Int} {r : List Int} (h0 : lk S p = a :: r) (hc : m_check_round [T2 p (lk S p), B2 L G] = some .none) (hL : 1 ≤ L) (hn : nevB S p L G = true) (hz0 : z ∈ farOf G p (lk S p)) :
    m_shows_least_more [T2 p (lk S p), B2 L G, .tuple [.str ("never" : Str), .int z]] = some (.bool true) := by
  have he := e_never (L := L) (G := G) R h0 hL
  rw [hn] at he
  have hga := e_gaps R h0
  have hl := R.len
  rw [h0] at hc he hga hl hz0 ⊢
  have hga : m_gaps [T2 p (a :: r)] = some (.list (I (gapsOf p (a :: r)))) := hga
  rw [List.length_cons] at hl
  have hff : ((((a :: r).zip (gapsOf p (a :: r))).filter fun q => decide (G < q.2)).map fun q => (.int q.1 : D)) = I (farOf G p (a :: r)) := by
    unfold farOf I
    rw [List.map_map]
    rfl
  generalize farOf G p (a :: r) = fl at hff hz0
  generalize gapsOf p (a :: r) = gs at hga hff
  have hz : (zipD (I (a :: r)) (I gs)).length ≤ 10000000 := by
    rw [zip_len, I_length, List.length_cons]; omega
  have q := lc_of (g := gT 2 (gsCons (gN 9) (gsCons (gN 10) gsNil))) (t := b_shows_least_more_i1) (f := b_shows_least_more_c2) (vs := [9, 10]) (sl := [.dat (T2 p (a :: r)), .dat (B2 L G), .dat (.tuple [.str ("never" : Str), .int z]), .un, .un, .un, .un, .un, .un, .un, .un, .un, .un]) (P := pot0) (fun q : Int × Int => (.tuple [.int q.1, .int q.2] : D)) (fun q => decide (G < q.2)) (fun q => .int q.1) (ns := (a :: r).zip gs) fun i hi => ⟨_, rfl, rfl, by simp [b_shows_least_more_i1], fun _ => by simp [b_shows_least_more_c2]⟩
  rw [hff] at q
  have hz2 := hz
  rw [zipI] at hz2
  have n24 : opNotIn (.int 2) (.tuple [.int 2, .int 4]) = some (.bool false) := by simp [opNotIn, itemsD, flatD, inD, PyData.eqv]
  have hin := in_I (l := fl) z
  rw [decide_eq_true hz0] at hin
  simp [m_shows_least_more, runF, b_shows_least_more, entry, hc, he, hga, n24]
  rw [zipI, if_pos hz2, q]
  simp [e_is_integer, hin, he]
theorem e_leastM (R : Rd S p) {a : Int} {r : List Int} (h0 : lk S p = a :: r) (hc : m_check_round [T2 p (lk S p), B2 L G] = some .none) (hL : 1 ≤ L) (hL2 : L ≤ 999) (hn : nevB S p L G = false) {M : Int} {b : Nat} (hb : b < p.toNat) (hbM : ndB S p L G b = M) (hM : ∀ i : Nat, i < p.toNat → ndB S p L G i ≤ M) :
    m_least_more [T2 p (lk S p), B2 L G] = some (.tuple [.str ("more" : Str), .int (M - L), .tuple ((List.range p.toNat).map fun i : Nat => pairD (prB S p L G i)), if 1 < M - L then .int (firstB (fun i : Nat => ndB S p L G i) (M - L) L p) else .none]) := by
  have hp1 := R.p1
  have he := e_never (L := L) (G := G) R h0 hL
  rw [hn] at he
  exact e_least_more R hc he (fun i : Nat => ndB S p L G i) (fun i : Nat => pairD (prB S p L G i)) hb hbM hM fun i hi => e_needsF (b := (i : Int)) R h0 hL hL2 hn (by omega) (by omega)
theorem eq_optD2 (x y : Option Int) : opEq (optD x) (optD y) = some (.bool (decide (x = y))) := by
  cases x with
  | none =>
    cases y with
    | none => rfl
    | some v => rfl
  | some u =>
    cases y with
    | none => rfl
    | some v =>
      show some (PyData.bool (decide (u = v))) = _
      simp
theorem take_filterX {l : List Int} {q : Int → Bool} {i : Nat} {x : Int} (h : l[i]? = some x) : (l.take (i + 1)).filter q = (l.take i).filter q ++ if q x = true then [x] else [] := by
  rw [List.take_add_one, h, List.filter_append]
  congr 1
  show List.filter q [x] = _
  by_cases hq : q x = true
  · rw [List.filter_cons_of_pos hq, if_pos hq]; rfl
  · rw [List.filter_cons_of_neg hq, if_neg hq]; rfl
/-- the looks each of which can be left out -/
def idl (S : Int → Bool) (p L G : Int) : List Int := if (tk S p.toNat 0).length = 1 then [] else (tk S p.toNat 0).filter fun x => decide (nmO (lessX S p x) p L G = nmO S p L G)
theorem two_left {l : List Int} (hp : l.Pairwise (· ≠ ·)) (hl : l.length ≠ 1) {x : Int} (hx : x ∈ l) : ∃ a r, l.filter (fun t => !decide (t = x)) = a :: r := by
  cases h : l.filter fun t => !decide (t = x) with
  | cons a r => exact ⟨a, r, rfl⟩
  | nil =>
    exfalso
    rw [List.filter_eq_nil_iff] at h
    cases l with
    | nil => cases hx
    | cons y m =>
      cases m with
      | nil => exact hl rfl
      | cons z m =>
        have h1 := h y List.mem_cons_self
        have h2 := h z (List.mem_cons_of_mem _ List.mem_cons_self)
        have h3 := (List.pairwise_cons.mp hp).1 z List.mem_cons_self
        simp at h1 h2
        omega
theorem tk_ne : ∀ (n : Nat) (b : Int), (tk S n b).Pairwise (· ≠ ·)
  | 0, b => .nil
  | n + 1, b => by
    simp only [tk]
    split
    · exact .cons (fun t ht => by have := (mem_tk.mp ht).1; omega) (tk_ne n (b + 1))
    · exact tk_ne n (b + 1)
theorem e_idleF (R : Rd S p) {a : Int} {r : List Int} (h0 : lk S p = a :: r) (hc : m_check_round [T2 p (lk S p), B2 L G] = some .none) (hL : 1 ≤ L) (hL2 : L ≤ 999) : m_idle [T2 p (lk S p), B2 L G] = some (.tuple (I (idl S p L G))) := by
  have hp := R.p2
  have hlen := R.len
  have h7 : (lk S p).length ≤ 10000000 := by omega
  unfold idl
  by_cases hl : (lk S p).length = 1
  · rw [if_pos hl]
    simp [m_idle, runF, b_idle, entry, hc, hl]
  · rw [if_neg hl]
    have hl' : ¬ ((lk S p).length : Int) = 1 := by omega
    have hnum := e_numberF (G := G) R h0 hL hL2
    let cn : Int → Bool := fun x => decide (nmO (lessX S p x) p L G = nmO S p L G)
    let acc : Nat → List Int := fun k => ((lk S p).take k).filter cn
    refine Exists.elim (for_0 (g := gN 6) (b := b_idle_l1) (ds := I (lk S p))
      (e := ⟨[.dat (T2 p (lk S p)), .dat (B2 L G), .dat (.int p), .dat (.tuple (I (lk S p))), .dat (optD (nmO S p L G)), .own [], .un, .un], pot0⟩)
      (fun k en => ∃ x6, en = ⟨[.dat (T2 p (lk S p)), .dat (B2 L G), .dat (.int p), .dat (.tuple (I (lk S p))), .dat (optD (nmO S p L G)), .own (I (acc k)), x6, .un], pot0⟩)
      (fun q => ∃ x6, q = .nx ⟨[.dat (T2 p (lk S p)), .dat (B2 L G), .dat (.int p), .dat (.tuple (I (lk S p))), .dat (optD (nmO S p L G)), .own (I ((lk S p).filter cn)), x6, .un], pot0⟩)
      ⟨.un, by simp [acc]⟩ (fun i d en hd hi => ?_) fun en he => ?_) fun q ⟨hq, x6, hK⟩ => ?_
    · obtain ⟨x6, rfl⟩ := hi
      obtain ⟨x, hx, rfl⟩ := getI_inv hd
      refine ⟨_, rfl, ?_⟩
      have hxm := List.mem_of_getElem? hx
      obtain ⟨a', r', hlf⟩ := two_left (tk_ne _ _) hl hxm
      have hlk : lk (lessX S p x) p = (lk S p).filter fun t => !decide (t = x) := less_lk (by omega) x
      have hR : Rd (lessX S p x) p := ⟨R.p2, R.p1, less_per R.per x⟩
      have hno := e_numberF (G := G) hR (hlk.trans hlf) hL hL2
      rw [hlk] at hno
      have q2 := lc_I (g := gN 7) (t := b_idle_i1) (f := b_idle_c1) (vs := [7]) (sl := [.dat (T2 p (lk S p)), .dat (B2 L G), .dat (.int p), .dat (.tuple (I (lk S p))), .dat (optD (nmO S p L G)), .own (I (acc i)), .dat (.int x), .un]) (P := pot0)
        (fun n => !decide (n = x)) (fun n => .int n) (ns := lk S p) fun n hn => ⟨_, rfl, rfl, by simp [b_idle_i1], fun _ => by simp [b_idle_c1]⟩
      have q3 : ((lk S p).filter fun n => !decide (n = x)).map (fun n => (.int n : D)) = I ((lk S p).filter fun n => !decide (n = x)) := rfl
      rw [q3] at q2
      have hcmp := eq_optD2 (nmO (lessX S p x) p L G) (nmO S p L G)
      have hal : (acc i).length < 10000000 := by
        have h1 : (acc i).length ≤ ((lk S p).take i).length := List.length_filter_le ..
        rw [List.length_take] at h1
        omega
      have hacc : acc (i + 1) = acc i ++ if cn x = true then [x] else [] := take_filterX hx
      refine ⟨.nx ⟨[.dat (T2 p (lk S p)), .dat (B2 L G), .dat (.int p), .dat (.tuple (I (lk S p))), .dat (optD (nmO S p L G)), .own (I (acc (i + 1))), .dat (.int x), .un], pot0⟩, ?_, ⟨_, rfl⟩⟩
      rw [hacc]
      by_cases hcx : nmO (lessX S p x) p L G = nmO S p L G
      · have hcx' : cn x = true := decide_eq_true hcx
        rw [if_pos hcx', I_append]
        rw [decide_eq_true hcx] at hcmp
        simp [b_idle_l1, h7, q2, hno, hcmp, hal]
        rfl
      · have hcx' : ¬ cn x = true := fun z => hcx (of_decide_eq_true z)
        rw [if_neg hcx', List.append_nil]
        rw [decide_eq_false hcx] at hcmp
        simp [b_idle_l1, h7, q2, hno, hcmp]
    · obtain ⟨x6, rfl⟩ := he
      rw [I_length]
      refine ⟨x6, ?_⟩
      have : acc (lk S p).length = (lk S p).filter cn := by
        show ((lk S p).take (lk S p).length).filter cn = _
        rw [List.take_length]
      rw [this]
    · subst hK
      simp [m_idle, runF, b_idle, entry, hc, hl', hnum, hq]
      all_goals rfl
theorem e_provedF (R : Rd S p) (hc : m_check_round [T2 p (lk S p), B2 L G] = some .none) (hL : 1 ≤ L) {b n : Int} (hb : 0 ≤ b) (hb2 : b ≤ 9999) (hn : 1 ≤ n) (hn2 : n ≤ 9999) :
    m_proved [T2 p (lk S p), B2 L G, .int b, .int n] = some (pairD (optP L G (tk S n.toNat b))) := by
  have hs := e_seen' R (b := b) (e := b + n) hb (by omega) (by omega)
  have e1 : (b + n - b).toNat = n.toNat := by congr 1; omega
  rw [e1] at hs
  have hlen : (tk S n.toNat b).length ≤ 500000 := by
    have := tk_len (S := S) n.toNat b
    omega
  have hh := e_proofF (L := L) (G := G) hL (tk_asc (S := S) n.toNat b) hlen
  simp [m_proved, runF, b_proved, entry, hc, e_is_between, hb, hb2, hn, hn2, hs, hh]
end
end K42

/-! the pot's words, evaluated -/
namespace TK
open PySem PySem.Spec L3
section
variable (e : En) (fa : F) (i : Nat) (g : D → Pot → Option Pot) (f : Pot → Option D) (x y : Int) (P : Pot)
@[simp] theorem q_potIs : potIs i f e = match e.sl[i]? with
  | some .pot => (f e.pot).map fun d => (d, e)
  | _ => none := rfl
@[simp] theorem q_potFull : fPotFull i e = match e.sl[i]? with
  | some .pot => some (!e.pot.g.isEmpty, e)
  | _ => none := rfl
@[simp] theorem q_sPot : sPot i fa g e = (fa e).bind fun p => match p.2.sl[i]? with
  | some .pot => (g p.1 p.2.pot).map fun P => .nx (p.2.po P)
  | _ => none := rfl
@[simp] theorem q_setN : setN (.int x) P = some ⟨P.g, P.seed, x⟩ := rfl
@[simp] theorem q_setG (z : Int) (r : List Int) (s n : Int) : setG0 (.int x) ⟨z :: r, s, n⟩ = some ⟨x :: r, s, n⟩ := rfl
@[simp] theorem q_potCut : sPotCut i e = match e.sl[i]? with
  | some .pot => if e.pot.g.length ≤ big then some (.nx (e.po ⟨e.pot.g.drop 1, e.pot.seed, e.pot.n⟩)) else none
  | _ => none := rfl
theorem q_pow : opPow (.int x) (.int y) = if (decide (0 ≤ y) && decide (((x.natAbs.log2 + 1 : Nat) : Int) * y ≤ 100000000)) = true then some (.int (x ^ y.toNat)) else none := rfl
end
section
variable {e e1 e2 : En} {fa fb : F} {ra : FA} {x y z : D} {ds : List D} {i : Nat}
theorem v_bin {op : D → D → Option D} (h1 : fa e = some (x, e1)) (h2 : fb e1 = some (y, e2)) (h3 : op x y = some z) : fBin op fa fb e = some (z, e2) := by
  show ((fa e).bind fun p => (fb p.2).bind fun q => (op p.1 q.1).map fun z => (z, q.2)) = _
  rw [h1]
  show ((fb e1).bind fun q => (op x q.1).map fun z => (z, q.2)) = _
  rw [h2]
  show (op x y).map _ = _
  rw [h3]
  rfl
theorem v_call {fn : List D → Option D} (h1 : ra e = some (ds, e1)) (h2 : fn ds = some z) : fCall fn ra e = some (z, e1) := by
  show ((ra e).bind fun p => (fn p.1).map fun z => (z, p.2)) = _
  rw [h1]
  show (fn ds).map _ = _
  rw [h2]
  rfl
theorem v_one (h1 : fa e = some (x, e1)) : fCons fa fNil e = some ([x], e1) := by
  show ((fa e).bind fun p => (fNil p.2).bind fun q => some (p.1 :: q.1, q.2)) = _
  rw [h1]
  rfl
theorem v_set (h1 : fa e = some (x, e1)) : sSet i fa e = some (.nx (e1.put i (.dat x))) := by
  show (fa e).map _ = _
  rw [h1]
  rfl
end
/-- a pot in the midst of a law: at most k drawn -/
structure Good (k : Nat) (P : Pot) : Prop where
  s0 : 0 ≤ P.seed
  s1 : P.seed < 2305843009213693952
  n0 : 0 ≤ P.n
  n1 : P.n ≤ k
  g1 : P.g.length ≤ 63
theorem Good.mono {j k : Nat} {P : Pot} (h : Good j P) (hk : j ≤ k) : Good k P := ⟨h.s0, h.s1, h.n0, by have := h.n1; omega, h.g1⟩
theorem pow3 {x : Int} (h0 : 0 ≤ x) (h1 : x < 18446744073709551616) : opPow (.int x) (.int 3) = some (.int (x ^ 3)) := by
  have hl : x.natAbs.log2 < 64 := by
    by_cases z : x.natAbs = 0
    · rw [z]; decide
    · refine (Nat.log2_lt z).mpr ?_
      have : (2 : Nat) ^ 64 = 18446744073709551616 := by decide
      omega
  have h2 : (((x.natAbs.log2 + 1 : Nat)) : Int) * 3 ≤ 100000000 := by omega
  rw [q_pow, decide_eq_true (show (0 : Int) ≤ 3 by decide), decide_eq_true h2]
  rfl
theorem log64 {x : Int} (h0 : 0 ≤ x) (h1 : x < 18446744073709551616) : x.natAbs.log2 < 64 := by
  by_cases z : x.natAbs = 0
  · rw [z]; decide
  · refine (Nat.log2_lt z).mpr ?_
    have : (2 : Nat) ^ 64 = 18446744073709551616 := by decide
    omega
end TK

namespace K42
open PySem PySem.Spec L3 TK
theorem prime_at {k : Int} (h0 : 0 ≤ k) (h1 : k < 5) : ∃ q : Int, L2.atI [(.int 2147483647 : D), .int 2147483629, .int 2147483587, .int 2147483579, .int 2147483563] k = some (.int q) ∧ 0 < q ∧ q < 2147483648 := by
  rcases (by omega : k = 0 ∨ k = 1 ∨ k = 2 ∨ k = 3 ∨ k = 4) with rfl | rfl | rfl | rfl | rfl
  · exact ⟨_, atI_int (by decide) rfl, by decide, by decide⟩
  · exact ⟨_, atI_int (by decide) rfl, by decide, by decide⟩
  · exact ⟨_, atI_int (by decide) rfl, by decide, by decide⟩
  · exact ⟨_, atI_int (by decide) rfl, by decide, by decide⟩
  · exact ⟨_, atI_int (by decide) rfl, by decide, by decide⟩
theorem e_take_g {u : Int} (hu : 0 < u) (hu2 : u ≤ 1000000000) {k : Nat} (hk : k ≤ 1000) {z : Int} {r : List Int} {sd n : Int} (s0 : 0 ≤ sd) (s1 : sd < 2305843009213693952) (n0 : 0 ≤ n) (n1 : n ≤ k) (g1 : (z :: r).length ≤ 63) :
    ∃ d P', m__law_take [.int u] ⟨z :: r, sd, n⟩ = some (.int d, P') ∧ 0 ≤ d ∧ d < u ∧ Good (k + 1) P' := by
    have hu3 : u < 1073741824 := by omega
    have d0 := Int.emod_nonneg z (show u ≠ 0 by omega)
    have d1 := Int.emod_lt_of_pos z hu
    rw [List.length_cons] at g1
    have g2 : r.length + 1 ≤ 10000000 := by omega
    by_cases hz : z / u = 0
    · refine ⟨z % u, ⟨r, sd, n⟩, ?_, d0, d1, ⟨s0, s1, n0, by show n ≤ _; omega, by show r.length ≤ 63; omega⟩⟩
      simp [m__law_take, runQ, b__law_take, entry, hu, hu3, hz, g2]
    · refine ⟨z % u, ⟨z / u :: r, sd, n⟩, ?_, d0, d1, ⟨s0, s1, n0, by show n ≤ _; omega, by show (z / u :: r).length ≤ 63; rw [List.length_cons]; omega⟩⟩
      simp [m__law_take, runQ, b__law_take, entry, hu, hu3, hz]
theorem take_cube (u sd n' q base cube bl : Int) (m1 : small64 97423 = true) (m2 : small64 n' = true) (hb : sd + 97423 * n' * n' + 613 = base) (hpow : opPow (.int base) (.int 3) = some (.int cube)) (q0 : 0 < q) (hbl : cube % q = bl) :
    sSet 4 (fBin opMod (fCall bInt (fCons (fBin opPow (fCall bInt (fCons (fBin opAdd (fBin opAdd (fPot1 0) (fBin opMulT (fBin opMulT (fC (.int 97423)) (fPot2 0)) (fPot2 0))) (fC (.int 613))) (fNil))) (fC (.int 3))) (fNil))) (fV 3)) ⟨[.pot, .dat (.int u), .un, .dat (.int q), .un], ⟨[], sd, n'⟩⟩ = some (.nx ⟨[.pot, .dat (.int u), .un, .dat (.int q), .dat (.int bl)], ⟨[], sd, n'⟩⟩) := by
  have h1 : fCall bInt (fCons (fBin opAdd (fBin opAdd (fPot1 0) (fBin opMulT (fBin opMulT (fC (.int 97423)) (fPot2 0)) (fPot2 0))) (fC (.int 613))) (fNil)) ⟨[.pot, .dat (.int u), .un, .dat (.int q), .un], ⟨[], sd, n'⟩⟩ = some (.int base, ⟨[.pot, .dat (.int u), .un, .dat (.int q), .un], ⟨[], sd, n'⟩⟩) := by
    simp [m1, m2, hb]
  have hm : opMod (.int cube) (.int q) = some (.int bl) := by simp [q0, hbl]
  have h3 : fV 3 ⟨[.pot, .dat (.int u), .un, .dat (.int q), .un], ⟨[], sd, n'⟩⟩ = some (.int q, ⟨[.pot, .dat (.int u), .un, .dat (.int q), .un], ⟨[], sd, n'⟩⟩) := rfl
  have h4 : fC (.int 3) ⟨[.pot, .dat (.int u), .un, .dat (.int q), .un], ⟨[], sd, n'⟩⟩ = some (.int 3, ⟨[.pot, .dat (.int u), .un, .dat (.int q), .un], ⟨[], sd, n'⟩⟩) := rfl
  exact v_set (v_bin (v_call (v_one (v_bin h1 h4 hpow)) (q_intI cube)) h3 hm)
theorem e_take_n {u : Int} (hu : 0 < u) (hu2 : u ≤ 1000000000) {k : Nat} (hk : k ≤ 1000) {sd n : Int} (s0 : 0 ≤ sd) (s1 : sd < 2305843009213693952) (n0 : 0 ≤ n) (n1 : n ≤ k) :
    ∃ d P', m__law_take [.int u] ⟨[], sd, n⟩ = some (.int d, P') ∧ 0 ≤ d ∧ d < u ∧ Good (k + 1) P' := by
    have hu3 : u < 1073741824 := by omega
    obtain ⟨q, hq, q0, q1⟩ := prime_at (k := (n + 1) % 5) (Int.emod_nonneg _ (by decide)) (Int.emod_lt_of_pos _ (by decide))
    generalize hnn : n + 1 = n' at hq
    have hn0 : 1 ≤ n' := by omega
    have hn1 : n' ≤ 1001 := by omega
    have m1 : small64 (97423 : Int) = true := by decide
    have m2 : small64 n' = true := s64 (by omega) (by omega)
    have m3 : small64 (367 : Int) = true := by decide
    have nn : n' * n' ≤ 1001 * 1001 := Int.mul_le_mul hn1 hn1 (by omega) (by omega)
    have nn0 : 0 ≤ n' * n' := Int.mul_nonneg (by omega) (by omega)
    have hbase : 0 ≤ sd + 97423 * n' * n' + 613 ∧ sd + 97423 * n' * n' + 613 < 18446744073709551616 := by
      rw [Int.mul_assoc]
      omega
    generalize hb : sd + 97423 * n' * n' + 613 = base at hbase
    have hpow := pow3 hbase.1 hbase.2
    have e0 := Int.emod_nonneg (base ^ 3) (show q ≠ 0 by omega)
    have e1 := Int.emod_lt_of_pos (base ^ 3) q0
    generalize hcb : base ^ 3 = cube at hpow e0 e1
    generalize hbl : cube % q = bl at e0 e1
    have f0 := Int.emod_nonneg bl (show (10243 : Int) ≠ 0 by decide)
    have f1 := Int.emod_lt_of_pos bl (show (0 : Int) < 10243 by decide)
    have m4 : small64 bl = true := by
      unfold small64
      rw [Bool.and_eq_true, decide_eq_true_eq, decide_eq_true_eq]
      omega
    generalize hv : bl * (bl % 10243 + 367 * n') % 2305843009213693907 = v
    have d0 := Int.emod_nonneg (v / 193) (show u ≠ 0 by omega)
    have d1 := Int.emod_lt_of_pos (v / 193) hu
    refine ⟨v / 193 % u, ⟨[], sd, n'⟩, ?_, d0, d1, ⟨s0, s1, by show 0 ≤ n'; omega, by show n' ≤ _; omega, by show ([] : List Int).length ≤ 63; decide⟩⟩
    have c3 := take_cube u sd n' q base cube bl m1 m2 hb hpow q0 hbl
    show endQ (b__law_take ⟨[.pot, .dat (.int u), .un, .un, .un], ⟨[], sd, n⟩⟩) = _
    have c0 : ∀ f : FS, sSeq (sIf (fPotFull 0) (sSeq (sSet 2 (fBin opMod (fCall bInt (fCons (fPot00 0) (fNil))) (fV 1))) (sSeq (sPot 0 (fBin opDiv (fPot00 0) (fV 1)) setG0) (sSeq (sIf (fT (fBin opEq (fPot00 0) (fC (.int 0)))) (sSeq (sPotCut 0) (sNext)) (sNext)) (sSeq (sRet (fV 2)) (sNext))))) (sNext)) f ⟨[.pot, .dat (.int u), .un, .un, .un], ⟨[], sd, n⟩⟩ = f ⟨[.pot, .dat (.int u), .un, .un, .un], ⟨[], sd, n⟩⟩ := fun f => by
      rw [q_seq]
      simp
    have c1 : ∀ f : FS, sSeq (sPot 0 (fBin opAdd (fPot2 0) (fC (.int 1))) setN) f ⟨[.pot, .dat (.int u), .un, .un, .un], ⟨[], sd, n⟩⟩ = f ⟨[.pot, .dat (.int u), .un, .un, .un], ⟨[], sd, n'⟩⟩ := fun f => by
      rw [q_seq]
      simp [hnn]
    have c2 : ∀ f : FS, sSeq (sSet 3 (fBin opIx (fLst (fCons (fC (.int 2147483647)) (fCons (fC (.int 2147483629)) (fCons (fC (.int 2147483587)) (fCons (fC (.int 2147483579)) (fCons (fC (.int 2147483563)) (fNil))))))) (fBin opMod (fCall bInt (fCons (fPot2 0) (fNil))) (fC (.int 5))))) f ⟨[.pot, .dat (.int u), .un, .un, .un], ⟨[], sd, n'⟩⟩ = f ⟨[.pot, .dat (.int u), .un, .dat (.int q), .un], ⟨[], sd, n'⟩⟩ := fun f => by
      rw [q_seq]
      simp [hq]
    unfold b__law_take
    rw [c0, c1, c2, q_seq, c3]
    simp [m3, m4, hv, hu]
theorem e_take {u : Int} (hu : 0 < u) (hu2 : u ≤ 1000000000) {k : Nat} (hk : k ≤ 1000) {P : Pot} (hg : Good k P) : ∃ d P', m__law_take [.int u] P = some (.int d, P') ∧ 0 ≤ d ∧ d < u ∧ Good (k + 1) P' := by
  obtain ⟨g, sd, n⟩ := P
  obtain ⟨s0, s1, n0, n1, g1⟩ := hg
  cases g with
  | cons z r => exact e_take_g hu hu2 hk s0 s1 n0 n1 g1
  | nil => exact e_take_n hu hu2 hk s0 s1 n0 n1
end K42

/-! what may be shown -/
namespace TK
open PySem PySem.Spec L3
theorem okr {d : D} (h1 : d.showable = true) (h2 : d.hasDict = false) (h3 : d.depth ≤ 60) (h4 : d.leavesShort 13 = true) (h5 : d.weight ≤ 600000) : okRepr d = true := by
  have h6 := PyData.shown_le 13 (by decide) d h4
  unfold okRepr
  simp only [Bool.and_eq_true, Bool.not_eq_true', decide_eq_true_eq]
  exact ⟨⟨⟨h1, h2⟩, h3⟩, by show d.shown.length ≤ 10000000; omega⟩
def Lit (l : List Int) : Prop := l.length ≤ 1000 ∧ ∀ n ∈ l, n.natAbs < 10 ^ 12
theorem log_small {n : Int} (h : n.natAbs < 10 ^ 12) : n.natAbs.log2 < 1920 := by
  have : n.natAbs.log2 < 40 := by
    by_cases h0 : n.natAbs = 0
    · rw [h0]; decide
    · refine (Nat.log2_lt h0).mpr (Nat.lt_of_lt_of_le h (by decide))
  omega
theorem lit_parts : ∀ {l : List Int}, (∀ n ∈ l, n.natAbs < 10 ^ 12) → PyData.showableAll (I l) = true ∧ PyData.hasDictAll (I l) = false ∧ PyData.depthAll (I l) = 0 ∧ PyData.leavesShortAll 13 (I l) = true
  | [], _ => ⟨rfl, rfl, rfl, rfl⟩
  | n :: r, h => by
    obtain ⟨a1, a2, a3, a4⟩ := lit_parts (l := r) fun m hm => h m (List.mem_cons_of_mem _ hm)
    have hn := h n List.mem_cons_self
    have k1 : PyData.showable (.int n) = true := by simp [PyData.showable, log_small hn]
    have k4 : PyData.leavesShort 13 (.int n) = true := by
      have := PyData.shown_int_le hn
      simp [PyData.leavesShort, this]
    rw [I_cons]
    refine ⟨?_, ?_, ?_, ?_⟩
    · simp [PyData.showableAll, k1, a1]
    · simp [PyData.hasDictAll, PyData.hasDict, a2]
    · simp [PyData.depthAll, PyData.depth, a3]
    · simp [PyData.leavesShortAll, k4, a4]
theorem int_weight {n : Int} (h : n.natAbs < 10 ^ 12) : PyData.weight (.int n) ≤ 41 := by
  have : n.natAbs.log2 < 40 := by
    by_cases h0 : n.natAbs = 0
    · rw [h0]; decide
    · refine (Nat.log2_lt h0).mpr (Nat.lt_of_lt_of_le h (by decide))
  simp only [PyData.weight]
  split <;> omega
theorem lit_weight : ∀ {l : List Int}, (∀ n ∈ l, n.natAbs < 10 ^ 12) → PyData.weightAll (I l) ≤ 50 * l.length
  | [], _ => by simp [PyData.weightAll]
  | n :: r, h => by
    have a := lit_weight (l := r) fun m hm => h m (List.mem_cons_of_mem _ hm)
    have b := int_weight (h n List.mem_cons_self)
    rw [I_cons]
    simp only [PyData.weightAll, List.length_cons] at a b ⊢
    omega
theorem okr_none : okRepr .none = true := by decide
theorem okr_tup {l : List Int} (h : Lit l) : okRepr (.tuple (I l)) = true := by
  obtain ⟨a1, a2, a3, a4⟩ := lit_parts h.2
  have := lit_weight h.2
  have := h.1
  refine okr ?_ ?_ ?_ ?_ ?_
  · simp [PyData.showable, a1]
  · simp [PyData.hasDict, a2]
  · simp [PyData.depth, a3]
  · simp [PyData.leavesShort, a4]
  · simp only [PyData.weight]; omega
theorem okr_two {l m : List Int} (h : Lit l) (h' : Lit m) : okRepr (.tuple [.tuple (I l), .tuple (I m)]) = true := by
  obtain ⟨a1, a2, a3, a4⟩ := lit_parts h.2
  obtain ⟨b1, b2, b3, b4⟩ := lit_parts h'.2
  have := lit_weight h.2
  have := lit_weight h'.2
  have := h.1
  have := h'.1
  refine okr ?_ ?_ ?_ ?_ ?_
  · simp [PyData.showable, PyData.showableAll, a1, b1]
  · simp [PyData.hasDict, PyData.hasDictAll, a2, b2]
  · simp [PyData.depth, PyData.depthAll, a3, b3]
  · simp [PyData.leavesShort, PyData.leavesShortAll, a4, b4]
  · simp only [PyData.weight, PyData.weightAll]; omega
theorem okr_never : okRepr (.tuple [.str ("never" : Str)]) = true := by decide +kernel
theorem okr_more {n : Int} (h : n.natAbs < 10 ^ 12) : okRepr (.tuple [.str ("more" : Str), .int n]) = true := by
  have k1 : PyData.showable (.int n) = true := by simp [PyData.showable, log_small h]
  have k4 : PyData.leavesShort 13 (.int n) = true := by
    have := PyData.shown_int_le h
    simp [PyData.leavesShort, this]
  have k5 : PyData.leavesShort 13 (.str ("more" : Str)) = true := by decide +kernel
  refine okr ?_ ?_ ?_ ?_ ?_
  · simp [PyData.showable, PyData.showableAll, log_small h]
  · simp [PyData.hasDict, PyData.hasDictAll]
  · simp [PyData.depth, PyData.depthAll]
  · simp only [PyData.leavesShort, PyData.leavesShortAll] at k4 k5 ⊢
    simp [k4, k5]
  · have a := int_weight h
    have b : PyData.weight (.str ("more" : Str)) = 4 := by decide +kernel
    simp only [PyData.weight, PyData.weightAll] at a b ⊢
    omega
theorem shown_empty : PyData.shown (.tuple []) = ("()" : Str) := by decide +kernel
end TK

namespace K42
open PySem PySem.Spec L3 TK
theorem mulEq {x y : Int} (h : small64 x = true) : opMulT (.int x) (.int y) = some (.int (x * y)) := by rw [q_mulI, h]; rfl
theorem small_abs {n : Int} (h0 : -1000000 ≤ n) (h1 : n ≤ 1000000) : n.natAbs < 10 ^ 12 := by omega
theorem inT_I {l : List Int} (z : Int) : opNotIn (.int z) (.tuple (I l)) = some (.bool (!decide (z ∈ l))) := by
  have h := in_I (l := l) z
  simp only [opIn, opNotIn, itemsD, flat_I] at h ⊢
  rw [inD_I] at h ⊢
  rfl
section
variable {S : Int → Bool} {p L G : Int}
theorem look_mem (R : Rd S p) {f : Int} (h : S f = true) : f % p ∈ lk S p := by
  have hp := R.p2
  have m1 := Int.emod_nonneg f (show p ≠ 0 by omega)
  have m2 := Int.emod_lt_of_pos f (show 0 < p by omega)
  have dv : p ∣ f % p - f := ⟨-(f / p), by
    have := Int.emod_add_mul_ediv f p
    rw [Int.mul_neg]; omega⟩
  have := per_dvd R.per dv f
  rw [show f + (f % p - f) = f % p by omega, h] at this
  exact mem_tk.mpr ⟨m1, by omega, this⟩
theorem e_does_prove (R : Rd S p) {b n f t : Int} (hb : 0 ≤ b) (hn : b + n ≤ 50000) (h1 : b ≤ f) (h2 : f ≤ t) (h3 : t < b + n) (h4 : L ≤ t - f) (sf : S f = true) (st : S t = true) (hs : Short S G f t) :
    m_does_prove [T2 p (lk S p), B2 L G, .int b, .int n, .tuple [.int f, .int t]] = some (.bool true) := by
  have hp := R.p2
  have hp1 := R.p1
  have h0 : 0 < p := by omega
  have q1 := lc_all (g := gN 8) (f := b_does_prove_c2) (vs := [8]) (sl := [.dat (T2 p (lk S p)), .dat (B2 L G), .dat (.int b), .dat (.int n), .dat (.tuple [.int f, .int t]), .un, .un, .un, .un, .un, .un]) (P := pot0) PyData.int (fun _ => .bool true) (ns := [f, t]) fun z hz => ⟨_, rfl, rfl, by simp [b_does_prove_c2, e_is_integer]⟩
  have a1 := all_of (fun _ : Int => true) [f, t]
  simp at q1 a1
  have i1 := inT_I (l := lk S p) (f % p)
  have i2 := inT_I (l := lk S p) (t % p)
  rw [decide_eq_true (look_mem R sf)] at i1
  rw [decide_eq_true (look_mem R st)] at i2
  generalize hm : (if f + p < t then f + p else t) = m
  have hm1 : f ≤ m ∧ m ≤ t := by
    by_cases q : f + p < t
    · rw [if_pos q] at hm; omega
    · rw [if_neg q] at hm; omega
  have hse := e_seen' R (b := f) (e := m + 1) (by omega) (by omega) (by omega)
  generalize hl : tk S (m + 1 - f).toNat f = l at hse
  have hlen : l.length ≤ 60000 := by
    have := tk_len (S := S) (m + 1 - f).toNat f
    rw [hl] at this
    omega
  have hz : (zipD (I l) (I l.tail)).length ≤ 10000000 := by
    rw [zip_len, I_length]; omega
  have q2 := lc_all (g := gT 2 (gsCons (gN 9) (gsCons (gN 10) gsNil))) (f := b_does_prove_c1) (vs := [9, 10]) (sl := [.dat (T2 p (lk S p)), .dat (B2 L G), .dat (.int b), .dat (.int n), .dat (.tuple [.int f, .int t]), .dat (.int f), .dat (.int t), .dat (.list (I l)), .un, .un, .un]) (P := pot0) (fun q : Int × Int => (.tuple [.int q.1, .int q.2] : D)) (fun q => .bool (decide (q.2 - q.1 ≤ G))) (ns := l.zip l.tail) fun z hz => ⟨_, rfl, rfl, by simp [b_does_prove_c1]⟩
  have a2 := all_of (fun q : Int × Int => decide (q.2 - q.1 ≤ G)) (l.zip l.tail)
  have hall : ((l.zip l.tail).all fun q => decide (q.2 - q.1 ≤ G)) = true := by
    rw [List.all_eq_true]
    intro q hq
    obtain ⟨i, k1, k2⟩ := zip_idx hq
    rw [List.getElem?_tail] at k2
    rw [← hl] at k1 k2
    obtain ⟨n1, n2⟩ := tk_next k1 k2
    obtain ⟨u1, u2, u3⟩ := mem_tk.mp (List.mem_of_getElem? k1)
    obtain ⟨v1, v2, v3⟩ := mem_tk.mp (List.mem_of_getElem? k2)
    exact decide_eq_true (hs q.1 q.2 u1 (by omega) n1 u3 v3 n2)
  rw [hall] at a2
  have h4' : ¬ t - f < L := by omega
  have hmi : bMin [.int t, .int (f + p)] = some (.int m) := by rw [q_min2, hm]
  rw [← zipI] at q2
  generalize (l.zip l.tail).map (fun q => (PyData.bool (decide (q.2 - q.1 ≤ G)) : D)) = row at q2 a2
  simp (implicitDefEqProofs := false) [-q_min2, m_does_prove, runF, b_does_prove, entry, q1, a1, h1, h2, h3, h4', h0, i1, i2, hmi, hse, cut1D, hz, q2, a2]
/-- what a row of pairs must be -/
def PrOk (S : Int → Bool) (L G : Int) (n b : Int) (q : Int × Int) : Prop := b ≤ q.1 ∧ q.1 ≤ q.2 ∧ q.2 < b + n ∧ L ≤ q.2 - q.1 ∧ S q.1 = true ∧ S q.2 = true ∧ Short S G q.1 q.2
def pT (q : Int × Int) : D := .tuple [.int q.1, .int q.2]
theorem enum_pT (ps : List (Int × Int)) : enumD 0 (ps.map pT) = (enumD 0 (ps.map pT)) := rfl
theorem all_true : ∀ {ds : List D}, (∀ d ∈ ds, d = .bool true) → bAll [.list ds] = some (.bool true) := fun {ds} h => by
  have e : ds = List.replicate ds.length (.bool true) := List.eq_replicate_iff.mpr ⟨rfl, h⟩
  have := all_of (fun _ : Nat => true) (List.range ds.length)
  rw [show (List.range ds.length).map (fun _ => (PyData.bool true : D)) = List.replicate ds.length (.bool true) by rw [List.map_const', List.length_range], ← e] at this
  rw [this]
  simp
theorem isi_none : isiD "int" .none = some false := by decide +kernel
theorem isb_none (a b : Int) : m_is_between [.none, .int a, .int b] = some (.bool false) := by
  have h : m_is_integer [.none] = some (.bool false) := by
    simp [m_is_integer, runF, b_is_integer, entry, isi_none]
  simp [m_is_between, runF, b_is_between, entry, h]
/-- the begin, judged -/
def jdgB (S : Int → Bool) (L G len : Int) : Option Int → Bool
  | none => false
  | some b => (optP L G (tk S len.toNat b)).isNone
/-- the pairs, the number and the begin, judged -/
theorem e_shows4 (R : Rd S p) (hc : m_check_round [T2 p (lk S p), B2 L G] = some .none) (hL : 1 ≤ L) (hL2 : L ≤ 999) {num : Int} (hn : 1 ≤ num) (hn2 : num ≤ 5000) {ps : List (Int × Int)} (hps : ps.length = p.toNat) (hok : ∀ (i : Nat) (q : Int × Int), ps[i]? = some q → PrOk S L G (L + num) i q) {bg : Option Int} (hbg : ∀ b, bg = some b → 0 ≤ b ∧ b < p) {len : Int} (hlen : (if L + 3 * p < L + num - 1 then L + 3 * p else L + num - 1) = len) :
    m_shows_least_more [T2 p (lk S p), B2 L G, .tuple [.str ("more" : Str), .int num, .tuple (ps.map pT), optD bg]] = some (.bool (if num = 1 then bg.isNone else jdgB S L G len bg)) := by
  have hp := R.p2
  have hp1 := R.p1
  have n24 : opNotIn (.int 4) (.tuple [.int 2, .int 4]) = some (.bool false) := by simp [opNotIn, itemsD, flatD, inD, PyData.eqv]
  have hpl : ((ps.length : Nat) : Int) = p := by omega
  have b1 : ps.length ≤ 10000000 := by omega
  have q2 := lc_D (g := gT 2 (gsCons (gN 11) (gsCons (gN 12) gsNil))) (t := fYes) (f := b_shows_least_more_c1) (vs := [11, 12]) (sl := [.dat (T2 p (lk S p)), .dat (B2 L G), .dat (.tuple [.str ("more" : Str), .int num, .tuple (ps.map pT), optD bg]), .un, .dat (.str ("more" : Str)), .dat (.int num), .dat (.tuple (ps.map pT)), .dat (optD bg), .un, .un, .un, .un, .un]) (P := pot0) (fun _ => true) (fun _ => .bool true) (ds := enumD 0 (ps.map pT)) fun d hd => by
    obtain ⟨i, hi⟩ := List.mem_iff_getElem?.mp hd
    have hil : i < ps.length := by
      have := (List.getElem?_eq_some_iff.mp hi).1
      rw [enum_len, List.length_map] at this
      exact this
    have hq : ps[i]? = some ps[i] := List.getElem?_eq_getElem hil
    have hg := enum_get 0 (ps.map pT) i (pT ps[i]) (by rw [List.getElem?_map, hq]; rfl)
    rw [hi] at hg
    obtain rfl := Option.some.inj hg
    obtain ⟨c1, c2, c3, c4, c5, c6, c7⟩ := hok i _ hq
    have hdp := e_does_prove (b := (i : Int)) (n := L + num) R (by omega) (by omega) c1 c2 c3 c4 c5 c6 c7
    rw [Nat.zero_add]
    refine ⟨⟨[.dat (T2 p (lk S p)), .dat (B2 L G), .dat (.tuple [.str ("more" : Str), .int num, .tuple (ps.map pT), optD bg]), .un, .dat (.str ("more" : Str)), .dat (.int num), .dat (.tuple (ps.map pT)), .dat (optD bg), .un, .un, .un, .dat (.int i), .dat (pT ps[i])], pot0⟩, rfl, rfl, rfl, fun _ => ?_⟩
    have hdp : m_does_prove [T2 p (lk S p), B2 L G, .int (i : Int), .int (L + num), pT ps[i]] = some (.bool true) := hdp
    simp [b_shows_least_more_c1, hdp]
  have ha : bAll [.list (((enumD 0 (ps.map pT)).filter fun _ => true).map fun _ => (PyData.bool true : D))] = some (.bool true) := all_true fun d hd => by
    obtain ⟨x, _, rfl⟩ := List.mem_map.mp hd
    rfl
  generalize ((enumD 0 (ps.map pT)).filter fun _ => true).map (fun _ => (PyData.bool true : D)) = row at q2 ha
  have hn' : ¬ num < 1 := by omega
  have s3 : small64 (3 : Int) = true := by decide
  have m3 := mulEq (y := p) s3
  by_cases h1 : num = 1
  · subst h1
    rw [if_pos rfl]
    cases bg with
    | none =>
      rw [show optD none = .none from rfl] at q2 ⊢
      simp (implicitDefEqProofs := false) [m_shows_least_more, runF, b_shows_least_more, entry, hc, n24, e_is_integer, hpl, b1, enum_len, q2, ha]
    | some b =>
      have : isN (.int b) = false := rfl
      rw [show optD (some b) = .int b from rfl] at q2 ⊢
      simp (implicitDefEqProofs := false) [m_shows_least_more, runF, b_shows_least_more, entry, hc, n24, e_is_integer, hpl, b1, enum_len, q2, ha]
  · rw [if_neg h1]
    cases bg with
    | none =>
      rw [show optD none = .none from rfl] at q2 ⊢
      simp (implicitDefEqProofs := false) [m_shows_least_more, runF, b_shows_least_more, entry, hc, n24, e_is_integer, hpl, b1, enum_len, q2, ha, hn', h1, isb_none, jdgB]
    | some b =>
      obtain ⟨b0, b2⟩ := hbg b rfl
      rw [show optD (some b) = .int b from rfl] at q2 ⊢
      have b3 : b ≤ p - 1 := by omega
      have hl0 : 0 ≤ len ∧ len ≤ 999 + 3 * 168 := by
        by_cases q : L + 3 * p < L + num - 1
        · rw [if_pos q] at hlen; omega
        · rw [if_neg q] at hlen; omega
      have hs := e_seen' R (b := b) (e := b + len) b0 (by omega) (by omega)
      rw [show b + len - b = len by omega] at hs
      have hll : (tk S len.toNat b).length ≤ 500000 := by
        have := tk_len (S := S) len.toNat b
        omega
      have hpr := e_proofF (L := L) (G := G) hL (tk_asc (S := S) len.toNat b) hll
      have hmi : bMin [.int (L + num - 1), .int (L + 3 * p)] = some (.int len) := by rw [q_min2, hlen]
      have hN : isN (pairD (optP L G (tk S len.toNat b))) = (optP L G (tk S len.toNat b)).isNone := by cases optP L G (tk S len.toNat b) <;> rfl
      simp (implicitDefEqProofs := false) [-q_min2, -q_mulI, m_shows_least_more, runF, b_shows_least_more, entry, hc, n24, e_is_integer, hpl, b1, enum_len, q2, ha, hn', h1, e_is_between, b0, b3, m3, hmi, hs, hpr, hN, jdgB]
end
end K42

namespace K42
open PySem PySem.Spec L3 TK
section
variable {S : Int → Bool} {p L G : Int}
/-- a round of the law, with its bound -/
structure Wk (S : Int → Bool) (p L G : Int) : Prop extends Rd S p where
  ne : lk S p ≠ []
  hL : 1 ≤ L
  hL2 : L ≤ 400
  hG : 1 ≤ G
  hG2 : G ≤ 400
theorem Wk.head (W : Wk S p L G) : ∃ a r, lk S p = a :: r := by
  cases h : lk S p with
  | nil => exact absurd h W.ne
  | cons a r => exact ⟨a, r, rfl⟩
theorem Wk.hp (W : Wk S p L G) : 0 < p := by have := W.p2; omega
theorem Wk.chk (W : Wk S p L G) : m_check_round [T2 p (lk S p), B2 L G] = some .none :=
  e_check_round W.toRd W.ne (asc_tk _ _) W.hL (by have := W.hL2; omega) W.hG (by have := W.hG2; omega)
theorem Wk.some (W : Wk S p L G) : ∃ a, S a = true := by
  obtain ⟨a, r, h⟩ := W.head
  obtain ⟨_, _, h3, _⟩ := tk_head h
  exact ⟨a, h3⟩
/-- the first begin that needs most, as least_more tells it -/
def fbO (S : Int → Bool) (p L G num : Int) : Option Int := if 1 < num then Option.some (firstB (fun i : Nat => ndB S p L G i) num L p) else Option.none
theorem ite_optD (num : Int) : (if 1 < num then (.int (firstB (fun i : Nat => ndB S p L G i) num L p) : D) else .none) = optD (fbO S p L G num) := by
  unfold fbO
  by_cases h : 1 < num
  · rw [if_pos h, if_pos h]; rfl
  · rw [if_neg h, if_neg h]; rfl
structure More (S : Int → Bool) (p L G num : Int) : Prop where
  nev : nevB S p L G = false
  nm : nmO S p L G = Option.some num
  n1 : 1 ≤ num
  n2 : num ≤ 2 * p
  all : ∀ n, 0 ≤ n → (AllB S L G n ↔ L + num ≤ n)
  le : ∀ b, ndB S p L G b ≤ L + num
  told : m_least_more [T2 p (lk S p), B2 L G] = Option.some (.tuple [.str ("more" : Str), .int num, .tuple ((List.range p.toNat).map fun i : Nat => pairD (prB S p L G i)), optD (fbO S p L G num)])
  fb : ∀ b, fbO S p L G num = Option.some b → 0 ≤ b ∧ b < p ∧ ndB S p L G b = L + num
theorem Wk.more (W : Wk S p L G) (h : nevB S p L G = false) : ∃ num, More S p L G num := by
  obtain ⟨a, r, h0⟩ := W.head
  have hp := W.hp
  have hp1 := W.p1
  have hL := W.hL
  obtain ⟨M, e1, e2, e3, e4, e5⟩ := nmO_spec (G := G) hp W.per hL h0 h
  -- a begin that needs so many
  obtain ⟨b, hb⟩ : ∃ b, ndB S p L G b = M := by
    refine Classical.byContradiction fun z => ?_
    have : AllB S L G (M - 1) := fun b => (nd_iff hp W.per hL h0 h b (M - 1) (by omega)).mp (by
      have := e3 b
      have : ndB S p L G b ≠ M := fun q => z ⟨b, q⟩
      omega)
    have := (e2 (M - 1) (by omega)).mp this
    omega
  have m1 := Int.emod_nonneg b (show p ≠ 0 by omega)
  have m2 := Int.emod_lt_of_pos b hp
  have hb' : ndB S p L G (((b % p).toNat : Nat) : Int) = M := by
    rw [Int.toNat_of_nonneg m1, TK.ndB_mod hp W.per]
    exact hb
  have ht := e_leastM (b := (b % p).toNat) W.toRd h0 W.chk hL (by have := W.hL2; omega) h (by omega) hb' fun i _ => e3 i
  rw [ite_optD] at ht
  refine ⟨M - L, ⟨h, e1, by omega, by omega, fun n hn => by rw [show L + (M - L) = M by omega]; exact e2 n hn, fun b => by rw [show L + (M - L) = M by omega]; exact e3 b, ht, fun c hc => ?_⟩⟩
  unfold fbO at hc
  by_cases q : 1 < M - L
  · rw [if_pos q] at hc
    have hc := (Option.some.inj hc).symm
    unfold firstB at hc
    have hmem : (b % p).toNat ∈ (List.range p.toNat).filter fun i : Nat => decide (ndB S p L G i - L = M - L) := List.mem_filter.mpr ⟨List.mem_range.mpr (by omega), decide_eq_true (by rw [hb'])⟩
    cases hf : (List.range p.toNat).filter fun i : Nat => decide (ndB S p L G i - L = M - L) with
    | nil => rw [hf] at hmem; cases hmem
    | cons x y =>
      rw [hf] at hc
      have hx : x ∈ (List.range p.toNat).filter fun i : Nat => decide (ndB S p L G i - L = M - L) := by rw [hf]; exact List.mem_cons_self
      obtain ⟨k1, k2⟩ := List.mem_filter.mp hx
      have k1 := List.mem_range.mp k1
      have k2 := of_decide_eq_true k2
      have hc : c = (x : Int) := hc
      subst hc
      exact ⟨by omega, by omega, by omega⟩
  · rw [if_neg q] at hc
    cases hc
theorem Wk.far (W : Wk S p L G) (h : nevB S p L G = true) : ∃ f l, farOf G p (lk S p) = f :: l ∧ m_least_more [T2 p (lk S p), B2 L G] = Option.some (.tuple [.str ("never" : Str), .int f]) := by
  obtain ⟨a, r, h0⟩ := W.head
  have hn := h
  unfold nevB at hn
  rw [Bool.and_eq_true] at hn
  cases e : farOf G p (tk S p.toNat 0) with
  | nil => rw [e] at hn; exact nomatch hn.1
  | cons f l => exact ⟨f, l, rfl, e_leastN W.toRd h0 W.chk W.hL h e⟩
theorem law_number_never (f : D) : m__law_number [.tuple [.str ("never" : Str), f]] = Option.some .none := by
  simp [m__law_number, runF, b__law_number, entry]
theorem law_number_more (n x y : D) : m__law_number [.tuple [.str ("more" : Str), n, x, y]] = Option.some n := by
  have hmn : ¬ (Str.ofString "more" = Str.ofString "never") := by decide +kernel
  simp [m__law_number, runF, b__law_number, entry, hmn]
/-- the number that least_more tells is that of number_of -/
theorem Wk.number (W : Wk S p L G) : ∃ d, m_least_more [T2 p (lk S p), B2 L G] = Option.some d ∧ m__law_number [d] = Option.some (optD (nmO S p L G)) := by
  cases h : nevB S p L G with
  | true =>
    obtain ⟨f, l, _, e⟩ := W.far h
    exact ⟨_, e, by rw [law_number_never, nmO_none h]; rfl⟩
  | false =>
    obtain ⟨num, M⟩ := W.more h
    exact ⟨_, M.told, by rw [law_number_more, M.nm]; rfl⟩
/-! ### the pair of a begin -/
theorem Wk.pr (W : Wk S p L G) (h : nevB S p L G = false) (b : Int) : ∃ q, prB S p L G b = Option.some q ∧ PrOk S L G (ndB S p L G b) b q ∧ ∀ n : Nat, (L + 3 * p).toNat ≤ n → optP L G (tk S n b) = Option.some q := by
  obtain ⟨a, r, h0⟩ := W.head
  have hp := W.hp
  have hL := W.hL
  obtain ⟨t, ht⟩ := Option.ne_none_iff_exists'.mp (nev_hit (n := (L + 3 * p).toNat) (b := b) hp W.per hL h0 h (by omega))
  obtain ⟨m1, m2, m3⟩ := mem_tk.mp (hit0_in ht)
  have en : ndB S p L G b = t - b + 1 := by
    unfold ndB
    rw [ht]
  obtain ⟨F, F1, ⟨F2, F3, F4⟩, F5, F6⟩ := hit0_tellsF _ b t ht
  have hFm : F ∈ tk S (L + 3 * p).toNat b := mem_tk.mpr ⟨F1, by omega, F2⟩
  -- the greatest one the limit ahead
  have lstE : ∀ n : Nat, (L + 3 * p).toNat ≤ n → (tk S n b).filter (fun u => decide (L ≤ t - u)) = (tk S (L + 3 * p).toNat b).filter fun u => decide (L ≤ t - u) := fun n hn => by
    have e : n = (L + 3 * p).toNat + (n - (L + 3 * p).toNat) := by omega
    rw [e, tk_append, List.filter_append]
    have : (tk S (n - (L + 3 * p).toNat) (b + ((L + 3 * p).toNat : Int))).filter (fun u => decide (L ≤ t - u)) = [] := by
      rw [List.filter_eq_nil_iff]
      intro u hu
      have := (mem_tk.mp hu).1
      rw [decide_eq_true_eq]
      omega
    rw [this, List.append_nil]
  have hf : ∃ f, lst L t (tk S (L + 3 * p).toNat b) = f ∧ f ∈ tk S (L + 3 * p).toNat b ∧ L ≤ t - f ∧ F ≤ f := by
    unfold lst
    cases hg : ((tk S (L + 3 * p).toNat b).filter fun u => decide (L ≤ t - u)).getLast? with
    | none =>
      rw [List.getLast?_eq_none_iff] at hg
      have : F ∈ (tk S (L + 3 * p).toNat b).filter fun u => decide (L ≤ t - u) := List.mem_filter.mpr ⟨hFm, decide_eq_true F6⟩
      rw [hg] at this
      cases this
    | some f =>
      obtain ⟨k1, k2⟩ := List.mem_filter.mp (List.mem_of_getLast? hg)
      refine ⟨f, rfl, k1, of_decide_eq_true k2, ?_⟩
      have pw : ((tk S (L + 3 * p).toNat b).filter fun u => decide (L ≤ t - u)).Pairwise (· ≤ ·) := (tk_pw _ _).filter _
      obtain ⟨l, hl⟩ := List.getLast?_eq_some_iff.mp hg
      have hFl : F ∈ (tk S (L + 3 * p).toNat b).filter fun u => decide (L ≤ t - u) := List.mem_filter.mpr ⟨hFm, decide_eq_true F6⟩
      rw [hl] at pw hFl
      rcases List.mem_append.mp hFl with q | q
      · exact (List.pairwise_append.mp pw).2.2 F q f (List.mem_singleton.mpr rfl)
      · rw [List.mem_singleton.mp q]; exact Int.le_refl _
  obtain ⟨f, f1, f2, f3, f4⟩ := hf
  obtain ⟨g1, g2, g3⟩ := mem_tk.mp f2
  refine ⟨(f, t), ?_, ⟨g1, by show f ≤ t; omega, by show t < b + ndB S p L G b; omega, f3, g3, m3, fun x y a1 a2 a3 s1 s2 hno => F4 x y (by have : f ≤ x := a1; omega) a2 a3 s1 s2 hno⟩, fun n hn => ?_⟩
  · unfold prB optP
    rw [ht]
    show Option.some (lst L t _, t) = _
    rw [f1]
  · unfold optP
    have e : n = (L + 3 * p).toNat + (n - (L + 3 * p).toNat) := by omega
    have ht2 : hit0 L G (tk S n b) = Option.some t := by
      rw [e, tk_append, hit0_append ht]
    rw [ht2]
    show Option.some (lst L t _, t) = _
    have : lst L t (tk S n b) = f := by
      rw [← f1]
      unfold lst
      rw [lstE n hn]
    rw [this]
/-- pairs by begins -/
def prs (S : Int → Bool) (p L G : Int) : List (Int × Int) := (List.range p.toNat).map fun i : Nat => (prB S p L G i).getD (0, 0)
theorem Wk.prs (W : Wk S p L G) (h : nevB S p L G = false) : ((List.range p.toNat).map fun i : Nat => pairD (prB S p L G i)) = (prs S p L G).map pT := by
  unfold K42.prs
  rw [List.map_map]
  refine List.map_congr_left fun i _ => ?_
  obtain ⟨q, hq, _⟩ := W.pr h i
  show pairD (prB S p L G i) = pT ((prB S p L G i).getD (0, 0))
  rw [hq]
  rfl
theorem prs_len : (prs S p L G).length = p.toNat := by unfold prs; rw [List.length_map, List.length_range]
theorem PrOk.mono {n n' b : Int} {q : Int × Int} (h : PrOk S L G n b q) (hn : n ≤ n') : PrOk S L G n' b q := ⟨h.1, h.2.1, by have := h.2.2.1; omega, h.2.2.2⟩
theorem Wk.prs_ok (W : Wk S p L G) (h : nevB S p L G = false) {n : Int} (hn : ∀ b, ndB S p L G b ≤ n) (i : Nat) (q : Int × Int) (hq : (K42.prs S p L G)[i]? = Option.some q) : PrOk S L G n i q := by
  unfold K42.prs at hq
  rw [List.getElem?_map] at hq
  obtain ⟨j, hj, rfl⟩ := Option.map_eq_some_iff.mp hq
  obtain ⟨hj1, hj2⟩ := List.getElem?_eq_some_iff.mp hj
  rw [List.getElem_range] at hj2
  subst hj2
  obtain ⟨q, e, ok, _⟩ := W.pr h i
  rw [e]
  exact ok.mono (hn i)
/-- the judge's last look: so many ticks less do not prove -/
theorem Wk.notyet (W : Wk S p L G) (h : nevB S p L G = false) {b len : Int} (h0 : 0 ≤ len) : (optP L G (tk S len.toNat b)).isNone = decide (len < ndB S p L G b) := by
  obtain ⟨a, r, h0'⟩ := W.head
  have i1 := nd_iff (G := G) W.hp W.per W.hL h0' h b len h0
  have i2 := hit_iff (S := S) (G := G) W.hL len.toNat b
  rw [Int.toNat_of_nonneg h0] at i2
  unfold optP
  cases hh : hit0 L G (tk S len.toNat b) with
  | none =>
    have : ¬ Pv S L G b (b + len) := fun z => i2.mpr z hh
    have : len < ndB S p L G b := by
      refine Classical.byContradiction fun z => this (i1.mp (by omega))
    rw [decide_eq_true this]
    rfl
  | some t =>
    have := i1.mpr (i2.mp (by rw [hh]; exact fun z => nomatch z))
    rw [decide_eq_false (by omega)]
    rfl
end
end K42

namespace K42
open PySem PySem.Spec L3 TK
section
variable {S : Int → Bool} {p L G : Int}
theorem e_showsB (R : Rd S p) {a z : Int} {r : List Int} (h0 : lk S p = a :: r) (hc : m_check_round [T2 p (lk S p), B2 L G] = some .none) (hL : 1 ≤ L) (hn : nevB S p L G = true) (hz : z ∈ farOf G p (lk S p)) :
    m_shows_least_more [T2 p (lk S p), B2 L G, .tuple [.str ("never" : Str), .int z]] = some (.bool true) := e_showsN R h0 hc hL hn hz
/-- the looks of a round told twice -/
theorem twice_lk (hp : 0 < p) (per : ∀ t, S (t + p) = S t) : tk S (2 * p).toNat 0 = tk S p.toNat 0 ++ (tk S p.toNat 0).map fun t => t + p := by
  have e : (2 * p).toNat = p.toNat + p.toNat := by omega
  have e2 : (0 : Int) + (p.toNat : Int) = 0 + p := by omega
  rw [e, tk_append, e2, tk_shift, tk_congr (T := S) fun t _ _ => per t]
theorem twice_far (a : Int) (r : List Int) : farOf G (2 * p) ((a :: r) ++ (a :: r).map fun t => t + p) = farOf G p (a :: r) ++ (farOf G p (a :: r)).map fun t => t + p := by
  have e1 : gapsOf (2 * p) ((a :: r) ++ (a :: r).map fun t => t + p) = gapsOf p (a :: r) ++ gapsOf p (a :: r) := by
    show ((a :: (r ++ (a :: r).map fun t => t + p)).zip ((r ++ (a :: r).map fun t => t + p) ++ [a + 2 * p])).map (fun q => q.2 - q.1) = _
    have e2 : a :: (r ++ (a :: r).map fun t => t + p) = (a :: r) ++ (a :: r).map fun t => t + p := rfl
    have e3 : (r ++ (a :: r).map fun t => t + p) ++ [a + 2 * p] = (r ++ [a + p]) ++ ((r ++ [a + p]).map fun t => t + p) := by
      rw [List.map_cons, List.map_append, List.map_singleton]
      simp
      omega
    rw [e2, e3, List.zip_append (by simp), List.map_append, List.zip_map, List.map_map]
    congr 1
    show _ = (((a :: r).zip (r ++ [a + p])).map fun q => q.2 - q.1)
    refine List.map_congr_left fun q _ => ?_
    show q.2 + p - (q.1 + p) = q.2 - q.1
    omega
  unfold farOf
  rw [e1, List.zip_append (by rw [gaps_len]), List.filter_append, List.map_append]
  congr 1
  have e4 : ((a :: r).map fun t => t + p).zip (gapsOf p (a :: r)) = ((a :: r).zip (gapsOf p (a :: r))).map fun q => (q.1 + p, q.2) := by
    generalize gapsOf p (a :: r) = gs
    generalize a :: r = l
    induction l generalizing gs with
    | nil => rfl
    | cons x l ih =>
      cases gs with
      | nil => rfl
      | cons g gs =>
        rw [List.map_cons, List.zip_cons_cons, List.zip_cons_cons, List.map_cons, ih]
  rw [e4, List.filter_map, List.map_map, List.map_map]
  rfl
theorem Wk.two (W : Wk S p L G) (h84 : p ≤ 84) : Wk S (2 * p) L G where
  p2 := by have := W.p2; omega
  p1 := by omega
  per := fun t => by
    have := W.per
    rw [show t + 2 * p = t + p + p by omega, this, this]
  ne := by
    obtain ⟨a, r, h⟩ := W.head
    have e : tk S p.toNat 0 = a :: r := h
    show tk S (2 * p).toNat 0 ≠ []
    rw [twice_lk W.hp W.per, e]
    exact fun z => nomatch z
  hL := W.hL
  hL2 := W.hL2
  hG := W.hG
  hG2 := W.hG2
theorem Wk.ext {T : Int → Bool} {p' : Int} (W : Wk S p L G) (W' : Wk T p' L G) (h1 : (∃ b e, Pv S L G b e) ↔ ∃ b e, Pv T L G b e) (h2 : ∀ n, AllB S L G n ↔ AllB T L G n) : nevB S p L G = nevB T p' L G ∧ nmO S p L G = nmO T p' L G := by
  obtain ⟨a, r, h⟩ := W.head
  obtain ⟨a', r', h'⟩ := W'.head
  exact nmO_ext W.hp W'.hp W.per W'.per W.hL h h' h1 h2
theorem More.judge {num k : Int} (W : Wk S p L G) (M : More S p L G num) (hk : num ≤ k) (hk2 : k ≤ num + 1) {ps : List (Int × Int)} (hps : ps.length = p.toNat) (hok : ∀ (i : Nat) (q : Int × Int), ps[i]? = some q → PrOk S L G (L + k) i q) {bg : Option Int} (hb1 : num = 1 → bg = none) (hb2 : 1 < num → ∃ b, bg = some b ∧ 0 ≤ b ∧ b < p ∧ ndB S p L G b = L + num) :
    m_shows_least_more [T2 p (lk S p), B2 L G, .tuple [.str ("more" : Str), .int k, .tuple (ps.map pT), optD bg]] = some (.bool (decide (k = num))) := by
  have hp := W.hp
  have hp1 := W.p1
  have n1 := M.n1
  have n2 := M.n2
  have hL := W.hL
  have hL2 := W.hL2
  have hlen : (if L + 3 * p < L + k - 1 then L + 3 * p else L + k - 1) = L + k - 1 := if_neg (by omega)
  rw [e_shows4 W.toRd W.chk hL (by omega) (by omega) (by omega) hps hok (fun b hb => ?_) hlen]
  · congr 2
    by_cases h : num = 1
    · rw [hb1 h]
      by_cases q : k = 1
      · rw [if_pos q, decide_eq_true (by omega)]
        rfl
      · rw [if_neg q, decide_eq_false (by omega)]
        rfl
    · obtain ⟨b, rfl, b0, b1, bn⟩ := hb2 (by omega)
      rw [if_neg (by omega)]
      show (optP L G (tk S (L + k - 1).toNat b)).isNone = _
      rw [W.notyet M.nev (by omega), bn]
      exact decide_eq_decide.mpr ⟨fun z => by omega, fun z => by omega⟩
  · by_cases h : num = 1
    · rw [hb1 h] at hb; cases hb
    · obtain ⟨c, hc, c0, c1, _⟩ := hb2 (by omega)
      rw [hc] at hb
      cases hb
      exact ⟨c0, c1⟩
theorem More.fb1 {num : Int} (M : More S p L G num) : num = 1 → fbO S p L G num = none := fun h => by
  unfold fbO
  rw [if_neg (by omega)]
theorem More.fb2 {num : Int} (M : More S p L G num) : 1 < num → ∃ b, fbO S p L G num = some b ∧ 0 ≤ b ∧ b < p ∧ ndB S p L G b = L + num := fun h => by
  have e : fbO S p L G num = some (firstB (fun i : Nat => ndB S p L G i) num L p) := if_pos h
  exact ⟨_, e, M.fb _ e⟩
theorem at_2 {α : Type} (a b c : α) (r : List α) : L2.atI (a :: b :: c :: r) 2 = some c := atI_int (by decide) rfl
theorem at_3 {α : Type} (a b c d : α) (r : List α) : L2.atI (a :: b :: c :: d :: r) 3 = some d := atI_int (by decide) rfl
theorem e_twice (W : Wk S p L G) (h84 : p ≤ 84) : m__law_is_twice_right [T2 p (lk S p), B2 L G] = some (.bool true) := by
  have W2 := W.two h84
  have hp := W.hp
  have hL := W.hL
  obtain ⟨a, r, h0⟩ := W.head
  obtain ⟨a2, r2, h02⟩ := W2.head
  obtain ⟨en, enm⟩ := W.ext W2 Iff.rfl fun _ => Iff.rfl
  have s2 : small64 (2 : Int) = true := by decide
  have m2 := mulEq (y := p) s2
  have hlen := W.toRd.len
  have b1 : (lk S p).length ≤ 10000000 := by omega
  have hlk : lk S (2 * p) = lk S p ++ (lk S p).map fun t => t + p := twice_lk hp W.per
  have q8 : ∀ P6 P7 : SD, lcL (gN 8) fYes b__law_is_twice_right_c2 [8] ⟨[.dat (T2 p (lk S p)), .dat (B2 L G), .dat (.int p), .dat (.tuple (I (lk S p))), .un, .un, .un, .un, .un, .un, .un], pot0⟩ (I (lk S p)) pot0 = some (I ((lk S p).map fun t => t + p), pot0) := fun _ _ => by
    have q := lc_all (g := gN 8) (f := b__law_is_twice_right_c2) (vs := [8]) (sl := [.dat (T2 p (lk S p)), .dat (B2 L G), .dat (.int p), .dat (.tuple (I (lk S p))), .un, .un, .un, .un, .un, .un, .un]) (P := pot0) PyData.int (fun n => .int (n + p)) (ns := lk S p) fun n hn => ⟨_, rfl, rfl, by simp [b__law_is_twice_right_c2]⟩
    have e : (lk S p).map (fun n => (.int (n + p) : D)) = I ((lk S p).map fun t => t + p) := by
      unfold I
      rw [List.map_map]
      rfl
    rw [e] at q
    exact q
  have q8 := q8 .un .un
  have eap : I (lk S p) ++ I ((lk S p).map fun t => t + p) = I (lk S (2 * p)) := by rw [hlk, I_append]
  have b2 : (lk S p).length + (lk S p).length ≤ 10000000 := by omega
  obtain ⟨d1, t1, n1⟩ := W.number
  obtain ⟨d2, t2, n2⟩ := W2.number
  rw [← enm] at n2
  have hne : opNe (optD (nmO S p L G)) (optD (nmO S p L G)) = some (.bool false) := by
    cases nmO S p L G with
    | none => rfl
    | some v => show opNe (.int v) (.int v) = _; simp
  cases hn : nevB S p L G with
  | true =>
    obtain ⟨f, l, hf, t1'⟩ := W.far hn
    obtain ⟨f2, l2, hf2, t2'⟩ := W2.far (en ▸ hn)
    have hff : f2 = f := by
      have e : tk S p.toNat 0 = a :: r := h0
      have := twice_far (G := G) (p := p) a r
      rw [hlk, h0, this, ← h0, hf] at hf2
      exact (List.cons.inj hf2).1.symm
    subst hff
    rw [t1'] at t1
    rw [t2'] at t2
    cases t1
    cases t2
    have s1 := e_showsB W.toRd h0 W.chk hL hn (z := f2) (by rw [hf]; exact List.mem_cons_self)
    have s3 := e_showsB W2.toRd h02 W2.chk hL (en ▸ hn) (z := f2) (by rw [hf2]; exact List.mem_cons_self)
    have hfp : f2 < p := by
      have : f2 ∈ farOf G p (lk S p) := by rw [hf]; exact List.mem_cons_self
      obtain ⟨q, hq, rfl⟩ := List.mem_map.mp this
      have := (List.of_mem_zip (List.mem_filter.mp hq).1).1
      have := (mem_tk.mp this).2.1
      omega
    have ob : okRepr (.bool true) = true := by decide
    simp (implicitDefEqProofs := false) [-q_mulI, m__law_is_twice_right, runF, b__law_is_twice_right, entry, m2, b1, q8, eap, b2, t1', t2', n1, n2, hne, s1, s3, hfp, ob]
  | false =>
    obtain ⟨num, M⟩ := W.more hn
    obtain ⟨num2, M2⟩ := W2.more (en ▸ hn)
    have hnn : num2 = num := by
      have := M2.nm
      rw [← enm, M.nm] at this
      exact (Option.some.inj this).symm
    subst hnn
    have nv2 : nevB S (2 * p) L G = false := en ▸ hn
    -- needs and pairs are the same
    have nd2 : ∀ b, ndB S (2 * p) L G b = ndB S p L G b := fun b => by
      have p1 := nd_pos hp W.per hL h0 hn b
      have p2 := nd_pos W2.hp W2.per hL h02 nv2 b
      have i1 := nd_iff hp W.per hL h0 hn b (ndB S (2 * p) L G b) (by omega)
      have i2 := nd_iff W2.hp W2.per hL h02 nv2 b (ndB S p L G b) (by omega)
      have i3 := nd_iff hp W.per hL h0 hn b (ndB S p L G b) (by omega)
      have i4 := nd_iff W2.hp W2.per hL h02 nv2 b (ndB S (2 * p) L G b) (by omega)
      have := i1.mpr (i4.mp (Int.le_refl _))
      have := i2.mpr (i3.mp (Int.le_refl _))
      omega
    have pr2 : ∀ b, prB S (2 * p) L G b = prB S p L G b := fun b => by
      obtain ⟨q, e, _, hq⟩ := W.pr hn b
      rw [e]
      exact hq _ (by omega)
    -- the pairs of the round told twice
    have hps2 : (K42.prs S p L G ++ (K42.prs S p L G).map fun q => (q.1 + p, q.2 + p)).length = (2 * p).toNat := by
      rw [List.length_append, List.length_map, prs_len]; omega
    have hok2 : ∀ k, num2 ≤ k → ∀ (i : Nat) (q : Int × Int), (K42.prs S p L G ++ (K42.prs S p L G).map fun q => (q.1 + p, q.2 + p))[i]? = some q → PrOk S L G (L + k) i q := fun k hk i q hq => by
      by_cases hi : i < p.toNat
      · rw [List.getElem?_append_left (by rw [prs_len]; exact hi)] at hq
        exact (W.prs_ok hn M.le i q hq).mono (by omega)
      · rw [List.getElem?_append_right (by rw [prs_len]; omega), prs_len, List.getElem?_map] at hq
        obtain ⟨q', hq', rfl⟩ := Option.map_eq_some_iff.mp hq
        obtain ⟨c1, c2, c3, c4, c5, c6, c7⟩ := W.prs_ok hn M.le _ _ hq'
        refine ⟨?_, ?_, ?_, ?_, ?_, ?_, fun x y x1 x2 x3 s1 s2 hno => ?_⟩
        · show (i : Int) ≤ q'.1 + p; omega
        · show q'.1 + p ≤ q'.2 + p; omega
        · show q'.2 + p < i + (L + k); omega
        · show L ≤ q'.2 + p - (q'.1 + p); omega
        · show S (q'.1 + p) = true; rw [W.per]; exact c5
        · show S (q'.2 + p) = true; rw [W.per]; exact c6
        · have shn : ∀ t, S (t - p) = S t := fun t => by
            have := W.per (t - p)
            rw [show t - p + p = t by omega] at this
            exact this.symm
          have x1 : q'.1 + p ≤ x := x1
          have x2 : y ≤ q'.2 + p := x2
          have := c7 (x - p) (y - p) (by omega) (by omega) (by omega) (by rw [shn]; exact s1) (by rw [shn]; exact s2) fun t t1 t2 => by
            have := hno (t + p) (by omega) (by omega)
            rw [W.per] at this
            exact this
          omega
    have j1 := M2.judge (k := num2) W2 (Int.le_refl _) (by omega) hps2 (hok2 num2 (Int.le_refl _)) (bg := fbO S p L G num2) M.fb1 (fun h => by
      obtain ⟨b, b1, b2, b3, b4⟩ := M.fb2 h
      exact ⟨b, b1, b2, by omega, by rw [nd2]; exact b4⟩)
    have j2 := M2.judge (k := num2 + 1) W2 (by omega) (by omega) hps2 (hok2 (num2 + 1) (by omega)) (bg := fbO S p L G num2) M.fb1 (fun h => by
      obtain ⟨b, b1, b2, b3, b4⟩ := M.fb2 h
      exact ⟨b, b1, b2, by omega, by rw [nd2]; exact b4⟩)
    have j3 := M.judge (k := num2) W (Int.le_refl _) (by omega) prs_len (W.prs_ok hn M.le) (bg := fbO S p L G num2) M.fb1 M.fb2
    rw [decide_eq_true rfl] at j1 j3
    rw [decide_eq_false (by omega)] at j2
    have t1' := M.told
    have t2' := M2.told
    rw [W.prs hn] at t1'
    rw [W2.prs nv2] at t2'
    rw [t1'] at t1
    rw [t2'] at t2
    cases t1
    cases t2
    have hmn : ¬ (Str.ofString "more" = Str.ofString "never") := by decide +kernel
    -- moved pairs
    have q9 := lc_all (g := gT 2 (gsCons (gN 9) (gsCons (gN 10) gsNil))) (f := b__law_is_twice_right_c1) (vs := [9, 10]) (sl := [.dat (T2 p (lk S p)), .dat (B2 L G), .dat (.int p), .dat (.tuple (I (lk S p))), .dat (T2 (2 * p) (lk S (2 * p))), .dat (.tuple [.str ("more" : Str), .int num2, .tuple ((K42.prs S p L G).map pT), optD (fbO S p L G num2)]), .dat (.tuple [.str ("more" : Str), .int num2, .tuple ((K42.prs S (2 * p) L G).map pT), optD (fbO S (2 * p) L G num2)]), .un, .un, .un, .un]) (P := pot0) pT (fun q => pT (q.1 + p, q.2 + p)) (ns := K42.prs S p L G) fun q hq => ⟨_, rfl, rfl, by simp [b__law_is_twice_right_c1, pT]⟩
    have epp : (K42.prs S p L G).map pT ++ (K42.prs S p L G).map (fun q => pT (q.1 + p, q.2 + p)) = (K42.prs S p L G ++ (K42.prs S p L G).map fun q => (q.1 + p, q.2 + p)).map pT := by
      rw [List.map_append, List.map_map]
      rfl
    have hpl : (K42.prs S p L G).length = p.toNat := prs_len
    have b3 : (K42.prs S p L G).length ≤ 10000000 := by have := W.p1; omega
    have b4 : (K42.prs S p L G).length + (K42.prs S p L G).length ≤ 10000000 := by have := W.p1; omega
    -- the first period's pairs
    have hcut : cutD ((K42.prs S (2 * p) L G).map pT) none (some p) = (K42.prs S p L G).map pT := by
      have e1 : K42.prs S (2 * p) L G = (K42.prs S p L G) ++ (K42.prs S (2 * p) L G).drop p.toNat := by
        have e2 : (K42.prs S (2 * p) L G).take p.toNat = K42.prs S p L G := by
          unfold K42.prs
          rw [← List.map_take, List.take_range, Nat.min_eq_left (by omega)]
          exact List.map_congr_left fun i _ => by rw [pr2]
        rw [← e2]
        exact (List.take_append_drop _ _).symm
      unfold cutD
      have h1 : HT.sIx ((K42.prs S (2 * p) L G).map pT).length ((K42.prs S (2 * p) L G).map pT).length (some p) = p.toNat := by
        have hp3 : ((p.toNat : Nat) : Int) = p := by omega
        rw [← hp3, HT.sIx_nat, List.length_map, prs_len]
        omega
      rw [h1, HT.sIx_none, Nat.sub_zero, List.drop_zero, ← List.map_take]
      congr 1
      unfold K42.prs
      rw [← List.map_take, List.take_range, Nat.min_eq_left (by omega)]
      exact List.map_congr_left fun i _ => by rw [pr2]
    generalize K42.prs S p L G ++ (K42.prs S p L G).map (fun q => (q.1 + p, q.2 + p)) = pp at epp j1 j2
    simp (implicitDefEqProofs := false) [-q_mulI, m__law_is_twice_right, runF, b__law_is_twice_right, entry, m2, b1, q8, eap, b2, t1', t2', n1, n2, hne, hmn, q9, b3, b4, epp, j1, j2, hcut, j3, at_2, at_3]
end
end K42

/-! rounds turned on and mirrored, as rows of looks -/
namespace TK
open L3
theorem pw_ext {a b : List Int} (ha : a.Pairwise (· < ·)) (hb : b.Pairwise (· < ·)) (h : ∀ z, z ∈ a ↔ z ∈ b) : a = b := by
  have na : a.Nodup := ha.imp fun {x y} q => by show x ≠ y; omega
  have nb : b.Nodup := hb.imp fun {x y} q => by show x ≠ y; omega
  exact sorted_eq ((List.perm_ext_iff_of_nodup na nb).mpr h) (ha.imp fun {x y} q => Int.le_of_lt q) (hb.imp fun {x y} q => Int.le_of_lt q)
theorem tk_lt {S : Int → Bool} : ∀ (n : Nat) (b : Int), (tk S n b).Pairwise (· < ·)
  | 0, b => .nil
  | n + 1, b => by
    simp only [tk]
    split
    · exact .cons (fun t ht => by have := (mem_tk.mp ht).1; omega) (tk_lt n (b + 1))
    · exact tk_lt n (b + 1)
theorem sort_lt {l : List Int} (h : l.Nodup) : (sortI l).Pairwise (· < ·) := by
  have h1 := sortI_pw l
  have h2 : (sortI l).Nodup := ((sortI_perm l).nodup_iff).mpr h
  have := h1.and h2
  exact this.imp fun {x y} q => by
    have q2 : x ≠ y := q.2
    have := q.1
    omega
theorem sort_ext {l m : List Int} (h : l.Nodup) (hm : m.Pairwise (· < ·)) (he : ∀ z, z ∈ l ↔ z ∈ m) : sortI l = m :=
  pw_ext (sort_lt h) hm fun z => ((sortI_perm l).mem_iff).trans (he z)
section
variable {S T : Int → Bool} {L G p m : Int}
/-- ticks of a period moved on -/
def mv (p m x : Int) : Int := (x + m) % p
theorem mv_lt (hp : 0 < p) (x : Int) : 0 ≤ mv p m x ∧ mv p m x < p := ⟨Int.emod_nonneg _ (by omega), Int.emod_lt_of_pos _ hp⟩
theorem mv_dvd (x : Int) : p ∣ mv p m x - (x + m) := ⟨-((x + m) / p), by
  unfold mv
  have := Int.emod_add_mul_ediv (x + m) p
  rw [Int.mul_neg]; omega⟩
theorem in_period {x y : Int} (h : p ∣ x - y) (x0 : 0 ≤ x) (x1 : x < p) (y0 : 0 ≤ y) (y1 : y < p) : x = y := by
  obtain ⟨c, hc⟩ := h
  rcases Int.lt_trichotomy c 0 with z | z | z
  · have : p * c ≤ p * (-1) := Int.mul_le_mul_of_nonneg_left (by omega) (by omega)
    omega
  · rw [z] at hc; omega
  · have : p * 1 ≤ p * c := Int.mul_le_mul_of_nonneg_left (by omega) (by omega)
    omega
theorem mv_inj {x y : Int} (x0 : 0 ≤ x) (x1 : x < p) (y0 : 0 ≤ y) (y1 : y < p) (h : mv p m x = mv p m y) : x = y := by
  refine in_period (p := p) ?_ x0 x1 y0 y1
  have d1 := mv_dvd (p := p) (m := m) x
  have d2 := mv_dvd (p := p) (m := m) y
  have := Int.dvd_sub d2 d1
  rw [h, show mv p m y - (y + m) - (mv p m y - (x + m)) = x - y by omega] at this
  exact this
theorem mv_back (hp : 0 < p) {z : Int} (z0 : 0 ≤ z) (z1 : z < p) : ∃ x, 0 ≤ x ∧ x < p ∧ mv p m x = z := by
  refine ⟨(z - m) % p, Int.emod_nonneg _ (by omega), Int.emod_lt_of_pos _ hp, ?_⟩
  have l := mv_lt (p := p) (m := m) hp ((z - m) % p)
  refine in_period (p := p) ?_ l.1 l.2 z0 z1
  have d1 := mv_dvd (p := p) (m := m) ((z - m) % p)
  have d2 : p ∣ (z - m) % p - (z - m) := ⟨-((z - m) / p), by
    have := Int.emod_add_mul_ediv (z - m) p
    rw [Int.mul_neg]; omega⟩
  have := Int.dvd_add d1 d2
  rw [show mv p m ((z - m) % p) - ((z - m) % p + m) + ((z - m) % p - (z - m)) = mv p m ((z - m) % p) - z by omega] at this
  exact this
theorem mv_map_nodup {l : List Int} (h : l.Nodup) (hl : ∀ x ∈ l, 0 ≤ x ∧ x < p) : (l.map (mv p m)).Nodup := by
  induction l with
  | nil => exact .nil
  | cons a r ih =>
    obtain ⟨h1, h2⟩ := List.nodup_cons.mp h
    refine List.nodup_cons.mpr ⟨fun hm => ?_, ih h2 fun x hx => hl x (List.mem_cons_of_mem _ hx)⟩
    obtain ⟨x, hx, e⟩ := List.mem_map.mp hm
    have a1 := hl a List.mem_cons_self
    have a2 := hl x (List.mem_cons_of_mem _ hx)
    rw [mv_inj a2.1 a2.2 a1.1 a1.2 e] at hx
    exact h1 hx
theorem turn_per (per : ∀ t, S (t + p) = S t) (t : Int) : turnS S m (t + p) = turnS S m t := by
  unfold turnS
  rw [show t + p - m = t - m + p by omega, per]
theorem mir_per (per : ∀ t, S (t + p) = S t) (t : Int) : mirS S p (t + p) = mirS S p t := by
  unfold mirS
  have := per (p - 1 - (t + p))
  rw [show p - 1 - (t + p) + p = p - 1 - t by omega] at this
  exact this.symm
/-- a set of a period's ticks, as a row, and the row moved on: the row sorted is that of the moved set -/
theorem turn_row (hp : 0 < p) (q q' : Int → Bool) (h : ∀ x, 0 ≤ x → x < p → q' (mv p m x) = q x) : sortI ((tk q p.toNat 0).map (mv p m)) = tk q' p.toNat 0 := by
  have nd : (tk q p.toNat 0).Nodup := (tk_lt _ _).imp fun {x y} z => by show x ≠ y; omega
  have inp : ∀ x ∈ tk q p.toNat 0, 0 ≤ x ∧ x < p := fun x hx => by
    obtain ⟨a, b, _⟩ := mem_tk.mp hx
    omega
  refine sort_ext (mv_map_nodup nd inp) (tk_lt _ _) fun z => ?_
  rw [List.mem_map]
  constructor
  · rintro ⟨x, hx, rfl⟩
    obtain ⟨x0, x1⟩ := inp x hx
    have l := mv_lt (p := p) (m := m) hp x
    exact mem_tk.mpr ⟨l.1, by omega, by rw [h x x0 x1]; exact (mem_tk.mp hx).2.2⟩
  · intro hz
    obtain ⟨z0, z1, z2⟩ := mem_tk.mp hz
    obtain ⟨x, x0, x1, rfl⟩ := mv_back (m := m) hp z0 (by omega)
    exact ⟨x, mem_tk.mpr ⟨x0, by omega, by rw [← h x x0 x1]; exact z2⟩, rfl⟩
theorem mir_row (hp : 0 < p) (q q' : Int → Bool) (h : ∀ x, 0 ≤ x → x < p → q' (p - 1 - x) = q x) : (tk q p.toNat 0).reverse.map (fun x => p - 1 - x) = tk q' p.toNat 0 := by
  refine pw_ext ?_ (tk_lt _ _) fun z => ?_
  · rw [List.pairwise_map, List.pairwise_reverse]
    exact (tk_lt (S := q) p.toNat 0).imp fun {x y} z => by omega
  · rw [List.mem_map]
    constructor
    · rintro ⟨x, hx, rfl⟩
      obtain ⟨x0, x1, x2⟩ := mem_tk.mp (List.mem_reverse.mp hx)
      exact mem_tk.mpr ⟨by omega, by omega, by rw [h x x0 (by omega)]; exact x2⟩
    · intro hz
      obtain ⟨z0, z1, z2⟩ := mem_tk.mp hz
      refine ⟨p - 1 - z, List.mem_reverse.mpr (mem_tk.mpr ⟨by omega, by omega, ?_⟩), by omega⟩
      rw [← h (p - 1 - z) (by omega) (by omega), show p - 1 - (p - 1 - z) = z by omega]
      exact z2
theorem turn_at (per : ∀ t, S (t + p) = S t) (x : Int) : turnS S m (mv p m x) = S x := by
  unfold turnS
  have := per_dvd per (mv_dvd (p := p) (m := m) x) x
  rw [show x + (mv p m x - (x + m)) = mv p m x - m by omega] at this
  exact this
theorem mir_at (x : Int) : mirS S p (p - 1 - x) = S x := by
  unfold mirS
  rw [show p - 1 - (p - 1 - x) = x by omega]
theorem emod_iff (hp : 0 < p) {t x : Int} (x0 : 0 ≤ x) (x1 : x < p) : t % p = x ↔ p ∣ t - x := by
  have dv : p ∣ t - t % p := ⟨t / p, by
    have := Int.emod_add_mul_ediv t p
    omega⟩
  constructor
  · intro h
    rw [h] at dv
    exact dv
  · intro h
    refine in_period (p := p) ?_ (Int.emod_nonneg _ (by omega)) (Int.emod_lt_of_pos _ hp) x0 x1
    have := Int.dvd_sub h dv
    rw [show t - x - (t - t % p) = t % p - x by omega] at this
    exact this
theorem less_turn (hp : 0 < p) {x : Int} (x0 : 0 ≤ x) (x1 : x < p) : lessX (turnS S m) p (mv p m x) = turnS (lessX S p x) m := by
  funext t
  unfold lessX turnS
  have l := mv_lt (p := p) (m := m) hp x
  have : decide (t % p = mv p m x) = decide ((t - m) % p = x) := by
    refine decide_eq_decide.mpr ?_
    rw [emod_iff hp l.1 l.2, emod_iff hp x0 x1]
    have d := mv_dvd (p := p) (m := m) x
    constructor
    · intro h
      have := Int.dvd_add h d
      rw [show t - mv p m x + (mv p m x - (x + m)) = t - m - x by omega] at this
      exact this
    · intro h
      have := Int.dvd_sub h d
      rw [show t - m - x - (mv p m x - (x + m)) = t - mv p m x by omega] at this
      exact this
  rw [this]
theorem plus_turn (hp : 0 < p) {x : Int} (x0 : 0 ≤ x) (x1 : x < p) : plusX (turnS S m) p (mv p m x) = turnS (plusX S p x) m := by
  funext t
  unfold plusX turnS
  have l := mv_lt (p := p) (m := m) hp x
  have : decide (t % p = mv p m x) = decide ((t - m) % p = x) := by
    refine decide_eq_decide.mpr ?_
    rw [emod_iff hp l.1 l.2, emod_iff hp x0 x1]
    have d := mv_dvd (p := p) (m := m) x
    constructor
    · intro h
      have := Int.dvd_add h d
      rw [show t - mv p m x + (mv p m x - (x + m)) = t - m - x by omega] at this
      exact this
    · intro h
      have := Int.dvd_sub h d
      rw [show t - m - x - (mv p m x - (x + m)) = t - mv p m x by omega] at this
      exact this
  rw [this]
theorem mir_mod (hp : 0 < p) {x : Int} (x0 : 0 ≤ x) (x1 : x < p) (t : Int) : decide (t % p = p - 1 - x) = decide ((p - 1 - t) % p = x) := by
  refine decide_eq_decide.mpr ?_
  rw [emod_iff hp (by omega) (by omega), emod_iff hp x0 x1]
  constructor
  · intro h
    have := Int.dvd_neg.mpr h
    rw [show -(t - (p - 1 - x)) = p - 1 - t - x by omega] at this
    exact this
  · intro h
    have := Int.dvd_neg.mpr h
    rw [show -(p - 1 - t - x) = t - (p - 1 - x) by omega] at this
    exact this
theorem less_mir (hp : 0 < p) {x : Int} (x0 : 0 ≤ x) (x1 : x < p) : lessX (mirS S p) p (p - 1 - x) = mirS (lessX S p x) p := by
  funext t
  unfold lessX mirS
  rw [mir_mod hp x0 x1]
theorem plus_mir (hp : 0 < p) {x : Int} (x0 : 0 ≤ x) (x1 : x < p) : plusX (mirS S p) p (p - 1 - x) = mirS (plusX S p x) p := by
  funext t
  unfold plusX mirS
  rw [mir_mod hp x0 x1]
/-- the looks of a round and one more -/
theorem plus_row (hp : 0 < p) {x : Int} (x0 : 0 ≤ x) (x1 : x < p) (hx : S x = false) : sortI (tk S p.toNat 0 ++ [x]) = tk (plusX S p x) p.toNat 0 := by
  have nd : (tk S p.toNat 0).Nodup := (tk_lt _ _).imp fun {a b} z => by show a ≠ b; omega
  refine sort_ext (List.nodup_append.mpr ⟨nd, by simp, fun a ha b hb => ?_⟩) (tk_lt _ _) fun z => ?_
  · rw [List.mem_singleton.mp hb]
    intro e
    have := (mem_tk.mp ha).2.2
    rw [e, hx] at this
    cases this
  · rw [List.mem_append, List.mem_singleton]
    constructor
    · rintro (h | rfl)
      · obtain ⟨z0, z1, z2⟩ := mem_tk.mp h
        exact mem_tk.mpr ⟨z0, z1, by unfold plusX; rw [z2]; rfl⟩
      · exact mem_tk.mpr ⟨x0, by omega, by unfold plusX; rw [Int.emod_eq_of_lt x0 x1, decide_eq_true rfl, Bool.or_true]⟩
    · intro h
      obtain ⟨z0, z1, z2⟩ := mem_tk.mp h
      unfold plusX at z2
      rcases Bool.or_eq_true_iff.mp z2 with z2 | z2
      · exact .inl (mem_tk.mpr ⟨z0, z1, z2⟩)
      · right
        have := of_decide_eq_true z2
        rw [Int.emod_eq_of_lt z0 (by omega)] at this
        exact this
theorem minL_ext {a b : List Int} (h : ∀ v, v ∈ a ↔ v ∈ b) : minL a = minL b := by
  cases ha : minL a with
  | none =>
    cases a with
    | nil =>
      cases b with
      | nil => rfl
      | cons x r => exact absurd ((h x).mpr List.mem_cons_self) (fun z => nomatch z)
    | cons _ _ => cases ha
  | some u =>
    cases hb : minL b with
    | none =>
      cases b with
      | nil =>
        cases a with
        | nil => cases ha
        | cons x r => exact absurd ((h x).mp List.mem_cons_self) (fun z => nomatch z)
      | cons _ _ => cases hb
    | some v =>
      obtain ⟨u1, u2⟩ := minL_iff.mp ha
      obtain ⟨v1, v2⟩ := minL_iff.mp hb
      have := u2 v ((h v).mpr v1)
      have := v2 u ((h u).mp u1)
      rw [show u = v by omega]
/-- free ticks, the least number with one look more, who does it -/
def freeS (S : Int → Bool) : Int → Bool := fun t => !S t
def omL (S : Int → Bool) (p L G : Int) : Option Int := minL ((tk (freeS S) p.toNat 0).filterMap fun x => nmO (plusX S p x) p L G)
def omT (S : Int → Bool) (p L G : Int) : List Int := (tk (freeS S) p.toNat 0).filter fun x => decide (nmO (plusX S p x) p L G = omL S p L G)
end
end TK

namespace K42
open PySem PySem.Spec L3 TK
theorem neL_nil (l : List Int) : opNe (.list (I l)) (.list []) = some (.bool (!l.isEmpty)) := by
  have h := eqL_nil l
  have h' : (sameD (.list (I l)) (.list [])).map PyData.bool = some (.bool l.isEmpty) := h
  obtain ⟨b, h1, h2⟩ := Option.map_eq_some_iff.mp h'
  show (sameD _ _).map _ = _
  rw [h1]
  cases h2
  rfl
theorem bSortA_T (l : List Int) : bSortA [.tuple (I l)] = some (.list (I (sortI l))) := by
  show (intsD (l.map PyData.int)).map (fun ns => PyData.list ((sortI ns).map PyData.int)) = _
  rw [intsD_map]
  rfl
theorem bSortA_L (l : List Int) : bSortA [.list (I l)] = some (.list (I (sortI l))) := by
  show (intsD (l.map PyData.int)).map (fun ns => PyData.list ((sortI ns).map PyData.int)) = _
  rw [intsD_map]
  rfl
section
variable {S T : Int → Bool} {p L G m : Int}
theorem Wk.plus (W : Wk S p L G) (x : Int) : Wk (plusX S p x) p L G where
  p2 := W.p2
  p1 := W.p1
  per := plus_per W.per x
  ne := by
    obtain ⟨a, r, h⟩ := W.head
    have ha : a ∈ lk S p := by rw [h]; exact List.mem_cons_self
    obtain ⟨a0, a1, a2⟩ := mem_tk.mp ha
    have : a ∈ lk (plusX S p x) p := mem_tk.mpr ⟨a0, a1, by unfold plusX; rw [a2]; rfl⟩
    intro z
    rw [z] at this
    cases this
  hL := W.hL
  hL2 := W.hL2
  hG := W.hG
  hG2 := W.hG2
theorem Wk.num (W : Wk S p L G) : m_number_of [T2 p (lk S p), B2 L G] = Option.some (optD (nmO S p L G)) := by
  obtain ⟨a, r, h⟩ := W.head
  exact e_numberF W.toRd h W.hL (by have := W.hL2; omega)
def omRow (S : Int → Bool) (p L G x : Int) : D := .tuple [optD (nmO (plusX S p x) p L G), .int x]
theorem isN_optD (o : Option Int) : isN (optD o) = o.isNone := by cases o <;> rfl
theorem e_one_more (W : Wk S p L G) : m_one_more [T2 p (lk S p), B2 L G] = some (.tuple [optD (omL S p L G), .tuple (I (omT S p L G))]) := by
  have hp := W.hp
  have hp1 := W.p1
  have hlen := W.toRd.len
  have hp2 := W.p2
  have oP : okR p := okR_of (by omega) (by omega)
  have loop := for_0 (g := gN 5) (b := b_one_more_l1) (ds := rng 0 1 p.toNat) (e := ⟨[.dat (T2 p (lk S p)), .dat (B2 L G), .dat (.int p), .dat (.tuple (I (lk S p))), .own [], .un, .un, .un, .un], pot0⟩)
    (fun i e => ∃ x5, e = ⟨[.dat (T2 p (lk S p)), .dat (B2 L G), .dat (.int p), .dat (.tuple (I (lk S p))), .own ((tk (freeS S) i 0).map (omRow S p L G)), x5, .un, .un, .un], pot0⟩)
    (fun r => ∃ x5, r = .nx ⟨[.dat (T2 p (lk S p)), .dat (B2 L G), .dat (.int p), .dat (.tuple (I (lk S p))), .own ((tk (freeS S) p.toNat 0).map (omRow S p L G)), x5, .un, .un, .un], pot0⟩)
    ⟨.un, rfl⟩ (fun i d e hd hi => by
      obtain ⟨x5, rfl⟩ := hi
      have hil : i < p.toNat := by
        have := (List.getElem?_eq_some_iff.mp hd).1
        rw [rng_len] at this
        exact this
      rw [rng_get hil] at hd
      cases hd
      rw [show (0 : Int) + (i : Int) * 1 = i by omega]
      refine ⟨_, rfl, ?_⟩
      have hin := inT_I (l := lk S p) (i : Int)
      have hmem : decide ((i : Int) ∈ lk S p) = S i := by
        cases hs : S i with
        | true => exact decide_eq_true (mem_tk.mpr ⟨by omega, by omega, hs⟩)
        | false => exact decide_eq_false fun z => by rw [(mem_tk.mp z).2.2] at hs; cases hs
      rw [hmem] at hin
      have etk : tk (freeS S) (i + 1) 0 = tk (freeS S) i 0 ++ if freeS S i = true then [(i : Int)] else [] := by
        rw [tk_append]
        congr 1
        simp [tk]
      have hl7 : (tk (freeS S) i 0).length < 10000000 := by
        have := tk_len (S := freeS S) i 0
        omega
      refine ⟨.nx ⟨[.dat (T2 p (lk S p)), .dat (B2 L G), .dat (.int p), .dat (.tuple (I (lk S p))), .own ((tk (freeS S) (i + 1) 0).map (omRow S p L G)), .dat (.int i), .un, .un, .un], pot0⟩, ?_, ⟨_, rfl⟩⟩
      rw [etk, List.map_append]
      cases hs : S i with
      | true =>
        have hf : ¬ freeS S i = true := by unfold freeS; rw [hs]; decide
        rw [if_neg hf, List.map_nil, List.append_nil]
        rw [hs] at hin
        simp (implicitDefEqProofs := false) [b_one_more_l1, hin]
      | false =>
        have hf : freeS S i = true := by unfold freeS; rw [hs]; rfl
        rw [if_pos hf, List.map_singleton]
        rw [hs] at hin
        have e1 : I (lk S p) ++ [PyData.int (i : Int)] = I (lk S p ++ [(i : Int)]) := by rw [I_append]; rfl
        have e2 := bSortA_T (lk S p ++ [(i : Int)])
        have e3 : sortI (lk S p ++ [(i : Int)]) = lk (plusX S p i) p := plus_row hp (by omega) (by omega) hs
        rw [e3] at e2
        have e4 := (W.plus (i : Int)).num
        have b1 : (lk S p).length + 1 ≤ 10000000 := by omega
        simp (implicitDefEqProofs := false) [b_one_more_l1, hin, e1, e2, e4, b1, hl7, omRow]) fun e he => by
      obtain ⟨x5, rfl⟩ := he
      rw [rng_len]
      exact ⟨x5, rfl⟩
  obtain ⟨r, hr, x5, rfl⟩ := loop
  generalize hfr : tk (freeS S) p.toNat 0 = fr at hr
  have hfl : fr.length ≤ 168 := by
    have := tk_len (S := freeS S) p.toNat 0
    rw [hfr] at this
    omega
  have bf : fr.length ≤ 10000000 := by omega
  have q1 := lc_of (g := gT 2 (gsCons (gN 8) (gsCons (gN 5) gsNil))) (t := b_one_more_i2) (f := b_one_more_c2) (vs := [8, 5]) (sl := [.dat (T2 p (lk S p)), .dat (B2 L G), .dat (.int p), .dat (.tuple (I (lk S p))), .dat (.list (fr.map (omRow S p L G))), x5, .un, .un, .un]) (P := pot0) (omRow S p L G) (fun x => (nmO (plusX S p x) p L G).isSome) (fun x => optD (nmO (plusX S p x) p L G)) (ns := fr) fun x hx => ⟨_, rfl, rfl, by
    simp [b_one_more_i2, isN_optD], fun _ => by simp [b_one_more_c2]⟩
  have e1 : (fr.filter fun x => (nmO (plusX S p x) p L G).isSome).map (fun x => optD (nmO (plusX S p x) p L G)) = I (fr.filterMap fun x => nmO (plusX S p x) p L G) := by
    clear q1 hr bf hfl hfr
    induction fr with
    | nil => rfl
    | cons x r ih =>
      cases hx : nmO (plusX S p x) p L G with
      | none =>
        rw [List.filter_cons_of_neg (by rw [hx]; decide), List.filterMap_cons, hx]
        exact ih
      | some v =>
        rw [List.filter_cons_of_pos (by rw [hx]; rfl), List.filterMap_cons, hx, List.map_cons, hx, I_cons, ih]
        rfl
  rw [e1] at q1
  have hle : omL S p L G = minL (fr.filterMap fun x => nmO (plusX S p x) p L G) := by unfold omL; rw [hfr]
  generalize hso : (fr.filterMap fun x => nmO (plusX S p x) p L G) = so at q1 hle
  have hne := neL_nil so
  have hmi : fIf (fT (fBin opNe (fV 6) (fLst (fNil)))) (fCall bMin (fCons (fV 6) (fNil))) (fC .none) ⟨[.dat (T2 p (lk S p)), .dat (B2 L G), .dat (.int p), .dat (.tuple (I (lk S p))), .dat (.list (fr.map (omRow S p L G))), x5, .dat (.list (I so)), .un, .un], pot0⟩ = some (optD (omL S p L G), ⟨[.dat (T2 p (lk S p)), .dat (B2 L G), .dat (.int p), .dat (.tuple (I (lk S p))), .dat (.list (fr.map (omRow S p L G))), x5, .dat (.list (I so)), .un, .un], pot0⟩) := by
    rw [hle]
    cases so with
    | nil =>
      have hne : opNe (.list []) (.list []) = some (.bool false) := hne
      simp (implicitDefEqProofs := false) [hne]
      rfl
    | cons v r =>
      have hm : bMin [.list (I (v :: r))] = some (optD (minL (v :: r))) := by
        show ((intsD ((v :: r).map PyData.int)).bind fun ns => (minL ns).map PyData.int) = _
        rw [intsD_map]
        rfl
      have hne : opNe (.list (I (v :: r))) (.list []) = some (.bool true) := hne
      simp (implicitDefEqProofs := false) [hne, hm]
  have q2 := lc_of (g := gT 2 (gsCons (gN 8) (gsCons (gN 5) gsNil))) (t := b_one_more_i1) (f := b_one_more_c1) (vs := [8, 5]) (sl := [.dat (T2 p (lk S p)), .dat (B2 L G), .dat (.int p), .dat (.tuple (I (lk S p))), .dat (.list (fr.map (omRow S p L G))), x5, .dat (.list (I so)), .dat (optD (omL S p L G)), .un]) (P := pot0) (omRow S p L G) (fun x => decide (nmO (plusX S p x) p L G = omL S p L G)) (fun x => .int x) (ns := fr) fun x hx => ⟨_, rfl, rfl, by
    simp [b_one_more_i1, eq_optD2], fun _ => by simp [b_one_more_c1]⟩
  have e2 : (fr.filter fun x => decide (nmO (plusX S p x) p L G = omL S p L G)).map (fun x => (.int x : D)) = I (omT S p L G) := by
    unfold omT
    rw [hfr]
    rfl
  rw [e2] at q2
  have hchk := W.chk
  have first : ∀ k, sSeq (sSet 7 (fIf (fT (fBin opNe (fV 6) (fLst (fNil)))) (fCall bMin (fCons (fV 6) (fNil))) (fC .none))) k ⟨[.dat (T2 p (lk S p)), .dat (B2 L G), .dat (.int p), .dat (.tuple (I (lk S p))), .dat (.list (fr.map (omRow S p L G))), x5, .dat (.list (I so)), .un, .un], pot0⟩ = k ⟨[.dat (T2 p (lk S p)), .dat (B2 L G), .dat (.int p), .dat (.tuple (I (lk S p))), .dat (.list (fr.map (omRow S p L G))), x5, .dat (.list (I so)), .dat (optD (omL S p L G)), .un], pot0⟩ := fun k => by
    rw [q_seq, q_set, hmi]
    rfl
  have pre : m_one_more [T2 p (lk S p), B2 L G] = endF (sSeq (sSet 7 (fIf (fT (fBin opNe (fV 6) (fLst (fNil)))) (fCall bMin (fCons (fV 6) (fNil))) (fC .none))) (sSeq (sRet (fTup (fCons (fV 7) (fCons (fCall bTuple (fCons (fLC (fItS (fV 4)) (gT 2 (gsCons (gN 8) (gsCons (gN 5) (gsNil)))) (b_one_more_i1) (b_one_more_c1) [8, 5]) (fNil))) (fNil))))) (sNext)) ⟨[.dat (T2 p (lk S p)), .dat (B2 L G), .dat (.int p), .dat (.tuple (I (lk S p))), .dat (.list (fr.map (omRow S p L G))), x5, .dat (.list (I so)), .un, .un], pot0⟩) := by
    simp (implicitDefEqProofs := false) [-q_if, m_one_more, runF, b_one_more, entry, hchk, oP, hr, q1, bf]
  rw [pre, first]
  simp (implicitDefEqProofs := false) [q2, bf]
end
end K42

namespace K42
open PySem PySem.Spec L3 TK
section
variable {S T : Int → Bool} {p L G m : Int}
theorem lk_in (W : Wk S p L G) {x : Int} (h : x ∈ lk S p) : 0 ≤ x ∧ x < p ∧ S x = true := by
  have := W.hp
  obtain ⟨a, b, c⟩ := mem_tk.mp h
  exact ⟨a, by omega, c⟩
theorem Wk.turn (W : Wk S p L G) (m : Int) : Wk (turnS S m) p L G where
  p2 := W.p2
  p1 := W.p1
  per := turn_per W.per
  ne := by
    obtain ⟨a, r, h⟩ := W.head
    have ha : a ∈ lk S p := by rw [h]; exact List.mem_cons_self
    have hp := W.hp
    have l := mv_lt (p := p) (m := m) hp a
    have : mv p m a ∈ lk (turnS S m) p := mem_tk.mpr ⟨l.1, by omega, by rw [turn_at W.per]; exact (lk_in W ha).2.2⟩
    intro z
    rw [z] at this
    cases this
  hL := W.hL
  hL2 := W.hL2
  hG := W.hG
  hG2 := W.hG2
theorem Wk.mir (W : Wk S p L G) : Wk (mirS S p) p L G where
  p2 := W.p2
  p1 := W.p1
  per := mir_per W.per
  ne := by
    obtain ⟨a, r, h⟩ := W.head
    have ha : a ∈ lk S p := by rw [h]; exact List.mem_cons_self
    have hp := W.hp
    obtain ⟨a0, a1, a2⟩ := lk_in W ha
    have : p - 1 - a ∈ lk (mirS S p) p := mem_tk.mpr ⟨by omega, by omega, by rw [mir_at]; exact a2⟩
    intro z
    rw [z] at this
    cases this
  hL := W.hL
  hL2 := W.hL2
  hG := W.hG
  hG2 := W.hG2
theorem Wk.less (W : Wk S p L G) (hl : (tk S p.toNat 0).length ≠ 1) {x : Int} (hx : x ∈ tk S p.toNat 0) : Wk (lessX S p x) p L G where
  p2 := W.p2
  p1 := W.p1
  per := less_per W.per x
  ne := by
    obtain ⟨a, r, h⟩ := two_left (tk_ne _ _) hl hx
    show tk (lessX S p x) p.toNat 0 ≠ []
    rw [less_lk W.hp, h]
    exact fun z => nomatch z
  hL := W.hL
  hL2 := W.hL2
  hG := W.hG
  hG2 := W.hG2
theorem nm_turn (W : Wk S p L G) : nmO (turnS S m) p L G = nmO S p L G := ((W.turn m).ext W ex_turn fun _ => all_turn).2
theorem nm_mir (W : Wk S p L G) : nmO (mirS S p) p L G = nmO S p L G := (W.mir.ext W ex_mir fun _ => all_mir).2
theorem turn_lk (W : Wk S p L G) : sortI ((lk S p).map (mv p m)) = lk (turnS S m) p := turn_row W.hp S (turnS S m) fun x _ _ => turn_at W.per x
theorem mir_lk (W : Wk S p L G) : (lk S p).reverse.map (fun x => p - 1 - x) = lk (mirS S p) p := mir_row W.hp S (mirS S p) fun x _ _ => mir_at x
theorem turn_len (W : Wk S p L G) : (tk (turnS S m) p.toNat 0).length = (tk S p.toNat 0).length := by
  have h : sortI ((tk S p.toNat 0).map (mv p m)) = tk (turnS S m) p.toNat 0 := turn_lk W
  rw [← h, (sortI_perm _).length_eq, List.length_map]
theorem mir_len (W : Wk S p L G) : (tk (mirS S p) p.toNat 0).length = (tk S p.toNat 0).length := by
  have h : (tk S p.toNat 0).reverse.map (fun x => p - 1 - x) = tk (mirS S p) p.toNat 0 := mir_lk W
  rw [← h, List.length_map, List.length_reverse]
theorem idl_turn (W : Wk S p L G) : sortI ((idl S p L G).map (mv p m)) = idl (turnS S m) p L G := by
  unfold idl
  rw [turn_len W]
  by_cases hl : (tk S p.toNat 0).length = 1
  · rw [if_pos hl, if_pos hl]
    rfl
  · rw [if_neg hl, if_neg hl, tk_filter, tk_filter]
    refine turn_row W.hp _ _ fun x x0 x1 => ?_
    rw [turn_at W.per]
    cases hs : S x with
    | false => rfl
    | true =>
      have hx : x ∈ tk S p.toNat 0 := mem_tk.mpr ⟨x0, by have := W.hp; omega, hs⟩
      rw [less_turn W.hp x0 x1, nm_turn (W.less hl hx), nm_turn W]
theorem idl_mir (W : Wk S p L G) : (idl S p L G).reverse.map (fun x => p - 1 - x) = idl (mirS S p) p L G := by
  unfold idl
  rw [mir_len W]
  by_cases hl : (tk S p.toNat 0).length = 1
  · rw [if_pos hl, if_pos hl]
    rfl
  · rw [if_neg hl, if_neg hl, tk_filter, tk_filter]
    refine mir_row W.hp _ _ fun x x0 x1 => ?_
    rw [mir_at]
    cases hs : S x with
    | false => rfl
    | true =>
      have hx : x ∈ tk S p.toNat 0 := mem_tk.mpr ⟨x0, by have := W.hp; omega, hs⟩
      rw [less_mir W.hp x0 x1, nm_mir (W.less hl hx), nm_mir W]
theorem om_turn (W : Wk S p L G) : omL (turnS S m) p L G = omL S p L G := by
  unfold omL
  refine minL_ext fun v => ?_
  rw [List.mem_filterMap, List.mem_filterMap]
  have hp := W.hp
  constructor
  · rintro ⟨y, hy, hv⟩
    obtain ⟨y0, y1, y2⟩ := mem_tk.mp hy
    obtain ⟨x, x0, x1, rfl⟩ := mv_back (m := m) hp y0 (by omega)
    unfold freeS at y2
    rw [turn_at W.per] at y2
    rw [plus_turn hp x0 x1, nm_turn (W.plus x)] at hv
    exact ⟨x, mem_tk.mpr ⟨x0, by omega, y2⟩, hv⟩
  · rintro ⟨x, hx, hv⟩
    obtain ⟨x0, x1, x2⟩ := mem_tk.mp hx
    have l := mv_lt (p := p) (m := m) hp x
    refine ⟨mv p m x, mem_tk.mpr ⟨l.1, by omega, ?_⟩, ?_⟩
    · unfold freeS
      rw [turn_at W.per]
      exact x2
    · rw [plus_turn hp x0 (by omega), nm_turn (W.plus x)]
      exact hv
theorem om_mir (W : Wk S p L G) : omL (mirS S p) p L G = omL S p L G := by
  unfold omL
  refine minL_ext fun v => ?_
  rw [List.mem_filterMap, List.mem_filterMap]
  have hp := W.hp
  constructor
  · rintro ⟨y, hy, hv⟩
    obtain ⟨y0, y1, y2⟩ := mem_tk.mp hy
    have e : p - 1 - (p - 1 - y) = y := by omega
    have h2 := mir_at (S := S) (p := p) (p - 1 - y)
    have h3 := plus_mir (S := S) hp (x := p - 1 - y) (by omega) (by omega)
    rw [e] at h2 h3
    unfold freeS at y2
    rw [h2] at y2
    rw [h3, nm_mir (W.plus _)] at hv
    exact ⟨p - 1 - y, mem_tk.mpr ⟨by omega, by omega, y2⟩, hv⟩
  · rintro ⟨x, hx, hv⟩
    obtain ⟨x0, x1, x2⟩ := mem_tk.mp hx
    refine ⟨p - 1 - x, mem_tk.mpr ⟨by omega, by omega, ?_⟩, ?_⟩
    · unfold freeS
      rw [mir_at]
      exact x2
    · rw [plus_mir hp x0 (by omega), nm_mir (W.plus x)]
      exact hv
theorem omT_turn (W : Wk S p L G) : sortI ((omT S p L G).map (mv p m)) = omT (turnS S m) p L G := by
  unfold omT
  rw [tk_filter, tk_filter, om_turn W]
  refine turn_row W.hp _ _ fun x x0 x1 => ?_
  unfold freeS
  rw [turn_at W.per, plus_turn W.hp x0 x1, nm_turn (W.plus x)]
theorem omT_mir (W : Wk S p L G) : (omT S p L G).reverse.map (fun x => p - 1 - x) = omT (mirS S p) p L G := by
  unfold omT
  rw [tk_filter, tk_filter, om_mir W]
  refine mir_row W.hp _ _ fun x x0 x1 => ?_
  unfold freeS
  rw [mir_at, plus_mir W.hp x0 x1, nm_mir (W.plus x)]
/-! a stay moved on -/
theorem optP_shift (c : Int) (l : List Int) : optP L G (l.map fun t => t + c) = (optP L G l).map fun q => (q.1 + c, q.2 + c) := by
  unfold optP
  rw [hit0_mapT]
  cases h : hit0 L G l with
  | none => rfl
  | some t =>
    show Option.some (lst L (t + c) (l.map fun t => t + c), t + c) = Option.some (lst L t l + c, t + c)
    have : lst L (t + c) (l.map fun t => t + c) = lst L t l + c := by
      unfold lst
      rw [List.filter_map]
      have e : ((fun u => decide (L ≤ t + c - u)) ∘ fun t => t + c) = fun u => decide (L ≤ t - u) := by
        funext u
        show decide (L ≤ t + c - (u + c)) = _
        rw [show t + c - (u + c) = t - u by omega]
      rw [e, List.getLast?_map]
      cases h1 : (l.filter fun u => decide (L ≤ t - u)).getLast? with
      | some u => rfl
      | none =>
        exfalso
        rw [List.getLast?_eq_none_iff] at h1
        obtain ⟨u, hu, hLu⟩ : ∃ u ∈ l, L ≤ t - u := by
          cases l with
          | nil => cases h
          | cons x r => exact hit_far2 (acc := [x]) List.mem_cons_self h
        have : u ∈ l.filter fun u => decide (L ≤ t - u) := List.mem_filter.mpr ⟨hu, decide_eq_true hLu⟩
        rw [h1] at this
        cases this
    rw [this]
where
  hit_far2 : ∀ {F z t : Int} {l acc : List Int}, F ∈ acc → hit L G F z l = Option.some t → ∃ u ∈ acc ++ l, L ≤ t - u
  | _, _, _, [], _, _, h => by cases h
  | F, z, t, x :: l, acc, hF, h => by
    simp only [hit] at h
    have hnw : nw G F z x ∈ acc ++ [x] := by
      unfold nw
      split
      · exact List.mem_append_right _ List.mem_cons_self
      · exact List.mem_append_left _ hF
    by_cases h0 : L ≤ x - nw G F z x
    · rw [if_pos h0] at h
      cases h
      refine ⟨_, ?_, h0⟩
      rcases List.mem_append.mp hnw with q | q
      · exact List.mem_append_left _ q
      · rw [List.mem_singleton.mp q]; exact List.mem_append_right _ List.mem_cons_self
    · rw [if_neg h0] at h
      obtain ⟨u, hu, hLu⟩ := hit_far2 hnw h
      exact ⟨u, by rw [List.append_assoc] at hu; exact hu, hLu⟩
theorem stay_turn (W : Wk S p L G) {laps : Int} (h : p ∣ laps - m) (n : Nat) (b : Int) : optP L G (tk (turnS S m) n (b + laps)) = (optP L G (tk S n b)).map fun q => (q.1 + laps, q.2 + laps) := by
  have e : tk (turnS S m) n (b + laps) = (tk S n b).map fun t => t + laps := by
    rw [tk_shift, tk_congr (T := S) fun t _ _ => ?_]
    unfold turnS
    rw [show t + laps - m = t + (laps - m) by omega]
    exact per_dvd W.per h t
  rw [e, optP_shift]
theorem stay_mir (W : Wk S p L G) {b len : Int} (hl : 0 ≤ len) {far : Int} (h : p ∣ far) : (optP L G (tk (mirS S p) len.toNat (far - (b + len)))).isNone = (optP L G (tk S len.toNat b)).isNone := by
  have i1 := hit_iff (S := mirS S p) (G := G) W.hL len.toNat (far - (b + len))
  have i2 := hit_iff (S := S) (G := G) W.hL len.toNat b
  rw [Int.toNat_of_nonneg hl] at i1 i2
  have key : Pv (mirS S p) L G (far - (b + len)) (far - (b + len) + len) ↔ Pv S L G b (b + len) := by
    rw [Pv.mir]
    have d1 : p ∣ far - p := Int.dvd_sub h (Int.dvd_refl p)
    have d2 : p ∣ p - far := Int.dvd_sub (Int.dvd_refl p) h
    constructor
    · intro q
      have := q.shift (per_dvd W.per d1)
      rw [show p - (far - (b + len) + len) + (far - p) = b by omega, show p - (far - (b + len)) + (far - p) = b + len by omega] at this
      exact this
    · intro q
      have := q.shift (per_dvd W.per d2)
      rw [show b + (p - far) = p - (far - (b + len) + len) by omega, show b + len + (p - far) = p - (far - (b + len)) by omega] at this
      exact this
  unfold optP
  cases h1 : hit0 L G (tk (mirS S p) len.toNat (far - (b + len))) with
  | none =>
    cases h2 : hit0 L G (tk S len.toNat b) with
    | none => rfl
    | some t => exact absurd h1 (i1.mpr (key.mpr (i2.mp (by rw [h2]; exact fun z => nomatch z))))
  | some t =>
    cases h2 : hit0 L G (tk S len.toNat b) with
    | none => exact absurd h2 (i2.mpr (key.mp (i1.mp (by rw [h1]; exact fun z => nomatch z))))
    | some u => rfl
end
end K42

namespace K42
open PySem PySem.Spec L3 TK
theorem sForL_nx {g : FG} {b : FS} {d : D} {ds : List D} {e e1 e2 : En} (h1 : g d e = some e1) (h2 : b e1 = some (.nx e2)) : sForL g b (d :: ds) e = sForL g b ds e2 := by
  show ((g d e).bind fun e1 => (b e1).bind fun r => match r with
    | .nx e2 => sForL g b ds e2
    | .ct e2 => sForL g b ds e2
    | .bk e2 => some (.nx e2)
    | .rt v e2 => some (.rt v e2)) = _
  rw [h1]
  simp only [Option.bind_some]
  rw [h2]
  rfl
theorem sForL_rt {g : FG} {b : FS} {d v : D} {ds : List D} {e e1 e2 : En} (h1 : g d e = some e1) (h2 : b e1 = some (.rt v e2)) : sForL g b (d :: ds) e = some (.rt v e2) := by
  show ((g d e).bind fun e1 => (b e1).bind fun r => match r with
    | .nx e2 => sForL g b ds e2
    | .ct e2 => sForL g b ds e2
    | .bk e2 => some (.nx e2)
    | .rt v e2 => some (.rt v e2)) = _
  rw [h1]
  simp only [Option.bind_some]
  rw [h2]
  rfl
section
variable (e : En) (f : F) (r : FR) (fa : FA) (i : Nat)
theorem q_rNewN : fRNewN fa r e = (fa e).bind fun p => (r (p.2.inner [])).bind fun q => some (.new p.1 :: q.1, p.2.po q.2.pot) := rfl
theorem q_items : fItems f e = (f e).bind fun p => (itemsD p.1).map fun ds => (ds, p.2) := rfl
theorem q_lenO : fLenO i e = match e.sl[i]? with
  | some (.own ds) => some (.int (ds.length : Nat), e)
  | some (.dat d) => (bLen [d]).map fun z => (z, e)
  | _ => none := rfl
theorem q_pop : fPop i f e = match e.sl[i]? with
  | some (.own _) => (f e).bind fun p => match p.2.sl[i]?, p.1 with
    | some (.own ds), .int j => if 0 ≤ j ∧ j < ds.length ∧ ds.length ≤ big then (ds[j.toNat]?).map fun d => (d, p.2.put i (.own (ds.eraseIdx j.toNat))) else none
    | _, _ => none
  | _ => none := rfl
theorem q_rev : fRev f e = match f e with
  | some (.list ds, e') => some (.list ds.reverse, e')
  | some (.tuple ds, e') => some (.tuple ds.reverse, e')
  | _ => none := rfl
theorem q_lstR1 : fLstR1 f e = (f e).bind fun p => match p.1 with
  | .int j => if okSpan 0 j then some (.list (rng 0 1 j.toNat), p.2) else none
  | _ => none := rfl
end
theorem erase_perm {α : Type} : ∀ (l : List α) (i : Nat) (h : i < l.length), (l[i] :: l.eraseIdx i).Perm l
  | [], i, h => by simp at h
  | x :: r, 0, _ => .refl _
  | x :: r, i + 1, h => by
    have hi : i < r.length := by simpa using h
    have := erase_perm r i hi
    show (r[i] :: x :: r.eraseIdx i).Perm (x :: r)
    exact (List.Perm.swap x r[i] (r.eraseIdx i)).trans (this.cons x)
theorem I_erase (l : List Int) (i : Nat) : (I l).eraseIdx i = I (l.eraseIdx i) := by
  induction l generalizing i with
  | nil => rfl
  | cons a r ih =>
    cases i with
    | zero => rfl
    | succ i =>
      show PyData.int a :: (I r).eraseIdx i = PyData.int a :: I (r.eraseIdx i)
      rw [ih]
theorem some_row {x1 x2 : D} : ∀ (m : Nat) (rs : List D), rs.length = m → ∀ (left found : List Int) (x5 : SD) (k : Nat) (P : Pot), m ≤ left.length → left.length ≤ 1000 → found.length + m ≤ 1000 → k + m ≤ 900 → Good k P → (∀ d ∈ rs, True) →
    ∃ left' fd x5' P', sForL (gN 5) b__law_some_l1 rs ⟨[.pot, .dat x1, .dat x2, .own (I left), .own (I found), x5], P⟩ = some (.nx ⟨[.pot, .dat x1, .dat x2, .own (I left'), .own (I (found ++ fd)), x5'], P'⟩) ∧ fd.length = m ∧ (fd ++ left').Perm left ∧ Good (k + m) P'
  | 0, rs, hr, left, found, x5, k, P, _, _, _, _, hg, _ => by
    rw [List.eq_nil_of_length_eq_zero hr]
    exact ⟨left, [], x5, P, by rw [List.append_nil]; rfl, rfl, .refl _, hg⟩
  | m + 1, [], hr, _, _, _, _, _, _, _, _, _, _, _ => by cases hr
  | m + 1, d :: rs, hr, left, found, x5, k, P, h1, h2, h3, h4, hg, _ => by
    obtain ⟨j, P1, t, j0, j1, g1⟩ := e_take (u := (left.length : Int)) (by omega) (by omega) (by omega) hg
    have hj : j.toNat < left.length := by omega
    have hd : (I left)[j.toNat]? = some (.int (left[j.toNat])) := getI (List.getElem?_eq_getElem hj)
    have hl : (left.eraseIdx j.toNat).length = left.length - 1 := List.length_eraseIdx_of_lt hj
    have hlast : True := trivial
    obtain ⟨left', fd, x5', P', e1, e2, e3, e4⟩ := some_row (x1 := x1) (x2 := x2) m rs (by simpa using hr) (left.eraseIdx j.toNat) (found ++ [left[j.toNat]]) (.dat d) (k + 1) P1 (by omega) (by omega) (by rw [List.length_append, List.length_singleton]; omega) (by omega) g1 fun _ _ => trivial
    refine ⟨left', left[j.toNat] :: fd, x5', P', ?_, by rw [List.length_cons, e2], ?_, e4.mono (by omega)⟩
    · have eb : b__law_some_l1 ⟨[.pot, .dat x1, .dat x2, .own (I left), .own (I found), .dat d], P⟩ = some (.nx ⟨[.pot, .dat x1, .dat x2, .own (I (left.eraseIdx j.toNat)), .own (I (found ++ [left[j.toNat]])), .dat d], P1⟩) := by
        have hb : left.length ≤ 10000000 := by omega
        have hb2 : found.length < 10000000 := by omega
        rw [I_append, ← I_erase]
        simp (implicitDefEqProofs := false) [b__law_some_l1, q_pop, q_lenO, t, j0, j1, hb, hb2, hd, I_cons]
        all_goals simp [I]
      have eg : gN 5 d ⟨[.pot, .dat x1, .dat x2, .own (I left), .own (I found), x5], P⟩ = some ⟨[.pot, .dat x1, .dat x2, .own (I left), .own (I found), .dat d], P⟩ := rfl
      rw [sForL_nx eg eb, e1, List.append_assoc]
      rfl
    · exact (e3.cons _).trans (erase_perm left j.toNat hj)
theorem e_some {l : List Int} {seq : D} (hs : itemsD seq = some (I l)) {m : Nat} (hm : m ≤ l.length) (hl : l.length ≤ 1000) {k : Nat} {P : Pot} (hk : k + m ≤ 900) (hg : Good k P) :
    ∃ fd rest P', m__law_some [seq, .int m] P = some (.list (I fd), P') ∧ fd.length = m ∧ (fd ++ rest).Perm l ∧ Good (k + m) P' := by
  have hr : (rng 0 1 m).length = m := rng_len ..
  obtain ⟨left', fd, x5', P', e1, e2, e3, e4⟩ := some_row (x1 := seq) (x2 := .int m) m (rng 0 1 m) hr l [] .un k P hm hl (by rw [List.length_nil]; omega) hk hg fun _ _ => trivial
  refine ⟨fd, left', P', ?_, e2, e3, e4⟩
  rw [I_nil, List.nil_append] at e1
  have o1 : okR (m : Int) := okR_of (by omega) (by omega)
  simp (implicitDefEqProofs := false) [m__law_some, runQ, b__law_some, entry, q_rNewN, q_items, hs, o1, e1]
theorem lc_pot {g : FG} {f : F} {vs : List Nat} {sl : List SD} {P0 : Pot} (Rl : D → Prop) (s mx : Nat) : ∀ (ds : List D) (j : Nat) (P : Pot), Good j P → j + s * ds.length ≤ mx →
    (∀ d ∈ ds, ∀ (j : Nat) (P : Pot), j + s ≤ mx → Good j P → ∃ e2, g d ((⟨sl, P⟩ : En).inner vs) = some e2 ∧ ∃ v e3, f e2 = some (v, e3) ∧ Rl v ∧ Good (j + s) e3.pot) →
    ∃ ws P', lcL g fYes f vs ⟨sl, P0⟩ ds P = some (ws, P') ∧ ws.length = ds.length ∧ (∀ v ∈ ws, Rl v) ∧ Good (j + s * ds.length) P'
  | [], j, P, hg, _, _ => ⟨[], P, rfl, rfl, (fun v h => nomatch h), hg⟩
  | d :: ds, j, P, hg, hm, hs => by
    rw [List.length_cons, Nat.mul_add, Nat.mul_one] at hm
    obtain ⟨e2, h1, v, e3, h2, h3, h4⟩ := hs d List.mem_cons_self j P (by omega) hg
    obtain ⟨ws, P', k1, k2, k3, k4⟩ := lc_pot Rl s mx ds (j + s) e3.pot h4 (by omega) fun d hd => hs d (List.mem_cons_of_mem _ hd)
    refine ⟨v :: ws, P', ?_, by rw [List.length_cons, List.length_cons, k2], fun u hu => ?_, k4.mono (by rw [List.length_cons, Nat.mul_add]; omega)⟩
    · show ((g d (((⟨sl, P0⟩ : En).po P).inner vs)).bind fun e2 => (fYes e2).bind fun p => if p.1 = true
        then (f p.2).bind fun q => (lcL g fYes f vs ⟨sl, P0⟩ ds q.2.pot).map fun r => (q.1 :: r.1, r.2)
        else lcL g fYes f vs ⟨sl, P0⟩ ds p.2.pot) = _
      rw [show ((⟨sl, P0⟩ : En).po P) = ⟨sl, P⟩ from rfl, h1]
      simp only [Option.bind_some, q_yes, if_true]
      rw [h2]
      simp only [Option.bind_some]
      rw [k1]
      rfl
    · rcases List.mem_cons.mp hu with rfl | hu
      · exact h3
      · exact k3 u hu
theorem e_ofL {l : List Int} (h0 : l ≠ []) (hl : l.length ≤ 1000) {k : Nat} (hk : k ≤ 1000) {P : Pot} (hg : Good k P) : ∃ z P', m__law_of [.list (I l)] P = some (.int z, P') ∧ z ∈ l ∧ Good (k + 1) P' := by
  have hpos : 0 < l.length := List.length_pos_iff.mpr h0
  obtain ⟨d, P', t, d0, d1, g⟩ := e_take (u := (l.length : Int)) (by omega) (by omega) hk hg
  have hd : l[d.toNat]? = some (l[d.toNat]'(by omega)) := List.getElem?_eq_getElem (by omega)
  have hat : L2.atI (I l) d = some (.int (l[d.toNat]'(by omega))) := atI_int d0 (getI hd)
  refine ⟨_, P', ?_, List.mem_of_getElem? hd, g⟩
  simp (implicitDefEqProofs := false) [m__law_of, runQ, b__law_of, entry, t, hat]
theorem e_of {l : List Int} (h0 : l ≠ []) (hl : l.length ≤ 1000) {k : Nat} (hk : k ≤ 1000) {P : Pot} (hg : Good k P) : ∃ z P', m__law_of [.tuple (I l)] P = some (.int z, P') ∧ z ∈ l ∧ Good (k + 1) P' := by
  have hpos : 0 < l.length := List.length_pos_iff.mpr h0
  obtain ⟨d, P', t, d0, d1, g⟩ := e_take (u := (l.length : Int)) (by omega) (by omega) hk hg
  have hd : l[d.toNat]? = some (l[d.toNat]'(by omega)) := List.getElem?_eq_getElem (by omega)
  have hat : L2.atI (I l) d = some (.int (l[d.toNat]'(by omega))) := atI_int d0 (getI hd)
  refine ⟨_, P', ?_, List.mem_of_getElem? hd, g⟩
  simp (implicitDefEqProofs := false) [m__law_of, runQ, b__law_of, entry, t, hat]
end K42

namespace K42
open PySem PySem.Spec L3 TK
theorem okr_om {o : Option Int} {l : List Int} (ho : ∀ n, o = some n → n.natAbs < 10 ^ 12) (h : Lit l) : okRepr (.tuple [optD o, .tuple (I l)]) = true := by
  obtain ⟨a1, a2, a3, a4⟩ := lit_parts h.2
  have aw := lit_weight h.2
  have al := h.1
  cases o with
  | none =>
    show okRepr (.tuple [.none, .tuple (I l)]) = true
    have k4 : PyData.leavesShort 13 .none = true := by decide +kernel
    have kw : PyData.weight .none ≤ 10 := by decide +kernel
    refine okr ?_ ?_ ?_ ?_ ?_
    · simp [PyData.showable, PyData.showableAll, a1]
    · simp [PyData.hasDict, PyData.hasDictAll, a2]
    · simp [PyData.depth, PyData.depthAll, a3]
    · simp only [PyData.leavesShort, PyData.leavesShortAll] at k4 ⊢
      simp [k4, a4]
    · simp only [PyData.weight, PyData.weightAll] at kw ⊢
      omega
  | some n =>
    have hn := ho n rfl
    show okRepr (.tuple [.int n, .tuple (I l)]) = true
    have k1 : PyData.showable (.int n) = true := by simp [PyData.showable, log_small hn]
    have k4 : PyData.leavesShort 13 (.int n) = true := by
      have := PyData.shown_int_le hn
      simp [PyData.leavesShort, this]
    have kw := int_weight hn
    refine okr ?_ ?_ ?_ ?_ ?_
    · simp [PyData.showable, PyData.showableAll, log_small hn, a1]
    · simp [PyData.hasDict, PyData.hasDictAll, a2]
    · simp [PyData.depth, PyData.depthAll, a3]
    · simp only [PyData.leavesShort, PyData.leavesShortAll] at k4 ⊢
      simp [k4, a4]
    · simp only [PyData.weight, PyData.weightAll] at kw ⊢
      omega
section
variable {S : Int → Bool} {p L G m : Int}
theorem e_law_turned (W : Wk S p L G) : m__law_turned [T2 p (lk S p), .int m] = some (T2 p (lk (turnS S m) p)) := by
  have hp := W.hp
  have hlen := W.toRd.len
  have b1 : (lk S p).length ≤ 10000000 := by omega
  have q := lc_all (g := gN 4) (f := b__law_turned_c1) (vs := [4]) (sl := [.dat (T2 p (lk S p)), .dat (.int m), .dat (.int p), .dat (.tuple (I (lk S p))), .un]) (P := pot0) PyData.int (fun n => .int (mv p m n)) (ns := lk S p) fun n hn => ⟨_, rfl, rfl, by
    have hm : opMod (.int (n + m)) (.int p) = some (.int (mv p m n)) := by rw [q_mod, decide_eq_true hp]; rfl
    simp [-q_mod, b__law_turned_c1, hm]⟩
  rw [show (lk S p).map PyData.int = I (lk S p) from rfl, show (lk S p).map (fun n => (.int (mv p m n) : D)) = I ((lk S p).map (mv p m)) by unfold I; rw [List.map_map]; rfl] at q
  have hs := bSortA_L ((lk S p).map (mv p m))
  rw [turn_lk W] at hs
  simp (implicitDefEqProofs := false) [m__law_turned, runF, b__law_turned, entry, b1, q, hs]
theorem e_law_mirrored (W : Wk S p L G) : m__law_mirrored [T2 p (lk S p)] = some (T2 p (lk (mirS S p) p)) := by
  have hlen := W.toRd.len
  have b1 : (lk S p).length ≤ 10000000 := by omega
  have er : (I (lk S p)).reverse = I (lk S p).reverse := by unfold I; rw [List.map_reverse]
  have q := lc_all (g := gN 3) (f := b__law_mirrored_c1) (vs := [3]) (sl := [.dat (T2 p (lk S p)), .dat (.int p), .dat (.tuple (I (lk S p))), .un]) (P := pot0) PyData.int (fun n => .int (p - 1 - n)) (ns := (lk S p).reverse) fun n hn => ⟨_, rfl, rfl, by simp [b__law_mirrored_c1]⟩
  rw [show (lk S p).reverse.map PyData.int = I (lk S p).reverse from rfl, show (lk S p).reverse.map (fun n => (.int (p - 1 - n) : D)) = I ((lk S p).reverse.map fun x => p - 1 - x) by unfold I; rw [List.map_map]; rfl, mir_lk W] at q
  simp (implicitDefEqProofs := false) [m__law_mirrored, runF, b__law_mirrored, entry, q_rev, er, b1, q]
theorem nm_small (W : Wk S p L G) {n : Int} (h : nmO S p L G = some n) : 1 ≤ n ∧ n ≤ 2 * p := by
  cases hn : nevB S p L G with
  | true => rw [nmO_none hn] at h; cases h
  | false =>
    obtain ⟨num, M⟩ := W.more hn
    rw [M.nm] at h
    cases h
    exact ⟨M.n1, M.n2⟩
theorem om_small (W : Wk S p L G) {n : Int} (h : omL S p L G = some n) : n.natAbs < 10 ^ 12 := by
  obtain ⟨h1, _⟩ := minL_iff.mp h
  obtain ⟨x, _, hx⟩ := List.mem_filterMap.mp h1
  have := nm_small (W.plus x) hx
  have := W.p1
  exact small_abs (by omega) (by omega)
theorem tk_lit (W : Wk S p L G) {q : Int → Bool} {l : List Int} (h : l = (tk q p.toNat 0)) : Lit l := by
  have hp1 := W.p1
  have hp := W.hp
  subst h
  refine ⟨by have := tk_len (S := q) p.toNat 0; omega, fun n hn => ?_⟩
  obtain ⟨a, b, _⟩ := mem_tk.mp hn
  exact small_abs (by omega) (by omega)
theorem omT_lit (W : Wk S p L G) : Lit (omT S p L G) := by
  unfold omT
  exact tk_lit W (tk_filter _ _ _)
theorem idl_lit (W : Wk S p L G) : Lit (idl S p L G) := by
  unfold idl
  split
  · exact ⟨by simp, fun n h => nomatch h⟩
  · exact tk_lit W (tk_filter _ _ _)
theorem Wk.idle (W : Wk S p L G) : m_idle [T2 p (lk S p), B2 L G] = Option.some (.tuple (I (idl S p L G))) := by
  obtain ⟨a, r, h⟩ := W.head
  exact e_idleF W.toRd h W.chk W.hL (by have := W.hL2; omega)
theorem ne_optD (o : Option Int) : opNe (optD o) (optD o) = Option.some (.bool false) := by
  cases o with
  | none => rfl
  | some v => show opNe (.int v) (.int v) = _; simp
theorem Wk.proved (W : Wk S p L G) {b n : Int} (hb : 0 ≤ b) (hb2 : b ≤ 9999) (hn : 1 ≤ n) (hn2 : n ≤ 9999) : m_proved [T2 p (lk S p), B2 L G, .int b, .int n] = Option.some (pairD (optP L G (tk S n.toNat b))) :=
  e_provedF W.toRd W.chk W.hL hb hb2 hn hn2
theorem optP_in {l : List Int} {q : Int × Int} (h : optP L G l = some q) (hs : ∀ t ∈ l, 0 ≤ t ∧ t ≤ 100000) : (0 ≤ q.1 ∧ q.1 ≤ 100000) ∧ 0 ≤ q.2 ∧ q.2 ≤ 100000 := by
  unfold optP at h
  cases hh : hit0 L G l with
  | none => rw [hh] at h; cases h
  | some t =>
    rw [hh] at h
    cases h
    refine ⟨?_, hs t (hit0_in hh)⟩
    show 0 ≤ lst L t l ∧ lst L t l ≤ 100000
    unfold lst
    cases h2 : (l.filter fun u => decide (L ≤ t - u)).getLast? with
    | none => exact ⟨by decide, by decide⟩
    | some u => exact hs u (List.mem_filter.mp (List.mem_of_getLast? h2)).1
theorem okr_pairD {l : List Int} (hs : ∀ t ∈ l, 0 ≤ t ∧ t ≤ 100000) : okRepr (pairD (optP L G l)) = true := by
  cases h : optP L G l with
  | none => exact okr_none
  | some q =>
    obtain ⟨h1, h2⟩ := optP_in h hs
    exact okr_tup (l := [q.1, q.2]) ⟨by simp, fun n hn => by
      rcases List.mem_cons.mp hn with rfl | hn
      · exact small_abs (by omega) (by omega)
      · rw [List.mem_singleton.mp hn]; exact small_abs (by omega) (by omega)⟩
/-! ### the turned round -/
abbrev trS (S : Int → Bool) (p L G m : Int) (d6 d7 : D) (x11 : SD) (b len : D) (pr : D) (x15 x16 : SD) (P : Pot) : En :=
  ⟨[.pot, .dat (T2 p (lk S p)), .dat (B2 L G), .dat (.int p), .dat (.int m), .dat (T2 p (lk (turnS S m) p)), .dat d6, .dat d7, .dat (optD (omL S p L G)), .dat (.tuple (I (omT S p L G))), .dat (.tuple (I (omT (turnS S m) p L G))), x11, .dat b, .dat len, .dat pr, x15, x16], P⟩
theorem tr_looks (W : Wk S p L G) {d6 d7 : D} {x12 x13 x14 x15 x16 : SD} {P : Pot} : ∀ (rest : List Int) (x11 : SD), (∀ x ∈ rest, x ∈ omT S p L G) →
    ∃ y11, sForL (gN 11) b__law_is_turned_right_l2 (I rest) ⟨[.pot, .dat (T2 p (lk S p)), .dat (B2 L G), .dat (.int p), .dat (.int m), .dat (T2 p (lk (turnS S m) p)), .dat d6, .dat d7, .dat (optD (omL S p L G)), .dat (.tuple (I (omT S p L G))), .dat (.tuple (I (omT (turnS S m) p L G))), x11, x12, x13, x14, x15, x16], P⟩ =
      some (.nx ⟨[.pot, .dat (T2 p (lk S p)), .dat (B2 L G), .dat (.int p), .dat (.int m), .dat (T2 p (lk (turnS S m) p)), .dat d6, .dat d7, .dat (optD (omL S p L G)), .dat (.tuple (I (omT S p L G))), .dat (.tuple (I (omT (turnS S m) p L G))), y11, x12, x13, x14, x15, x16], P⟩)
  | [], x11, _ => ⟨x11, rfl⟩
  | x :: rest, x11, h => by
    obtain ⟨y11, ih⟩ := tr_looks W (d6 := d6) (d7 := d7) (x12 := x12) (x13 := x13) (x14 := x14) (x15 := x15) (x16 := x16) (P := P) rest (.dat (.int x)) fun y hy => h y (List.mem_cons_of_mem _ hy)
    refine ⟨y11, ?_⟩
    have hx := h x List.mem_cons_self
    unfold omT at hx
    obtain ⟨hx1, hx2⟩ := List.mem_filter.mp hx
    obtain ⟨x0, x1, x2⟩ := mem_tk.mp hx1
    have hx2 := of_decide_eq_true hx2
    have hp := W.hp
    have hlen := W.toRd.len
    have b1 : (lk S p).length + 1 ≤ 10000000 := by omega
    have sx : S x = false := by unfold freeS at x2; simpa using x2
    have e1 : I (lk S p) ++ [PyData.int x] = I (lk S p ++ [x]) := by rw [I_append]; rfl
    have e2 := bSortA_T (lk S p ++ [x])
    have e3 : sortI (lk S p ++ [x]) = lk (plusX S p x) p := plus_row hp x0 (by omega) sx
    rw [e3] at e2
    obtain ⟨d, t1, t2⟩ := (W.plus x).number
    rw [hx2] at t2
    have hne := ne_optD (omL S p L G)
    have eb : b__law_is_turned_right_l2 ⟨[.pot, .dat (T2 p (lk S p)), .dat (B2 L G), .dat (.int p), .dat (.int m), .dat (T2 p (lk (turnS S m) p)), .dat d6, .dat d7, .dat (optD (omL S p L G)), .dat (.tuple (I (omT S p L G))), .dat (.tuple (I (omT (turnS S m) p L G))), .dat (.int x), x12, x13, x14, x15, x16], P⟩ = some (.nx ⟨[.pot, .dat (T2 p (lk S p)), .dat (B2 L G), .dat (.int p), .dat (.int m), .dat (T2 p (lk (turnS S m) p)), .dat d6, .dat d7, .dat (optD (omL S p L G)), .dat (.tuple (I (omT S p L G))), .dat (.tuple (I (omT (turnS S m) p L G))), .dat (.int x), x12, x13, x14, x15, x16], P⟩) := by
      simp (implicitDefEqProofs := false) [b__law_is_turned_right_l2, b1, e1, e2, t1, t2, hne]
    rw [I_cons, sForL_nx rfl eb]
    exact ih
theorem tr_lap (W : Wk S p L G) (h30 : p ≤ 30) {d6 d7 : D} {x11 x15 x16 : SD} {b len laps : Int} {P : Pot} (hb : 0 ≤ b) (hb2 : b ≤ 100) (hl : 1 ≤ len) (hl2 : len ≤ 1000) (h0 : 0 ≤ laps) (h1 : laps ≤ 1000) (hd : p ∣ laps - m) :
    ∃ y16, b__law_is_turned_right_l1 (trS S p L G m d6 d7 x11 (.int b) (.int len) (pairD (optP L G (tk S len.toNat b))) (.dat (.int laps)) x16 P) = some (.nx (trS S p L G m d6 d7 x11 (.int b) (.int len) (pairD (optP L G (tk S len.toNat b))) (.dat (.int laps)) y16 P)) := by
  have hpr := (W.turn m).proved (b := b + laps) (n := len) (by omega) (by omega) hl (by omega)
  have ho := okr_pairD (L := L) (G := G) (l := tk (turnS S m) len.toNat (b + laps)) fun t ht => by
    obtain ⟨t0, t1, _⟩ := mem_tk.mp ht
    omega
  rw [stay_turn W hd] at hpr ho
  cases h : optP L G (tk S len.toNat b) with
  | none =>
    rw [h] at hpr ho
    have hpr : m_proved [T2 p (lk (turnS S m) p), B2 L G, .int (b + laps), .int len] = some .none := hpr
    refine ⟨.dat .none, ?_⟩
    simp (implicitDefEqProofs := false) [b__law_is_turned_right_l1, pairD, hpr, okr_none]
  | some q =>
    rw [h] at hpr ho
    have hpr : m_proved [T2 p (lk (turnS S m) p), B2 L G, .int (b + laps), .int len] = some (.tuple [.int (q.1 + laps), .int (q.2 + laps)]) := hpr
    have ho : okRepr (.tuple [.int (q.1 + laps), .int (q.2 + laps)]) = true := ho
    refine ⟨.dat (.tuple [.int (q.1 + laps), .int (q.2 + laps)]), ?_⟩
    simp (implicitDefEqProofs := false) [b__law_is_turned_right_l1, pairD, hpr, ho]
theorem e_turned (W : Wk S p L G) (h30 : p ≤ 30) {P : Pot} {k : Nat} (hk : k ≤ 700) (hg : Good k P) : ∃ P', m__law_is_turned_right [T2 p (lk S p), B2 L G] P = some (.bool true, P') ∧ Good (k + 5) P' := by
  have hp := W.hp
  have hL := W.hL
  have hL2 := W.hL2
  obtain ⟨m, P1, t1, m0, m1, g1⟩ := e_take (u := p) hp (by omega) (by omega) hg
  have T := W.turn m
  have hlt := e_law_turned (m := m) W
  obtain ⟨d1, n1, n2⟩ := W.number
  obtain ⟨d2, n3, n4⟩ := T.number
  rw [nm_turn W] at n4
  have i1 := W.idle
  have i2 := T.idle
  have oi := okr_tup (idl_lit T)
  have li := idl_lit W
  have bi : (idl S p L G).length ≤ 10000000 := by have := li.1; omega
  have hmod : ∀ n, opMod (.int (n + m)) (.int p) = some (.int (mv p m n)) := fun n => by rw [q_mod, decide_eq_true hp]; rfl
  have q7 := lc_all (g := gN 11) (f := b__law_is_turned_right_c1) (vs := [11]) (sl := [.pot, .dat (T2 p (lk S p)), .dat (B2 L G), .dat (.int p), .dat (.int m), .dat (T2 p (lk (turnS S m) p)), .dat d1, .un, .un, .un, .un, .un, .un, .un, .un, .un, .un]) (P := P1) PyData.int (fun n => .int (mv p m n)) (ns := idl S p L G) fun n hn => ⟨_, rfl, rfl, by simp [-q_mod, b__law_is_turned_right_c1, hmod]⟩
  rw [show (idl S p L G).map PyData.int = I (idl S p L G) from rfl, show (idl S p L G).map (fun n => (.int (mv p m n) : D)) = I ((idl S p L G).map (mv p m)) by unfold I; rw [List.map_map]; rfl] at q7
  have s7 := bSortA_L ((idl S p L G).map (mv p m))
  rw [idl_turn W] at s7
  have o1 := e_one_more W
  have o2 := e_one_more T
  rw [om_turn W] at o2
  have lo := omT_lit W
  have bo : (omT S p L G).length ≤ 10000000 := by have := lo.1; omega
  have oo := okr_om (o := omL S p L G) (fun n h => om_small W h) (omT_lit T)
  have q10 := lc_all (g := gN 11) (f := b__law_is_turned_right_c1) (vs := [11]) (sl := [.pot, .dat (T2 p (lk S p)), .dat (B2 L G), .dat (.int p), .dat (.int m), .dat (T2 p (lk (turnS S m) p)), .dat d1, .dat (.list (I ((idl S p L G).map (mv p m)))), .dat (optD (omL S p L G)), .dat (.tuple (I (omT S p L G))), .un, .un, .un, .un, .un, .un, .un]) (P := P1) PyData.int (fun n => .int (mv p m n)) (ns := omT S p L G) fun n hn => ⟨_, rfl, rfl, by simp [-q_mod, b__law_is_turned_right_c1, hmod]⟩
  rw [show (omT S p L G).map PyData.int = I (omT S p L G) from rfl, show (omT S p L G).map (fun n => (.int (mv p m n) : D)) = I ((omT S p L G).map (mv p m)) by unfold I; rw [List.map_map]; rfl] at q10
  have s10 := bSortA_L ((omT S p L G).map (mv p m))
  rw [omT_turn W] at s10
  -- some of the ticks
  obtain ⟨cnt, hcnt, hcl⟩ : ∃ cnt : Nat, (if ((omT S p L G).length : Int) < 2 then ((omT S p L G).length : Int) else 2) = cnt ∧ cnt ≤ (omT S p L G).length ∧ cnt ≤ 2 := by
    by_cases h : ((omT S p L G).length : Int) < 2
    · exact ⟨(omT S p L G).length, if_pos h, Nat.le_refl _, by omega⟩
    · exact ⟨2, if_neg h, by omega, Nat.le_refl _⟩
  have hmi : bMin [.int 2, .int ((omT S p L G).length : Int)] = some (.int (cnt : Int)) := by rw [q_min2, hcnt]
  obtain ⟨fd, rest, P2, t2, f1, f2, g2⟩ := e_some (l := omT S p L G) (seq := .tuple (I (omT S p L G))) rfl (m := cnt) hcl.1 (by have := lo.1; omega) (k := k + 1) (by omega) g1
  obtain ⟨y11, hloop⟩ := tr_looks W (m := m) (d6 := d1) (d7 := .list (I ((idl S p L G).map (mv p m)))) (x12 := .un) (x13 := .un) (x14 := .un) (x15 := .un) (x16 := .un) (P := P2) fd .un fun x hx => f2.mem_iff.mp (List.mem_append_left _ hx)
  obtain ⟨b, P3, t3, b0, b1, g3⟩ := e_take (u := 3 * p) (by omega) (by omega) (by omega) g2
  obtain ⟨l, P4, t4, l0, l1, g4⟩ := e_take (u := 4 * p + L) (by omega) (by omega) (by omega) g3
  have s3 : small64 (3 : Int) = true := by decide
  have s4 : small64 (4 : Int) = true := by decide
  have s77 : small64 (7 : Int) = true := by decide
  have m3 := mulEq (y := p) s3
  have m4 := mulEq (y := p) s4
  have m7 := mulEq (y := p) s77
  have hpr := W.proved (b := b) (n := 1 + l) b0 (by omega) (by omega) (by omega)
  obtain ⟨z1, r1⟩ := tr_lap W h30 (m := m) (d6 := d1) (d7 := .list (I ((idl S p L G).map (mv p m)))) (x11 := y11) (x15 := .un) (x16 := .un) (b := b) (len := 1 + l) (laps := m) (P := P4) b0 (by omega) (by omega) (by omega) m0 (by omega) ⟨0, by omega⟩
  obtain ⟨z2, r2⟩ := tr_lap W h30 (m := m) (d6 := d1) (d7 := .list (I ((idl S p L G).map (mv p m)))) (x11 := y11) (x15 := .un) (x16 := z1) (b := b) (len := 1 + l) (laps := m + p) (P := P4) b0 (by omega) (by omega) (by omega) (by omega) (by omega) ⟨1, by omega⟩
  obtain ⟨z3, r3⟩ := tr_lap W h30 (m := m) (d6 := d1) (d7 := .list (I ((idl S p L G).map (mv p m)))) (x11 := y11) (x15 := .un) (x16 := z2) (b := b) (len := 1 + l) (laps := m + 7 * p) (P := P4) b0 (by omega) (by omega) (by omega) (by omega) (by omega) ⟨7, by omega⟩
  generalize hpp : pairD (optP L G (tk S (1 + l).toNat b)) = pp at hpr r1 r2 r3
  have hlaps : sForL (gN 15) b__law_is_turned_right_l1 [.int m, .int (m + p), .int (m + 7 * p)] (trS S p L G m d1 (.list (I ((idl S p L G).map (mv p m)))) y11 (.int b) (.int (1 + l)) pp .un .un P4) = some (.nx (trS S p L G m d1 (.list (I ((idl S p L G).map (mv p m)))) y11 (.int b) (.int (1 + l)) pp (.dat (.int (m + 7 * p))) z3 P4)) := by
    rw [sForL_nx (e1 := trS S p L G m d1 (.list (I ((idl S p L G).map (mv p m)))) y11 (.int b) (.int (1 + l)) pp (.dat (.int m)) .un P4) rfl r1, sForL_nx (e1 := trS S p L G m d1 (.list (I ((idl S p L G).map (mv p m)))) y11 (.int b) (.int (1 + l)) pp (.dat (.int (m + p))) z1 P4) rfl r2, sForL_nx (e1 := trS S p L G m d1 (.list (I ((idl S p L G).map (mv p m)))) y11 (.int b) (.int (1 + l)) pp (.dat (.int (m + 7 * p))) z2 P4) rfl r3]
    rfl
  have hne := ne_optD (nmO S p L G)
  refine ⟨P4, ?_, g4.mono (by omega)⟩
  simp (implicitDefEqProofs := false) [-q_min2, -q_mulI, m__law_is_turned_right, runQ, b__law_is_turned_right, entry, t1, hlt, n1, n2, n3, n4, hne, i1, bi, q7, i2, oi, s7, o1, bo, q10, s10, o2, oo, hmi, t2, hloop, m3, t3, m4, t4, hpr, m7, hlaps]
/-! ### the mirrored round -/
abbrev mrS (S : Int → Bool) (p L G : Int) (d5 d6 d7 : D) (x8 x9 x10 x11 x12 x13 : SD) (P : Pot) : En :=
  ⟨[.pot, .dat (T2 p (lk S p)), .dat (B2 L G), .dat (.int p), .dat (T2 p (lk (mirS S p) p)), .dat d5, .dat d6, .dat d7, x8, x9, x10, x11, x12, x13, .un], P⟩
theorem mr_turn (W : Wk S p L G) (h30 : p ≤ 30) {d5 d6 d7 : D} {x8 x9 x10 x11 x12 x13 : SD} {P : Pot} {k : Nat} (hk : k ≤ 900) (hg : Good k P) :
    ∃ y9 y10 y11 y12 y13 P', b__law_is_mirrored_right_l1 (mrS S p L G d5 d6 d7 x8 x9 x10 x11 x12 x13 P) = some (.nx (mrS S p L G d5 d6 d7 x8 y9 y10 y11 y12 y13 P')) ∧ Good (k + 2) P' := by
  have hp := W.hp
  have hL := W.hL
  have hL2 := W.hL2
  obtain ⟨b, P1, t1, b0, b1, g1⟩ := e_take (u := 4 * p) (by omega) (by omega) (by omega) hg
  obtain ⟨l, P2, t2, l0, l1, g2⟩ := e_take (u := 3 * p + L) (by omega) (by omega) (by omega) g1
  have s3 : small64 (3 : Int) = true := by decide
  have s4 : small64 (4 : Int) = true := by decide
  have sp : small64 p = true := s64 (by omega) (by omega)
  have m3 := mulEq (y := p) s3
  have m4 := mulEq (y := p) s4
  generalize hlen : 1 + l = len
  have hpr := W.proved (b := b) (n := len) b0 (by omega) (by omega) (by omega)
  have q1 := Int.emod_add_mul_ediv (b + len) p
  have q2 := Int.emod_nonneg (b + len) (show p ≠ 0 by omega)
  have q3 := Int.emod_lt_of_pos (b + len) hp
  generalize hq : (b + len) / p = qq at q1
  have m5 := mulEq (y := qq + 1) sp
  generalize hfar : p * (qq + 1) = far at m5
  have hf1 : far = p * qq + p := by rw [← hfar, Int.mul_add, Int.mul_one]
  have hpr2 := W.mir.proved (b := far - (b + len)) (n := len) (by omega) (by omega) (by omega) (by omega)
  have hst := stay_mir W (b := b) (len := len) (by omega) (far := far) ⟨qq + 1, hfar.symm⟩
  have hN : ∀ o : Option (Int × Int), isN (pairD o) = o.isNone := fun o => by cases o <;> rfl
  have hN1 := hN (optP L G (tk S len.toNat b))
  have hN2 := hN (optP L G (tk (mirS S p) len.toNat (far - (b + len))))
  rw [hst] at hN2
  have hd : opDiv (.int (b + len)) (.int p) = some (.int qq) := by rw [q_div, decide_eq_true hp, decide_eq_true (show p < 1073741824 by omega), hq]; rfl
  generalize pairD (optP L G (tk S len.toNat b)) = A at hpr hN1
  generalize pairD (optP L G (tk (mirS S p) len.toNat (far - (b + len)))) = B at hpr2 hN2
  have hneb : ∀ x : Bool, opNe (.bool x) (.bool x) = some (.bool false) := fun x => by cases x <;> rfl
  refine ⟨.dat (.int b), .dat (.int len), .dat (.int (b + len)), .dat (.int far), .dat (.bool (!(optP L G (tk S len.toNat b)).isNone)), P2, ?_, g2⟩
  simp (implicitDefEqProofs := false) [-q_mulI, -q_div, b__law_is_mirrored_right_l1, m4, t1, m3, t2, hlen, hd, m5, hpr, hN1, hpr2, hN2, hneb]
theorem e_mirrored (W : Wk S p L G) (h30 : p ≤ 30) {P : Pot} {k : Nat} (hk : k ≤ 700) (hg : Good k P) : ∃ P', m__law_is_mirrored_right [T2 p (lk S p), B2 L G] P = some (.bool true, P') ∧ Good (k + 6) P' := by
  have hp := W.hp
  have M := W.mir
  have hlt := e_law_mirrored W
  obtain ⟨d1, n1, n2⟩ := W.number
  obtain ⟨d2, n3, n4⟩ := M.number
  rw [nm_mir W] at n4
  have i1 := W.idle
  have i2 := M.idle
  have oi := okr_tup (idl_lit M)
  have li := idl_lit W
  have bi : (idl S p L G).length ≤ 10000000 := by have := li.1; omega
  have er : ∀ l : List Int, (I l).reverse = I l.reverse := fun l => by unfold I; rw [List.map_reverse]
  have q5 := lc_all (g := gN 14) (f := b__law_is_mirrored_right_c1) (vs := [14]) (sl := [.pot, .dat (T2 p (lk S p)), .dat (B2 L G), .dat (.int p), .dat (T2 p (lk (mirS S p) p)), .un, .un, .un, .un, .un, .un, .un, .un, .un, .un]) (P := P) PyData.int (fun n => .int (p - 1 - n)) (ns := (idl S p L G).reverse) fun n hn => ⟨_, rfl, rfl, by simp [b__law_is_mirrored_right_c1]⟩
  rw [show (idl S p L G).reverse.map PyData.int = I (idl S p L G).reverse from rfl, show (idl S p L G).reverse.map (fun n => (.int (p - 1 - n) : D)) = I ((idl S p L G).reverse.map fun x => p - 1 - x) by unfold I; rw [List.map_map]; rfl, idl_mir W] at q5
  have o1 := e_one_more W
  have o2 := e_one_more M
  rw [om_mir W] at o2
  have lo := omT_lit W
  have bo : (omT S p L G).length ≤ 10000000 := by have := lo.1; omega
  have oo := okr_om (o := omL S p L G) (fun n h => om_small W h) (omT_lit M)
  have q7 := lc_all (g := gN 14) (f := b__law_is_mirrored_right_c1) (vs := [14]) (sl := [.pot, .dat (T2 p (lk S p)), .dat (B2 L G), .dat (.int p), .dat (T2 p (lk (mirS S p) p)), .dat (.tuple (I (idl (mirS S p) p L G))), .dat (optD (omL S p L G)), .dat (.tuple (I (omT S p L G))), .un, .un, .un, .un, .un, .un, .un]) (P := P) PyData.int (fun n => .int (p - 1 - n)) (ns := (omT S p L G).reverse) fun n hn => ⟨_, rfl, rfl, by simp [b__law_is_mirrored_right_c1]⟩
  rw [show (omT S p L G).reverse.map PyData.int = I (omT S p L G).reverse from rfl, show (omT S p L G).reverse.map (fun n => (.int (p - 1 - n) : D)) = I ((omT S p L G).reverse.map fun x => p - 1 - x) by unfold I; rw [List.map_map]; rfl, omT_mir W] at q7
  have loop := for_0 (g := gN 8) (b := b__law_is_mirrored_right_l1) (ds := rng 0 1 3) (e := mrS S p L G (.tuple (I (idl (mirS S p) p L G))) (optD (omL S p L G)) (.tuple (I (omT S p L G))) .un .un .un .un .un .un P)
    (fun i e => ∃ x8 x9 x10 x11 x12 x13 P', e = mrS S p L G (.tuple (I (idl (mirS S p) p L G))) (optD (omL S p L G)) (.tuple (I (omT S p L G))) x8 x9 x10 x11 x12 x13 P' ∧ Good (k + 2 * i) P')
    (fun r => ∃ x8 x9 x10 x11 x12 x13 P', r = .nx (mrS S p L G (.tuple (I (idl (mirS S p) p L G))) (optD (omL S p L G)) (.tuple (I (omT S p L G))) x8 x9 x10 x11 x12 x13 P') ∧ Good (k + 6) P')
    ⟨.un, .un, .un, .un, .un, .un, P, rfl, hg⟩ (fun i d e hd hi => by
      obtain ⟨x8, x9, x10, x11, x12, x13, P', rfl, gi⟩ := hi
      have hi3 : i < 3 := by
        have := (List.getElem?_eq_some_iff.mp hd).1
        rw [rng_len] at this
        exact this
      refine ⟨_, rfl, ?_⟩
      obtain ⟨y9, y10, y11, y12, y13, P'', hh, gg⟩ := mr_turn W h30 (d5 := .tuple (I (idl (mirS S p) p L G))) (d6 := optD (omL S p L G)) (d7 := .tuple (I (omT S p L G))) (x8 := .dat d) (x9 := x9) (x10 := x10) (x11 := x11) (x12 := x12) (x13 := x13) (by omega) gi
      exact ⟨_, hh, _, _, _, _, _, _, P'', rfl, gg.mono (by omega)⟩) fun e he => by
      obtain ⟨x8, x9, x10, x11, x12, x13, P', rfl, gi⟩ := he
      rw [rng_len] at gi
      exact ⟨_, _, _, _, _, _, P', rfl, gi.mono (by omega)⟩
  obtain ⟨r, hr, x8, x9, x10, x11, x12, x13, P', rfl, gP⟩ := loop
  have hne := ne_optD (nmO S p L G)
  have o3 : okR 3 := okR_of (by decide) (by decide)
  have e3 : (3 : Int).toNat = 3 := rfl
  refine ⟨P', ?_, gP⟩
  simp (implicitDefEqProofs := false) [m__law_is_mirrored_right, runQ, b__law_is_mirrored_right, entry, hlt, n1, n2, n3, n4, hne, i1, q_rev, er, bi, q5, i2, oi, o1, bo, q7, o2, oo, o3, e3, hr]
end
end K42

namespace K42
open PySem PySem.Spec L3 TK
theorem cutN {ds : List D} (n : Nat) (h : n ≤ ds.length) : cutD ds none (some (n : Int)) = ds.take n := by
  unfold cutD
  have h2 : HT.sIx ds.length ds.length (some (n : Int)) = min n ds.length := HT.sIx_nat ds.length ds.length n
  rw [h2, HT.sIx_none, Nat.min_eq_left h]
  simp
theorem cut_2 (x y : D) (r : List D) : cutD (x :: y :: r) none (some 2) = [x, y] := cutN 2 (by simp)
section
variable {s p L G : Int} {n : Nat}
/-- an even round from 0 on -/
structure Ev0 (s p : Int) (n : Nat) : Prop where
  s2 : 2 ≤ s
  s13 : s ≤ 13
  n2 : 2 ≤ n
  n12 : n ≤ 12
  hp : p = s * n
theorem Ev0.pb (E : Ev0 s p n) : 4 ≤ p ∧ p ≤ 156 ∧ p.toNat = n * s.toNat := by
  have h1 := E.s2
  have h2 := E.s13
  have h3 := E.n2
  have h4 := E.n12
  have a : 2 * 2 ≤ s * (n : Int) := Int.mul_le_mul (by omega) (by omega) (by omega) (by omega)
  have b : s * (n : Int) ≤ 13 * 12 := Int.mul_le_mul (by omega) (by omega) (by omega) (by omega)
  have c : ((n * s.toNat : Nat) : Int) = s * n := by rw [Int.natCast_mul, Int.toNat_of_nonneg (by omega), Int.mul_comm]
  have := E.hp
  exact ⟨by omega, by omega, by omega⟩
theorem Ev0.list (E : Ev0 s p n) : lk (ev s 0) p = (List.range n).map fun i : Nat => 0 + s * i := by
  have h := ev_list (s := s) (a := 0) (Int.le_refl _) (by have := E.s2; omega) n
  show tk (ev s 0) p.toNat 0 = _
  rw [E.pb.2.2]
  exact h
theorem Ev0.W (E : Ev0 s p n) (hL : 1 ≤ L) (hL2 : L ≤ 400) (hG : 1 ≤ G) (hG2 : G ≤ 400) : Wk (ev s 0) p L G where
  p2 := by have := E.pb; omega
  p1 := by have := E.pb; omega
  per := ev_per (m := n) (by rw [E.hp, Int.mul_comm])
  ne := by
    rw [E.list]
    have := E.n2
    obtain ⟨k, rfl⟩ : ∃ k, n = k + 1 := ⟨n - 1, by omega⟩
    rw [List.range_succ_eq_map, List.map_cons]
    exact fun z => nomatch z
  hL := hL
  hL2 := hL2
  hG := hG
  hG2 := hG2
theorem e_equal (E : Ev0 s p n) : m_equal [.int p, .int s] = some (T2 p (lk (ev s 0) p)) := by
  obtain ⟨p1, p2, _⟩ := E.pb
  have h1 := E.s2
  have h2 := E.s13
  have h3 := E.n2
  have sp : s ≤ p := by
    have : s * 1 ≤ s * (n : Int) := Int.mul_le_mul_of_nonneg_left (by omega) (by omega)
    have := E.hp
    omega
  have hm : p % s = 0 := by rw [E.hp, Int.mul_emod_right]
  have hmod : opMod (.int p) (.int s) = some (.int 0) := by rw [q_mod, decide_eq_true (show 0 < s by omega), hm]; rfl
  have b1 : (2 : Int) ≤ p := by omega
  have b2 : p ≤ 168 := by omega
  have b3 : (1 : Int) ≤ s := by omega
  have ok : okStep 0 p s := ⟨by omega, by omega, by omega, by omega, by omega, by omega⟩
  have hst : stepN 0 p s = n := by
    unfold stepN
    rw [if_pos (by omega), E.hp]
    have e : s * (n : Int) - 0 - 1 = (s - 1) + s * (n - 1) := by rw [Int.mul_sub, Int.mul_one]; omega
    rw [e, Int.add_mul_ediv_left _ _ (by omega), Int.ediv_eq_zero_of_lt (by omega) (by omega)]
    omega
  have hl : (List.range n).map (fun k : Nat => (.int (0 + (k : Int) * s) : D)) = I (lk (ev s 0) p) := by
    rw [E.list]
    unfold I
    rw [List.map_map]
    exact List.map_congr_left fun k _ => congrArg PyData.int (by rw [Int.mul_comm])
  have hT : ∀ e, fTupR3 (fC (.int 0)) (fV 0) (fV 1) ⟨[.dat (.int p), .dat (.int s)], e⟩ = some (.tuple (I (lk (ev s 0) p)), ⟨[.dat (.int p), .dat (.int s)], e⟩) := fun e => by
    show (if okStep 0 p s then some (PyData.tuple ((List.range (stepN 0 p s)).map fun k : Nat => .int (0 + (k : Int) * s)), _) else none) = _
    rw [if_pos ok, hst, hl]
  simp (implicitDefEqProofs := false) [-q_mod, m_equal, runF, b_equal, entry, e_is_between, b1, b2, b3, sp, hmod, hT]
theorem hit_ev' (E : Ev0 s p n) (hL : 1 ≤ L) (hG : s ≤ G) (k : Nat) (b : Int) : hit0 L G (tk (ev s 0) k b) = if fst s 0 b + far s L < b + k then some (fst s 0 b + far s L) else none :=
  hit0_ev hL (Int.le_refl _) (by have := E.s2; omega) hG k b
/-- the number by formula -/
theorem Ev0.more (E : Ev0 s p n) (hL : 1 ≤ L) (hL2 : L ≤ 400) (hG : s ≤ G) (hG2 : G ≤ 400) : More (ev s 0) p L G (far s L + s - L) := by
  have hs := E.s2
  have W := E.W (L := L) (G := G) hL hL2 (by omega) hG2
  obtain ⟨a, r, h0⟩ := W.head
  have f0 := far_ge (L := L) (s := s) (by omega)
  have hn : nevB (ev s 0) p L G = false := by
    refine Bool.eq_false_iff.mpr fun z => ?_
    have hno := (nev_iff W.hp W.per hL h0).mp z
    have f1 := fst_ge (a := 0) (s := s) (by omega) 0
    have := hit_ev' E hL hG (far s L + s + 5).toNat 0
    rw [if_pos (by omega)] at this
    exact hno _ _ ((hit_iff hL _ _).mp (by rw [this]; exact fun q => nomatch q))
  obtain ⟨num, M⟩ := W.more hn
  have key : ∀ k, 0 ≤ k → (AllB (ev s 0) L G k ↔ far s L + s ≤ k) := fun k hk => by
    have one : ∀ b, Pv (ev s 0) L G b (b + k) ↔ fst s 0 b + far s L < b + k := fun b => by
      have i := hit_iff (S := ev s 0) (G := G) hL k.toNat b
      rw [Int.toNat_of_nonneg hk] at i
      rw [← i, hit_ev' E hL hG, Int.toNat_of_nonneg hk]
      by_cases q : fst s 0 b + far s L < b + k
      · rw [if_pos q]
        exact ⟨fun _ => q, fun _ z => nomatch z⟩
      · rw [if_neg q]
        exact ⟨fun z => absurd rfl z, fun z => absurd z q⟩
    constructor
    · intro h
      have := (one 1).mp (h 1)
      have e : fst s 0 1 = s := by
        unfold fst
        have : (0 - 1 : Int) % s = s - 1 := by
          have e : (0 - 1 : Int) = (s - 1) + s * (-1) := by omega
          rw [e, Int.add_mul_emod_self_left, Int.emod_eq_of_lt (by omega) (by omega)]
        omega
      omega
    · intro h b
      have := fst_ge (a := 0) (s := s) (by omega) b
      exact (one b).mpr (by omega)
  have n1 := M.n1
  have a1 := (M.all (L + num) (by omega)).mpr (Int.le_refl _)
  have a2 := (key (L + num) (by omega)).mp a1
  have a3 := (key (far s L + s) (by omega)).mpr (Int.le_refl _)
  have a4 := (M.all (far s L + s) (by omega)).mp a3
  rw [show far s L + s - L = num by omega]
  exact M
theorem Ev0.never (E : Ev0 s p n) (hL : 1 ≤ L) (hL2 : L ≤ 400) (hG : 1 ≤ G) (hGs : G < s) : ∃ f, m_least_more [T2 p (lk (ev s 0) p), B2 L G] = some (.tuple [.str ("never" : Str), .int f]) := by
  have hs := E.s2
  have W := E.W (L := L) (G := G) hL hL2 hG (by have := E.s13; omega)
  obtain ⟨a, r, h0⟩ := W.head
  have hn : nevB (ev s 0) p L G = true := (nev_iff W.hp W.per hL h0).mpr fun b e hP => by
    obtain ⟨f, v, h1, h2, _⟩ := id hP
    have i := (hit_iff' (S := ev s 0) (G := G) hL (b := b) (e := e) (by
      obtain ⟨f, v, k1, k2, _, _, k5, _⟩ := hP
      omega)).mpr hP
    exact i (hit0_none hL fun x y h1 h2 h3 h4 => by rw [ev_next (by omega) h1 h2 h3 h4]; exact hGs)
  obtain ⟨f, l, _, h⟩ := W.far hn
  exact ⟨f, h⟩
theorem e_equal_right {k : Nat} (hk : k ≤ 700) {P : Pot} (hg : Good k P) : ∃ P', m__law_is_equal_right [] P = some (.bool true, P') ∧ Good (k + 6) P' := by
  obtain ⟨d1, P1, t1, a1, b1, g1⟩ := e_take (u := 12) (by decide) (by decide) (by omega) hg
  obtain ⟨d2, P2, t2, a2, b2, g2⟩ := e_take (u := 11) (by decide) (by decide) (by omega) g1
  generalize hs : 2 + d1 = s
  obtain ⟨n, hn⟩ : ∃ n : Nat, 2 + d2 = n := ⟨(2 + d2).toNat, by omega⟩
  generalize hp : s * (n : Int) = p
  have E : Ev0 s p n := ⟨by omega, by omega, by omega, by omega, hp.symm⟩
  obtain ⟨p1, p2, p3⟩ := E.pb
  have s2 := E.s2
  have s13 := E.s13
  obtain ⟨d3, P3, t3, a3, b3, g3⟩ := e_take (u := 3 * s) (by omega) (by omega) (by omega) g2
  generalize hL : 1 + d3 = L
  obtain ⟨d4, P4, t4, a4, b4, g4⟩ := e_take (u := s) (by omega) (by omega) (by omega) g3
  generalize hG : s + d4 = G
  obtain ⟨d5, P5, t5, a5, b5, g5⟩ := e_take (u := (n : Int)) (by omega) (by omega) (by omega) g4
  obtain ⟨d6, P6, t6, a6, b6, g6⟩ := e_take (u := s - 1) (by omega) (by omega) (by omega) g5
  have f0 := far_ge (L := L) (s := s) (by omega)
  have ss : small64 s = true := s64 (by omega) (by omega)
  have s3 : small64 (3 : Int) = true := by decide
  have ms := mulEq (y := (n : Int)) ss
  have m3 := mulEq (y := s) s3
  have m5 := mulEq (y := d5) ss
  rw [hp] at ms
  have hdiv : opDiv (.int (L + s - 1)) (.int s) = some (.int ((L + s - 1) / s)) := by
    rw [q_div, decide_eq_true (show 0 < s by omega), decide_eq_true (show s < 1073741824 by omega)]; rfl
  have hnear : opMulT (.int ((L + s - 1) / s)) (.int s) = some (.int (far s L)) := by
    have e : (L + s - 1) / s * s = far s L := by unfold far; rw [Int.mul_comm]
    rw [q_mulI, ss, Bool.or_true, e]; rfl
  have heq := e_equal E
  have W := E.W (L := L) (G := G) (by omega) (by omega) (by omega) (by omega)
  have M := E.more (L := L) (G := G) (by omega) (by omega) (by omega) (by omega)
  have hnum : far s L + s - L ≤ 2 * p := M.n2
  -- repr of the round
  have oW : okRepr (T2 p (lk (ev s 0) p)) = true := okr_om (o := some p) (fun n h => by cases h; exact small_abs (by omega) (by omega)) (tk_lit W rfl)
  have hT : fTupR3 (fC (.int 0)) (fV 3) (fV 1) ⟨[.pot, .dat (.int s), .dat (.int n), .dat (.int p), .dat (.int L), .dat (T2 p (lk (ev s 0) p)), .dat (.int G), .dat (.int (far s L)), .un, .un], P4⟩ = some (.tuple (I (lk (ev s 0) p)), ⟨[.pot, .dat (.int s), .dat (.int n), .dat (.int p), .dat (.int L), .dat (T2 p (lk (ev s 0) p)), .dat (.int G), .dat (.int (far s L)), .un, .un], P4⟩) := by
    have ok : okStep 0 p s := ⟨by omega, by omega, by omega, by omega, by omega, by omega⟩
    have hst : stepN 0 p s = n := by
      unfold stepN
      rw [if_pos (by omega), ← hp]
      have e : s * (n : Int) - 0 - 1 = (s - 1) + s * (n - 1) := by rw [Int.mul_sub, Int.mul_one]; omega
      rw [e, Int.add_mul_ediv_left _ _ (by omega), Int.ediv_eq_zero_of_lt (by omega) (by omega)]
      omega
    have hl : (List.range n).map (fun k : Nat => (.int (0 + (k : Int) * s) : D)) = I (lk (ev s 0) p) := by
      rw [E.list]
      unfold I
      rw [List.map_map]
      exact List.map_congr_left fun k _ => congrArg PyData.int (by rw [Int.mul_comm])
    show (if okStep 0 p s then some (PyData.tuple ((List.range (stepN 0 p s)).map fun k : Nat => .int (0 + (k : Int) * s)), _) else none) = _
    rw [if_pos ok, hst, hl]
  have hlm := M.told
  have oM := okr_more (n := far s L + s - L) (small_abs (by omega) (by omega))
  -- one look more
  generalize hlook : s * d5 + 1 + d6 = look
  have q0 : 0 ≤ s * d5 := Int.mul_nonneg (by omega) a5
  have q1 : s * d5 ≤ s * ((n : Int) - 1) := Int.mul_le_mul_of_nonneg_left (by omega) (by omega)
  have q2 : s * ((n : Int) - 1) = p - s := by rw [Int.mul_sub, Int.mul_one, hp]
  have lk0 : 0 ≤ look := by omega
  have lk1 : look < p := by omega
  have slook : ev s 0 look = false := by
    refine Bool.eq_false_iff.mpr fun z => ?_
    have z := ev_iff.mp z
    have e : look = (1 + d6) + s * d5 := by omega
    rw [e, Int.add_mul_emod_self_left, Int.emod_eq_of_lt (by omega) (by omega)] at z
    omega
  have hlen := W.toRd.len
  have bl : (lk (ev s 0) p).length + 1 ≤ 10000000 := by omega
  have e1 : I (lk (ev s 0) p) ++ [PyData.int look] = I (lk (ev s 0) p ++ [look]) := by rw [I_append]; rfl
  have e2 := bSortA_T (lk (ev s 0) p ++ [look])
  have e3 : sortI (lk (ev s 0) p ++ [look]) = lk (plusX (ev s 0) p look) p := plus_row W.hp lk0 lk1 slook
  rw [e3] at e2
  have Wp := W.plus look
  have hid := Wp.idle
  have hin := inT_I (l := idl (plusX (ev s 0) p look) p L G) look
  obtain ⟨dm, tm1, tm2⟩ := Wp.number
  have hmore : look ∉ idl (plusX (ev s 0) p look) p L G → ∃ v, nmO (plusX (ev s 0) p look) p L G = some v ∧ v < far s L + s - L := fun hno => by
    have hinc : ∀ t, ev s 0 t = true → plusX (ev s 0) p look t = true := fun t h => by unfold plusX; rw [h]; rfl
    obtain ⟨a, r, h0⟩ := W.head
    obtain ⟨a', r', h0'⟩ := Wp.head
    have nv : nevB (plusX (ev s 0) p look) p L G = false := by
      refine Bool.eq_false_iff.mpr fun z => ?_
      have h1 := (nev_iff Wp.hp Wp.per Wp.hL h0').mp z
      have h2 := (M.all (L + (far s L + s - L)) (by omega)).mpr (Int.le_refl _) 0
      exact h1 _ _ (h2.more hinc)
    obtain ⟨v, Mv⟩ := Wp.more nv
    refine ⟨v, Mv.nm, ?_⟩
    have h2 : AllB (plusX (ev s 0) p look) L G (L + (far s L + s - L)) := fun b => ((M.all (L + (far s L + s - L)) (by omega)).mpr (Int.le_refl _) b).more hinc
    have h3 := (Mv.all _ (by omega)).mp h2
    have hne : v ≠ far s L + s - L := fun hv => hno (by
      unfold idl
      have hl1 : ¬ (tk (plusX (ev s 0) p look) p.toNat 0).length = 1 := by
        have : (lk (plusX (ev s 0) p look) p).length = n + 1 := by
          rw [← e3, (sortI_perm _).length_eq, List.length_append, List.length_singleton, E.list, List.length_map, List.length_range]
        have h : (tk (plusX (ev s 0) p look) p.toNat 0).length = n + 1 := this
        have := E.n2
        omega
      rw [if_neg hl1]
      refine List.mem_filter.mpr ⟨mem_tk.mpr ⟨lk0, by omega, ?_⟩, decide_eq_true ?_⟩
      · unfold plusX
        rw [Int.emod_eq_of_lt lk0 lk1, decide_eq_true rfl, Bool.or_true]
      · rw [less_plus W.per W.hp slook lk0 lk1, M.nm, Mv.nm, hv])
    omega
  obtain ⟨fn, hnev⟩ := E.never (L := L) (G := s - 1) (by omega) (by omega) (by omega) (by omega)
  have on : okRepr (.str ("never" : Str)) = true := by decide +kernel
  -- stays
  have pr1 := W.proved (b := 9999) (n := far s L + s) (by omega) (by omega) (by omega) (by omega)
  have is1 := W.notyet M.nev (b := 9999) (len := far s L + s) (by omega)
  rw [decide_eq_false (by have := M.le 9999; omega)] at is1
  have hN : ∀ o : Option (Int × Int), isN (pairD o) = o.isNone := fun o => by cases o <;> rfl
  have hN1 := hN (optP L G (tk (ev s 0) (far s L + s).toNat 9999))
  rw [is1] at hN1
  have W2 := E.W (L := far s L + 1) (G := G) (by omega) (by omega) (by omega) (by omega)
  have pr2 := W2.proved (b := 1) (n := far s L + s - 1) (by omega) (by omega) (by omega) (by omega)
  have hno2 : optP (far s L + 1) G (tk (ev s 0) (far s L + s - 1).toNat 1) = none := by
    unfold optP
    have f1 := fst_ge (a := 0) (s := s) (by omega) 1
    have f2 := far_ge (L := far s L + 1) (s := s) (by omega)
    have e : fst s 0 1 = s := by
      unfold fst
      have : (0 - 1 : Int) % s = s - 1 := by
        have e : (0 - 1 : Int) = (s - 1) + s * (-1) := by omega
        rw [e, Int.add_mul_emod_self_left, Int.emod_eq_of_lt (by omega) (by omega)]
      omega
    rw [hit_ev' E (by omega) (by omega), if_neg (by omega)]
    rfl
  rw [hno2] at pr2
  have pr2 : m_proved [T2 p (lk (ev s 0) p), B2 (far s L + 1) G, .int 1, .int (far s L + s - 1)] = some .none := pr2
  generalize hA : pairD (optP L G (tk (ev s 0) (far s L + s).toNat 9999)) = A at pr1 hN1
  generalize hfar : far s L = fa at *
  generalize (PyData.tuple ((List.range p.toNat).map fun i : Nat => pairD (prB (ev s 0) p L G i))) = X1 at hlm
  generalize optD (fbO (ev s 0) p L G (fa + s - L)) = X2 at hlm
  have hneS : ∀ x : Str, opNe (.str x) (.str x) = some (.bool false) := fun x => by simp
  refine ⟨P6, ?_, g6.mono (by omega)⟩
  by_cases hc : look ∈ idl (plusX (ev s 0) p look) p L G
  · rw [decide_eq_true hc] at hin
    simp (implicitDefEqProofs := false) [-q_mulI, -q_div, m__law_is_equal_right, runQ, b__law_is_equal_right, entry, t1, t2, hs, hn, ms, m3, t3, hL, heq, t4, hG, hdiv, hnear, hT, oW, hlm, cut_2, oM, m5, t5, t6, hlook, bl, e1, e2, hid, hin, hnev, on, pr1, hN1, pr2]
  · obtain ⟨v, hv, hlt⟩ := hmore hc
    rw [decide_eq_false hc] at hin
    rw [hv] at tm2
    have tm2 : m__law_number [dm] = some (.int v) := tm2
    simp (implicitDefEqProofs := false) [-q_mulI, -q_div, m__law_is_equal_right, runQ, b__law_is_equal_right, entry, t1, t2, hs, hn, ms, m3, t3, hL, heq, t4, hG, hdiv, hnear, hT, oW, hlm, cut_2, oM, m5, t5, t6, hlook, bl, e1, e2, hid, hin, tm1, tm2, hlt]
end
end K42

namespace K42
open PySem PySem.Spec L3 TK
/-- sorted unlike ones of a range are the looks of a round -/
theorem sort_lk {fd rest : List Int} {p : Int} (h : (fd ++ rest).Perm ((List.range p.toNat).map fun i : Nat => (i : Int))) : sortI fd = lk (fun t => decide (t % p ∈ fd)) p := by
  have nd : (fd ++ rest).Nodup := by
    rw [h.nodup_iff]
    exact List.Pairwise.map _ (fun a b (hab : a ≠ b) => by omega) List.nodup_range
  have nf : fd.Nodup := (List.nodup_append.mp nd).1
  have mem : ∀ z ∈ fd, 0 ≤ z ∧ z < p := fun z hz => by
    obtain ⟨i, hi, rfl⟩ := List.mem_map.mp (h.mem_iff.mp (List.mem_append_left _ hz))
    have := List.mem_range.mp hi
    omega
  refine sorted_eq ?_ (sortI_pw fd) (tk_pw _ _)
  refine (List.perm_ext_iff_of_nodup (((sortI_perm fd).nodup_iff).mpr nf) (tk_ne _ _)).mpr fun z => ?_
  rw [(sortI_perm fd).mem_iff]
  constructor
  · intro hz
    obtain ⟨z0, z1⟩ := mem z hz
    exact mem_tk.mpr ⟨z0, by omega, decide_eq_true (by rw [Int.emod_eq_of_lt z0 z1]; exact hz)⟩
  · intro hz
    obtain ⟨z0, z1, z2⟩ := mem_tk.mp hz
    have z2 := of_decide_eq_true z2
    rw [Int.emod_eq_of_lt z0 (by omega)] at z2
    exact z2
/-! ### the pot -/
theorem pot_turn (c sd : Int) (g : List Int) (x3 x4 : SD) (hg : g.length ≤ 62) (h0 : 0 ≤ sd) : ∃ g' sd' x4', b__law_pot_in ⟨[.un, .own (I g), .dat (.int sd), .dat (.int c), x4], pot0⟩ = some (.nx ⟨[.un, .own (I g'), .dat (.int sd'), .dat (.int c), x4'], pot0⟩) ∧ g'.length ≤ g.length + 1 ∧ 0 ≤ sd' ∧ sd' < 2305843009213693952 := by
  have p1 : opPow (.int 10) (.int 60) = some (.int (10 ^ 60)) := by
    rw [q_pow, show (decide ((0 : Int) ≤ 60) && decide ((((10 : Int).natAbs.log2 + 1 : Nat) : Int) * 60 ≤ 100000000)) = true by decide +kernel]
    rfl
  have p2 : opPow (.int (10 ^ 60)) (.int 5) = some (.int ((10 ^ 60) ^ 5)) := by
    rw [q_pow, show (decide ((0 : Int) ≤ 5) && decide (((((10 : Int) ^ 60).natAbs.log2 + 1 : Nat) : Int) * 5 ≤ 100000000)) = true by decide +kernel]
    rfl
  have p3 : opPow (.int 10) (.int 18) = some (.int (10 ^ 18)) := by
    rw [q_pow, show (decide ((0 : Int) ≤ 18) && decide ((((10 : Int).natAbs.log2 + 1 : Nat) : Int) * 18 ≤ 100000000)) = true by decide +kernel]
    rfl
  have hq : (0 : Int) < (10 ^ 60) ^ 5 := by decide +kernel
  generalize ((10 : Int) ^ 60) ^ 5 = q at p2 hq
  generalize (10 : Int) ^ 60 = q60 at p1 p2
  generalize (10 : Int) ^ 18 = q18 at p3
  have mq : ∀ y, opMod (.int y) (.int q) = some (.int (y % q)) := fun y => by rw [q_mod, decide_eq_true hq]; rfl
  have s1 : small64 (72559 : Int) = true := by decide
  have m1 : ∀ y, opMulT (.int y) (.int 72559) = some (.int (y * 72559)) := fun y => by rw [q_mulI, s1, Bool.or_true]; rfl
  have mM : ∀ y, opMod (.int y) (.int 2305843009213693951) = some (.int (y % 2305843009213693951)) := fun y => by rw [q_mod]; rfl
  have mN : ∀ y, opMod (.int y) (.int 2305843009213693921) = some (.int (y % 2305843009213693921)) := fun y => by rw [q_mod]; rfl
  generalize hab : (if c < 0 then -c else c) = ab
  generalize how : ab % q = ow
  generalize hsd : (sd * 72559 + c % 2305843009213693951 + 733) % 2305843009213693921 = sd'
  have d0 : 0 ≤ sd' := by rw [← hsd]; exact Int.emod_nonneg _ (by decide)
  have d1 : sd' < 2305843009213693952 := by
    have := Int.emod_lt_of_pos (sd * 72559 + c % 2305843009213693951 + 733) (show (0 : Int) < 2305843009213693921 by decide)
    omega
  have lg : g.length < 10000000 := by omega
  by_cases hc : q18 ≤ ab ∧ 0 < ow
  · refine ⟨g ++ [ow], sd', .dat (.int ow), ?_, by simp, d0, d1⟩
    rw [I_append]
    simp (implicitDefEqProofs := false) [-q_mulI, -q_mod, b__law_pot_in, p1, p2, p3, mq, m1, mM, mN, hab, how, hsd, hc.1, hc.2, lg, I_cons]
  · refine ⟨g, sd', .dat (.int ow), ?_, by omega, d0, d1⟩
    by_cases h1 : q18 ≤ ab
    · have h2 : ¬ 0 < ow := fun z => hc ⟨h1, z⟩
      simp (implicitDefEqProofs := false) [-q_mulI, -q_mod, b__law_pot_in, p1, p2, p3, mq, m1, mM, mN, hab, how, hsd, h1, h2]
    · simp (implicitDefEqProofs := false) [-q_mulI, -q_mod, b__law_pot_in, p1, p2, p3, mq, m1, mM, mN, hab, how, hsd, h1]
theorem pot_row : ∀ (ns : List Int) (g : List Int) (sd : Int) (x3 x4 : SD), g.length + ns.length ≤ 63 → 0 ≤ sd → sd < 2305843009213693952 →
    ∃ g' sd' x3' x4', sForL (gN 3) b__law_pot_in (ns.map PyData.int) ⟨[.un, .own (I g), .dat (.int sd), x3, x4], pot0⟩ = some (.nx ⟨[.un, .own (I g'), .dat (.int sd'), x3', x4'], pot0⟩) ∧ g'.length ≤ 63 ∧ 0 ≤ sd' ∧ sd' < 2305843009213693952 := by
  intro ns
  induction ns with
  | nil =>
    intro g sd x3 x4 h h0 h1
    exact ⟨g, sd, x3, x4, rfl, by simpa using h, h0, h1⟩
  | cons c r ih =>
    intro g sd x3 x4 h h0 h1
    rw [List.length_cons] at h
    obtain ⟨g1, sd1, x41, t1, t2, t3, t4⟩ := pot_turn c sd g x3 x4 (by omega) h0
    obtain ⟨g', sd', x3', x4', e1, e2⟩ := ih g1 sd1 (.dat (.int c)) x41 (by omega) t3 t4
    refine ⟨g', sd', x3', x4', ?_, e2⟩
    have eg : gN 3 (.int c) ⟨[.un, .own (I g), .dat (.int sd), x3, x4], pot0⟩ = some ⟨[.un, .own (I g), .dat (.int sd), .dat (.int c), x4], pot0⟩ := rfl
    rw [List.map_cons, sForL_nx eg t1]
    exact e1
theorem e_pot (ns : List Int) (h : ns.length ≤ 63) : ∃ P, m__law_pot ns = some (potD P) ∧ Good 0 P := by
  obtain ⟨g, sd, x3, x4, h1, h2, h3, h4⟩ := pot_row ns [] 5303 .un .un (by simpa using h) (by decide) (by decide)
  refine ⟨⟨g, sd, 0⟩, ?_, ⟨h3, h4, Int.le_refl _, Int.le_refl _, h2⟩⟩
  show endF ((sForL (gN 3) b__law_pot_in (ns.map PyData.int) ⟨[.un, .own (I []), .dat (.int 5303), .un, .un], pot0⟩).bind fun r => match r with
    | .nx e => b__law_pot_out e
    | r => some r) = _
  rw [h1]
  simp (implicitDefEqProofs := false) [b__law_pot_out, potD, I]
theorem plain : Plain := fun ns h => by
  obtain ⟨P, h1, g⟩ := e_pot ns h
  refine ⟨P, h1, ?_⟩
  obtain ⟨d1, P1, t1, a1, b1, g1⟩ := e_take (u := 11) (by decide) (by decide) (by omega) g
  obtain ⟨d2, P2, t2, a2, b2, g2⟩ := e_take (u := 11) (by decide) (by decide) (by omega) g1
  obtain ⟨p, P3, t3, hp, g3⟩ := e_ofL (l := [2 + d1, 2 + d2, 30, 84]) (fun z => nomatch z) (by simp) (by omega) g2
  have t3 : m__law_of [.list [.int (2 + d1), .int (2 + d2), .int 30, .int 84]] P2 = some (.int p, P3) := t3
  have pb : 2 ≤ p ∧ p ≤ 84 := by
    simp at hp
    omega
  generalize hmn : (if 5 < p then (5 : Int) else p) = mn
  have mn1 : 1 ≤ mn ∧ mn ≤ p ∧ mn ≤ 5 := by
    by_cases h : 5 < p
    · rw [if_pos h] at hmn; omega
    · rw [if_neg h] at hmn; omega
  obtain ⟨d4, P4, t4, a4, b4, g4⟩ := e_take (u := mn) (by omega) (by omega) (by omega) g3
  obtain ⟨m, hm⟩ : ∃ m : Nat, 1 + d4 = m := ⟨(1 + d4).toNat, by omega⟩
  have hrl : ((List.range p.toNat).map fun i : Nat => (i : Int)).length = p.toNat := by rw [List.length_map, List.length_range]
  have er : rng 0 1 p.toNat = I ((List.range p.toNat).map fun i : Nat => (i : Int)) := by
    rw [rng01]
    unfold I
    rw [List.map_map]
    rfl
  obtain ⟨fd, rest, P5, t5, f1, f2, g5⟩ := e_some (l := (List.range p.toNat).map fun i : Nat => (i : Int)) (seq := .list (rng 0 1 p.toNat)) (by rw [er]; rfl) (m := m) (by omega) (by omega) (k := 4) (by omega) (g4.mono (by omega))
  have hsl := sort_lk (p := p) f2
  have hSS := bSortA_L fd
  rw [hsl] at hSS
  generalize hS : (fun t : Int => decide (t % p ∈ fd)) = S at hsl hSS
  have R : Rd S p := ⟨pb.1, by omega, fun t => by rw [← hS]; show decide ((t + p) % p ∈ fd) = decide (t % p ∈ fd); rw [Int.add_emod_right]⟩
  have hne : lk S p ≠ [] := fun z => by
    rw [z] at hsl
    have := (sortI_perm fd).length_eq
    rw [hsl, f1] at this
    rw [List.length_nil] at this
    omega
  obtain ⟨d6, P6, t6, a6, b6, g6⟩ := e_take (u := 2 * p) (by omega) (by omega) (by omega) g5
  obtain ⟨u, P7, t7, hu, g7⟩ := e_ofL (l := [p, 2 * p]) (fun z => nomatch z) (by simp) (by omega) g6
  have t7 : m__law_of [.list [.int p, .int (2 * p)]] P6 = some (.int u, P7) := t7
  have ub : 1 ≤ u ∧ u ≤ 168 := by
    simp at hu
    omega
  obtain ⟨d8, P8, t8, a8, b8, g8⟩ := e_take (u := u) (by omega) (by omega) (by omega) g7
  generalize hL : 1 + d6 = L
  generalize hG : 1 + d8 = G
  have W : Wk S p L G := { toRd := R, ne := hne, hL := by omega, hL2 := by omega, hG := by omega, hG2 := by omega }
  have w1 := e_twice W pb.2
  obtain ⟨P9, t9, g9⟩ := e_equal_right (by omega) g8
  have osp : okSpan 0 p := ⟨okR_of (by decide) (by decide), okR_of (by omega) (by omega), by omega⟩
  have k2 : small64 (2 : Int) = true := by decide
  have mu := mulEq (y := p) k2
  have hmi : bMin [.int p, .int 5] = some (.int mn) := by rw [q_min2, hmn]
  by_cases hc : 30 < p
  · simp (implicitDefEqProofs := false) [-q_min2, -q_mulI, b_law, t1, t2, t3, q_lstR1, osp, hmi, t4, hm, t5, hSS, mu, t6, t7, t8, hL, hG, w1, t9, hc]
  · obtain ⟨P10, t10, g10⟩ := e_turned W (by omega) (by omega) g9
    obtain ⟨P11, t11, g11⟩ := e_mirrored W (by omega) (by omega) g10
    simp (implicitDefEqProofs := false) [-q_min2, -q_mulI, b_law, t1, t2, t3, q_lstR1, osp, hmi, t4, hm, t5, hSS, mu, t6, t7, t8, hL, hG, w1, t9, hc, t10, t11]
end K42

namespace K42
open PySem PySem.Spec PyProof.Rows L2 L3
def topS (i : Nat) : Stmt := PySem.Challenge.pw_kerbtruth_k42_whole_rounds_told_otherwis.main.body.getD i (.Pass ⟨0, 0, 0, 0⟩)
structure Glo (mg : Str → Option Value) : Prop where
  b_abs : mg "abs" = none
  b_all : mg "all" = none
  b_bool : mg "bool" = none
  b_enumerate : mg "enumerate" = none
  b_int : mg "int" = none
  b_isinstance : mg "isinstance" = none
  b_len : mg "len" = none
  b_list : mg "list" = none
  b_max : mg "max" = none
  b_min : mg "min" = none
  b_range : mg "range" = none
  b_repr : mg "repr" = none
  b_sorted : mg "sorted" = none
  b_str : mg "str" = none
  b_tuple : mg "tuple" = none
  b_zip : mg "zip" = none
  g_LAST_LENGTH : ∃ t, mg "LAST_LENGTH" = some (.int 9999 t)
  g_LAST_TICK : ∃ t, mg "LAST_TICK" = some (.int 9999 t)
  g_MORE : ∃ t, mg "MORE" = some (.str ("more" : Str) t)
  g_MOST_BOUND : ∃ t, mg "MOST_BOUND" = some (.int 999 t)
  g_MOST_PERIOD : ∃ t, mg "MOST_PERIOD" = some (.int 168 t)
  g_NEVER : ∃ t, mg "NEVER" = some (.str ("never" : Str) t)
section
variable {P : Program} {w : World} {K : PySem.W.Frag} {mg : Str → Option Value} {base : Heap}
/-! #### is_integer -/
abbrev s_is_integer : Stmt := topS 10
theorem sc_is_integer : FnScope ["value"] ["value"] (defScope s_is_integer) := ⟨rfl, rfl, rfl, by decide +kernel, rfl, by decide +kernel, by decide +kernel⟩
theorem ok_is_integer {f : Addr} {fd : FuncData} (F : Fun K "is_integer" "is_integer" s_is_integer f fd) (hm : mg "is_integer" = some (.ref f)) (G : Glo mg)  : CalG P w K mg base 1 "is_integer" ["value"] (spP 1 m_is_integer) :=
  .mk2 F hm (F.binds fun _ _ _ _ _ _ us hl => match us, hl with | [_], _ => rfl) (fun_P (k := 0) F sc_is_integer (by decide) fun cdv A outer s H hgd hr => by
    have hN := sc_is_integer.nd
    exact (lb_cons (ls_ret (le_and (le_isi (by rfl) G.b_isinstance (by rfl) G.b_int bt_int (le_v (pv 0))) (le_one (le_not (le_isi (by rfl) G.b_isinstance (by rfl) G.b_bool bt_bool (le_v (pv 0)))))))
 lb_nil))
/-! #### is_between -/
abbrev s_is_between : Stmt := topS 11
theorem sc_is_between : FnScope ["value", "low", "high"] ["value", "low", "high"] (defScope s_is_between) := ⟨rfl, rfl, rfl, by decide +kernel, rfl, by decide +kernel, by decide +kernel⟩
theorem ok_is_between {f : Addr} {fd : FuncData} (F : Fun K "is_between" "is_between" s_is_between f fd) (hm : mg "is_between" = some (.ref f)) (G : Glo mg) (C_is_integer : CalG P w K mg base 1 "is_integer" ["value"] (spP 1 m_is_integer)) : CalG P w K mg base 2 "is_between" ["value", "low", "high"] (spP 3 m_is_between) :=
  .mk2 F hm (F.binds fun _ _ _ _ _ _ us hl => match us, hl with | [_, _, _], _ => rfl) (fun_P (k := 1) F sc_is_between (by decide) fun cdv A outer s H hgd hr => by
    have hN := sc_is_between.nd
    exact (lb_cons (ls_ret (le_and (le_callC C_is_integer hgd hr (by decide) (by rfl) (la_cons (le_v (pv 0)) la_nil) (len_cons len0)) (le_one (le_chain o_le o_le (le_v (pv 1)) (le_v (pv 0)) (le_v (pv 2))))))
 lb_nil))
/-! #### is_ascending -/
abbrev s_is_ascending : Stmt := topS 12
theorem sc_is_ascending : FnScope ["items", "one", "other"] ["items"] (defScope s_is_ascending) := ⟨rfl, rfl, rfl, by decide +kernel, rfl, by decide +kernel, by decide +kernel⟩
theorem ok_is_ascending {f : Addr} {fd : FuncData} (F : Fun K "is_ascending" "is_ascending" s_is_ascending f fd) (hm : mg "is_ascending" = some (.ref f)) (G : Glo mg)  : CalG P w K mg base 1 "is_ascending" ["items"] (spP 1 m_is_ascending) :=
  .mk2 F hm (F.binds fun _ _ _ _ _ _ us hl => match us, hl with | [_], _ => rfl) (fun_P (k := 0) F sc_is_ascending (by decide) fun cdv A outer s H hgd hr => by
    have hN := sc_is_ascending.nd
    exact (lb_cons (ls_ret (le_callB (c_all rfl) (by rfl) G.b_all bt_all (la_cons (le_lc rfl hN (li_zip (by rfl) G.b_zip (la_cons (le_v (pv 0)) (la_cons (le_slice (le_v (pv 0)) (lo_some le_int) lo_none) la_nil))) (blkOk_by (own := [("one", 1), ("other", 2)]) (by rfl)) (fun s H C cl fp => (lg_t rfl (lgs_cons (lg_n (pg_name (i := 1) hN rfl (.inl rfl))) (lgs_cons (lg_n (pg_name (i := 2) hN rfl (.inl rfl))) lgs_nil)))) (fun s H C cl fp => lx_nil) (fun s H C cl fp => (show LE _ _ b_is_ascending_c1 from (le_cmp o_lt (le_v (pv 1)) (le_v (pv 2)) (by rfl))))) la_nil)))
 lb_nil))
/-! #### is_round -/
abbrev s_is_round : Stmt := topS 19
theorem sc_is_round : FnScope ["value", "period", "looks", "look"] ["value"] (defScope s_is_round) := ⟨rfl, rfl, rfl, by decide +kernel, rfl, by decide +kernel, by decide +kernel⟩
theorem ok_is_round {f : Addr} {fd : FuncData} (F : Fun K "is_round" "is_round" s_is_round f fd) (hm : mg "is_round" = some (.ref f)) (G : Glo mg) (C_is_ascending : CalG P w K mg base 1 "is_ascending" ["items"] (spP 1 m_is_ascending)) (C_is_between : CalG P w K mg base 2 "is_between" ["value", "low", "high"] (spP 3 m_is_between)) : CalG P w K mg base 3 "is_round" ["value"] (spP 1 m_is_round) :=
  .mk2 F hm (F.binds fun _ _ _ _ _ _ us hl => match us, hl with | [_], _ => rfl) (fun_P (k := 2) F sc_is_round (by decide) fun cdv A outer s H hgd hr => by
    have hN := sc_is_round.nd
    exact (lb_cons (ls_if (PW.pt (lw_or (lt_not (lt_val (le_isi (by rfl) G.b_isinstance (by rfl) G.b_tuple bt_tuple (le_v (pv 0))))) (lw_or (lt_cmp (o_ne hr.units) (le_callB (c_len) (by rfl) G.b_len bt_len (la_cons (le_v (pv 0)) la_nil)) le_int (by rfl)) (lw_or1 (lt_not (lt_val (le_callC C_is_between hgd hr (by decide) (by rfl) (la_cons (le_ix (le_v (pv 0)) le_int) (la_cons le_int (la_cons (le_glob_intE (by rfl) G.g_MOST_PERIOD) la_nil))) (len_cons (len_cons (len_cons len0)))))))))) (lb_cons (ls_ret le_bl)
 lb_nil) lb_nil)
 (lb_cons (ls_asg (le_v (pv 0)) (lg_t rfl (lgs_cons (lg_n (pg_name (i := 1) hN rfl (.inr rfl))) (lgs_cons (lg_n (pg_name (i := 2) hN rfl (.inl rfl))) lgs_nil))))
 (lb_cons (ls_if (PW.pt (lw_or (lt_not (lt_val (le_isi (by rfl) G.b_isinstance (by rfl) G.b_tuple bt_tuple (le_v (pv 2))))) (lw_or (lt_cmp (o_eq hr.units) (le_v (pv 2)) (le_tup la_nil) (by rfl)) (lw_or1 (lt_not (lt_val (le_callB (c_all rfl) (by rfl) G.b_all bt_all (la_cons (le_lc rfl hN (li_seq (le_v (pv 2))) (blkOk_by (own := [("look", 3)]) (by rfl)) (fun s H C cl fp => (lg_n (pg_name (i := 3) hN rfl (.inl rfl)))) (fun s H C cl fp => lx_nil) (fun s H C cl fp => (show LE _ _ b_is_round_c1 from (le_callC C_is_between hgd hr (by decide) (by rfl) (la_cons (le_v (pv 3)) (la_cons le_int (la_cons (le_bin o_sub (le_v (pv 1)) le_int) la_nil))) (len_cons (len_cons (len_cons len0))))))) la_nil)))))))) (lb_cons (ls_ret le_bl)
 lb_nil) lb_nil)
 (lb_cons (ls_ret (le_callC C_is_ascending hgd hr (by decide) (by rfl) (la_cons (le_v (pv 2)) la_nil) (len_cons len0)))
 lb_nil)))))
/-! #### check_round -/
abbrev s_check_round : Stmt := topS 20
theorem sc_check_round : FnScope ["value", "bound", "one"] ["value", "bound"] (defScope s_check_round) := ⟨rfl, rfl, rfl, by decide +kernel, rfl, by decide +kernel, by decide +kernel⟩
theorem ok_check_round {f : Addr} {fd : FuncData} (F : Fun K "check_round" "check_round" s_check_round f fd) (hm : mg "check_round" = some (.ref f)) (G : Glo mg) (C_is_between : CalG P w K mg base 2 "is_between" ["value", "low", "high"] (spP 3 m_is_between)) (C_is_round : CalG P w K mg base 3 "is_round" ["value"] (spP 1 m_is_round)) : CalG P w K mg base 4 "check_round" ["value", "bound"] (spP 2 m_check_round) :=
  .mk2 F hm (F.binds fun _ _ _ _ _ _ us hl => match us, hl with | [_, _], _ => rfl) (fun_P (k := 3) F sc_check_round (by decide) fun cdv A outer s H hgd hr => by
    have hN := sc_check_round.nd
    exact (lb_cons (ls_if (lt_not (lt_val (le_callC C_is_round hgd hr (by decide) (by rfl) (la_cons (le_v (pv 0)) la_nil) (len_cons len0)))) lb_no lb_nil)
 (lb_cons (ls_if (PW.pt (lw_or (lt_not (lt_val (le_isi (by rfl) G.b_isinstance (by rfl) G.b_tuple bt_tuple (le_v (pv 1))))) (lw_or (lt_cmp (o_ne hr.units) (le_callB (c_len) (by rfl) G.b_len bt_len (la_cons (le_v (pv 1)) la_nil)) le_int (by rfl)) (lw_or1 (lt_not (lt_val (le_callB (c_all rfl) (by rfl) G.b_all bt_all (la_cons (le_lc rfl hN (li_seq (le_v (pv 1))) (blkOk_by (own := [("one", 2)]) (by rfl)) (fun s H C cl fp => (lg_n (pg_name (i := 2) hN rfl (.inl rfl)))) (fun s H C cl fp => lx_nil) (fun s H C cl fp => (show LE _ _ b_check_round_c1 from (le_callC C_is_between hgd hr (by decide) (by rfl) (la_cons (le_v (pv 2)) (la_cons le_int (la_cons (le_glob_intE (by rfl) G.g_MOST_BOUND) la_nil))) (len_cons (len_cons (len_cons len0))))))) la_nil)))))))) lb_no lb_nil)
 lb_nil)))
/-! #### seen -/
abbrev s_seen : Stmt := topS 21
theorem sc_seen : FnScope ["told", "begin", "end", "period", "looks", "found", "lap", "look"] ["told", "begin", "end"] (defScope s_seen) := ⟨rfl, rfl, rfl, by decide +kernel, rfl, by decide +kernel, by decide +kernel⟩
theorem ok_seen {f : Addr} {fd : FuncData} (F : Fun K "seen" "seen" s_seen f fd) (hm : mg "seen" = some (.ref f)) (G : Glo mg)  : CalG P w K mg base 1 "seen" ["told", "begin", "end"] (spP 3 m_seen) :=
  .mk2 F hm (F.binds fun _ _ _ _ _ _ us hl => match us, hl with | [_, _, _], _ => rfl) (fun_P (k := 0) F sc_seen (by decide) fun cdv A outer s H hgd hr => by
    have hN := sc_seen.nd
    exact (lb_cons (ls_asg (le_v (pv 0)) (lg_t rfl (lgs_cons (lg_n (pg_name (i := 3) hN rfl (.inr rfl))) (lgs_cons (lg_n (pg_name (i := 4) hN rfl (.inl rfl))) lgs_nil))))
 (lb_cons (ls_own (i := 5) hN rfl (.inl rfl) la_nil)
 (lb_cons (ls_for PassesOwn.never rfl (li_rng2 (by rfl) G.b_range (la_cons (le_bin o_div (le_v (pv 1)) (le_v (pv 3))) (la_cons (le_bin o_add (le_bin o_div (le_v (pv 2)) (le_v (pv 3))) le_int) la_nil))) (lg_n (pg_name (i := 6) hN rfl (.inr rfl))) (show LB _ _ b_seen_l1 from (lb_cons (ls_extend (pv 5) (le_lc rfl hN (li_seq (le_v (pv 4))) (blkOk_by (own := [("look", 7)]) (by rfl)) (fun s H C cl fp => (lg_n (pg_name (i := 7) hN rfl (.inl rfl)))) (fun s H C cl fp => (show LX _ _ b_seen_i1 from (lx_one (lt_chain o_le o_lt (le_v (pv 1)) (le_bin o_add (le_bin o_mulT (le_v (pv 6)) (le_v (pv 3))) (le_v (pv 7))) (le_v (pv 2)))))) (fun s H C cl fp => (show LE _ _ b_seen_c1 from (le_bin o_add (le_bin o_mulT (le_v (pv 6)) (le_v (pv 3))) (le_v (pv 7)))))))
 lb_nil)))
 (lb_cons (ls_ret (le_v (pv 5)))
 lb_nil)))))
/-! #### proof -/
abbrev s_proof : Stmt := topS 22
theorem sc_proof : FnScope ["ticks", "bound", "limit", "gone", "first", "number", "last"] ["ticks", "bound"] (defScope s_proof) := ⟨rfl, rfl, rfl, by decide +kernel, rfl, by decide +kernel, by decide +kernel⟩
theorem ok_proof {f : Addr} {fd : FuncData} (F : Fun K "proof" "proof" s_proof f fd) (hm : mg "proof" = some (.ref f)) (G : Glo mg)  : CalG P w K mg base 1 "proof" ["ticks", "bound"] (spP 2 m_proof) :=
  .mk2 F hm (F.binds fun _ _ _ _ _ _ us hl => match us, hl with | [_, _], _ => rfl) (fun_P (k := 0) F sc_proof (by decide) fun cdv A outer s H hgd hr => by
    have hN := sc_proof.nd
    exact (lb_cons (ls_asg (le_v (pv 1)) (lg_t rfl (lgs_cons (lg_n (pg_name (i := 2) hN rfl (.inl rfl))) (lgs_cons (lg_n (pg_name (i := 3) hN rfl (.inl rfl))) lgs_nil))))
 (lb_cons (ls_set (i := 4) hN rfl (.inl rfl) le_int)
 (lb_cons (ls_for PassesOwn.never rfl (li_enumA (by rfl) G.b_enumerate (la_cons (le_v (pv 0)) la_nil)) (lg_t rfl (lgs_cons (lg_n (pg_name (i := 5) hN rfl (.inl rfl))) (lgs_cons (lg_n (pg_name (i := 6) hN rfl (.inl rfl))) lgs_nil))) (show LB _ _ b_proof_l2 from (lb_cons (ls_if (PW.pt (lw_and (lt_cmp o_gt (le_v (pv 5)) le_int (by rfl)) (lw_and1 (lt_cmp o_gt (le_bin o_sub (le_v (pv 6)) (le_ix (le_v (pv 0)) (le_bin o_sub (le_v (pv 5)) le_int))) (le_v (pv 3)) (by rfl))))) (lb_cons (ls_set (i := 4) hN rfl (.inl rfl) (le_v (pv 5)))
 lb_nil) lb_nil)
 (lb_cons (ls_while fu PassesOwn.never (show LT _ _ b_proof_t1 from (PW.pt (lw_and (lt_cmp o_lt (le_v (pv 4)) (le_v (pv 5)) (by rfl)) (lw_and1 (lt_cmp o_ge (le_bin o_sub (le_v (pv 6)) (le_ix (le_v (pv 0)) (le_bin o_add (le_v (pv 4)) le_int))) (le_v (pv 2)) (by rfl)))))) (show LB _ _ b_proof_l1 from (lb_cons (ls_set (i := 4) hN rfl (.inl rfl) (le_bin o_add (le_v (pv 4)) le_int))
 lb_nil)))
 (lb_cons (ls_if (lt_cmp o_ge (le_bin o_sub (le_v (pv 6)) (le_ix (le_v (pv 0)) (le_v (pv 4)))) (le_v (pv 2)) (by rfl)) (lb_cons (ls_ret (le_tup (la_cons (le_ix (le_v (pv 0)) (le_v (pv 4))) (la_cons (le_v (pv 6)) la_nil))))
 lb_nil) lb_nil)
 lb_nil)))))
 (lb_cons (ls_ret le_non)
 lb_nil)))))
/-! #### proved -/
abbrev s_proved : Stmt := topS 23
theorem sc_proved : FnScope ["tour", "bound", "begin", "length"] ["tour", "bound", "begin", "length"] (defScope s_proved) := ⟨rfl, rfl, rfl, by decide +kernel, rfl, by decide +kernel, by decide +kernel⟩
theorem ok_proved {f : Addr} {fd : FuncData} (F : Fun K "proved" "proved" s_proved f fd) (hm : mg "proved" = some (.ref f)) (G : Glo mg) (C_check_round : CalG P w K mg base 4 "check_round" ["value", "bound"] (spP 2 m_check_round)) (C_is_between : CalG P w K mg base 2 "is_between" ["value", "low", "high"] (spP 3 m_is_between)) (C_proof : CalG P w K mg base 1 "proof" ["ticks", "bound"] (spP 2 m_proof)) (C_seen : CalG P w K mg base 1 "seen" ["told", "begin", "end"] (spP 3 m_seen)) : CalG P w K mg base 5 "proved" ["tour", "bound", "begin", "length"] (spP 4 m_proved) :=
  .mk2 F hm (F.binds fun _ _ _ _ _ _ us hl => match us, hl with | [_, _, _, _], _ => rfl) (fun_P (k := 4) F sc_proved (by decide) fun cdv A outer s H hgd hr => by
    have hN := sc_proved.nd
    exact (lb_cons (ls_expr (le_callC C_check_round hgd hr (by decide) (by rfl) (la_cons (le_v (pv 0)) (la_cons (le_v (pv 1)) la_nil)) (len_cons (len_cons len0))))
 (lb_cons (ls_if (lt_not (lt_val (le_callC C_is_between hgd hr (by decide) (by rfl) (la_cons (le_v (pv 2)) (la_cons le_int (la_cons (le_glob_intE (by rfl) G.g_LAST_TICK) la_nil))) (len_cons (len_cons (len_cons len0)))))) lb_no lb_nil)
 (lb_cons (ls_if (lt_not (lt_val (le_callC C_is_between hgd hr (by decide) (by rfl) (la_cons (le_v (pv 3)) (la_cons le_int (la_cons (le_glob_intE (by rfl) G.g_LAST_LENGTH) la_nil))) (len_cons (len_cons (len_cons len0)))))) lb_no lb_nil)
 (lb_cons (ls_ret (le_callC C_proof hgd hr (by decide) (by rfl) (la_cons (le_callC C_seen hgd hr (by decide) (by rfl) (la_cons (le_v (pv 0)) (la_cons (le_v (pv 2)) (la_cons (le_bin o_add (le_v (pv 2)) (le_v (pv 3))) la_nil))) (len_cons (len_cons (len_cons len0)))) (la_cons (le_v (pv 1)) la_nil)) (len_cons (len_cons len0))))
 lb_nil)))))
/-! #### gaps -/
abbrev s_gaps : Stmt := topS 24
theorem sc_gaps : FnScope ["told", "period", "looks", "look", "later"] ["told"] (defScope s_gaps) := ⟨rfl, rfl, rfl, by decide +kernel, rfl, by decide +kernel, by decide +kernel⟩
theorem ok_gaps {f : Addr} {fd : FuncData} (F : Fun K "gaps" "gaps" s_gaps f fd) (hm : mg "gaps" = some (.ref f)) (G : Glo mg)  : CalG P w K mg base 1 "gaps" ["told"] (spP 1 m_gaps) :=
  .mk2 F hm (F.binds fun _ _ _ _ _ _ us hl => match us, hl with | [_], _ => rfl) (fun_P (k := 0) F sc_gaps (by decide) fun cdv A outer s H hgd hr => by
    have hN := sc_gaps.nd
    exact (lb_cons (ls_asg (le_v (pv 0)) (lg_t rfl (lgs_cons (lg_n (pg_name (i := 1) hN rfl (.inl rfl))) (lgs_cons (lg_n (pg_name (i := 2) hN rfl (.inl rfl))) lgs_nil))))
 (lb_cons (ls_ret (le_lc rfl hN (li_zip (by rfl) G.b_zip (la_cons (le_v (pv 2)) (la_cons (le_bin o_add (le_slice (le_v (pv 2)) (lo_some le_int) lo_none) (le_tup (la_cons (le_bin o_add (le_ix (le_v (pv 2)) le_int) (le_v (pv 1))) la_nil))) la_nil))) (blkOk_by (own := [("look", 3), ("later", 4)]) (by rfl)) (fun s H C cl fp => (lg_t rfl (lgs_cons (lg_n (pg_name (i := 3) hN rfl (.inl rfl))) (lgs_cons (lg_n (pg_name (i := 4) hN rfl (.inl rfl))) lgs_nil)))) (fun s H C cl fp => lx_nil) (fun s H C cl fp => (show LE _ _ b_gaps_c1 from (le_bin o_sub (le_v (pv 4)) (le_v (pv 3)))))))
 lb_nil)))
/-! #### is_never -/
abbrev s_is_never : Stmt := topS 25
theorem sc_is_never : FnScope ["told", "bound"] ["told", "bound"] (defScope s_is_never) := ⟨rfl, rfl, rfl, by decide +kernel, rfl, by decide +kernel, by decide +kernel⟩
theorem ok_is_never {f : Addr} {fd : FuncData} (F : Fun K "is_never" "is_never" s_is_never f fd) (hm : mg "is_never" = some (.ref f)) (G : Glo mg) (C_gaps : CalG P w K mg base 1 "gaps" ["told"] (spP 1 m_gaps)) (C_proof : CalG P w K mg base 1 "proof" ["ticks", "bound"] (spP 2 m_proof)) (C_seen : CalG P w K mg base 1 "seen" ["told", "begin", "end"] (spP 3 m_seen)) : CalG P w K mg base 2 "is_never" ["told", "bound"] (spP 2 m_is_never) :=
  .mk2 F hm (F.binds fun _ _ _ _ _ _ us hl => match us, hl with | [_, _], _ => rfl) (fun_P (k := 1) F sc_is_never (by decide) fun cdv A outer s H hgd hr => by
    have hN := sc_is_never.nd
    exact (lb_cons (ls_if (lt_cmp o_le (le_callB (c_max rfl) (by rfl) G.b_max bt_max (la_cons (le_callC C_gaps hgd hr (by decide) (by rfl) (la_cons (le_v (pv 0)) la_nil) (len_cons len0)) la_nil)) (le_ix (le_v (pv 1)) le_int) (by rfl)) (lb_cons (ls_ret le_bl)
 lb_nil) lb_nil)
 (lb_cons (ls_ret (le_cmp o_is (le_callC C_proof hgd hr (by decide) (by rfl) (la_cons (le_callC C_seen hgd hr (by decide) (by rfl) (la_cons (le_v (pv 0)) (la_cons le_int (la_cons (le_bin o_mulT le_int (le_ix (le_v (pv 0)) le_int)) la_nil))) (len_cons (len_cons (len_cons len0)))) (la_cons (le_v (pv 1)) la_nil)) (len_cons (len_cons len0))) le_non (by rfl)))
 lb_nil)))
/-! #### needs -/
abbrev s_needs : Stmt := topS 26
theorem sc_needs : FnScope ["told", "bound", "begin", "pair"] ["told", "bound", "begin"] (defScope s_needs) := ⟨rfl, rfl, rfl, by decide +kernel, rfl, by decide +kernel, by decide +kernel⟩
theorem ok_needs {f : Addr} {fd : FuncData} (F : Fun K "needs" "needs" s_needs f fd) (hm : mg "needs" = some (.ref f)) (G : Glo mg) (C_proof : CalG P w K mg base 1 "proof" ["ticks", "bound"] (spP 2 m_proof)) (C_seen : CalG P w K mg base 1 "seen" ["told", "begin", "end"] (spP 3 m_seen)) : CalG P w K mg base 2 "needs" ["told", "bound", "begin"] (spP 3 m_needs) :=
  .mk2 F hm (F.binds fun _ _ _ _ _ _ us hl => match us, hl with | [_, _, _], _ => rfl) (fun_P (k := 1) F sc_needs (by decide) fun cdv A outer s H hgd hr => by
    have hN := sc_needs.nd
    exact (lb_cons (ls_set (i := 3) hN rfl (.inl rfl) (le_callC C_proof hgd hr (by decide) (by rfl) (la_cons (le_callC C_seen hgd hr (by decide) (by rfl) (la_cons (le_v (pv 0)) (la_cons (le_v (pv 2)) (la_cons (le_bin o_add (le_bin o_add (le_v (pv 2)) (le_ix (le_v (pv 1)) le_int)) (le_bin o_mulT le_int (le_ix (le_v (pv 0)) le_int))) la_nil))) (len_cons (len_cons (len_cons len0)))) (la_cons (le_v (pv 1)) la_nil)) (len_cons (len_cons len0))))
 (lb_cons (ls_ret (le_tup (la_cons (le_bin o_add (le_bin o_sub (le_ix (le_v (pv 3)) le_int) (le_v (pv 2))) le_int) (la_cons (le_v (pv 3)) la_nil))))
 lb_nil)))
/-! #### number_of -/
abbrev s_number_of : Stmt := topS 27
theorem sc_number_of : FnScope ["told", "bound", "begins", "look", "begin"] ["told", "bound"] (defScope s_number_of) := ⟨rfl, rfl, rfl, by decide +kernel, rfl, by decide +kernel, by decide +kernel⟩
theorem ok_number_of {f : Addr} {fd : FuncData} (F : Fun K "number_of" "number_of" s_number_of f fd) (hm : mg "number_of" = some (.ref f)) (G : Glo mg) (C_is_never : CalG P w K mg base 2 "is_never" ["told", "bound"] (spP 2 m_is_never)) (C_needs : CalG P w K mg base 2 "needs" ["told", "bound", "begin"] (spP 3 m_needs)) : CalG P w K mg base 3 "number_of" ["told", "bound"] (spP 2 m_number_of) :=
  .mk2 F hm (F.binds fun _ _ _ _ _ _ us hl => match us, hl with | [_, _], _ => rfl) (fun_P (k := 2) F sc_number_of (by decide) fun cdv A outer s H hgd hr => by
    have hN := sc_number_of.nd
    exact (lb_cons (ls_if (lt_val (le_callC C_is_never hgd hr (by decide) (by rfl) (la_cons (le_v (pv 0)) (la_cons (le_v (pv 1)) la_nil)) (len_cons (len_cons len0)))) (lb_cons (ls_ret le_non)
 lb_nil) lb_nil)
 (lb_cons (ls_setLc (i := 2) rfl hN rfl rfl rfl (li_seq (le_ix (le_v (pv 0)) le_int)) (blkOk_by (own := [("look", 3)]) (by rfl)) (fun s H C cl fp => (lg_n (pg_name (i := 3) hN rfl (.inl rfl)))) (fun s H C cl fp => lx_nil) (fun s H C cl fp => (show LE _ _ b_number_of_c2 from (le_bin o_mod (le_bin o_add (le_v (pv 3)) le_int) (le_ix (le_v (pv 0)) le_int)))))
 (lb_cons (ls_ret (le_bin o_sub (le_callB (c_max rfl) (by rfl) G.b_max bt_max (la_cons (le_lc rfl hN (li_seq (le_v (pv 2))) (blkOk_by (own := [("begin", 4)]) (by rfl)) (fun s H C cl fp => (lg_n (pg_name (i := 4) hN rfl (.inl rfl)))) (fun s H C cl fp => lx_nil) (fun s H C cl fp => (show LE _ _ b_number_of_c1 from (le_ix (le_callC C_needs hgd hr (by decide) (by rfl) (la_cons (le_v (pv 0)) (la_cons (le_v (pv 1)) (la_cons (le_v (pv 4)) la_nil))) (len_cons (len_cons (len_cons len0)))) le_int)))) la_nil)) (le_ix (le_v (pv 1)) le_int)))
 lb_nil))))
/-! #### least_more -/
abbrev s_least_more : Stmt := topS 28
theorem sc_least_more : FnScope ["tour", "bound", "far", "rows", "number", "begins", "look", "gap", "begin", "length", "pair", "row"] ["tour", "bound"] (defScope s_least_more) := ⟨rfl, rfl, rfl, by decide +kernel, rfl, by decide +kernel, by decide +kernel⟩
theorem ok_least_more {f : Addr} {fd : FuncData} (F : Fun K "least_more" "least_more" s_least_more f fd) (hm : mg "least_more" = some (.ref f)) (G : Glo mg) (C_check_round : CalG P w K mg base 4 "check_round" ["value", "bound"] (spP 2 m_check_round)) (C_gaps : CalG P w K mg base 1 "gaps" ["told"] (spP 1 m_gaps)) (C_is_never : CalG P w K mg base 2 "is_never" ["told", "bound"] (spP 2 m_is_never)) (C_needs : CalG P w K mg base 2 "needs" ["told", "bound", "begin"] (spP 3 m_needs)) : CalG P w K mg base 5 "least_more" ["tour", "bound"] (spP 2 m_least_more) :=
  .mk2 F hm (F.binds fun _ _ _ _ _ _ us hl => match us, hl with | [_, _], _ => rfl) (fun_P (k := 4) F sc_least_more (by decide) fun cdv A outer s H hgd hr => by
    have hN := sc_least_more.nd
    exact (lb_cons (ls_expr (le_callC C_check_round hgd hr (by decide) (by rfl) (la_cons (le_v (pv 0)) (la_cons (le_v (pv 1)) la_nil)) (len_cons (len_cons len0))))
 (lb_cons (ls_if (lt_val (le_callC C_is_never hgd hr (by decide) (by rfl) (la_cons (le_v (pv 0)) (la_cons (le_v (pv 1)) la_nil)) (len_cons (len_cons len0)))) (lb_cons (ls_setLc (i := 2) rfl hN rfl rfl rfl (li_zip (by rfl) G.b_zip (la_cons (le_ix (le_v (pv 0)) le_int) (la_cons (le_callC C_gaps hgd hr (by decide) (by rfl) (la_cons (le_v (pv 0)) la_nil) (len_cons len0)) la_nil))) (blkOk_by (own := [("look", 6), ("gap", 7)]) (by rfl)) (fun s H C cl fp => (lg_t rfl (lgs_cons (lg_n (pg_name (i := 6) hN rfl (.inl rfl))) (lgs_cons (lg_n (pg_name (i := 7) hN rfl (.inl rfl))) lgs_nil)))) (fun s H C cl fp => (show LX _ _ b_least_more_i2 from (lx_one (lt_cmp o_gt (le_v (pv 7)) (le_ix (le_v (pv 1)) le_int) (by rfl))))) (fun s H C cl fp => (show LE _ _ b_least_more_c5 from (le_v (pv 6)))))
 (lb_cons (ls_ret (le_tup (la_cons (le_glob_strE (by rfl) G.g_NEVER) (la_cons (le_ix (le_v (pv 2)) le_int) la_nil))))
 lb_nil)) lb_nil)
 (lb_cons (ls_setLc (i := 3) rfl hN rfl rfl rfl (li_rng1 (by rfl) G.b_range (la_cons (le_ix (le_v (pv 0)) le_int) la_nil)) (blkOk_by (own := [("begin", 8)]) (by rfl)) (fun s H C cl fp => (lg_n (pg_name (i := 8) hN rfl (.inl rfl)))) (fun s H C cl fp => lx_nil) (fun s H C cl fp => (show LE _ _ b_least_more_c4 from (le_callC C_needs hgd hr (by decide) (by rfl) (la_cons (le_v (pv 0)) (la_cons (le_v (pv 1)) (la_cons (le_v (pv 8)) la_nil))) (len_cons (len_cons (len_cons len0)))))))
 (lb_cons (ls_set (i := 4) hN rfl (.inr rfl) (le_bin o_sub (le_callB (c_max rfl) (by rfl) G.b_max bt_max (la_cons (le_lc rfl hN (li_seq (le_v (pv 3))) (blkOk_by (own := [("length", 9), ("pair", 10)]) (by rfl)) (fun s H C cl fp => (lg_t rfl (lgs_cons (lg_n (pg_name (i := 9) hN rfl (.inl rfl))) (lgs_cons (lg_n (pg_name (i := 10) hN rfl (.inl rfl))) lgs_nil)))) (fun s H C cl fp => lx_nil) (fun s H C cl fp => (show LE _ _ b_least_more_c3 from (le_v (pv 9))))) la_nil)) (le_ix (le_v (pv 1)) le_int)))
 (lb_cons (ls_setLc (i := 5) rfl hN rfl rfl rfl (li_enumA (by rfl) G.b_enumerate (la_cons (le_v (pv 3)) la_nil)) (blkOk_by (own := [("begin", 8), ("row", 11)]) (by rfl)) (fun s H C cl fp => (lg_t rfl (lgs_cons (lg_n (pg_name (i := 8) hN rfl (.inl rfl))) (lgs_cons (lg_n (pg_name (i := 11) hN rfl (.inl rfl))) lgs_nil)))) (fun s H C cl fp => (show LX _ _ b_least_more_i1 from (lx_one (lt_cmp (o_eq hr.units) (le_bin o_sub (le_ix (le_v (pv 11)) le_int) (le_ix (le_v (pv 1)) le_int)) (le_v (pv 4)) (by rfl))))) (fun s H C cl fp => (show LE _ _ b_least_more_c2 from (le_v (pv 8)))))
 (lb_cons (ls_ret (le_tup (la_cons (le_glob_strE (by rfl) G.g_MORE) (la_cons (le_v (pv 4)) (la_cons (le_callTy (c_tuple) (by rfl) G.b_tuple bt_tuple (la_cons (le_lc rfl hN (li_seq (le_v (pv 3))) (blkOk_by (own := [("length", 9), ("pair", 10)]) (by rfl)) (fun s H C cl fp => (lg_t rfl (lgs_cons (lg_n (pg_name (i := 9) hN rfl (.inl rfl))) (lgs_cons (lg_n (pg_name (i := 10) hN rfl (.inl rfl))) lgs_nil)))) (fun s H C cl fp => lx_nil) (fun s H C cl fp => (show LE _ _ b_least_more_c1 from (le_v (pv 10))))) la_nil)) (la_cons (le_if (lt_cmp o_gt (le_v (pv 4)) le_int (by rfl)) (le_ix (le_v (pv 5)) le_int) le_non) la_nil))))))
 lb_nil)))))))
/-! #### does_prove -/
abbrev s_does_prove : Stmt := topS 29
theorem sc_does_prove : FnScope ["told", "bound", "begin", "length", "value", "first", "last", "ticks", "one", "tick", "later"] ["told", "bound", "begin", "length", "value"] (defScope s_does_prove) := ⟨rfl, rfl, rfl, by decide +kernel, rfl, by decide +kernel, by decide +kernel⟩
theorem ok_does_prove {f : Addr} {fd : FuncData} (F : Fun K "does_prove" "does_prove" s_does_prove f fd) (hm : mg "does_prove" = some (.ref f)) (G : Glo mg) (C_is_integer : CalG P w K mg base 1 "is_integer" ["value"] (spP 1 m_is_integer)) (C_seen : CalG P w K mg base 1 "seen" ["told", "begin", "end"] (spP 3 m_seen)) : CalG P w K mg base 2 "does_prove" ["told", "bound", "begin", "length", "value"] (spP 5 m_does_prove) :=
  .mk2 F hm (F.binds fun _ _ _ _ _ _ us hl => match us, hl with | [_, _, _, _, _], _ => rfl) (fun_P (k := 1) F sc_does_prove (by decide) fun cdv A outer s H hgd hr => by
    have hN := sc_does_prove.nd
    exact (lb_cons (ls_if (PW.pt (lw_or (lt_not (lt_val (le_isi (by rfl) G.b_isinstance (by rfl) G.b_tuple bt_tuple (le_v (pv 4))))) (lw_or (lt_cmp (o_ne hr.units) (le_callB (c_len) (by rfl) G.b_len bt_len (la_cons (le_v (pv 4)) la_nil)) le_int (by rfl)) (lw_or1 (lt_not (lt_val (le_callB (c_all rfl) (by rfl) G.b_all bt_all (la_cons (le_lc rfl hN (li_seq (le_v (pv 4))) (blkOk_by (own := [("one", 8)]) (by rfl)) (fun s H C cl fp => (lg_n (pg_name (i := 8) hN rfl (.inl rfl)))) (fun s H C cl fp => lx_nil) (fun s H C cl fp => (show LE _ _ b_does_prove_c2 from (le_callC C_is_integer hgd hr (by decide) (by rfl) (la_cons (le_v (pv 8)) la_nil) (len_cons len0))))) la_nil)))))))) (lb_cons (ls_ret le_bl)
 lb_nil) lb_nil)
 (lb_cons (ls_asg (le_v (pv 4)) (lg_t rfl (lgs_cons (lg_n (pg_name (i := 5) hN rfl (.inl rfl))) (lgs_cons (lg_n (pg_name (i := 6) hN rfl (.inl rfl))) lgs_nil))))
 (lb_cons (ls_if (PW.pt (lw_or (lt_not (lt_chain3 o_le o_le o_lt (le_v (pv 2)) (le_v (pv 5)) (le_v (pv 6)) (le_bin o_add (le_v (pv 2)) (le_v (pv 3))))) (lw_or1 (lt_cmp o_lt (le_bin o_sub (le_v (pv 6)) (le_v (pv 5))) (le_ix (le_v (pv 1)) le_int) (by rfl))))) (lb_cons (ls_ret le_bl)
 lb_nil) lb_nil)
 (lb_cons (ls_if (PW.pt (lw_or (lt_cmp o_notIn (le_bin o_mod (le_v (pv 5)) (le_ix (le_v (pv 0)) le_int)) (le_ix (le_v (pv 0)) le_int) (by rfl)) (lw_or1 (lt_cmp o_notIn (le_bin o_mod (le_v (pv 6)) (le_ix (le_v (pv 0)) le_int)) (le_ix (le_v (pv 0)) le_int) (by rfl))))) (lb_cons (ls_ret le_bl)
 lb_nil) lb_nil)
 (lb_cons (ls_set (i := 7) hN rfl (.inl rfl) (le_callC C_seen hgd hr (by decide) (by rfl) (la_cons (le_v (pv 0)) (la_cons (le_v (pv 5)) (la_cons (le_bin o_add (le_callB (c_min rfl) (by rfl) G.b_min bt_min (la_cons (le_v (pv 6)) (la_cons (le_bin o_add (le_v (pv 5)) (le_ix (le_v (pv 0)) le_int)) la_nil))) le_int) la_nil))) (len_cons (len_cons (len_cons len0)))))
 (lb_cons (ls_ret (le_callB (c_all rfl) (by rfl) G.b_all bt_all (la_cons (le_lc rfl hN (li_zip (by rfl) G.b_zip (la_cons (le_v (pv 7)) (la_cons (le_slice (le_v (pv 7)) (lo_some le_int) lo_none) la_nil))) (blkOk_by (own := [("tick", 9), ("later", 10)]) (by rfl)) (fun s H C cl fp => (lg_t rfl (lgs_cons (lg_n (pg_name (i := 9) hN rfl (.inl rfl))) (lgs_cons (lg_n (pg_name (i := 10) hN rfl (.inl rfl))) lgs_nil)))) (fun s H C cl fp => lx_nil) (fun s H C cl fp => (show LE _ _ b_does_prove_c1 from (le_cmp o_le (le_bin o_sub (le_v (pv 10)) (le_v (pv 9))) (le_ix (le_v (pv 1)) le_int) (by rfl))))) la_nil)))
 lb_nil)))))))
/-! #### shows_least_more -/
abbrev s_shows_least_more : Stmt := topS 30
theorem sc_shows_least_more : FnScope ["tour", "bound", "value", "far", "word", "number", "pairs", "begin", "length", "look", "gap", "at", "pair"] ["tour", "bound", "value"] (defScope s_shows_least_more) := ⟨rfl, rfl, rfl, by decide +kernel, rfl, by decide +kernel, by decide +kernel⟩
theorem ok_shows_least_more {f : Addr} {fd : FuncData} (F : Fun K "shows_least_more" "shows_least_more" s_shows_least_more f fd) (hm : mg "shows_least_more" = some (.ref f)) (G : Glo mg) (C_check_round : CalG P w K mg base 4 "check_round" ["value", "bound"] (spP 2 m_check_round)) (C_does_prove : CalG P w K mg base 2 "does_prove" ["told", "bound", "begin", "length", "value"] (spP 5 m_does_prove)) (C_gaps : CalG P w K mg base 1 "gaps" ["told"] (spP 1 m_gaps)) (C_is_between : CalG P w K mg base 2 "is_between" ["value", "low", "high"] (spP 3 m_is_between)) (C_is_integer : CalG P w K mg base 1 "is_integer" ["value"] (spP 1 m_is_integer)) (C_is_never : CalG P w K mg base 2 "is_never" ["told", "bound"] (spP 2 m_is_never)) (C_proof : CalG P w K mg base 1 "proof" ["ticks", "bound"] (spP 2 m_proof)) (C_seen : CalG P w K mg base 1 "seen" ["told", "begin", "end"] (spP 3 m_seen)) : CalG P w K mg base 5 "shows_least_more" ["tour", "bound", "value"] (spP 3 m_shows_least_more) :=
  .mk2 F hm (F.binds fun _ _ _ _ _ _ us hl => match us, hl with | [_, _, _], _ => rfl) (fun_P (k := 4) F sc_shows_least_more (by decide) fun cdv A outer s H hgd hr => by
    have hN := sc_shows_least_more.nd
    exact (lb_cons (ls_expr (le_callC C_check_round hgd hr (by decide) (by rfl) (la_cons (le_v (pv 0)) (la_cons (le_v (pv 1)) la_nil)) (len_cons (len_cons len0))))
 (lb_cons (ls_if (PW.pt (lw_or (lt_not (lt_val (le_isi (by rfl) G.b_isinstance (by rfl) G.b_tuple bt_tuple (le_v (pv 2))))) (lw_or (lt_cmp o_notIn (le_callB (c_len) (by rfl) G.b_len bt_len (la_cons (le_v (pv 2)) la_nil)) (le_tup (la_cons le_int (la_cons le_int la_nil))) (by rfl)) (lw_or1 (lt_not (lt_val (le_isi (by rfl) G.b_isinstance (by rfl) G.b_str bt_str (le_ix (le_v (pv 2)) le_int)))))))) (lb_cons (ls_ret le_bl)
 lb_nil) lb_nil)
 (lb_cons (ls_if (lt_cmp (o_eq hr.units) (le_callB (c_len) (by rfl) G.b_len bt_len (la_cons (le_v (pv 2)) la_nil)) le_int (by rfl)) (lb_cons (ls_setLc (i := 3) rfl hN rfl rfl rfl (li_zip (by rfl) G.b_zip (la_cons (le_ix (le_v (pv 0)) le_int) (la_cons (le_callC C_gaps hgd hr (by decide) (by rfl) (la_cons (le_v (pv 0)) la_nil) (len_cons len0)) la_nil))) (blkOk_by (own := [("look", 9), ("gap", 10)]) (by rfl)) (fun s H C cl fp => (lg_t rfl (lgs_cons (lg_n (pg_name (i := 9) hN rfl (.inl rfl))) (lgs_cons (lg_n (pg_name (i := 10) hN rfl (.inl rfl))) lgs_nil)))) (fun s H C cl fp => (show LX _ _ b_shows_least_more_i1 from (lx_one (lt_cmp o_gt (le_v (pv 10)) (le_ix (le_v (pv 1)) le_int) (by rfl))))) (fun s H C cl fp => (show LE _ _ b_shows_least_more_c2 from (le_v (pv 9)))))
 (lb_cons (ls_ret (le_and (le_cmp (o_eq hr.units) (le_ix (le_v (pv 2)) le_int) (le_glob_strE (by rfl) G.g_NEVER) (by rfl)) (le_and (le_callC C_is_integer hgd hr (by decide) (by rfl) (la_cons (le_ix (le_v (pv 2)) le_int) la_nil) (len_cons len0)) (le_and (le_cmp o_in (le_ix (le_v (pv 2)) le_int) (le_v (pv 3)) (by rfl)) (le_one (le_callC C_is_never hgd hr (by decide) (by rfl) (la_cons (le_v (pv 0)) (la_cons (le_v (pv 1)) la_nil)) (len_cons (len_cons len0))))))))
 lb_nil)) lb_nil)
 (lb_cons (ls_asg (le_v (pv 2)) (lg_t rfl (lgs_cons (lg_n (pg_name (i := 4) hN rfl (.inl rfl))) (lgs_cons (lg_n (pg_name (i := 5) hN rfl (.inr rfl))) (lgs_cons (lg_n (pg_name (i := 6) hN rfl (.inl rfl))) (lgs_cons (lg_n (pg_name (i := 7) hN rfl (.inl rfl))) lgs_nil))))))
 (lb_cons (ls_if (PW.pt (lw_or (lt_cmp (o_ne hr.units) (le_v (pv 4)) (le_glob_strE (by rfl) G.g_MORE) (by rfl)) (lw_or (lt_not (lt_val (le_callC C_is_integer hgd hr (by decide) (by rfl) (la_cons (le_v (pv 5)) la_nil) (len_cons len0)))) (lw_or1 (lt_cmp o_lt (le_v (pv 5)) le_int (by rfl)))))) (lb_cons (ls_ret le_bl)
 lb_nil) lb_nil)
 (lb_cons (ls_if (PW.pt (lw_or (lt_not (lt_val (le_isi (by rfl) G.b_isinstance (by rfl) G.b_tuple bt_tuple (le_v (pv 6))))) (lw_or1 (lt_cmp (o_ne hr.units) (le_callB (c_len) (by rfl) G.b_len bt_len (la_cons (le_v (pv 6)) la_nil)) (le_ix (le_v (pv 0)) le_int) (by rfl))))) (lb_cons (ls_ret le_bl)
 lb_nil) lb_nil)
 (lb_cons (ls_if (lt_not (lt_val (le_callB (c_all rfl) (by rfl) G.b_all bt_all (la_cons (le_lc rfl hN (li_enumA (by rfl) G.b_enumerate (la_cons (le_v (pv 6)) la_nil)) (blkOk_by (own := [("at", 11), ("pair", 12)]) (by rfl)) (fun s H C cl fp => (lg_t rfl (lgs_cons (lg_n (pg_name (i := 11) hN rfl (.inl rfl))) (lgs_cons (lg_n (pg_name (i := 12) hN rfl (.inl rfl))) lgs_nil)))) (fun s H C cl fp => lx_nil) (fun s H C cl fp => (show LE _ _ b_shows_least_more_c1 from (le_callC C_does_prove hgd hr (by decide) (by rfl) (la_cons (le_v (pv 0)) (la_cons (le_v (pv 1)) (la_cons (le_v (pv 11)) (la_cons (le_bin o_add (le_ix (le_v (pv 1)) le_int) (le_v (pv 5))) (la_cons (le_v (pv 12)) la_nil))))) (len_cons (len_cons (len_cons (len_cons (len_cons len0))))))))) la_nil)))) (lb_cons (ls_ret le_bl)
 lb_nil) lb_nil)
 (lb_cons (ls_if (lt_cmp (o_eq hr.units) (le_v (pv 5)) le_int (by rfl)) (lb_cons (ls_ret (le_cmp o_is (le_v (pv 7)) le_non (by rfl)))
 lb_nil) lb_nil)
 (lb_cons (ls_if (lt_not (lt_val (le_callC C_is_between hgd hr (by decide) (by rfl) (la_cons (le_v (pv 7)) (la_cons le_int (la_cons (le_bin o_sub (le_ix (le_v (pv 0)) le_int) le_int) la_nil))) (len_cons (len_cons (len_cons len0)))))) (lb_cons (ls_ret le_bl)
 lb_nil) lb_nil)
 (lb_cons (ls_set (i := 8) hN rfl (.inl rfl) (le_callB (c_min rfl) (by rfl) G.b_min bt_min (la_cons (le_bin o_sub (le_bin o_add (le_ix (le_v (pv 1)) le_int) (le_v (pv 5))) le_int) (la_cons (le_bin o_add (le_ix (le_v (pv 1)) le_int) (le_bin o_mulT le_int (le_ix (le_v (pv 0)) le_int))) la_nil))))
 (lb_cons (ls_ret (le_cmp o_is (le_callC C_proof hgd hr (by decide) (by rfl) (la_cons (le_callC C_seen hgd hr (by decide) (by rfl) (la_cons (le_v (pv 0)) (la_cons (le_v (pv 7)) (la_cons (le_bin o_add (le_v (pv 7)) (le_v (pv 8))) la_nil))) (len_cons (len_cons (len_cons len0)))) (la_cons (le_v (pv 1)) la_nil)) (len_cons (len_cons len0))) le_non (by rfl)))
 lb_nil))))))))))))
/-! #### idle -/
abbrev s_idle : Stmt := topS 31
theorem sc_idle : FnScope ["tour", "bound", "period", "looks", "number", "found", "look", "other"] ["tour", "bound"] (defScope s_idle) := ⟨rfl, rfl, rfl, by decide +kernel, rfl, by decide +kernel, by decide +kernel⟩
theorem ok_idle {f : Addr} {fd : FuncData} (F : Fun K "idle" "idle" s_idle f fd) (hm : mg "idle" = some (.ref f)) (G : Glo mg) (C_check_round : CalG P w K mg base 4 "check_round" ["value", "bound"] (spP 2 m_check_round)) (C_number_of : CalG P w K mg base 3 "number_of" ["told", "bound"] (spP 2 m_number_of)) : CalG P w K mg base 5 "idle" ["tour", "bound"] (spP 2 m_idle) :=
  .mk2 F hm (F.binds fun _ _ _ _ _ _ us hl => match us, hl with | [_, _], _ => rfl) (fun_P (k := 4) F sc_idle (by decide) fun cdv A outer s H hgd hr => by
    have hN := sc_idle.nd
    exact (lb_cons (ls_expr (le_callC C_check_round hgd hr (by decide) (by rfl) (la_cons (le_v (pv 0)) (la_cons (le_v (pv 1)) la_nil)) (len_cons (len_cons len0))))
 (lb_cons (ls_asg (le_v (pv 0)) (lg_t rfl (lgs_cons (lg_n (pg_name (i := 2) hN rfl (.inl rfl))) (lgs_cons (lg_n (pg_name (i := 3) hN rfl (.inl rfl))) lgs_nil))))
 (lb_cons (ls_if (lt_cmp (o_eq hr.units) (le_callB (c_len) (by rfl) G.b_len bt_len (la_cons (le_v (pv 3)) la_nil)) le_int (by rfl)) (lb_cons (ls_ret (le_tup la_nil))
 lb_nil) lb_nil)
 (lb_cons (ls_par2 (i := 4) (j := 5) rfl hN rfl rfl (by decide) rfl rfl (lr_dat (le_callC C_number_of hgd hr (by decide) (by rfl) (la_cons (le_v (pv 0)) (la_cons (le_v (pv 1)) la_nil)) (len_cons (len_cons len0))) (lr_new la_nil lr_nil)) (rlen_dat (rlen_new rlen_nil)) rfl)
 (lb_cons (ls_for PassesOwn.never rfl (li_seq (le_v (pv 3))) (lg_n (pg_name (i := 6) hN rfl (.inr rfl))) (show LB _ _ b_idle_l1 from (lb_cons (ls_if (lt_cmp (o_eq hr.units) (le_callC C_number_of hgd hr (by decide) (by rfl) (la_cons (le_tup (la_cons (le_v (pv 2)) (la_cons (le_callTy (c_tuple) (by rfl) G.b_tuple bt_tuple (la_cons (le_lc rfl hN (li_seq (le_v (pv 3))) (blkOk_by (own := [("other", 7)]) (by rfl)) (fun s H C cl fp => (lg_n (pg_name (i := 7) hN rfl (.inl rfl)))) (fun s H C cl fp => (show LX _ _ b_idle_i1 from (lx_one (lt_cmp (o_ne hr.units) (le_v (pv 7)) (le_v (pv 6)) (by rfl))))) (fun s H C cl fp => (show LE _ _ b_idle_c1 from (le_v (pv 7))))) la_nil)) la_nil))) (la_cons (le_v (pv 1)) la_nil)) (len_cons (len_cons len0))) (le_v (pv 4)) (by rfl)) (lb_cons (ls_append (pv 5) (le_v (pv 6)))
 lb_nil) lb_nil)
 lb_nil)))
 (lb_cons (ls_ret (le_callTy (c_tuple) (by rfl) G.b_tuple bt_tuple (la_cons (le_v (pv 5)) la_nil)))
 lb_nil)))))))
/-! #### one_more -/
abbrev s_one_more : Stmt := topS 32
theorem sc_one_more : FnScope ["tour", "bound", "period", "looks", "rows", "look", "some", "least", "number"] ["tour", "bound"] (defScope s_one_more) := ⟨rfl, rfl, rfl, by decide +kernel, rfl, by decide +kernel, by decide +kernel⟩
theorem ok_one_more {f : Addr} {fd : FuncData} (F : Fun K "one_more" "one_more" s_one_more f fd) (hm : mg "one_more" = some (.ref f)) (G : Glo mg) (C_check_round : CalG P w K mg base 4 "check_round" ["value", "bound"] (spP 2 m_check_round)) (C_number_of : CalG P w K mg base 3 "number_of" ["told", "bound"] (spP 2 m_number_of)) : CalG P w K mg base 5 "one_more" ["tour", "bound"] (spP 2 m_one_more) :=
  .mk2 F hm (F.binds fun _ _ _ _ _ _ us hl => match us, hl with | [_, _], _ => rfl) (fun_P (k := 4) F sc_one_more (by decide) fun cdv A outer s H hgd hr => by
    have hN := sc_one_more.nd
    exact (lb_cons (ls_expr (le_callC C_check_round hgd hr (by decide) (by rfl) (la_cons (le_v (pv 0)) (la_cons (le_v (pv 1)) la_nil)) (len_cons (len_cons len0))))
 (lb_cons (ls_asg (le_v (pv 0)) (lg_t rfl (lgs_cons (lg_n (pg_name (i := 2) hN rfl (.inl rfl))) (lgs_cons (lg_n (pg_name (i := 3) hN rfl (.inl rfl))) lgs_nil))))
 (lb_cons (ls_own (i := 4) hN rfl (.inl rfl) la_nil)
 (lb_cons (ls_for PassesOwn.never rfl (li_rng1 (by rfl) G.b_range (la_cons (le_v (pv 2)) la_nil)) (lg_n (pg_name (i := 5) hN rfl (.inl rfl))) (show LB _ _ b_one_more_l1 from (lb_cons (ls_if (lt_cmp o_notIn (le_v (pv 5)) (le_v (pv 3)) (by rfl)) (lb_cons (ls_append (pv 4) (le_tup (la_cons (le_callC C_number_of hgd hr (by decide) (by rfl) (la_cons (le_tup (la_cons (le_v (pv 2)) (la_cons (le_callTy (c_tuple) (by rfl) G.b_tuple bt_tuple (la_cons (le_callB (c_sortA) (by rfl) G.b_sorted bt_sorted (la_cons (le_bin o_add (le_v (pv 3)) (le_tup (la_cons (le_v (pv 5)) la_nil))) la_nil)) la_nil)) la_nil))) (la_cons (le_v (pv 1)) la_nil)) (len_cons (len_cons len0))) (la_cons (le_v (pv 5)) la_nil))))
 lb_nil) lb_nil)
 lb_nil)))
 (lb_cons (ls_setLc (i := 6) rfl hN rfl rfl rfl (li_seq (le_v (pv 4))) (blkOk_by (own := [("number", 8), ("look", 5)]) (by rfl)) (fun s H C cl fp => (lg_t rfl (lgs_cons (lg_n (pg_name (i := 8) hN rfl (.inl rfl))) (lgs_cons (lg_n (pg_name (i := 5) hN rfl (.inl rfl))) lgs_nil)))) (fun s H C cl fp => (show LX _ _ b_one_more_i2 from (lx_one (lt_cmp o_isNot (le_v (pv 8)) le_non (by rfl))))) (fun s H C cl fp => (show LE _ _ b_one_more_c2 from (le_v (pv 8)))))
 (lb_cons (ls_set (i := 7) hN rfl (.inr rfl) (le_if (lt_cmp (o_ne hr.units) (le_v (pv 6)) (le_lst la_nil) (by rfl)) (le_callB (c_min rfl) (by rfl) G.b_min bt_min (la_cons (le_v (pv 6)) la_nil)) le_non))
 (lb_cons (ls_ret (le_tup (la_cons (le_v (pv 7)) (la_cons (le_callTy (c_tuple) (by rfl) G.b_tuple bt_tuple (la_cons (le_lc rfl hN (li_seq (le_v (pv 4))) (blkOk_by (own := [("number", 8), ("look", 5)]) (by rfl)) (fun s H C cl fp => (lg_t rfl (lgs_cons (lg_n (pg_name (i := 8) hN rfl (.inl rfl))) (lgs_cons (lg_n (pg_name (i := 5) hN rfl (.inl rfl))) lgs_nil)))) (fun s H C cl fp => (show LX _ _ b_one_more_i1 from (lx_one (lt_cmp (o_eq hr.units) (le_v (pv 8)) (le_v (pv 7)) (by rfl))))) (fun s H C cl fp => (show LE _ _ b_one_more_c1 from (le_v (pv 5))))) la_nil)) la_nil))))
 lb_nil))))))))
/-! #### equal -/
abbrev s_equal : Stmt := topS 33
theorem sc_equal : FnScope ["period", "gap"] ["period", "gap"] (defScope s_equal) := ⟨rfl, rfl, rfl, by decide +kernel, rfl, by decide +kernel, by decide +kernel⟩
theorem ok_equal {f : Addr} {fd : FuncData} (F : Fun K "equal" "equal" s_equal f fd) (hm : mg "equal" = some (.ref f)) (G : Glo mg) (C_is_between : CalG P w K mg base 2 "is_between" ["value", "low", "high"] (spP 3 m_is_between)) : CalG P w K mg base 3 "equal" ["period", "gap"] (spP 2 m_equal) :=
  .mk2 F hm (F.binds fun _ _ _ _ _ _ us hl => match us, hl with | [_, _], _ => rfl) (fun_P (k := 2) F sc_equal (by decide) fun cdv A outer s H hgd hr => by
    have hN := sc_equal.nd
    exact (lb_cons (ls_if (lt_not (lt_val (le_callC C_is_between hgd hr (by decide) (by rfl) (la_cons (le_v (pv 0)) (la_cons le_int (la_cons (le_glob_intE (by rfl) G.g_MOST_PERIOD) la_nil))) (len_cons (len_cons (len_cons len0)))))) lb_no lb_nil)
 (lb_cons (ls_if (PW.pt (lw_or (lt_not (lt_val (le_callC C_is_between hgd hr (by decide) (by rfl) (la_cons (le_v (pv 1)) (la_cons le_int (la_cons (le_v (pv 0)) la_nil))) (len_cons (len_cons (len_cons len0)))))) (lw_or1 (lt_cmp (o_ne hr.units) (le_bin o_mod (le_v (pv 0)) (le_v (pv 1))) le_int (by rfl))))) lb_no lb_nil)
 (lb_cons (ls_ret (le_tup (la_cons (le_v (pv 0)) (la_cons (le_tupR3 rfl (by rfl) G.b_tuple (by rfl) G.b_range le_int (le_v (pv 0)) (le_v (pv 1))) la_nil))))
 lb_nil))))
/-! #### _law_take -/
abbrev s__law_take : Stmt := topS 36
theorem sc__law_take : FnScope ["pot", "upto", "digit", "prime", "blend"] ["pot", "upto"] (defScope s__law_take) := ⟨rfl, rfl, rfl, by decide +kernel, rfl, by decide +kernel, by decide +kernel⟩
theorem ok__law_take {f : Addr} {fd : FuncData} (F : Fun K "_law_take" "_law_take" s__law_take f fd) (hm : mg "_law_take" = some (.ref f)) (G : Glo mg)  : CalG P w K mg base 1 "_law_take" ["pot", "upto"] (spQ 2 m__law_take) :=
  .mk2 F hm (F.binds fun _ _ _ _ _ _ us hl => match us, hl with | [_, _], _ => rfl) (fun_Q (k := 0) F sc__law_take (by decide) fun cdv A outer s H hgd hr => by
    have hN := sc__law_take.nd
    exact (lb_cons (ls_if (lt_potFull hr.units (pv 0)) (lb_cons (ls_set (i := 2) hN rfl (.inl rfl) (le_bin o_mod (le_callTy (c_int) (by rfl) G.b_int bt_int (la_cons (le_pot00 (pv 0)) la_nil)) (le_v (pv 1))))
 (lb_cons (ls_potG0 (pv 0) (le_bin o_div (le_pot00 (pv 0)) (le_v (pv 1))))
 (lb_cons (ls_if (lt_cmp (o_eq hr.units) (le_pot00 (pv 0)) le_int (by rfl)) (lb_cons (ls_potCut (pv 0) (pv 0))
 lb_nil) lb_nil)
 (lb_cons (ls_ret (le_v (pv 2)))
 lb_nil)))) lb_nil)
 (lb_cons (ls_potN (pv 0) (le_bin o_add (le_pot2 (pv 0)) le_int))
 (lb_cons (ls_set (i := 3) hN rfl (.inl rfl) (le_ix (le_lst (la_cons le_int (la_cons le_int (la_cons le_int (la_cons le_int (la_cons le_int la_nil)))))) (le_bin o_mod (le_callTy (c_int) (by rfl) G.b_int bt_int (la_cons (le_pot2 (pv 0)) la_nil)) le_int)))
 (lb_cons (ls_set (i := 4) hN rfl (.inl rfl) (le_bin o_mod (le_callTy (c_int) (by rfl) G.b_int bt_int (la_cons (le_bin o_pow (le_callTy (c_int) (by rfl) G.b_int bt_int (la_cons (le_bin o_add (le_bin o_add (le_pot1 (pv 0)) (le_bin o_mulT (le_bin o_mulT le_int (le_pot2 (pv 0))) (le_pot2 (pv 0)))) le_int) la_nil)) le_int) la_nil)) (le_v (pv 3))))
 (lb_cons (ls_set (i := 4) hN rfl (.inl rfl) (le_bin o_mod (le_callTy (c_int) (by rfl) G.b_int bt_int (la_cons (le_bin o_mulT (le_v (pv 4)) (le_bin o_add (le_bin o_mod (le_callTy (c_int) (by rfl) G.b_int bt_int (la_cons (le_v (pv 4)) la_nil)) le_int) (le_bin o_mulT le_int (le_pot2 (pv 0))))) la_nil)) le_int))
 (lb_cons (ls_ret (le_bin o_mod (le_callTy (c_int) (by rfl) G.b_int bt_int (la_cons (le_bin o_div (le_v (pv 4)) le_int) la_nil)) (le_v (pv 1))))
 lb_nil)))))))
/-! #### _law_of -/
abbrev s__law_of : Stmt := topS 37
theorem sc__law_of : FnScope ["pot", "some"] ["pot", "some"] (defScope s__law_of) := ⟨rfl, rfl, rfl, by decide +kernel, rfl, by decide +kernel, by decide +kernel⟩
theorem ok__law_of {f : Addr} {fd : FuncData} (F : Fun K "_law_of" "_law_of" s__law_of f fd) (hm : mg "_law_of" = some (.ref f)) (G : Glo mg) (C__law_take : CalG P w K mg base 1 "_law_take" ["pot", "upto"] (spQ 2 m__law_take)) : CalG P w K mg base 2 "_law_of" ["pot", "some"] (spQ 2 m__law_of) :=
  .mk2 F hm (F.binds fun _ _ _ _ _ _ us hl => match us, hl with | [_, _], _ => rfl) (fun_Q (k := 1) F sc__law_of (by decide) fun cdv A outer s H hgd hr => by
    have hN := sc__law_of.nd
    exact (lb_cons (ls_ret (le_ix (le_v (pv 1)) (le_callQC C__law_take hgd hr (by decide) (by rfl) (pv 0) (la_cons (le_callB (c_len) (by rfl) G.b_len bt_len (la_cons (le_v (pv 1)) la_nil)) la_nil) (len1 (len_cons len0)))))
 lb_nil))
/-! #### _law_some -/
abbrev s__law_some : Stmt := topS 38
theorem sc__law_some : FnScope ["pot", "some", "many", "left", "found", "lap"] ["pot", "some", "many"] (defScope s__law_some) := ⟨rfl, rfl, rfl, by decide +kernel, rfl, by decide +kernel, by decide +kernel⟩
theorem ok__law_some {f : Addr} {fd : FuncData} (F : Fun K "_law_some" "_law_some" s__law_some f fd) (hm : mg "_law_some" = some (.ref f)) (G : Glo mg) (C__law_take : CalG P w K mg base 1 "_law_take" ["pot", "upto"] (spQ 2 m__law_take)) : CalG P w K mg base 2 "_law_some" ["pot", "some", "many"] (spQ 3 m__law_some) :=
  .mk2 F hm (F.binds fun _ _ _ _ _ _ us hl => match us, hl with | [_, _, _], _ => rfl) (fun_Q (k := 1) F sc__law_some (by decide) fun cdv A outer s H hgd hr => by
    have hN := sc__law_some.nd
    exact (lb_cons (ls_par2 (i := 3) (j := 4) rfl hN rfl rfl (by decide) rfl rfl (lr_newN (ln_list (by rfl) G.b_list (le_v (pv 1))) (lr_new la_nil lr_nil)) (rlen_newN (rlen_new rlen_nil)) rfl)
 (lb_cons (ls_for PassesOwn.never rfl (li_rng1 (by rfl) G.b_range (la_cons (le_v (pv 2)) la_nil)) (lg_n (pg_name (i := 5) hN rfl (.inl rfl))) (show LB _ _ b__law_some_l1 from (lb_cons (ls_append (pv 4) (le_pop (pv 3) (le_callQC C__law_take hgd hr (by decide) (by rfl) (pv 0) (la_cons (le_lenO (pv 3) (by rfl) G.b_len bt_len) la_nil) (len1 (len_cons len0)))))
 lb_nil)))
 (lb_cons (ls_ret (le_v (pv 4)))
 lb_nil))))
/-! #### _law_number -/
abbrev s__law_number : Stmt := topS 39
theorem sc__law_number : FnScope ["told"] ["told"] (defScope s__law_number) := ⟨rfl, rfl, rfl, by decide +kernel, rfl, by decide +kernel, by decide +kernel⟩
theorem ok__law_number {f : Addr} {fd : FuncData} (F : Fun K "_law_number" "_law_number" s__law_number f fd) (hm : mg "_law_number" = some (.ref f)) (G : Glo mg)  : CalG P w K mg base 1 "_law_number" ["told"] (spP 1 m__law_number) :=
  .mk2 F hm (F.binds fun _ _ _ _ _ _ us hl => match us, hl with | [_], _ => rfl) (fun_P (k := 0) F sc__law_number (by decide) fun cdv A outer s H hgd hr => by
    have hN := sc__law_number.nd
    exact (lb_cons (ls_ret (le_if (lt_cmp (o_eq hr.units) (le_ix (le_v (pv 0)) le_int) le_str (by rfl)) le_non (le_ix (le_v (pv 0)) le_int)))
 lb_nil))
/-! #### _law_turned -/
abbrev s__law_turned : Stmt := topS 40
theorem sc__law_turned : FnScope ["walk", "more", "period", "looks", "look"] ["walk", "more"] (defScope s__law_turned) := ⟨rfl, rfl, rfl, by decide +kernel, rfl, by decide +kernel, by decide +kernel⟩
theorem ok__law_turned {f : Addr} {fd : FuncData} (F : Fun K "_law_turned" "_law_turned" s__law_turned f fd) (hm : mg "_law_turned" = some (.ref f)) (G : Glo mg)  : CalG P w K mg base 1 "_law_turned" ["walk", "more"] (spP 2 m__law_turned) :=
  .mk2 F hm (F.binds fun _ _ _ _ _ _ us hl => match us, hl with | [_, _], _ => rfl) (fun_P (k := 0) F sc__law_turned (by decide) fun cdv A outer s H hgd hr => by
    have hN := sc__law_turned.nd
    exact (lb_cons (ls_asg (le_v (pv 0)) (lg_t rfl (lgs_cons (lg_n (pg_name (i := 2) hN rfl (.inr rfl))) (lgs_cons (lg_n (pg_name (i := 3) hN rfl (.inl rfl))) lgs_nil))))
 (lb_cons (ls_ret (le_tup (la_cons (le_v (pv 2)) (la_cons (le_callTy (c_tuple) (by rfl) G.b_tuple bt_tuple (la_cons (le_callB (c_sortA) (by rfl) G.b_sorted bt_sorted (la_cons (le_lc rfl hN (li_seq (le_v (pv 3))) (blkOk_by (own := [("look", 4)]) (by rfl)) (fun s H C cl fp => (lg_n (pg_name (i := 4) hN rfl (.inl rfl)))) (fun s H C cl fp => lx_nil) (fun s H C cl fp => (show LE _ _ b__law_turned_c1 from (le_bin o_mod (le_callTy (c_int) (by rfl) G.b_int bt_int (la_cons (le_bin o_add (le_v (pv 4)) (le_v (pv 1))) la_nil)) (le_v (pv 2)))))) la_nil)) la_nil)) la_nil))))
 lb_nil)))
/-! #### _law_mirrored -/
abbrev s__law_mirrored : Stmt := topS 41
theorem sc__law_mirrored : FnScope ["walk", "period", "looks", "look"] ["walk"] (defScope s__law_mirrored) := ⟨rfl, rfl, rfl, by decide +kernel, rfl, by decide +kernel, by decide +kernel⟩
theorem ok__law_mirrored {f : Addr} {fd : FuncData} (F : Fun K "_law_mirrored" "_law_mirrored" s__law_mirrored f fd) (hm : mg "_law_mirrored" = some (.ref f)) (G : Glo mg)  : CalG P w K mg base 1 "_law_mirrored" ["walk"] (spP 1 m__law_mirrored) :=
  .mk2 F hm (F.binds fun _ _ _ _ _ _ us hl => match us, hl with | [_], _ => rfl) (fun_P (k := 0) F sc__law_mirrored (by decide) fun cdv A outer s H hgd hr => by
    have hN := sc__law_mirrored.nd
    exact (lb_cons (ls_asg (le_v (pv 0)) (lg_t rfl (lgs_cons (lg_n (pg_name (i := 1) hN rfl (.inr rfl))) (lgs_cons (lg_n (pg_name (i := 2) hN rfl (.inl rfl))) lgs_nil))))
 (lb_cons (ls_ret (le_tup (la_cons (le_v (pv 1)) (la_cons (le_callTy (c_tuple) (by rfl) G.b_tuple bt_tuple (la_cons (le_lc rfl hN (li_seq (le_rev (le_v (pv 2)))) (blkOk_by (own := [("look", 3)]) (by rfl)) (fun s H C cl fp => (lg_n (pg_name (i := 3) hN rfl (.inl rfl)))) (fun s H C cl fp => lx_nil) (fun s H C cl fp => (show LE _ _ b__law_mirrored_c1 from (le_bin o_sub (le_bin o_sub (le_v (pv 1)) le_int) (le_v (pv 3)))))) la_nil)) la_nil))))
 lb_nil)))
/-! #### _law_is_twice_right -/
abbrev s__law_is_twice_right : Stmt := topS 42
theorem sc__law_is_twice_right : FnScope ["walk", "bound", "period", "looks", "twice", "told", "its", "pairs", "look", "first", "last"] ["walk", "bound"] (defScope s__law_is_twice_right) := ⟨rfl, rfl, rfl, by decide +kernel, rfl, by decide +kernel, by decide +kernel⟩
theorem ok__law_is_twice_right {f : Addr} {fd : FuncData} (F : Fun K "_law_is_twice_right" "_law_is_twice_right" s__law_is_twice_right f fd) (hm : mg "_law_is_twice_right" = some (.ref f)) (G : Glo mg) (C__law_number : CalG P w K mg base 1 "_law_number" ["told"] (spP 1 m__law_number)) (C_least_more : CalG P w K mg base 5 "least_more" ["tour", "bound"] (spP 2 m_least_more)) (C_shows_least_more : CalG P w K mg base 5 "shows_least_more" ["tour", "bound", "value"] (spP 3 m_shows_least_more)) : CalG P w K mg base 6 "_law_is_twice_right" ["walk", "bound"] (spP 2 m__law_is_twice_right) :=
  .mk2 F hm (F.binds fun _ _ _ _ _ _ us hl => match us, hl with | [_, _], _ => rfl) (fun_P (k := 5) F sc__law_is_twice_right (by decide) fun cdv A outer s H hgd hr => by
    have hN := sc__law_is_twice_right.nd
    exact (lb_cons (ls_asg (le_v (pv 0)) (lg_t rfl (lgs_cons (lg_n (pg_name (i := 2) hN rfl (.inr rfl))) (lgs_cons (lg_n (pg_name (i := 3) hN rfl (.inl rfl))) lgs_nil))))
 (lb_cons (ls_par2 (i := 4) (j := 5) rfl hN rfl rfl (by decide) rfl rfl (lr_dat (le_tup (la_cons (le_bin o_mulT le_int (le_v (pv 2))) (la_cons (le_bin o_add (le_v (pv 3)) (le_callTy (c_tuple) (by rfl) G.b_tuple bt_tuple (la_cons (le_lc rfl hN (li_seq (le_v (pv 3))) (blkOk_by (own := [("look", 8)]) (by rfl)) (fun s H C cl fp => (lg_n (pg_name (i := 8) hN rfl (.inl rfl)))) (fun s H C cl fp => lx_nil) (fun s H C cl fp => (show LE _ _ b__law_is_twice_right_c2 from (le_bin o_add (le_v (pv 8)) (le_v (pv 2)))))) la_nil))) la_nil))) (lr_dat (le_callC C_least_more hgd hr (by decide) (by rfl) (la_cons (le_v (pv 0)) (la_cons (le_v (pv 1)) la_nil)) (len_cons (len_cons len0))) lr_nil)) (rlen_dat (rlen_dat rlen_nil)) rfl)
 (lb_cons (ls_set (i := 6) hN rfl (.inl rfl) (le_callC C_least_more hgd hr (by decide) (by rfl) (la_cons (le_v (pv 4)) (la_cons (le_v (pv 1)) la_nil)) (len_cons (len_cons len0))))
 (lb_cons (ls_if (lt_cmp (o_ne hr.units) (le_callC C__law_number hgd hr (by decide) (by rfl) (la_cons (le_v (pv 5)) la_nil) (len_cons len0)) (le_callC C__law_number hgd hr (by decide) (by rfl) (la_cons (le_v (pv 6)) la_nil) (len_cons len0)) (by rfl)) (lb_cons (ls_ret le_bl)
 lb_nil) lb_nil)
 (lb_cons (ls_if (lt_cmp (o_eq hr.units) (le_ix (le_v (pv 5)) le_int) le_str (by rfl)) (lb_cons (ls_if (lt_cmp o_isNot (le_callC C_shows_least_more hgd hr (by decide) (by rfl) (la_cons (le_v (pv 4)) (la_cons (le_v (pv 1)) (la_cons (le_v (pv 5)) la_nil))) (len_cons (len_cons (len_cons len0)))) le_bl (by rfl)) (lb_cons (ls_ret le_bl)
 lb_nil) lb_nil)
 (lb_cons (ls_ret (le_cmp (o_eq hr.units) (le_callB (c_repr hgd hr.units) (by rfl) G.b_repr bt_repr (la_cons (le_callC C_shows_least_more hgd hr (by decide) (by rfl) (la_cons (le_v (pv 0)) (la_cons (le_v (pv 1)) (la_cons (le_v (pv 6)) la_nil))) (len_cons (len_cons (len_cons len0)))) la_nil)) (le_callB (c_repr hgd hr.units) (by rfl) G.b_repr bt_repr (la_cons (le_cmp o_lt (le_ix (le_v (pv 6)) le_int) (le_v (pv 2)) (by rfl)) la_nil)) (by rfl)))
 lb_nil)) lb_nil)
 (lb_cons (ls_set (i := 7) hN rfl (.inl rfl) (le_bin o_add (le_ix (le_v (pv 5)) le_int) (le_callTy (c_tuple) (by rfl) G.b_tuple bt_tuple (la_cons (le_lc rfl hN (li_seq (le_ix (le_v (pv 5)) le_int)) (blkOk_by (own := [("first", 9), ("last", 10)]) (by rfl)) (fun s H C cl fp => (lg_t rfl (lgs_cons (lg_n (pg_name (i := 9) hN rfl (.inl rfl))) (lgs_cons (lg_n (pg_name (i := 10) hN rfl (.inl rfl))) lgs_nil)))) (fun s H C cl fp => lx_nil) (fun s H C cl fp => (show LE _ _ b__law_is_twice_right_c1 from (le_tup (la_cons (le_bin o_add (le_v (pv 9)) (le_v (pv 2))) (la_cons (le_bin o_add (le_v (pv 10)) (le_v (pv 2))) la_nil)))))) la_nil))))
 (lb_cons (ls_if (lt_cmp o_isNot (le_callC C_shows_least_more hgd hr (by decide) (by rfl) (la_cons (le_v (pv 4)) (la_cons (le_v (pv 1)) (la_cons (le_tup (la_cons (le_ix (le_v (pv 5)) le_int) (la_cons (le_ix (le_v (pv 5)) le_int) (la_cons (le_v (pv 7)) (la_cons (le_ix (le_v (pv 5)) le_int) la_nil))))) la_nil))) (len_cons (len_cons (len_cons len0)))) le_bl (by rfl)) (lb_cons (ls_ret le_bl)
 lb_nil) lb_nil)
 (lb_cons (ls_if (lt_cmp o_isNot (le_callC C_shows_least_more hgd hr (by decide) (by rfl) (la_cons (le_v (pv 4)) (la_cons (le_v (pv 1)) (la_cons (le_tup (la_cons (le_ix (le_v (pv 5)) le_int) (la_cons (le_bin o_add (le_ix (le_v (pv 5)) le_int) le_int) (la_cons (le_v (pv 7)) (la_cons (le_ix (le_v (pv 5)) le_int) la_nil))))) la_nil))) (len_cons (len_cons (len_cons len0)))) le_bl (by rfl)) (lb_cons (ls_ret le_bl)
 lb_nil) lb_nil)
 (lb_cons (ls_ret (le_cmp o_is (le_callC C_shows_least_more hgd hr (by decide) (by rfl) (la_cons (le_v (pv 0)) (la_cons (le_v (pv 1)) (la_cons (le_tup (la_cons (le_ix (le_v (pv 6)) le_int) (la_cons (le_ix (le_v (pv 6)) le_int) (la_cons (le_slice (le_ix (le_v (pv 6)) le_int) lo_none (lo_some (le_v (pv 2)))) (la_cons (le_ix (le_v (pv 5)) le_int) la_nil))))) la_nil))) (len_cons (len_cons (len_cons len0)))) le_bl (by rfl)))
 lb_nil))))))))))
/-! #### _law_is_turned_right -/
abbrev s__law_is_turned_right : Stmt := topS 43
theorem sc__law_is_turned_right : FnScope ["pot", "walk", "bound", "period", "more", "later", "told", "due", "number", "ticks", "moved", "look", "begin", "length", "pair", "laps", "its"] ["pot", "walk", "bound"] (defScope s__law_is_turned_right) := ⟨rfl, rfl, rfl, by decide +kernel, rfl, by decide +kernel, by decide +kernel⟩
theorem ok__law_is_turned_right {f : Addr} {fd : FuncData} (F : Fun K "_law_is_turned_right" "_law_is_turned_right" s__law_is_turned_right f fd) (hm : mg "_law_is_turned_right" = some (.ref f)) (G : Glo mg) (C__law_number : CalG P w K mg base 1 "_law_number" ["told"] (spP 1 m__law_number)) (C__law_some : CalG P w K mg base 2 "_law_some" ["pot", "some", "many"] (spQ 3 m__law_some)) (C__law_take : CalG P w K mg base 1 "_law_take" ["pot", "upto"] (spQ 2 m__law_take)) (C__law_turned : CalG P w K mg base 1 "_law_turned" ["walk", "more"] (spP 2 m__law_turned)) (C_idle : CalG P w K mg base 5 "idle" ["tour", "bound"] (spP 2 m_idle)) (C_least_more : CalG P w K mg base 5 "least_more" ["tour", "bound"] (spP 2 m_least_more)) (C_one_more : CalG P w K mg base 5 "one_more" ["tour", "bound"] (spP 2 m_one_more)) (C_proved : CalG P w K mg base 5 "proved" ["tour", "bound", "begin", "length"] (spP 4 m_proved)) : CalG P w K mg base 6 "_law_is_turned_right" ["pot", "walk", "bound"] (spQ 3 m__law_is_turned_right) :=
  .mk2 F hm (F.binds fun _ _ _ _ _ _ us hl => match us, hl with | [_, _, _], _ => rfl) (fun_Q (k := 5) F sc__law_is_turned_right (by decide) fun cdv A outer s H hgd hr => by
    have hN := sc__law_is_turned_right.nd
    exact (lb_cons (ls_asg (le_tup (la_cons (le_ix (le_v (pv 1)) le_int) (la_cons (le_callTy (c_int) (by rfl) G.b_int bt_int (la_cons (le_callQC C__law_take hgd hr (by decide) (by rfl) (pv 0) (la_cons (le_ix (le_v (pv 1)) le_int) la_nil) (len1 (len_cons len0))) la_nil)) la_nil))) (lg_t rfl (lgs_cons (lg_n (pg_name (i := 3) hN rfl (.inr rfl))) (lgs_cons (lg_n (pg_name (i := 4) hN rfl (.inr rfl))) lgs_nil))))
 (lb_cons (ls_par2 (i := 5) (j := 6) rfl hN rfl rfl (by decide) rfl rfl (lr_dat (le_callC C__law_turned hgd hr (by decide) (by rfl) (la_cons (le_v (pv 1)) (la_cons (le_v (pv 4)) la_nil)) (len_cons (len_cons len0))) (lr_dat (le_callC C_least_more hgd hr (by decide) (by rfl) (la_cons (le_v (pv 1)) (la_cons (le_v (pv 2)) la_nil)) (len_cons (len_cons len0))) lr_nil)) (rlen_dat (rlen_dat rlen_nil)) rfl)
 (lb_cons (ls_if (lt_cmp (o_ne hr.units) (le_callC C__law_number hgd hr (by decide) (by rfl) (la_cons (le_v (pv 6)) la_nil) (len_cons len0)) (le_callC C__law_number hgd hr (by decide) (by rfl) (la_cons (le_callC C_least_more hgd hr (by decide) (by rfl) (la_cons (le_v (pv 5)) (la_cons (le_v (pv 2)) la_nil)) (len_cons (len_cons len0))) la_nil) (len_cons len0)) (by rfl)) (lb_cons (ls_ret le_bl)
 lb_nil) lb_nil)
 (lb_cons (ls_setLc (i := 7) rfl hN rfl rfl rfl (li_seq (le_callC C_idle hgd hr (by decide) (by rfl) (la_cons (le_v (pv 1)) (la_cons (le_v (pv 2)) la_nil)) (len_cons (len_cons len0)))) (blkOk_by (own := [("look", 11)]) (by rfl)) (fun s H C cl fp => (lg_n (pg_name (i := 11) hN rfl (.inl rfl)))) (fun s H C cl fp => lx_nil) (fun s H C cl fp => (show LE _ _ b__law_is_turned_right_c1 from (le_bin o_mod (le_callTy (c_int) (by rfl) G.b_int bt_int (la_cons (le_bin o_add (le_v (pv 11)) (le_v (pv 4))) la_nil)) (le_v (pv 3))))))
 (lb_cons (ls_if (lt_cmp (o_ne hr.units) (le_callB (c_repr hgd hr.units) (by rfl) G.b_repr bt_repr (la_cons (le_callC C_idle hgd hr (by decide) (by rfl) (la_cons (le_v (pv 5)) (la_cons (le_v (pv 2)) la_nil)) (len_cons (len_cons len0))) la_nil)) (le_callB (c_repr hgd hr.units) (by rfl) G.b_repr bt_repr (la_cons (le_callTy (c_tuple) (by rfl) G.b_tuple bt_tuple (la_cons (le_callB (c_sortA) (by rfl) G.b_sorted bt_sorted (la_cons (le_v (pv 7)) la_nil)) la_nil)) la_nil)) (by rfl)) (lb_cons (ls_ret le_bl)
 lb_nil) lb_nil)
 (lb_cons (ls_asg (le_callC C_one_more hgd hr (by decide) (by rfl) (la_cons (le_v (pv 1)) (la_cons (le_v (pv 2)) la_nil)) (len_cons (len_cons len0))) (lg_t rfl (lgs_cons (lg_n (pg_name (i := 8) hN rfl (.inl rfl))) (lgs_cons (lg_n (pg_name (i := 9) hN rfl (.inl rfl))) lgs_nil))))
 (lb_cons (ls_set (i := 10) hN rfl (.inl rfl) (le_callTy (c_tuple) (by rfl) G.b_tuple bt_tuple (la_cons (le_callB (c_sortA) (by rfl) G.b_sorted bt_sorted (la_cons (le_lc rfl hN (li_seq (le_v (pv 9))) (blkOk_by (own := [("look", 11)]) (by rfl)) (fun s H C cl fp => (lg_n (pg_name (i := 11) hN rfl (.inl rfl)))) (fun s H C cl fp => lx_nil) (fun s H C cl fp => (show LE _ _ b__law_is_turned_right_c1 from (le_bin o_mod (le_callTy (c_int) (by rfl) G.b_int bt_int (la_cons (le_bin o_add (le_v (pv 11)) (le_v (pv 4))) la_nil)) (le_v (pv 3)))))) la_nil)) la_nil)))
 (lb_cons (ls_if (lt_cmp (o_ne hr.units) (le_callB (c_repr hgd hr.units) (by rfl) G.b_repr bt_repr (la_cons (le_callC C_one_more hgd hr (by decide) (by rfl) (la_cons (le_v (pv 5)) (la_cons (le_v (pv 2)) la_nil)) (len_cons (len_cons len0))) la_nil)) (le_callB (c_repr hgd hr.units) (by rfl) G.b_repr bt_repr (la_cons (le_tup (la_cons (le_v (pv 8)) (la_cons (le_v (pv 10)) la_nil))) la_nil)) (by rfl)) (lb_cons (ls_ret le_bl)
 lb_nil) lb_nil)
 (lb_cons (ls_for PassesOwn.never rfl (li_seq (le_callQC C__law_some hgd hr (by decide) (by rfl) (pv 0) (la_cons (le_v (pv 9)) (la_cons (le_callB (c_min rfl) (by rfl) G.b_min bt_min (la_cons le_int (la_cons (le_callB (c_len) (by rfl) G.b_len bt_len (la_cons (le_v (pv 9)) la_nil)) la_nil))) la_nil)) (len1 (len_cons (len_cons len0))))) (lg_n (pg_name (i := 11) hN rfl (.inl rfl))) (show LB _ _ b__law_is_turned_right_l2 from (lb_cons (ls_if (lt_cmp (o_ne hr.units) (le_callC C__law_number hgd hr (by decide) (by rfl) (la_cons (le_callC C_least_more hgd hr (by decide) (by rfl) (la_cons (le_tup (la_cons (le_v (pv 3)) (la_cons (le_callTy (c_tuple) (by rfl) G.b_tuple bt_tuple (la_cons (le_callB (c_sortA) (by rfl) G.b_sorted bt_sorted (la_cons (le_bin o_add (le_ix (le_v (pv 1)) le_int) (le_tup (la_cons (le_v (pv 11)) la_nil))) la_nil)) la_nil)) la_nil))) (la_cons (le_v (pv 2)) la_nil)) (len_cons (len_cons len0))) la_nil) (len_cons len0)) (le_v (pv 8)) (by rfl)) (lb_cons (ls_ret le_bl)
 lb_nil) lb_nil)
 lb_nil)))
 (lb_cons (ls_par2 (i := 12) (j := 13) rfl hN rfl rfl (by decide) rfl rfl (lr_dat (le_callTy (c_int) (by rfl) G.b_int bt_int (la_cons (le_callQC C__law_take hgd hr (by decide) (by rfl) (pv 0) (la_cons (le_bin o_mulT le_int (le_v (pv 3))) la_nil) (len1 (len_cons len0))) la_nil)) (lr_dat (le_callTy (c_int) (by rfl) G.b_int bt_int (la_cons (le_bin o_add le_int (le_callQC C__law_take hgd hr (by decide) (by rfl) (pv 0) (la_cons (le_bin o_add (le_bin o_mulT le_int (le_v (pv 3))) (le_ix (le_v (pv 2)) le_int)) la_nil) (len1 (len_cons len0)))) la_nil)) lr_nil)) (rlen_dat (rlen_dat rlen_nil)) rfl)
 (lb_cons (ls_set (i := 14) hN rfl (.inl rfl) (le_callC C_proved hgd hr (by decide) (by rfl) (la_cons (le_v (pv 1)) (la_cons (le_v (pv 2)) (la_cons (le_v (pv 12)) (la_cons (le_v (pv 13)) la_nil)))) (len_cons (len_cons (len_cons (len_cons len0))))))
 (lb_cons (ls_for PassesOwn.never rfl (li_seq (le_tup (la_cons (le_v (pv 4)) (la_cons (le_bin o_add (le_v (pv 4)) (le_v (pv 3))) (la_cons (le_bin o_add (le_v (pv 4)) (le_bin o_mulT le_int (le_v (pv 3)))) la_nil))))) (lg_n (pg_name (i := 15) hN rfl (.inl rfl))) (show LB _ _ b__law_is_turned_right_l1 from (lb_cons (ls_set (i := 16) hN rfl (.inl rfl) (le_if (lt_cmp o_isNot (le_v (pv 14)) le_non (by rfl)) (le_tup (la_cons (le_bin o_add (le_ix (le_v (pv 14)) le_int) (le_v (pv 15))) (la_cons (le_bin o_add (le_ix (le_v (pv 14)) le_int) (le_v (pv 15))) la_nil))) le_non))
 (lb_cons (ls_if (lt_cmp (o_ne hr.units) (le_callB (c_repr hgd hr.units) (by rfl) G.b_repr bt_repr (la_cons (le_callC C_proved hgd hr (by decide) (by rfl) (la_cons (le_v (pv 5)) (la_cons (le_v (pv 2)) (la_cons (le_bin o_add (le_v (pv 12)) (le_v (pv 15))) (la_cons (le_v (pv 13)) la_nil)))) (len_cons (len_cons (len_cons (len_cons len0))))) la_nil)) (le_callB (c_repr hgd hr.units) (by rfl) G.b_repr bt_repr (la_cons (le_v (pv 16)) la_nil)) (by rfl)) (lb_cons (ls_ret le_bl)
 lb_nil) lb_nil)
 lb_nil))))
 (lb_cons (ls_ret le_bl)
 lb_nil))))))))))))))
/-! #### _law_is_mirrored_right -/
abbrev s__law_is_mirrored_right : Stmt := topS 44
theorem sc__law_is_mirrored_right : FnScope ["pot", "walk", "bound", "period", "back", "due", "number", "ticks", "lap", "begin", "length", "end", "far", "is_so", "look"] ["pot", "walk", "bound"] (defScope s__law_is_mirrored_right) := ⟨rfl, rfl, rfl, by decide +kernel, rfl, by decide +kernel, by decide +kernel⟩
theorem ok__law_is_mirrored_right {f : Addr} {fd : FuncData} (F : Fun K "_law_is_mirrored_right" "_law_is_mirrored_right" s__law_is_mirrored_right f fd) (hm : mg "_law_is_mirrored_right" = some (.ref f)) (G : Glo mg) (C__law_mirrored : CalG P w K mg base 1 "_law_mirrored" ["walk"] (spP 1 m__law_mirrored)) (C__law_number : CalG P w K mg base 1 "_law_number" ["told"] (spP 1 m__law_number)) (C__law_take : CalG P w K mg base 1 "_law_take" ["pot", "upto"] (spQ 2 m__law_take)) (C_idle : CalG P w K mg base 5 "idle" ["tour", "bound"] (spP 2 m_idle)) (C_least_more : CalG P w K mg base 5 "least_more" ["tour", "bound"] (spP 2 m_least_more)) (C_one_more : CalG P w K mg base 5 "one_more" ["tour", "bound"] (spP 2 m_one_more)) (C_proved : CalG P w K mg base 5 "proved" ["tour", "bound", "begin", "length"] (spP 4 m_proved)) : CalG P w K mg base 6 "_law_is_mirrored_right" ["pot", "walk", "bound"] (spQ 3 m__law_is_mirrored_right) :=
  .mk2 F hm (F.binds fun _ _ _ _ _ _ us hl => match us, hl with | [_, _, _], _ => rfl) (fun_Q (k := 5) F sc__law_is_mirrored_right (by decide) fun cdv A outer s H hgd hr => by
    have hN := sc__law_is_mirrored_right.nd
    exact (lb_cons (ls_asg (le_tup (la_cons (le_ix (le_v (pv 1)) le_int) (la_cons (le_callC C__law_mirrored hgd hr (by decide) (by rfl) (la_cons (le_v (pv 1)) la_nil) (len_cons len0)) la_nil))) (lg_t rfl (lgs_cons (lg_n (pg_name (i := 3) hN rfl (.inr rfl))) (lgs_cons (lg_n (pg_name (i := 4) hN rfl (.inl rfl))) lgs_nil))))
 (lb_cons (ls_if (lt_cmp (o_ne hr.units) (le_callC C__law_number hgd hr (by decide) (by rfl) (la_cons (le_callC C_least_more hgd hr (by decide) (by rfl) (la_cons (le_v (pv 1)) (la_cons (le_v (pv 2)) la_nil)) (len_cons (len_cons len0))) la_nil) (len_cons len0)) (le_callC C__law_number hgd hr (by decide) (by rfl) (la_cons (le_callC C_least_more hgd hr (by decide) (by rfl) (la_cons (le_v (pv 4)) (la_cons (le_v (pv 2)) la_nil)) (len_cons (len_cons len0))) la_nil) (len_cons len0)) (by rfl)) (lb_cons (ls_ret le_bl)
 lb_nil) lb_nil)
 (lb_cons (ls_set (i := 5) hN rfl (.inl rfl) (le_callTy (c_tuple) (by rfl) G.b_tuple bt_tuple (la_cons (le_lc rfl hN (li_seq (le_rev (le_callC C_idle hgd hr (by decide) (by rfl) (la_cons (le_v (pv 1)) (la_cons (le_v (pv 2)) la_nil)) (len_cons (len_cons len0))))) (blkOk_by (own := [("look", 14)]) (by rfl)) (fun s H C cl fp => (lg_n (pg_name (i := 14) hN rfl (.inl rfl)))) (fun s H C cl fp => lx_nil) (fun s H C cl fp => (show LE _ _ b__law_is_mirrored_right_c1 from (le_bin o_sub (le_bin o_sub (le_v (pv 3)) le_int) (le_v (pv 14)))))) la_nil)))
 (lb_cons (ls_if (lt_cmp (o_ne hr.units) (le_callB (c_repr hgd hr.units) (by rfl) G.b_repr bt_repr (la_cons (le_callC C_idle hgd hr (by decide) (by rfl) (la_cons (le_v (pv 4)) (la_cons (le_v (pv 2)) la_nil)) (len_cons (len_cons len0))) la_nil)) (le_callB (c_repr hgd hr.units) (by rfl) G.b_repr bt_repr (la_cons (le_v (pv 5)) la_nil)) (by rfl)) (lb_cons (ls_ret le_bl)
 lb_nil) lb_nil)
 (lb_cons (ls_asg (le_callC C_one_more hgd hr (by decide) (by rfl) (la_cons (le_v (pv 1)) (la_cons (le_v (pv 2)) la_nil)) (len_cons (len_cons len0))) (lg_t rfl (lgs_cons (lg_n (pg_name (i := 6) hN rfl (.inl rfl))) (lgs_cons (lg_n (pg_name (i := 7) hN rfl (.inl rfl))) lgs_nil))))
 (lb_cons (ls_if (lt_cmp (o_ne hr.units) (le_callB (c_repr hgd hr.units) (by rfl) G.b_repr bt_repr (la_cons (le_callC C_one_more hgd hr (by decide) (by rfl) (la_cons (le_v (pv 4)) (la_cons (le_v (pv 2)) la_nil)) (len_cons (len_cons len0))) la_nil)) (le_callB (c_repr hgd hr.units) (by rfl) G.b_repr bt_repr (la_cons (le_tup (la_cons (le_v (pv 6)) (la_cons (le_callTy (c_tuple) (by rfl) G.b_tuple bt_tuple (la_cons (le_lc rfl hN (li_seq (le_rev (le_v (pv 7)))) (blkOk_by (own := [("look", 14)]) (by rfl)) (fun s H C cl fp => (lg_n (pg_name (i := 14) hN rfl (.inl rfl)))) (fun s H C cl fp => lx_nil) (fun s H C cl fp => (show LE _ _ b__law_is_mirrored_right_c1 from (le_bin o_sub (le_bin o_sub (le_v (pv 3)) le_int) (le_v (pv 14)))))) la_nil)) la_nil))) la_nil)) (by rfl)) (lb_cons (ls_ret le_bl)
 lb_nil) lb_nil)
 (lb_cons (ls_for PassesOwn.never rfl (li_rng1 (by rfl) G.b_range (la_cons le_int la_nil)) (lg_n (pg_name (i := 8) hN rfl (.inl rfl))) (show LB _ _ b__law_is_mirrored_right_l1 from (lb_cons (ls_par2 (i := 9) (j := 10) rfl hN rfl rfl (by decide) rfl rfl (lr_dat (le_callTy (c_int) (by rfl) G.b_int bt_int (la_cons (le_callQC C__law_take hgd hr (by decide) (by rfl) (pv 0) (la_cons (le_bin o_mulT le_int (le_v (pv 3))) la_nil) (len1 (len_cons len0))) la_nil)) (lr_dat (le_callTy (c_int) (by rfl) G.b_int bt_int (la_cons (le_bin o_add le_int (le_callQC C__law_take hgd hr (by decide) (by rfl) (pv 0) (la_cons (le_bin o_add (le_bin o_mulT le_int (le_v (pv 3))) (le_ix (le_v (pv 2)) le_int)) la_nil) (len1 (len_cons len0)))) la_nil)) lr_nil)) (rlen_dat (rlen_dat rlen_nil)) rfl)
 (lb_cons (ls_set (i := 11) hN rfl (.inl rfl) (le_bin o_add (le_v (pv 9)) (le_v (pv 10))))
 (lb_cons (ls_set (i := 12) hN rfl (.inl rfl) (le_bin o_mulT (le_v (pv 3)) (le_bin o_add (le_bin o_div (le_v (pv 11)) (le_v (pv 3))) le_int)))
 (lb_cons (ls_set (i := 13) hN rfl (.inl rfl) (le_cmp o_isNot (le_callC C_proved hgd hr (by decide) (by rfl) (la_cons (le_v (pv 1)) (la_cons (le_v (pv 2)) (la_cons (le_v (pv 9)) (la_cons (le_v (pv 10)) la_nil)))) (len_cons (len_cons (len_cons (len_cons len0))))) le_non (by rfl)))
 (lb_cons (ls_if (lt_cmp (o_ne hr.units) (le_cmp o_isNot (le_callC C_proved hgd hr (by decide) (by rfl) (la_cons (le_v (pv 4)) (la_cons (le_v (pv 2)) (la_cons (le_bin o_sub (le_v (pv 12)) (le_v (pv 11))) (la_cons (le_v (pv 10)) la_nil)))) (len_cons (len_cons (len_cons (len_cons len0))))) le_non (by rfl)) (le_v (pv 13)) (by rfl)) (lb_cons (ls_ret le_bl)
 lb_nil) lb_nil)
 lb_nil)))))))
 (lb_cons (ls_ret le_bl)
 lb_nil)))))))))
/-! #### _law_is_equal_right -/
abbrev s__law_is_equal_right : Stmt := topS 45
theorem sc__law_is_equal_right : FnScope ["pot", "gap", "many", "period", "limit", "walk", "gone", "near", "look", "more"] ["pot"] (defScope s__law_is_equal_right) := ⟨rfl, rfl, rfl, by decide +kernel, rfl, by decide +kernel, by decide +kernel⟩
theorem ok__law_is_equal_right {f : Addr} {fd : FuncData} (F : Fun K "_law_is_equal_right" "_law_is_equal_right" s__law_is_equal_right f fd) (hm : mg "_law_is_equal_right" = some (.ref f)) (G : Glo mg) (C__law_number : CalG P w K mg base 1 "_law_number" ["told"] (spP 1 m__law_number)) (C__law_take : CalG P w K mg base 1 "_law_take" ["pot", "upto"] (spQ 2 m__law_take)) (C_equal : CalG P w K mg base 3 "equal" ["period", "gap"] (spP 2 m_equal)) (C_idle : CalG P w K mg base 5 "idle" ["tour", "bound"] (spP 2 m_idle)) (C_least_more : CalG P w K mg base 5 "least_more" ["tour", "bound"] (spP 2 m_least_more)) (C_proved : CalG P w K mg base 5 "proved" ["tour", "bound", "begin", "length"] (spP 4 m_proved)) : CalG P w K mg base 6 "_law_is_equal_right" ["pot"] (spQ 1 m__law_is_equal_right) :=
  .mk2 F hm (F.binds fun _ _ _ _ _ _ us hl => match us, hl with | [_], _ => rfl) (fun_Q (k := 5) F sc__law_is_equal_right (by decide) fun cdv A outer s H hgd hr => by
    have hN := sc__law_is_equal_right.nd
    exact (lb_cons (ls_par2 (i := 1) (j := 2) rfl hN rfl rfl (by decide) rfl rfl (lr_dat (le_callTy (c_int) (by rfl) G.b_int bt_int (la_cons (le_bin o_add le_int (le_callQC C__law_take hgd hr (by decide) (by rfl) (pv 0) (la_cons le_int la_nil) (len1 (len_cons len0)))) la_nil)) (lr_dat (le_callTy (c_int) (by rfl) G.b_int bt_int (la_cons (le_bin o_add le_int (le_callQC C__law_take hgd hr (by decide) (by rfl) (pv 0) (la_cons le_int la_nil) (len1 (len_cons len0)))) la_nil)) lr_nil)) (rlen_dat (rlen_dat rlen_nil)) rfl)
 (lb_cons (ls_par2 (i := 3) (j := 4) rfl hN rfl rfl (by decide) rfl rfl (lr_dat (le_bin o_mulT (le_v (pv 1)) (le_v (pv 2))) (lr_dat (le_callTy (c_int) (by rfl) G.b_int bt_int (la_cons (le_bin o_add le_int (le_callQC C__law_take hgd hr (by decide) (by rfl) (pv 0) (la_cons (le_bin o_mulT le_int (le_v (pv 1))) la_nil) (len1 (len_cons len0)))) la_nil)) lr_nil)) (rlen_dat (rlen_dat rlen_nil)) rfl)
 (lb_cons (ls_par2 (i := 5) (j := 6) rfl hN rfl rfl (by decide) rfl rfl (lr_dat (le_callC C_equal hgd hr (by decide) (by rfl) (la_cons (le_v (pv 3)) (la_cons (le_v (pv 1)) la_nil)) (len_cons (len_cons len0))) (lr_dat (le_callTy (c_int) (by rfl) G.b_int bt_int (la_cons (le_bin o_add (le_v (pv 1)) (le_callQC C__law_take hgd hr (by decide) (by rfl) (pv 0) (la_cons (le_v (pv 1)) la_nil) (len1 (len_cons len0)))) la_nil)) lr_nil)) (rlen_dat (rlen_dat rlen_nil)) rfl)
 (lb_cons (ls_set (i := 7) hN rfl (.inl rfl) (le_bin o_mulT (le_bin o_div (le_bin o_sub (le_bin o_add (le_v (pv 4)) (le_v (pv 1))) le_int) (le_v (pv 1))) (le_v (pv 1))))
 (lb_cons (ls_if (lt_cmp (o_ne hr.units) (le_callB (c_repr hgd hr.units) (by rfl) G.b_repr bt_repr (la_cons (le_v (pv 5)) la_nil)) (le_callB (c_repr hgd hr.units) (by rfl) G.b_repr bt_repr (la_cons (le_tup (la_cons (le_v (pv 3)) (la_cons (le_tupR3 rfl (by rfl) G.b_tuple (by rfl) G.b_range le_int (le_v (pv 3)) (le_v (pv 1))) la_nil))) la_nil)) (by rfl)) (lb_cons (ls_ret le_bl)
 lb_nil) lb_nil)
 (lb_cons (ls_if (lt_cmp (o_ne hr.units) (le_callB (c_repr hgd hr.units) (by rfl) G.b_repr bt_repr (la_cons (le_slice (le_callC C_least_more hgd hr (by decide) (by rfl) (la_cons (le_v (pv 5)) (la_cons (le_tup (la_cons (le_v (pv 4)) (la_cons (le_v (pv 6)) la_nil))) la_nil)) (len_cons (len_cons len0))) lo_none (lo_some le_int)) la_nil)) (le_callB (c_repr hgd hr.units) (by rfl) G.b_repr bt_repr (la_cons (le_tup (la_cons le_str (la_cons (le_bin o_sub (le_bin o_add (le_v (pv 7)) (le_v (pv 1))) (le_v (pv 4))) la_nil))) la_nil)) (by rfl)) (lb_cons (ls_ret le_bl)
 lb_nil) lb_nil)
 (lb_cons (ls_set (i := 8) hN rfl (.inl rfl) (le_callTy (c_int) (by rfl) G.b_int bt_int (la_cons (le_bin o_add (le_bin o_add (le_bin o_mulT (le_v (pv 1)) (le_callQC C__law_take hgd hr (by decide) (by rfl) (pv 0) (la_cons (le_v (pv 2)) la_nil) (len1 (len_cons len0)))) le_int) (le_callQC C__law_take hgd hr (by decide) (by rfl) (pv 0) (la_cons (le_bin o_sub (le_v (pv 1)) le_int) la_nil) (len1 (len_cons len0)))) la_nil)))
 (lb_cons (ls_set (i := 9) hN rfl (.inl rfl) (le_tup (la_cons (le_v (pv 3)) (la_cons (le_callTy (c_tuple) (by rfl) G.b_tuple bt_tuple (la_cons (le_callB (c_sortA) (by rfl) G.b_sorted bt_sorted (la_cons (le_bin o_add (le_ix (le_v (pv 5)) le_int) (le_tup (la_cons (le_v (pv 8)) la_nil))) la_nil)) la_nil)) la_nil))))
 (lb_cons (ls_if (lt_cmp o_notIn (le_v (pv 8)) (le_callC C_idle hgd hr (by decide) (by rfl) (la_cons (le_v (pv 9)) (la_cons (le_tup (la_cons (le_v (pv 4)) (la_cons (le_v (pv 6)) la_nil))) la_nil)) (len_cons (len_cons len0))) (by rfl)) (lb_cons (ls_ret (le_cmp o_lt (le_callC C__law_number hgd hr (by decide) (by rfl) (la_cons (le_callC C_least_more hgd hr (by decide) (by rfl) (la_cons (le_v (pv 9)) (la_cons (le_tup (la_cons (le_v (pv 4)) (la_cons (le_v (pv 6)) la_nil))) la_nil)) (len_cons (len_cons len0))) la_nil) (len_cons len0)) (le_bin o_sub (le_bin o_add (le_v (pv 7)) (le_v (pv 1))) (le_v (pv 4))) (by rfl)))
 lb_nil) lb_nil)
 (lb_cons (ls_if (lt_cmp (o_ne hr.units) (le_callB (c_repr hgd hr.units) (by rfl) G.b_repr bt_repr (la_cons (le_ix (le_callC C_least_more hgd hr (by decide) (by rfl) (la_cons (le_v (pv 5)) (la_cons (le_tup (la_cons (le_v (pv 4)) (la_cons (le_bin o_sub (le_v (pv 1)) le_int) la_nil))) la_nil)) (len_cons (len_cons len0))) le_int) la_nil)) (le_callB (c_repr hgd hr.units) (by rfl) G.b_repr bt_repr (la_cons le_str la_nil)) (by rfl)) (lb_cons (ls_ret le_bl)
 lb_nil) lb_nil)
 (lb_cons (ls_if (lt_cmp o_is (le_callC C_proved hgd hr (by decide) (by rfl) (la_cons (le_v (pv 5)) (la_cons (le_tup (la_cons (le_v (pv 4)) (la_cons (le_v (pv 6)) la_nil))) (la_cons le_int (la_cons (le_bin o_add (le_v (pv 7)) (le_v (pv 1))) la_nil)))) (len_cons (len_cons (len_cons (len_cons len0))))) le_non (by rfl)) (lb_cons (ls_ret le_bl)
 lb_nil) lb_nil)
 (lb_cons (ls_ret (le_cmp o_is (le_callC C_proved hgd hr (by decide) (by rfl) (la_cons (le_v (pv 5)) (la_cons (le_tup (la_cons (le_bin o_add (le_v (pv 7)) le_int) (la_cons (le_v (pv 6)) la_nil))) (la_cons le_int (la_cons (le_bin o_sub (le_bin o_add (le_v (pv 7)) (le_v (pv 1))) le_int) la_nil)))) (len_cons (len_cons (len_cons (len_cons len0))))) le_non (by rfl)))
 lb_nil)))))))))))))
/-! #### _law_pot -/
abbrev s__law_pot : Stmt := topS 35
theorem sc__law_pot : FnScope ["script", "great", "seed", "cell", "own"] ["script"] (defScope s__law_pot) := ⟨rfl, rfl, rfl, by decide +kernel, rfl, by decide +kernel, by decide +kernel⟩
theorem ok__law_pot {f : Addr} {fd : FuncData} (F : Fun K "_law_pot" "_law_pot" s__law_pot f fd) (hm : mg "_law_pot" = some (.ref f)) (G : Glo mg) : CalG P w K mg base 1 "_law_pot" ["script"] (spScr K m__law_pot) := by
  have F' := F
  obtain ⟨oc, od, kV, doc, pm, an, cdv, ct, osl, rfl, lk, hcd⟩ := F'.ex
  refine .mk2 F hm (F.binds fun _ _ _ _ _ _ us hl => match us, hl with | [_], _ => rfl) (fnG_of (k := 0) lk hcd sc__law_pot (fun vs H Q E h => ?_) fun A outer s H vs Q hgd hr hsp => ?_)
  · obtain ⟨a, ns, z, rfl, _⟩ := h
    rfl
  · have hN := sc__law_pot.nd
    obtain ⟨a, ns, z, rfl, hS, hl, hz, q⟩ := hsp
    exact ⟨_, (pss_cons (ps_par (i := 1) (j := 2) rfl hN rfl rfl (by decide) rfl rfl (pa_cons (pe_lst pa_nil) (pa_cons pe_int pa_nil)) rfl)
      (pss_cons (ps_for PassesOwn.never rfl (pi_list (pe_slice sl_list (pv 0) po_none (po_some pe_int))) (lg_n (pg_name (i := 3) hN rfl (.inl rfl))) (show LB _ _ b__law_pot_in from (lb_cons (ls_set (i := 4) hN rfl (.inl rfl) (le_bin o_mod (le_callTy (c_int) (by rfl) G.b_int bt_int (la_cons (le_callB (c_abs) (by rfl) G.b_abs bt_abs (la_cons (le_v (pv 3)) la_nil)) la_nil)) (le_bin o_pow (le_bin o_pow le_int le_int) le_int)))
 (lb_cons (ls_if (PW.pt (lw_and (lt_cmp o_ge (le_callB (c_abs) (by rfl) G.b_abs bt_abs (la_cons (le_v (pv 3)) la_nil)) (le_bin o_pow le_int le_int) (by rfl)) (lw_and1 (lt_cmp o_gt (le_v (pv 4)) le_int (by rfl))))) (lb_cons (ls_append (pv 1) (le_v (pv 4)))
 lb_nil) lb_nil)
 (lb_cons (ls_set (i := 2) hN rfl (.inl rfl) (le_bin o_mod (le_callTy (c_int) (by rfl) G.b_int bt_int (la_cons (le_bin o_add (le_bin o_add (le_bin o_mulT (le_v (pv 2)) le_int) (le_bin o_mod (le_callTy (c_int) (by rfl) G.b_int bt_int (la_cons (le_v (pv 3)) la_nil)) le_int)) le_int) la_nil)) le_int))
 lb_nil)))))
      (show LB _ _ b__law_pot_out from (lb_cons (ls_ret (le_lst (la_cons (le_v (pv 1)) (la_cons (le_v (pv 2)) (la_cons le_int la_nil)))))
 lb_nil)))).nox, scr_state rfl hS hl hz q⟩
/-! #### law -/
abbrev s_law : Stmt := topS 46
theorem sc_law : FnScope ["script", "pot", "period", "looks", "bound", "walk"] ["script"] (defScope s_law) := ⟨rfl, rfl, rfl, by decide +kernel, rfl, by decide +kernel, by decide +kernel⟩
theorem ok_law {f : Addr} {fd : FuncData} (pl : Plain) (F : Fun K "law" "law" s_law f fd) (G : Glo mg) (C__law_pot : CalG P w K mg base 1 "_law_pot" ["script"] (spScr K m__law_pot)) (C__law_is_equal_right : CalG P w K mg base 6 "_law_is_equal_right" ["pot"] (spQ 1 m__law_is_equal_right)) (C__law_is_mirrored_right : CalG P w K mg base 6 "_law_is_mirrored_right" ["pot", "walk", "bound"] (spQ 3 m__law_is_mirrored_right)) (C__law_is_turned_right : CalG P w K mg base 6 "_law_is_turned_right" ["pot", "walk", "bound"] (spQ 3 m__law_is_turned_right)) (C__law_is_twice_right : CalG P w K mg base 6 "_law_is_twice_right" ["walk", "bound"] (spP 2 m__law_is_twice_right)) (C__law_of : CalG P w K mg base 2 "_law_of" ["pot", "some"] (spQ 2 m__law_of)) (C__law_some : CalG P w K mg base 2 "_law_some" ["pot", "some", "many"] (spQ 3 m__law_some)) (C__law_take : CalG P w K mg base 1 "_law_take" ["pot", "upto"] (spQ 2 m__law_take)) : FnG P w K mg base 7 f fd ["script"] (spLaw K) := by
  obtain ⟨oc, od, kV, doc, pm, an, cdv, ct, osl, rfl, lk, hcd⟩ := F.ex
  refine fnG_of (k := 6) lk hcd sc_law (fun vs H Q E h => ?_) fun A outer s H vs Q hgd hr hsp => ?_
  · obtain ⟨a, ns, rfl, _⟩ := h
    rfl
  · have hN := sc_law.nd
    obtain ⟨a, ns, rfl, hS, hl, q⟩ := hsp
    obtain ⟨P, hP, hf⟩ := pl ns hl
    obtain ⟨fp, fdp, Gp, hmp, hkp, hbp⟩ := C__law_pot.ex
    exact ⟨_, (pss_cons (ps_set (i := 1) hN rfl (.inl rfl) (pe_callG (Gp.mono (by decide)) hgd hr (by rfl) hmp hkp hbp (pa_cons (pv 0) pa_nil)))
      (show LB _ _ b_law from (lb_cons (ls_set (i := 2) hN rfl (.inl rfl) (le_callTy (c_int) (by rfl) G.b_int bt_int (la_cons (le_callQC C__law_of hgd hr (by decide) (by rfl) (pv 1) (la_cons (le_lst (la_cons (le_bin o_add le_int (le_callQC C__law_take hgd hr (by decide) (by rfl) (pv 1) (la_cons le_int la_nil) (len1 (len_cons len0)))) (la_cons (le_bin o_add le_int (le_callQC C__law_take hgd hr (by decide) (by rfl) (pv 1) (la_cons le_int la_nil) (len1 (len_cons len0)))) (la_cons le_int (la_cons le_int la_nil))))) la_nil) (len1 (len_cons len0))) la_nil)))
 (lb_cons (ls_set (i := 3) hN rfl (.inl rfl) (le_callTy (c_tuple) (by rfl) G.b_tuple bt_tuple (la_cons (le_callB (c_sortA) (by rfl) G.b_sorted bt_sorted (la_cons (le_callQC C__law_some hgd hr (by decide) (by rfl) (pv 1) (la_cons (le_lstR1 rfl (by rfl) G.b_list (by rfl) G.b_range (le_v (pv 2))) (la_cons (le_bin o_add le_int (le_callQC C__law_take hgd hr (by decide) (by rfl) (pv 1) (la_cons (le_callB (c_min rfl) (by rfl) G.b_min bt_min (la_cons (le_v (pv 2)) (la_cons le_int la_nil))) la_nil) (len1 (len_cons len0)))) la_nil)) (len1 (len_cons (len_cons len0)))) la_nil)) la_nil)))
 (lb_cons (ls_set (i := 4) hN rfl (.inl rfl) (le_tup (la_cons (le_callTy (c_int) (by rfl) G.b_int bt_int (la_cons (le_bin o_add le_int (le_callQC C__law_take hgd hr (by decide) (by rfl) (pv 1) (la_cons (le_bin o_mulT le_int (le_v (pv 2))) la_nil) (len1 (len_cons len0)))) la_nil)) (la_cons (le_callTy (c_int) (by rfl) G.b_int bt_int (la_cons (le_bin o_add le_int (le_callQC C__law_take hgd hr (by decide) (by rfl) (pv 1) (la_cons (le_callQC C__law_of hgd hr (by decide) (by rfl) (pv 1) (la_cons (le_lst (la_cons (le_v (pv 2)) (la_cons (le_bin o_mulT le_int (le_v (pv 2))) la_nil))) la_nil) (len1 (len_cons len0))) la_nil) (len1 (len_cons len0)))) la_nil)) la_nil))))
 (lb_cons (ls_set (i := 5) hN rfl (.inl rfl) (le_tup (la_cons (le_v (pv 2)) (la_cons (le_v (pv 3)) la_nil))))
 (lb_cons (ls_if (PW.pt (lw_or (lt_not (lt_val (le_callC C__law_is_twice_right hgd hr (by decide) (by rfl) (la_cons (le_v (pv 5)) (la_cons (le_v (pv 4)) la_nil)) (len_cons (len_cons len0))))) (lw_or1 (lt_not (lt_val (le_callQC C__law_is_equal_right hgd hr (by decide) (by rfl) (pv 1) la_nil (len1 len0))))))) (lb_cons (ls_ret le_bl)
 lb_nil) lb_nil)
 (lb_cons (ls_if (lt_cmp o_gt (le_v (pv 2)) le_int (by rfl)) (lb_cons (ls_ret le_bl)
 lb_nil) lb_nil)
 (lb_cons (ls_ret (le_and (le_callQC C__law_is_turned_right hgd hr (by decide) (by rfl) (pv 1) (la_cons (le_v (pv 5)) (la_cons (le_v (pv 4)) la_nil)) (len1 (len_cons (len_cons len0)))) (le_one (le_callQC C__law_is_mirrored_right hgd hr (by decide) (by rfl) (pv 1) (la_cons (le_v (pv 5)) (la_cons (le_v (pv 4)) la_nil)) (len1 (len_cons (len_cons len0)))))))
 lb_nil))))))))).nox, lawB_state (N := ["script", "pot", "period", "looks", "bound", "walk"]) (i := 1) hS hl (by decide) (by decide) hP hf q⟩
/-! #### all of them -/
theorem all_mk {l : PySem.W.OpenLaw} {w : World} {K : PySem.W.Frag} {h : Heap} {mg : Str → Option Value} {fa : Addr} (pl : Plain) (X : K.In h) (G : h.Ns mainGlobals mg) (hfa : mg "law" = some (.ref fa))
  {f0 : Addr} {od0 an0 : Option Addr} {sl0 : Array (Option Value)} {oc0 kV0 dc0 pm0 cd0 ct0 : Value} (a0 : PySem.W.nsIn K mainGlobals "is_integer" = some (some (.ref f0)))
    (l0 : K.lookup f0 = some ⟨oc0, od0, .func (PySem.W.fnOf "is_integer" "is_integer" (defArgs s_is_integer) (defBody s_is_integer) (defScope s_is_integer) .none kV0 dc0 pm0 an0 cd0 ct0), sl0⟩) (c0 : PySem.W.codeIn K cd0 "is_integer" = true) (k0 : PySem.W.keepIn K (.ref f0) = true)
  {f1 : Addr} {od1 an1 : Option Addr} {sl1 : Array (Option Value)} {oc1 kV1 dc1 pm1 cd1 ct1 : Value} (a1 : PySem.W.nsIn K mainGlobals "is_between" = some (some (.ref f1)))
    (l1 : K.lookup f1 = some ⟨oc1, od1, .func (PySem.W.fnOf "is_between" "is_between" (defArgs s_is_between) (defBody s_is_between) (defScope s_is_between) .none kV1 dc1 pm1 an1 cd1 ct1), sl1⟩) (c1 : PySem.W.codeIn K cd1 "is_between" = true) (k1 : PySem.W.keepIn K (.ref f1) = true)
  {f2 : Addr} {od2 an2 : Option Addr} {sl2 : Array (Option Value)} {oc2 kV2 dc2 pm2 cd2 ct2 : Value} (a2 : PySem.W.nsIn K mainGlobals "is_ascending" = some (some (.ref f2)))
    (l2 : K.lookup f2 = some ⟨oc2, od2, .func (PySem.W.fnOf "is_ascending" "is_ascending" (defArgs s_is_ascending) (defBody s_is_ascending) (defScope s_is_ascending) .none kV2 dc2 pm2 an2 cd2 ct2), sl2⟩) (c2 : PySem.W.codeIn K cd2 "is_ascending" = true) (k2 : PySem.W.keepIn K (.ref f2) = true)
  {f3 : Addr} {od3 an3 : Option Addr} {sl3 : Array (Option Value)} {oc3 kV3 dc3 pm3 cd3 ct3 : Value} (a3 : PySem.W.nsIn K mainGlobals "is_round" = some (some (.ref f3)))
    (l3 : K.lookup f3 = some ⟨oc3, od3, .func (PySem.W.fnOf "is_round" "is_round" (defArgs s_is_round) (defBody s_is_round) (defScope s_is_round) .none kV3 dc3 pm3 an3 cd3 ct3), sl3⟩) (c3 : PySem.W.codeIn K cd3 "is_round" = true) (k3 : PySem.W.keepIn K (.ref f3) = true)
  {f4 : Addr} {od4 an4 : Option Addr} {sl4 : Array (Option Value)} {oc4 kV4 dc4 pm4 cd4 ct4 : Value} (a4 : PySem.W.nsIn K mainGlobals "check_round" = some (some (.ref f4)))
    (l4 : K.lookup f4 = some ⟨oc4, od4, .func (PySem.W.fnOf "check_round" "check_round" (defArgs s_check_round) (defBody s_check_round) (defScope s_check_round) .none kV4 dc4 pm4 an4 cd4 ct4), sl4⟩) (c4 : PySem.W.codeIn K cd4 "check_round" = true) (k4 : PySem.W.keepIn K (.ref f4) = true)
  {f5 : Addr} {od5 an5 : Option Addr} {sl5 : Array (Option Value)} {oc5 kV5 dc5 pm5 cd5 ct5 : Value} (a5 : PySem.W.nsIn K mainGlobals "seen" = some (some (.ref f5)))
    (l5 : K.lookup f5 = some ⟨oc5, od5, .func (PySem.W.fnOf "seen" "seen" (defArgs s_seen) (defBody s_seen) (defScope s_seen) .none kV5 dc5 pm5 an5 cd5 ct5), sl5⟩) (c5 : PySem.W.codeIn K cd5 "seen" = true) (k5 : PySem.W.keepIn K (.ref f5) = true)
  {f6 : Addr} {od6 an6 : Option Addr} {sl6 : Array (Option Value)} {oc6 kV6 dc6 pm6 cd6 ct6 : Value} (a6 : PySem.W.nsIn K mainGlobals "proof" = some (some (.ref f6)))
    (l6 : K.lookup f6 = some ⟨oc6, od6, .func (PySem.W.fnOf "proof" "proof" (defArgs s_proof) (defBody s_proof) (defScope s_proof) .none kV6 dc6 pm6 an6 cd6 ct6), sl6⟩) (c6 : PySem.W.codeIn K cd6 "proof" = true) (k6 : PySem.W.keepIn K (.ref f6) = true)
  {f7 : Addr} {od7 an7 : Option Addr} {sl7 : Array (Option Value)} {oc7 kV7 dc7 pm7 cd7 ct7 : Value} (a7 : PySem.W.nsIn K mainGlobals "proved" = some (some (.ref f7)))
    (l7 : K.lookup f7 = some ⟨oc7, od7, .func (PySem.W.fnOf "proved" "proved" (defArgs s_proved) (defBody s_proved) (defScope s_proved) .none kV7 dc7 pm7 an7 cd7 ct7), sl7⟩) (c7 : PySem.W.codeIn K cd7 "proved" = true) (k7 : PySem.W.keepIn K (.ref f7) = true)
  {f8 : Addr} {od8 an8 : Option Addr} {sl8 : Array (Option Value)} {oc8 kV8 dc8 pm8 cd8 ct8 : Value} (a8 : PySem.W.nsIn K mainGlobals "gaps" = some (some (.ref f8)))
    (l8 : K.lookup f8 = some ⟨oc8, od8, .func (PySem.W.fnOf "gaps" "gaps" (defArgs s_gaps) (defBody s_gaps) (defScope s_gaps) .none kV8 dc8 pm8 an8 cd8 ct8), sl8⟩) (c8 : PySem.W.codeIn K cd8 "gaps" = true) (k8 : PySem.W.keepIn K (.ref f8) = true)
  {f9 : Addr} {od9 an9 : Option Addr} {sl9 : Array (Option Value)} {oc9 kV9 dc9 pm9 cd9 ct9 : Value} (a9 : PySem.W.nsIn K mainGlobals "is_never" = some (some (.ref f9)))
    (l9 : K.lookup f9 = some ⟨oc9, od9, .func (PySem.W.fnOf "is_never" "is_never" (defArgs s_is_never) (defBody s_is_never) (defScope s_is_never) .none kV9 dc9 pm9 an9 cd9 ct9), sl9⟩) (c9 : PySem.W.codeIn K cd9 "is_never" = true) (k9 : PySem.W.keepIn K (.ref f9) = true)
  {f10 : Addr} {od10 an10 : Option Addr} {sl10 : Array (Option Value)} {oc10 kV10 dc10 pm10 cd10 ct10 : Value} (a10 : PySem.W.nsIn K mainGlobals "needs" = some (some (.ref f10)))
    (l10 : K.lookup f10 = some ⟨oc10, od10, .func (PySem.W.fnOf "needs" "needs" (defArgs s_needs) (defBody s_needs) (defScope s_needs) .none kV10 dc10 pm10 an10 cd10 ct10), sl10⟩) (c10 : PySem.W.codeIn K cd10 "needs" = true) (k10 : PySem.W.keepIn K (.ref f10) = true)
  {f11 : Addr} {od11 an11 : Option Addr} {sl11 : Array (Option Value)} {oc11 kV11 dc11 pm11 cd11 ct11 : Value} (a11 : PySem.W.nsIn K mainGlobals "number_of" = some (some (.ref f11)))
    (l11 : K.lookup f11 = some ⟨oc11, od11, .func (PySem.W.fnOf "number_of" "number_of" (defArgs s_number_of) (defBody s_number_of) (defScope s_number_of) .none kV11 dc11 pm11 an11 cd11 ct11), sl11⟩) (c11 : PySem.W.codeIn K cd11 "number_of" = true) (k11 : PySem.W.keepIn K (.ref f11) = true)
  {f12 : Addr} {od12 an12 : Option Addr} {sl12 : Array (Option Value)} {oc12 kV12 dc12 pm12 cd12 ct12 : Value} (a12 : PySem.W.nsIn K mainGlobals "least_more" = some (some (.ref f12)))
    (l12 : K.lookup f12 = some ⟨oc12, od12, .func (PySem.W.fnOf "least_more" "least_more" (defArgs s_least_more) (defBody s_least_more) (defScope s_least_more) .none kV12 dc12 pm12 an12 cd12 ct12), sl12⟩) (c12 : PySem.W.codeIn K cd12 "least_more" = true) (k12 : PySem.W.keepIn K (.ref f12) = true)
  {f13 : Addr} {od13 an13 : Option Addr} {sl13 : Array (Option Value)} {oc13 kV13 dc13 pm13 cd13 ct13 : Value} (a13 : PySem.W.nsIn K mainGlobals "does_prove" = some (some (.ref f13)))
    (l13 : K.lookup f13 = some ⟨oc13, od13, .func (PySem.W.fnOf "does_prove" "does_prove" (defArgs s_does_prove) (defBody s_does_prove) (defScope s_does_prove) .none kV13 dc13 pm13 an13 cd13 ct13), sl13⟩) (c13 : PySem.W.codeIn K cd13 "does_prove" = true) (k13 : PySem.W.keepIn K (.ref f13) = true)
  {f14 : Addr} {od14 an14 : Option Addr} {sl14 : Array (Option Value)} {oc14 kV14 dc14 pm14 cd14 ct14 : Value} (a14 : PySem.W.nsIn K mainGlobals "shows_least_more" = some (some (.ref f14)))
    (l14 : K.lookup f14 = some ⟨oc14, od14, .func (PySem.W.fnOf "shows_least_more" "shows_least_more" (defArgs s_shows_least_more) (defBody s_shows_least_more) (defScope s_shows_least_more) .none kV14 dc14 pm14 an14 cd14 ct14), sl14⟩) (c14 : PySem.W.codeIn K cd14 "shows_least_more" = true) (k14 : PySem.W.keepIn K (.ref f14) = true)
  {f15 : Addr} {od15 an15 : Option Addr} {sl15 : Array (Option Value)} {oc15 kV15 dc15 pm15 cd15 ct15 : Value} (a15 : PySem.W.nsIn K mainGlobals "idle" = some (some (.ref f15)))
    (l15 : K.lookup f15 = some ⟨oc15, od15, .func (PySem.W.fnOf "idle" "idle" (defArgs s_idle) (defBody s_idle) (defScope s_idle) .none kV15 dc15 pm15 an15 cd15 ct15), sl15⟩) (c15 : PySem.W.codeIn K cd15 "idle" = true) (k15 : PySem.W.keepIn K (.ref f15) = true)
  {f16 : Addr} {od16 an16 : Option Addr} {sl16 : Array (Option Value)} {oc16 kV16 dc16 pm16 cd16 ct16 : Value} (a16 : PySem.W.nsIn K mainGlobals "one_more" = some (some (.ref f16)))
    (l16 : K.lookup f16 = some ⟨oc16, od16, .func (PySem.W.fnOf "one_more" "one_more" (defArgs s_one_more) (defBody s_one_more) (defScope s_one_more) .none kV16 dc16 pm16 an16 cd16 ct16), sl16⟩) (c16 : PySem.W.codeIn K cd16 "one_more" = true) (k16 : PySem.W.keepIn K (.ref f16) = true)
  {f17 : Addr} {od17 an17 : Option Addr} {sl17 : Array (Option Value)} {oc17 kV17 dc17 pm17 cd17 ct17 : Value} (a17 : PySem.W.nsIn K mainGlobals "equal" = some (some (.ref f17)))
    (l17 : K.lookup f17 = some ⟨oc17, od17, .func (PySem.W.fnOf "equal" "equal" (defArgs s_equal) (defBody s_equal) (defScope s_equal) .none kV17 dc17 pm17 an17 cd17 ct17), sl17⟩) (c17 : PySem.W.codeIn K cd17 "equal" = true) (k17 : PySem.W.keepIn K (.ref f17) = true)
  {f18 : Addr} {od18 an18 : Option Addr} {sl18 : Array (Option Value)} {oc18 kV18 dc18 pm18 cd18 ct18 : Value} (a18 : PySem.W.nsIn K mainGlobals "_law_take" = some (some (.ref f18)))
    (l18 : K.lookup f18 = some ⟨oc18, od18, .func (PySem.W.fnOf "_law_take" "_law_take" (defArgs s__law_take) (defBody s__law_take) (defScope s__law_take) .none kV18 dc18 pm18 an18 cd18 ct18), sl18⟩) (c18 : PySem.W.codeIn K cd18 "_law_take" = true) (k18 : PySem.W.keepIn K (.ref f18) = true)
  {f19 : Addr} {od19 an19 : Option Addr} {sl19 : Array (Option Value)} {oc19 kV19 dc19 pm19 cd19 ct19 : Value} (a19 : PySem.W.nsIn K mainGlobals "_law_of" = some (some (.ref f19)))
    (l19 : K.lookup f19 = some ⟨oc19, od19, .func (PySem.W.fnOf "_law_of" "_law_of" (defArgs s__law_of) (defBody s__law_of) (defScope s__law_of) .none kV19 dc19 pm19 an19 cd19 ct19), sl19⟩) (c19 : PySem.W.codeIn K cd19 "_law_of" = true) (k19 : PySem.W.keepIn K (.ref f19) = true)
  {f20 : Addr} {od20 an20 : Option Addr} {sl20 : Array (Option Value)} {oc20 kV20 dc20 pm20 cd20 ct20 : Value} (a20 : PySem.W.nsIn K mainGlobals "_law_some" = some (some (.ref f20)))
    (l20 : K.lookup f20 = some ⟨oc20, od20, .func (PySem.W.fnOf "_law_some" "_law_some" (defArgs s__law_some) (defBody s__law_some) (defScope s__law_some) .none kV20 dc20 pm20 an20 cd20 ct20), sl20⟩) (c20 : PySem.W.codeIn K cd20 "_law_some" = true) (k20 : PySem.W.keepIn K (.ref f20) = true)
  {f21 : Addr} {od21 an21 : Option Addr} {sl21 : Array (Option Value)} {oc21 kV21 dc21 pm21 cd21 ct21 : Value} (a21 : PySem.W.nsIn K mainGlobals "_law_number" = some (some (.ref f21)))
    (l21 : K.lookup f21 = some ⟨oc21, od21, .func (PySem.W.fnOf "_law_number" "_law_number" (defArgs s__law_number) (defBody s__law_number) (defScope s__law_number) .none kV21 dc21 pm21 an21 cd21 ct21), sl21⟩) (c21 : PySem.W.codeIn K cd21 "_law_number" = true) (k21 : PySem.W.keepIn K (.ref f21) = true)
  {f22 : Addr} {od22 an22 : Option Addr} {sl22 : Array (Option Value)} {oc22 kV22 dc22 pm22 cd22 ct22 : Value} (a22 : PySem.W.nsIn K mainGlobals "_law_turned" = some (some (.ref f22)))
    (l22 : K.lookup f22 = some ⟨oc22, od22, .func (PySem.W.fnOf "_law_turned" "_law_turned" (defArgs s__law_turned) (defBody s__law_turned) (defScope s__law_turned) .none kV22 dc22 pm22 an22 cd22 ct22), sl22⟩) (c22 : PySem.W.codeIn K cd22 "_law_turned" = true) (k22 : PySem.W.keepIn K (.ref f22) = true)
  {f23 : Addr} {od23 an23 : Option Addr} {sl23 : Array (Option Value)} {oc23 kV23 dc23 pm23 cd23 ct23 : Value} (a23 : PySem.W.nsIn K mainGlobals "_law_mirrored" = some (some (.ref f23)))
    (l23 : K.lookup f23 = some ⟨oc23, od23, .func (PySem.W.fnOf "_law_mirrored" "_law_mirrored" (defArgs s__law_mirrored) (defBody s__law_mirrored) (defScope s__law_mirrored) .none kV23 dc23 pm23 an23 cd23 ct23), sl23⟩) (c23 : PySem.W.codeIn K cd23 "_law_mirrored" = true) (k23 : PySem.W.keepIn K (.ref f23) = true)
  {f24 : Addr} {od24 an24 : Option Addr} {sl24 : Array (Option Value)} {oc24 kV24 dc24 pm24 cd24 ct24 : Value} (a24 : PySem.W.nsIn K mainGlobals "_law_is_twice_right" = some (some (.ref f24)))
    (l24 : K.lookup f24 = some ⟨oc24, od24, .func (PySem.W.fnOf "_law_is_twice_right" "_law_is_twice_right" (defArgs s__law_is_twice_right) (defBody s__law_is_twice_right) (defScope s__law_is_twice_right) .none kV24 dc24 pm24 an24 cd24 ct24), sl24⟩) (c24 : PySem.W.codeIn K cd24 "_law_is_twice_right" = true) (k24 : PySem.W.keepIn K (.ref f24) = true)
  {f25 : Addr} {od25 an25 : Option Addr} {sl25 : Array (Option Value)} {oc25 kV25 dc25 pm25 cd25 ct25 : Value} (a25 : PySem.W.nsIn K mainGlobals "_law_is_turned_right" = some (some (.ref f25)))
    (l25 : K.lookup f25 = some ⟨oc25, od25, .func (PySem.W.fnOf "_law_is_turned_right" "_law_is_turned_right" (defArgs s__law_is_turned_right) (defBody s__law_is_turned_right) (defScope s__law_is_turned_right) .none kV25 dc25 pm25 an25 cd25 ct25), sl25⟩) (c25 : PySem.W.codeIn K cd25 "_law_is_turned_right" = true) (k25 : PySem.W.keepIn K (.ref f25) = true)
  {f26 : Addr} {od26 an26 : Option Addr} {sl26 : Array (Option Value)} {oc26 kV26 dc26 pm26 cd26 ct26 : Value} (a26 : PySem.W.nsIn K mainGlobals "_law_is_mirrored_right" = some (some (.ref f26)))
    (l26 : K.lookup f26 = some ⟨oc26, od26, .func (PySem.W.fnOf "_law_is_mirrored_right" "_law_is_mirrored_right" (defArgs s__law_is_mirrored_right) (defBody s__law_is_mirrored_right) (defScope s__law_is_mirrored_right) .none kV26 dc26 pm26 an26 cd26 ct26), sl26⟩) (c26 : PySem.W.codeIn K cd26 "_law_is_mirrored_right" = true) (k26 : PySem.W.keepIn K (.ref f26) = true)
  {f27 : Addr} {od27 an27 : Option Addr} {sl27 : Array (Option Value)} {oc27 kV27 dc27 pm27 cd27 ct27 : Value} (a27 : PySem.W.nsIn K mainGlobals "_law_is_equal_right" = some (some (.ref f27)))
    (l27 : K.lookup f27 = some ⟨oc27, od27, .func (PySem.W.fnOf "_law_is_equal_right" "_law_is_equal_right" (defArgs s__law_is_equal_right) (defBody s__law_is_equal_right) (defScope s__law_is_equal_right) .none kV27 dc27 pm27 an27 cd27 ct27), sl27⟩) (c27 : PySem.W.codeIn K cd27 "_law_is_equal_right" = true) (k27 : PySem.W.keepIn K (.ref f27) = true)
  {f28 : Addr} {od28 an28 : Option Addr} {sl28 : Array (Option Value)} {oc28 kV28 dc28 pm28 cd28 ct28 : Value} (a28 : PySem.W.nsIn K mainGlobals "_law_pot" = some (some (.ref f28)))
    (l28 : K.lookup f28 = some ⟨oc28, od28, .func (PySem.W.fnOf "_law_pot" "_law_pot" (defArgs s__law_pot) (defBody s__law_pot) (defScope s__law_pot) .none kV28 dc28 pm28 an28 cd28 ct28), sl28⟩) (c28 : PySem.W.codeIn K cd28 "_law_pot" = true) (k28 : PySem.W.keepIn K (.ref f28) = true)
  {f29 : Addr} {od29 an29 : Option Addr} {sl29 : Array (Option Value)} {oc29 kV29 dc29 pm29 cd29 ct29 : Value} (a29 : PySem.W.nsIn K mainGlobals "law" = some (some (.ref f29)))
    (l29 : K.lookup f29 = some ⟨oc29, od29, .func (PySem.W.fnOf "law" "law" (defArgs s_law) (defBody s_law) (defScope s_law) .none kV29 dc29 pm29 an29 cd29 ct29), sl29⟩) (c29 : PySem.W.codeIn K cd29 "law" = true) (k29 : PySem.W.keepIn K (.ref f29) = true)
  (z_abs : PySem.W.nsIn K mainGlobals "abs" = some none)
  (z_all : PySem.W.nsIn K mainGlobals "all" = some none)
  (z_bool : PySem.W.nsIn K mainGlobals "bool" = some none)
  (z_enumerate : PySem.W.nsIn K mainGlobals "enumerate" = some none)
  (z_int : PySem.W.nsIn K mainGlobals "int" = some none)
  (z_isinstance : PySem.W.nsIn K mainGlobals "isinstance" = some none)
  (z_len : PySem.W.nsIn K mainGlobals "len" = some none)
  (z_list : PySem.W.nsIn K mainGlobals "list" = some none)
  (z_max : PySem.W.nsIn K mainGlobals "max" = some none)
  (z_min : PySem.W.nsIn K mainGlobals "min" = some none)
  (z_range : PySem.W.nsIn K mainGlobals "range" = some none)
  (z_repr : PySem.W.nsIn K mainGlobals "repr" = some none)
  (z_sorted : PySem.W.nsIn K mainGlobals "sorted" = some none)
  (z_str : PySem.W.nsIn K mainGlobals "str" = some none)
  (z_tuple : PySem.W.nsIn K mainGlobals "tuple" = some none)
  (z_zip : PySem.W.nsIn K mainGlobals "zip" = some none)
  {t_LAST_LENGTH : Tok} (g_LAST_LENGTH : PySem.W.nsIn K mainGlobals "LAST_LENGTH" = some (some (.int 9999 t_LAST_LENGTH)))
  {t_LAST_TICK : Tok} (g_LAST_TICK : PySem.W.nsIn K mainGlobals "LAST_TICK" = some (some (.int 9999 t_LAST_TICK)))
  {t_MORE : Tok} (g_MORE : PySem.W.nsIn K mainGlobals "MORE" = some (some (.str ("more" : Str) t_MORE)))
  {t_MOST_BOUND : Tok} (g_MOST_BOUND : PySem.W.nsIn K mainGlobals "MOST_BOUND" = some (some (.int 999 t_MOST_BOUND)))
  {t_MOST_PERIOD : Tok} (g_MOST_PERIOD : PySem.W.nsIn K mainGlobals "MOST_PERIOD" = some (some (.int 168 t_MOST_PERIOD)))
  {t_NEVER : Tok} (g_NEVER : PySem.W.nsIn K mainGlobals "NEVER" = some (some (.str ("never" : Str) t_NEVER)))
  : ∃ fd : FuncData, (∀ (s : Shared) (v : Value), BindsTo s fd ⟨[v], []⟩ [("script", v)]) ∧ ∀ base : Heap, K.In base → base.Ns mainGlobals mg → FnG l.prog w K mg base 7 fa fd ["script"] (spLaw K) := by
  have e := hfa.symm.trans (PySem.W.mg_of X G a29)
  cases e
  have F_is_integer := fun_mk (st := s_is_integer) l0 c0 k0
  have F_is_between := fun_mk (st := s_is_between) l1 c1 k1
  have F_is_ascending := fun_mk (st := s_is_ascending) l2 c2 k2
  have F_is_round := fun_mk (st := s_is_round) l3 c3 k3
  have F_check_round := fun_mk (st := s_check_round) l4 c4 k4
  have F_seen := fun_mk (st := s_seen) l5 c5 k5
  have F_proof := fun_mk (st := s_proof) l6 c6 k6
  have F_proved := fun_mk (st := s_proved) l7 c7 k7
  have F_gaps := fun_mk (st := s_gaps) l8 c8 k8
  have F_is_never := fun_mk (st := s_is_never) l9 c9 k9
  have F_needs := fun_mk (st := s_needs) l10 c10 k10
  have F_number_of := fun_mk (st := s_number_of) l11 c11 k11
  have F_least_more := fun_mk (st := s_least_more) l12 c12 k12
  have F_does_prove := fun_mk (st := s_does_prove) l13 c13 k13
  have F_shows_least_more := fun_mk (st := s_shows_least_more) l14 c14 k14
  have F_idle := fun_mk (st := s_idle) l15 c15 k15
  have F_one_more := fun_mk (st := s_one_more) l16 c16 k16
  have F_equal := fun_mk (st := s_equal) l17 c17 k17
  have F__law_take := fun_mk (st := s__law_take) l18 c18 k18
  have F__law_of := fun_mk (st := s__law_of) l19 c19 k19
  have F__law_some := fun_mk (st := s__law_some) l20 c20 k20
  have F__law_number := fun_mk (st := s__law_number) l21 c21 k21
  have F__law_turned := fun_mk (st := s__law_turned) l22 c22 k22
  have F__law_mirrored := fun_mk (st := s__law_mirrored) l23 c23 k23
  have F__law_is_twice_right := fun_mk (st := s__law_is_twice_right) l24 c24 k24
  have F__law_is_turned_right := fun_mk (st := s__law_is_turned_right) l25 c25 k25
  have F__law_is_mirrored_right := fun_mk (st := s__law_is_mirrored_right) l26 c26 k26
  have F__law_is_equal_right := fun_mk (st := s__law_is_equal_right) l27 c27 k27
  have F__law_pot := fun_mk (st := s__law_pot) l28 c28 k28
  have F_law := fun_mk (st := s_law) l29 c29 k29
  have GL : Glo mg := ⟨PySem.W.mg_none_of X G z_abs, PySem.W.mg_none_of X G z_all, PySem.W.mg_none_of X G z_bool, PySem.W.mg_none_of X G z_enumerate, PySem.W.mg_none_of X G z_int, PySem.W.mg_none_of X G z_isinstance, PySem.W.mg_none_of X G z_len, PySem.W.mg_none_of X G z_list, PySem.W.mg_none_of X G z_max, PySem.W.mg_none_of X G z_min, PySem.W.mg_none_of X G z_range, PySem.W.mg_none_of X G z_repr, PySem.W.mg_none_of X G z_sorted, PySem.W.mg_none_of X G z_str, PySem.W.mg_none_of X G z_tuple, PySem.W.mg_none_of X G z_zip, ⟨_, PySem.W.mg_of X G g_LAST_LENGTH⟩, ⟨_, PySem.W.mg_of X G g_LAST_TICK⟩, ⟨_, PySem.W.mg_of X G g_MORE⟩, ⟨_, PySem.W.mg_of X G g_MOST_BOUND⟩, ⟨_, PySem.W.mg_of X G g_MOST_PERIOD⟩, ⟨_, PySem.W.mg_of X G g_NEVER⟩⟩
  refine ⟨PySem.W.fnOf "law" "law" (defArgs s_law) (defBody s_law) (defScope s_law) .none kV29 dc29 pm29 an29 cd29 ct29, fun s v => .of_eq rfl, fun base hX hG => ?_⟩
  have C_is_integer : CalG l.prog w K mg base 1 "is_integer" ["value"] (spP 1 m_is_integer) := ok_is_integer F_is_integer (PySem.W.mg_of X G a0) GL 
  have C_is_between : CalG l.prog w K mg base 2 "is_between" ["value", "low", "high"] (spP 3 m_is_between) := ok_is_between F_is_between (PySem.W.mg_of X G a1) GL C_is_integer
  have C_is_ascending : CalG l.prog w K mg base 1 "is_ascending" ["items"] (spP 1 m_is_ascending) := ok_is_ascending F_is_ascending (PySem.W.mg_of X G a2) GL 
  have C_is_round : CalG l.prog w K mg base 3 "is_round" ["value"] (spP 1 m_is_round) := ok_is_round F_is_round (PySem.W.mg_of X G a3) GL C_is_ascending C_is_between
  have C_check_round : CalG l.prog w K mg base 4 "check_round" ["value", "bound"] (spP 2 m_check_round) := ok_check_round F_check_round (PySem.W.mg_of X G a4) GL C_is_between C_is_round
  have C_seen : CalG l.prog w K mg base 1 "seen" ["told", "begin", "end"] (spP 3 m_seen) := ok_seen F_seen (PySem.W.mg_of X G a5) GL 
  have C_proof : CalG l.prog w K mg base 1 "proof" ["ticks", "bound"] (spP 2 m_proof) := ok_proof F_proof (PySem.W.mg_of X G a6) GL 
  have C_proved : CalG l.prog w K mg base 5 "proved" ["tour", "bound", "begin", "length"] (spP 4 m_proved) := ok_proved F_proved (PySem.W.mg_of X G a7) GL C_check_round C_is_between C_proof C_seen
  have C_gaps : CalG l.prog w K mg base 1 "gaps" ["told"] (spP 1 m_gaps) := ok_gaps F_gaps (PySem.W.mg_of X G a8) GL 
  have C_is_never : CalG l.prog w K mg base 2 "is_never" ["told", "bound"] (spP 2 m_is_never) := ok_is_never F_is_never (PySem.W.mg_of X G a9) GL C_gaps C_proof C_seen
  have C_needs : CalG l.prog w K mg base 2 "needs" ["told", "bound", "begin"] (spP 3 m_needs) := ok_needs F_needs (PySem.W.mg_of X G a10) GL C_proof C_seen
  have C_number_of : CalG l.prog w K mg base 3 "number_of" ["told", "bound"] (spP 2 m_number_of) := ok_number_of F_number_of (PySem.W.mg_of X G a11) GL C_is_never C_needs
  have C_least_more : CalG l.prog w K mg base 5 "least_more" ["tour", "bound"] (spP 2 m_least_more) := ok_least_more F_least_more (PySem.W.mg_of X G a12) GL C_check_round C_gaps C_is_never C_needs
  have C_does_prove : CalG l.prog w K mg base 2 "does_prove" ["told", "bound", "begin", "length", "value"] (spP 5 m_does_prove) := ok_does_prove F_does_prove (PySem.W.mg_of X G a13) GL C_is_integer C_seen
  have C_shows_least_more : CalG l.prog w K mg base 5 "shows_least_more" ["tour", "bound", "value"] (spP 3 m_shows_least_more) := ok_shows_least_more F_shows_least_more (PySem.W.mg_of X G a14) GL C_check_round C_does_prove C_gaps C_is_between C_is_integer C_is_never C_proof C_seen
  have C_idle : CalG l.prog w K mg base 5 "idle" ["tour", "bound"] (spP 2 m_idle) := ok_idle F_idle (PySem.W.mg_of X G a15) GL C_check_round C_number_of
  have C_one_more : CalG l.prog w K mg base 5 "one_more" ["tour", "bound"] (spP 2 m_one_more) := ok_one_more F_one_more (PySem.W.mg_of X G a16) GL C_check_round C_number_of
  have C_equal : CalG l.prog w K mg base 3 "equal" ["period", "gap"] (spP 2 m_equal) := ok_equal F_equal (PySem.W.mg_of X G a17) GL C_is_between
  have C__law_take : CalG l.prog w K mg base 1 "_law_take" ["pot", "upto"] (spQ 2 m__law_take) := ok__law_take F__law_take (PySem.W.mg_of X G a18) GL 
  have C__law_of : CalG l.prog w K mg base 2 "_law_of" ["pot", "some"] (spQ 2 m__law_of) := ok__law_of F__law_of (PySem.W.mg_of X G a19) GL C__law_take
  have C__law_some : CalG l.prog w K mg base 2 "_law_some" ["pot", "some", "many"] (spQ 3 m__law_some) := ok__law_some F__law_some (PySem.W.mg_of X G a20) GL C__law_take
  have C__law_number : CalG l.prog w K mg base 1 "_law_number" ["told"] (spP 1 m__law_number) := ok__law_number F__law_number (PySem.W.mg_of X G a21) GL 
  have C__law_turned : CalG l.prog w K mg base 1 "_law_turned" ["walk", "more"] (spP 2 m__law_turned) := ok__law_turned F__law_turned (PySem.W.mg_of X G a22) GL 
  have C__law_mirrored : CalG l.prog w K mg base 1 "_law_mirrored" ["walk"] (spP 1 m__law_mirrored) := ok__law_mirrored F__law_mirrored (PySem.W.mg_of X G a23) GL 
  have C__law_is_twice_right : CalG l.prog w K mg base 6 "_law_is_twice_right" ["walk", "bound"] (spP 2 m__law_is_twice_right) := ok__law_is_twice_right F__law_is_twice_right (PySem.W.mg_of X G a24) GL C__law_number C_least_more C_shows_least_more
  have C__law_is_turned_right : CalG l.prog w K mg base 6 "_law_is_turned_right" ["pot", "walk", "bound"] (spQ 3 m__law_is_turned_right) := ok__law_is_turned_right F__law_is_turned_right (PySem.W.mg_of X G a25) GL C__law_number C__law_some C__law_take C__law_turned C_idle C_least_more C_one_more C_proved
  have C__law_is_mirrored_right : CalG l.prog w K mg base 6 "_law_is_mirrored_right" ["pot", "walk", "bound"] (spQ 3 m__law_is_mirrored_right) := ok__law_is_mirrored_right F__law_is_mirrored_right (PySem.W.mg_of X G a26) GL C__law_mirrored C__law_number C__law_take C_idle C_least_more C_one_more C_proved
  have C__law_is_equal_right : CalG l.prog w K mg base 6 "_law_is_equal_right" ["pot"] (spQ 1 m__law_is_equal_right) := ok__law_is_equal_right F__law_is_equal_right (PySem.W.mg_of X G a27) GL C__law_number C__law_take C_equal C_idle C_least_more C_proved
  have C__law_pot : CalG l.prog w K mg base 1 "_law_pot" ["script"] (spScr K m__law_pot) := ok__law_pot F__law_pot (PySem.W.mg_of X G a28) GL 
  exact ok_law pl F_law GL C__law_pot C__law_is_equal_right C__law_is_mirrored_right C__law_is_turned_right C__law_is_twice_right C__law_of C__law_some C__law_take
end
end K42

open PySem PySem.W PyProof.Rows
set_option maxHeartbeats 0 in
theorem PySem.Challenge.cw_kerbtruth_k42_whole_rounds_told_otherwis_holds : PySem.Challenge.rw_kerbtruth_k42_whole_rounds_told_otherwis.Holds := by
  w_on; o_law; k_head; (case hw => w_witness2)
  k_fill
  refine L3.walk_ofG (l := PySem.Challenge.rw_kerbtruth_k42_whole_rounds_told_otherwis) (n := 63) (k := 7) (x := "script") (sp := fun w => L3.spLaw _) rfl (by decide) rfl ⟨rfl, by decide, by decide⟩ (fun w h Y => PySem.W.kIn_of Y) ?F (fun _ _ a ns hl hS => ⟨a, ns, rfl, hS, hl, fun _ => rfl⟩)
  case F =>
    intro w mg fa h KX G hmg
    refine' K42.all_mk K42.plain KX G hmg ?a0 ?l0 ?c0 ?k0 ?a1 ?l1 ?c1 ?k1 ?a2 ?l2 ?c2 ?k2 ?a3 ?l3 ?c3 ?k3 ?a4 ?l4 ?c4 ?k4 ?a5 ?l5 ?c5 ?k5 ?a6 ?l6 ?c6 ?k6 ?a7 ?l7 ?c7 ?k7 ?a8 ?l8 ?c8 ?k8 ?a9 ?l9 ?c9 ?k9 ?a10 ?l10 ?c10 ?k10 ?a11 ?l11 ?c11 ?k11 ?a12 ?l12 ?c12 ?k12 ?a13 ?l13 ?c13 ?k13 ?a14 ?l14 ?c14 ?k14 ?a15 ?l15 ?c15 ?k15 ?a16 ?l16 ?c16 ?k16 ?a17 ?l17 ?c17 ?k17 ?a18 ?l18 ?c18 ?k18 ?a19 ?l19 ?c19 ?k19 ?a20 ?l20 ?c20 ?k20 ?a21 ?l21 ?c21 ?k21 ?a22 ?l22 ?c22 ?k22 ?a23 ?l23 ?c23 ?k23 ?a24 ?l24 ?c24 ?k24 ?a25 ?l25 ?c25 ?k25 ?a26 ?l26 ?c26 ?k26 ?a27 ?l27 ?c27 ?k27 ?a28 ?l28 ?c28 ?k28 ?a29 ?l29 ?c29 ?k29 ?z_abs ?z_all ?z_bool ?z_enumerate ?z_int ?z_isinstance ?z_len ?z_list ?z_max ?z_min ?z_range ?z_repr ?z_sorted ?z_str ?z_tuple ?z_zip ?g_LAST_LENGTH ?g_LAST_TICK ?g_MORE ?g_MOST_BOUND ?g_MOST_PERIOD ?g_NEVER
    (case a0 => k_is); (case l0 => k_is); (case c0 => k_is); (case k0 => k_is); (case a1 => k_is); (case l1 => k_is); (case c1 => k_is); (case k1 => k_is); (case a2 => k_is); (case l2 => k_is); (case c2 => k_is); (case k2 => k_is); (case a3 => k_is); (case l3 => k_is); (case c3 => k_is); (case k3 => k_is); (case a4 => k_is); (case l4 => k_is); (case c4 => k_is); (case k4 => k_is); (case a5 => k_is); (case l5 => k_is); (case c5 => k_is); (case k5 => k_is); (case a6 => k_is); (case l6 => k_is); (case c6 => k_is); (case k6 => k_is); (case a7 => k_is); (case l7 => k_is); (case c7 => k_is); (case k7 => k_is); (case a8 => k_is); (case l8 => k_is); (case c8 => k_is); (case k8 => k_is); (case a9 => k_is); (case l9 => k_is); (case c9 => k_is); (case k9 => k_is); (case a10 => k_is); (case l10 => k_is); (case c10 => k_is); (case k10 => k_is); (case a11 => k_is); (case l11 => k_is); (case c11 => k_is); (case k11 => k_is); (case a12 => k_is); (case l12 => k_is); (case c12 => k_is); (case k12 => k_is); (case a13 => k_is); (case l13 => k_is); (case c13 => k_is); (case k13 => k_is); (case a14 => k_is); (case l14 => k_is); (case c14 => k_is); (case k14 => k_is); (case a15 => k_is); (case l15 => k_is); (case c15 => k_is); (case k15 => k_is); (case a16 => k_is); (case l16 => k_is); (case c16 => k_is); (case k16 => k_is); (case a17 => k_is); (case l17 => k_is); (case c17 => k_is); (case k17 => k_is); (case a18 => k_is); (case l18 => k_is); (case c18 => k_is); (case k18 => k_is); (case a19 => k_is); (case l19 => k_is); (case c19 => k_is); (case k19 => k_is); (case a20 => k_is); (case l20 => k_is); (case c20 => k_is); (case k20 => k_is); (case a21 => k_is); (case l21 => k_is); (case c21 => k_is); (case k21 => k_is); (case a22 => k_is); (case l22 => k_is); (case c22 => k_is); (case k22 => k_is); (case a23 => k_is); (case l23 => k_is); (case c23 => k_is); (case k23 => k_is); (case a24 => k_is); (case l24 => k_is); (case c24 => k_is); (case k24 => k_is); (case a25 => k_is); (case l25 => k_is); (case c25 => k_is); (case k25 => k_is); (case a26 => k_is); (case l26 => k_is); (case c26 => k_is); (case k26 => k_is); (case a27 => k_is); (case l27 => k_is); (case c27 => k_is); (case k27 => k_is); (case a28 => k_is); (case l28 => k_is); (case c28 => k_is); (case k28 => k_is); (case a29 => k_is); (case l29 => k_is); (case c29 => k_is); (case k29 => k_is); (case z_abs => k_is); (case z_all => k_is); (case z_bool => k_is); (case z_enumerate => k_is); (case z_int => k_is); (case z_isinstance => k_is); (case z_len => k_is); (case z_list => k_is); (case z_max => k_is); (case z_min => k_is); (case z_range => k_is); (case z_repr => k_is); (case z_sorted => k_is); (case z_str => k_is); (case z_tuple => k_is); (case z_zip => k_is); (case g_LAST_LENGTH => k_is); (case g_LAST_TICK => k_is); (case g_MORE => k_is); (case g_MOST_BOUND => k_is); (case g_MOST_PERIOD => k_is); (case g_NEVER => k_is)
